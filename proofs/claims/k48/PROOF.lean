import PyProof.Rows.All
import Wide.All
import OpenK.AllK
import Wide.FinOn
import KE.KExcLine
import HandS.ForMost
import HandS.ForExc
import HandS.Walk
import HandS.Exc
import HandS.ExcOwn
import HandS.ExcInit
import HandS.TryMany
import HandS.ExcField
import HandS.Lambda
import HandS.TupAny
import HandS.TupMul
import HandS.Wide
import HandS.WideBits
import HandS.Deep
import HandS.IsInst
import HandS.Style
import HandS.Star
import HandS.Zip
import HandS.Gcd
import HandS.Defaults
import KE.GoesMore
import KE.GoesEnum
import HandS.HeadHook4
import HandS.Head3
import HandS.HeadEnd
import HandS.HeadWalk
import KE.KMathG
import KE.KMathGC
import HandS.FStr
import HandS.Text
import HandS.Iter
import PyProof.ReprRoads
import HandS.EndTab
import PyProof.StrOps2
import KE.DatumOrd
import PySem.Challenge.RW_thirdcounts_k48_whole_faults_of_tuples
set_option Elab.async false
set_option linter.all false
set_option maxRecDepth 100000
set_option maxHeartbeats 4000000
/-! Own exception classes whose __init__ is: super().__init__('..'); self.f = given. -/
namespace MX
open PySem PySem.Spec PyProof.Rows L2 PySem.W PySem.Calls
open Builtin.ObjectAttr

structure SupB (B newId initId : String) (bmB : List Value) : Prop where
  base : ExcBaseFacts B newId initId bmB
  store : StoreFacts B bmB "object.__setattr__" "object"
  kxs : KxsFacts B initId
theorem sup_IndexError : SupB "IndexError" "IndexError.__new__" "IndexError.__init__" [.type "IndexError", .type "LookupError", .type "Exception", .type "BaseException", .type "object"] := ⟨PySem.F.excBase_IndexError, PySem.F.store_IndexError, kxs_IndexError⟩
theorem sup_ValueError : SupB "ValueError" "ValueError.__new__" "ValueError.__init__" [.type "ValueError", .type "Exception", .type "BaseException", .type "object"] := ⟨PySem.F.excBase_ValueError, PySem.F.store_ValueError, kxs_ValueError⟩
theorem sup_ArithmeticError : SupB "ArithmeticError" "ArithmeticError.__new__" "ArithmeticError.__init__" [.type "ArithmeticError", .type "Exception", .type "BaseException", .type "object"] := ⟨PySem.F.excBase_ArithmeticError, PySem.F.store_ArithmeticError, kxs_ArithmeticError⟩
theorem sup_OverflowError : SupB "OverflowError" "OverflowError.__new__" "OverflowError.__init__" [.type "OverflowError", .type "ArithmeticError", .type "Exception", .type "BaseException", .type "object"] := ⟨PySem.F.excBase_OverflowError, PySem.F.store_OverflowError, kxs_OverflowError⟩
theorem sup_RuntimeError : SupB "RuntimeError" "RuntimeError.__new__" "RuntimeError.__init__" [.type "RuntimeError", .type "Exception", .type "BaseException", .type "object"] := ⟨PySem.F.excBase_RuntimeError, PySem.F.store_RuntimeError, kxs_RuntimeError⟩

/-- what the written part says of the class at C, its __init__ at fI and the cell of __class__ at cc -/
structure SupK (P : Program) (K : Frag) (B newId initId : String) (bmB : List Value) (C fI cc cda : Addr) (f slf giv txt : Str) : Prop where
  iC : findIn K (.ref C) "__init__" = some (some (.ref fI))
  isF : isFn K (.ref fI) = true
  q : excInitIn K C bmB newId = true
  over : excOver K C bmB = true
  taker : takerIn K C f = some none
  hasD : hasDictIn K C = true
  sa : findIn K (.ref C) "__setattr__" = some (some (.builtin "object.__setattr__"))
  sup : ks_superIn K C C "__init__" = some (some (.builtin initId))
  subB : subIn K (.ref C) (.type B) = some true
  exC : subIn K (.ref C) (.type "BaseException") = some true
  tyC : typeIn K (.ref C) = some (.type "type")
  kC : keepIn K (.ref C) = true
  opq : nsIn K cStatics "thirdparty.any" = some none
  mro : mroIn K C (.ref C) = some true
  cls : ∃ cd, clsIn K C = some cd
  cell : ∃ cl cld csl, K.lookup cc = some ⟨cl, cld, .cell (some (.ref C)), csl⟩
  code : ∃ ccl cdd vs ccs file tf, K.lookup cda = some ⟨ccl, cdd, .fields vs, ccs⟩ ∧ vs[2]? = some (.str file tf) ∧ ((P.main.file : Str) == file) = true
  top : (P.main.scope.names.lookup ("super" : Str)).isSome = false
  gS : nsIn K mainGlobals "super" = some none
  fn : ∃ oc od osl qual params scope dV kV doc pm an ct j p0 p1 p2 p3 p4 p5 p6 p7 p8 p9, K.lookup fI = some ⟨oc, od, .func (ksFn "__init__" qual params
      [.Expr (.Call (.Attribute (.Call (.Name "super" p0) [] [] p1) "__init__" p2) [.Constant (.str txt) j p3] [] p4) p5, .Assign [.Attribute (.Name slf p6) f p7] (.Name giv p8) p9] scope dV kV doc pm an (.ref cda) ct cc), osl⟩ ∧
    codeIn K (.ref cda) qual = true ∧ (∀ x ∈ scope.names, x.2 ≠ .cell) ∧ scope.isCoroutine = false ∧ scope.isGenerator = false ∧ scope.kind = .function ∧
    scope.names.lookup ("super" : Str) = some .globalImplicit ∧ scope.names.lookup ("__class__" : Str) = some .free ∧ scope.names.lookup slf = some .local ∧ scope.names.lookup giv = some .local ∧
    (∃ ar, (params.posonlyargs ++ params.args).head? = some ar ∧ ar.arg = slf) ∧
    (∃ pl : Sem Bool, ∀ env : Env, eval (.Call (.Attribute (.Call (.Name "super" p0) [] [] p1) "__init__" p2) [.Constant (.str txt) j p3] [] p4) env = (do
      let ov ← attributeBase (.Call (.Name "super" p0) [] [] p1) "__init__" env (eval (.Call (.Name "super" p0) [] [] p1) env)
      standAt p2.atName
      let (f, first) ← holding [ov] (getMethod ov "__init__" pl)
      callWith p4 f first (backTo p4 (starEach [.Constant (.str txt) j p3] env)) [])) ∧
    (∀ a b : Value, bindArgs (ksFn "__init__" qual params
      [.Expr (.Call (.Attribute (.Call (.Name "super" p0) [] [] p1) "__init__" p2) [.Constant (.str txt) j p3] [] p4) p5, .Assign [.Attribute (.Name slf p6) f p7] (.Name giv p8) p9] scope dV kV doc pm an (.ref cda) ct cc) ⟨[a, b], []⟩ = pure [(slf, a), (giv, b)])
  ne : slf ≠ giv
  dS : (slf == ("__debug__" : Str)) = false
  dG : (giv == ("__debug__" : Str)) = false

section
variable {prog : Program} {w : World} {A : Around} {E : Value → Shared → Prop} {h : Heap} {g : Array GenState} {d : Drawn} {t : Nat} {os : OsState} {B newId initId : String} {bmB : List Value} {K : Frag} {C : Addr}

/-- the bound built-in __init__, called -/
theorem sup_call {u x t0 : Addr} {rest : List Value} {Q : Value → Shared → Prop} (SB : SupB B newId initId bmB) (X : K.In h) (q : excInitIn K C bmB newId = true) (he : h.get? x = some (excObj C t0 none .none)) (hu : h.get? u = some (kxs_mw initId x)) (hrest : rest.length ≤ sizeLine)
    (hq : ∀ h' t1, (∀ b o, b ≠ x → h.get? b = some o → h'.get? b = some o) → h'.get? x = some (excObj C t1 none .none) → Q .none ⟨h', g, d, t, os⟩) :
    wpAny (model prog w) A (call (.ref u) rest) Q E ⟨h, g, d, t, os⟩ := by
  obtain ⟨nm, N', qn, bs, bm, hdct, sn, sub, ab, col, dd, k0, k1, k2, k3, k5, hC, hT⟩ := excInit_of X q
  refine wpAny_call (codeAny_of_tree ?_)
  show wpAny _ A.in1 (callAny (.ref u) ⟨rest, []⟩) _ _ _
  simp only [callAny]
  refine wpAny_bind (wpAny_load hu ?_)
  simp only [kxs_mw, show (Value.type "method-wrapper" == Value.type "method" || Value.type "method-wrapper" == Value.type "builtin_function_or_method" || Value.type "method-wrapper" == Value.type "method-wrapper") = true by decide, if_true]
  refine KFB.if_so (by decide) ?_
  refine wpAny_bind (check_bound_init SB.base.toExcCallFacts hC he rfl ?_)
  refine wpAny_bind (wpAny_pure (wpAny_pure ?_))
  refine ⟨plainId_quiet SB.base.init.plain _, codeAny_builtin SB.base.initEntry ?_⟩
  exact exc_init_tree (cls := .ref C) (t0 := t0) (dv := none) (c2 := .none) (c3 := .none) (b4 := .bool false) he hrest fun h' k e' _ => hq h' _ k e'

/-- self.f = v, the object has no dict yet -/
theorem sup_set {x t0 : Addr} {f : Str} {v : Value} {Q : Unit → Shared → Prop} (SB : SupB B newId initId bmB) (X : K.In h) (hx : h.get? x = some (excObj C t0 none .none)) (hs : findIn K (.ref C) "__setattr__" = some (some (.builtin "object.__setattr__")))
    (hp : excOver K C bmB = true) (ht : takerIn K C f = some none) (hh : hasDictIn K C = true)
    (hq : ∀ h' tk', (∀ b o, b ≠ x → h.get? b = some o → h'.get? b = some o) → h'.get? x = some (excObj C t0 (some h.objs.size) .none) → h'.Ns1 h.objs.size (fun y => if y = f then some v else none) → Q () ⟨h', g, d, tk', os⟩) :
    wpAny (model prog w) A (setAttr (.ref x) f v) Q E ⟨h, g, d, t, os⟩ := by
  have hxs : x ≠ h.objs.size := Nat.ne_of_lt (Heap.lt_size hx)
  refine set_plain (od := none) X ⟨hx, rfl, rfl, trivial⟩ hs ?_
  refine osa_openX (s := ⟨h, g, d, t + 1, os⟩) (od := none) SB.store X ⟨hx, rfl, rfl, trivial⟩ hp ht fun b => ?_
  obtain ⟨cd, hc, hd'⟩ := any_some hh
  refine wpAny_bind (wpAny_pure (wpAny_bind (instanceDict_exc hx (looks_clsIn X hc) hd' ?_)))
  show wpAny _ _ (storeInDict h.objs.size (.str f t) f v) _ _ _
  refine HandSPX.store_in_new ?_ ?_
  · exact ⟨_, #[], _, (Heap.get?_update_ne _ _ _ _ hxs.symm).trans (Heap.get?_push_at rfl rfl), rfl, fun e he => absurd he (by simp), fun _ => rfl⟩
  · intro h' tk' hn' hs'
    have hx₁ : (h.push (dictOf [] 0)).get? x = some (excObj C t0 none .none) := Heap.get?_push_of_some _ hx
    refine hq h' tk' (fun b o hb ho => ?_) ?_ hn'
    · exact (hs'.2 b (Nat.ne_of_lt (Heap.lt_size ho))).trans ((Heap.get?_update_ne _ _ _ _ hb).trans (Heap.get?_push_of_some _ ho))
    · exact (hs'.2 x hxs).trans (Heap.get?_update_self _ hx₁ rfl)
end

section
variable {prog : Program} {w : World} {A : Around} {g : Array GenState} {d : Drawn} {os : OsState} {B newId initId : String} {bmB : List Value} {K : Frag} {C fI cc cda : Addr} {f slf giv txt : Str} {mg mb : Str → Option Value}
theorem sup_run (SB : SupB B newId initId bmB) (S : SupK prog K B newId initId bmB C fI cc cda f slf giv txt) {hp : Heap} {tk : Nat} {x t0 : Addr} {u : Value} {R : Result → Shared → Prop} (X : K.In hp) (xK : K.lookup x = none) (NL : hp.NoLimit) (G : hp.Ns mainGlobals mg) (Bl : hp.Ns builtinsNs mb)
    (hbS : mb "super" = some (.type "super")) (hx : hp.get? x = some (excObj C t0 none .none)) (hroom : A.depth < recursionLimit)
    (hq : ∀ h' t1 tk' dx, (∀ b o, b ≠ x → hp.get? b = some o → h'.get? b = some o) → h'.get? x = some (excObj C t1 (some dx) .none) → h'.Ns1 dx (fun y => if y = f then some u else none) → hp.objs.size ≤ dx → R (.ok (.ret .none)) ⟨h', g, d, tk', os⟩) :
    codeAny (model prog w) A (.call (.ref fI) ⟨[.ref x, u], []⟩) R ⟨hp, g, d, tk, os⟩ := by
  obtain ⟨oc, od, osl, qual, params, scope, dV, kV, doc, pm, an, ct, j, p0, p1, p2, p3, p4, p5, p6, p7, p8, p9, lk, hcd, hcell, hco, hgen, hk, kSup, kCls, kSelf, kGiv, ⟨ar, hpar, har⟩, ⟨pl, hpl⟩, hbind⟩ := S.fn
  obtain ⟨cdC, hcls⟩ := S.cls
  obtain ⟨cl, cld, csl, hcc⟩ := S.cell
  obtain ⟨ccl, cdd, vs, ccs, file, tf, hcode, hvs, hfile⟩ := S.code
  have neC : x ≠ C := fun z => by
    unfold clsIn at hcls
    split at hcls
    · rename_i c dd cd' sl ho
      rw [z, ho] at xK
      cases xK
    · cases hcls
  refine ks_codeAny_call_defAt (binds := [(slf, Value.ref x), (giv, u)]) hroom (X _ _ lk) rfl NL (codeRec_of X hcd) rfl (BindsTo.of_eq (hbind _ _)) hcell (fun y hy => ?_) (fun h₀ hns kp => ?_) hco hgen hk
  · rcases List.mem_cons.mp hy with rfl | hy
    · exact kSelf
    · rcases List.mem_cons.mp hy with rfl | hy
      · exact kGiv
      · cases hy
  have mSelf : ([(slf, Value.ref x), (giv, u)].reverse.lookup slf) = some (.ref x) := by
    have e : (slf == giv) = false := by simpa using S.ne
    simp [List.lookup, e]
  have mGiv : ([(slf, Value.ref x), (giv, u)].reverse.lookup giv) = some u := by simp [List.lookup]
  obtain ⟨oD, hD1, hD2⟩ : ∃ oD, hp.get? C = some oD ∧ oD.data = .cls cdC := by
    unfold clsIn at hcls
    split at hcls
    · rename_i c dd cd' sl ho
      cases hcls
      exact ⟨_, X _ _ ho, rfl⟩
    · cases hcls
  have X0 : K.In h₀ := X.keeps kp
  have hx0 := kp _ _ hx
  have hns1 : ∃ oL es ep, h₀.get? hp.objs.size = some oL ∧ oL.data = .dict es ep ∧ StrKeys es ∧ ∀ name, nsFind es name = [(slf, Value.ref x), (giv, u)].reverse.lookup name := hns
  have xL : hp.objs.size ≠ x := Nat.ne_of_gt (Heap.lt_size hx)
  refine ks_wpAt_execs_cons (ks_wpAt_Expr_any ?_ ?_ rfl)
  rotate_left
  · show interactive _ = false
    unfold interactive
    show ((scope.kind == ScopeKind.module) && _) = false
    rw [hk]; rfl
  refine ks_wpAt_MethodCall (pl := pl) ?_ (hpl _)
  refine ks_wpAt_super_base (f := fI) (cc := cda) kSup kCls (by decide) rfl (kp _ _ (X _ _ lk)) rfl hpar rfl (kp _ _ (X _ _ hcode)) rfl hvs hfile S.top ?_
  refine ks_loadName_global hk kSup (loadGlobal_builtin (G.keeps kp) (mg_none_of X G S.gS) (Bl.keeps kp) hbS ⟨rfl, ?_⟩)
  refine wpAny_loadName_free hk kCls rfl ⟨_, kp _ _ (X _ _ hcc), rfl⟩ ?_
  rw [har]
  refine wpAny_loadName_local hk kSelf hns mSelf ?_
  refine ks_wpAny_isType_cls (kp _ _ hD1) hD2 ⟨rfl, ?_⟩
  refine ks_wpAny_call_super (kp _ _ hD1) hD2 hx0 rfl (fun c e => by cases e) (looks_mroIn X0 S.mro) (fun h1 e1 k1 => ?_)
  have X1 : K.In h1 := X0.keeps k1
  have hx1 := k1 _ _ hx0
  have hI : Looks (model prog w) h1 (isInstance (.ref x) (.type B)) true := (show InstAt h1 x (excObj C t0 none .none) C none from ⟨hx1, rfl, rfl, trivial⟩).type.andThen (looks_subIn X1 S.subB)
  have hal : alongIn K "__init__" ((cdC.mro.dropWhile (· != .ref C)).drop 1) = some (some (.builtin initId)) := by
    have z := S.sup
    unfold ks_superIn at z
    rw [hcls] at z
    exact z
  refine kxs_getMethod SB.kxs e1 (looks_opaque X1 S.opq) (l₀ := cdC.mro) (fun A Q E s k q => wpAny_bind ((looks_clsIn X1 hcls) A _ E s k (wpAny_pure q))) rfl X1 hal hI neC (by decide) ?_
  have k2 : ∀ b o, h1.get? b = some o → (h1.push (kxs_mw initId x)).get? b = some o := fun b o e => Heap.get?_push_of_some _ e
  have hu2 : (h1.push (kxs_mw initId x)).get? h1.objs.size = some (kxs_mw initId x) := Heap.get?_push_at rfl rfl
  refine kxs_callWith (i := initId) (x := x) rfl ?_
  refine evalArgs_plain ?_
  refine wpAny_items_cons (pos := p4) (e := .Constant (.str txt) j p3) (rest := []) ?_ rfl
  refine Calls.Constant_str ?_
  refine wpAny_items_nil ⟨hu2, ?_⟩
  refine sup_call SB (X1.keeps k2) S.q (k2 _ _ hx1) hu2 (by show 1 ≤ sizeLine; rw [sizeLine_eq]; omega) fun h3 t3 k3 hx3 => ?_
  have kAll : ∀ b o, b ≠ x → h₀.get? b = some o → h3.get? b = some o := fun b o hb e => k3 b o hb (k2 _ _ (k1 _ _ e))
  have X3 : K.In h3 := fun b o e => kAll b o (fun z => by rw [z, xK] at e; cases e) (X0 b o e)
  have ns3 : h3.Ns hp.objs.size fun y => ([(slf, Value.ref x), (giv, u)].reverse.lookup y) := by
    obtain ⟨oL, es, ep, eL, r⟩ := hns
    exact ⟨oL, es, ep, kAll _ _ xL eL, r⟩
  have hsz : hp.objs.size ≤ h3.objs.size := by
    obtain ⟨oL, es, ep, eL, r⟩ := ns3
    exact Nat.le_of_lt (Heap.lt_size eL)
  refine ks_wpAt_execs_cons (wpAt_of_wpAny (plainObj_wpAny_Assign_Attribute ?_ rfl))
  refine wpAny_Name (wpAny_loadName_local hk kGiv ns3 mGiv ?_) S.dG
  refine wpAny_Name (wpAny_loadName_local hk kSelf ns3 mSelf ?_) S.dS
  refine sup_set SB X3 hx3 S.sa S.over S.taker S.hasD fun h5 tk5 k5 hx5 hn5 => ?_
  refine wpAt_of_wpAny (wpAny_execs_nil ?_)
  exact hq h5 t3 tk5 _ (fun b o hb e => k5 b o hb (kAll b o hb (kp _ _ e))) hx5 hn5 hsz
end

/-- C(e): e's value, then the exception with the field f -/
def tMkS (C : Addr) (f : Str) (te : TE) : L2.St → Hp → XK → Prop := fun σ H Q => tCons te tNil σ H fun vs H1 => ∃ v, vs = [v] ∧ ∀ dx, H1 dx = none → Q (.ref C) (some dx) (upd H1 dx (.xd [(f, v)]))
section
variable {X : Cx} {B newId initId : String} {bmB : List Value} {C fI cc cda : Addr} {f slf giv txt x : Str} {e : Expr} {te : TE} {p pos : Pos} {k : Nat}
theorem super_boot : bootBuiltins "super" = some (.type "super") := by first | boot_by_name | rfl | kernel_rfl
theorem pmk_sup (SB : SupB B newId initId bmB) (S : SupK X.prog X.K B newId initId bmB C fI cc cda f slf giv txt) (hr : X.A.depth + 1 < recursionLimit) (hg : Gl X x) (hm : X.mg x = some (.ref C)) (he : PE X e te)
    (hdb : (x == ("__debug__" : Str)) = false := by decide) (hst : starEach (e :: []) X.env = (false, eval e X.env) :: starEach [] X.env := by rfl) (hpl : (backTo pos (starEach [] X.env)).any (·.1) = false := by rfl) :
    PMk X (.Call (.Name x p) [e] [] pos) (tMkS C f te) := by
  intro pins s σ H Q I h
  have ha : PA X [e] (tCons te tNil) := pa_cons he pa_nil hst
  refine wpAny_Call_Name_kw (ld_glob I hg hm ?_ hdb)
  refine PySem.W.callWith_K (h₀ := X.base) I.ok.mod.kin S.kC (thn (ha.run pos pins s σ H _ I h) fun us s1 ⟨vs, H1, I1, r1, v, ev, q1⟩ => ⟨I1.kIn, ?_⟩) hst hpl
  subst ev
  cases r1 with
  | @cons _ u _ us' ru rn =>
    cases rn
    show wpAny _ _ (call (.ref C) [u]) _ _ _
    obtain ⟨nm, N', qn, bs, bm, hdct, sn, sub, ab, col, dd, k0, k1, k2, k3, k5, hC, hT⟩ := excInit_of I1.kIn S.q
    obtain ⟨oI, hoI, hcI⟩ : ∃ oI, s1.heap.get? fI = some oI ∧ oI.cls = .type "function" := by
      obtain ⟨o, ho, hc⟩ := Option.map_eq_some_iff.mp (show (X.K.lookup fI).map (·.cls) = some (.type "function") from beq_iff_eq.mp S.isF)
      exact ⟨o, I1.kIn _ _ ho, hc⟩
    obtain ⟨mb, hmb, hboot⟩ := I1.mod.blt
    have hmb' := hmb.keeps I1.bk
    have hmg' := I1.mod.glob.keeps I1.bk
    have hlim := I1.nolimit
    have hkI := I1.kIn
    obtain ⟨hp, g, dr, tk, os⟩ := s1
    have kk : ∀ b o, hp.get? b = some o → ((hp.push (PySem.W.kdv_tup [u])).push (PySem.HandSPX.excO C hp.objs.size)).get? b = some o := fun b o e => Heap.get?_push_of_some _ (Heap.get?_push_of_some _ e)
    have hget : ((hp.push (PySem.W.kdv_tup [u])).push (PySem.HandSPX.excO C hp.objs.size)).get? (hp.objs.size + 1) = some (PySem.HandSPX.excO C hp.objs.size) := by heap_get
    have hsz2 : ((hp.push (PySem.W.kdv_tup [u])).push (PySem.HandSPX.excO C hp.objs.size)).objs.size = hp.objs.size + 2 := by rw [Heap.size_push, Heap.size_push]
    have xK : X.K.lookup (hp.objs.size + 1) = none := by
      cases z : X.K.lookup (hp.objs.size + 1) with
      | none => rfl
      | some o => exact absurd (Heap.lt_size (hkI _ _ z)) (by show ¬ hp.objs.size + 1 < hp.objs.size; omega)
    refine wpAny_call (PySem.HandSPX.call_own SB.base hT hC (looks_findIn hkI S.iC) (fun self => exc_bind hoI hcI self) (by show 1 ≤ sizeLine; rw [sizeLine_eq]; omega) ?_)
    refine sup_run (mg := X.mg) (mb := mb) SB S (hkI.keeps kk) xK (hlim.keeps kk) (hmg'.keeps kk) (hmb'.keeps kk) ((hboot _ (by decide +kernel)).trans super_boot) hget (by rw [make_depth]; exact hr) fun h' t1 tk' dx kx hx' hn hdx => ⟨rfl, ?_⟩
    rw [hsz2] at hdx
    have k' : ∀ b o, hp.get? b = some o → h'.get? b = some o := fun b o e => kx b o (Nat.ne_of_lt (Nat.lt_succ_of_lt (Heap.lt_size e))) (kk b o e)
    obtain ⟨G, g1, g2⟩ := restrict h' fun b => decide (b ≠ hp.objs.size + 1)
    have gk : ∀ b, b ≠ hp.objs.size + 1 → G.get? b = h'.get? b := fun b hb => g1 b (decide_eq_true hb)
    have ge : G.get? (hp.objs.size + 1) = none := g2 _ (by simp)
    have hda : dx ≠ hp.objs.size + 1 := fun z => by
      rw [z] at hdx
      exact absurd hdx (Nat.not_succ_le_self _)
    have hn1 : H1 dx = none := I1.hok.fresh (show hp.objs.size ≤ dx by omega)
    have J : Inv X pins σ (upd H1 dx (.xd [(f, v)])) ⟨G, g, dr, tk', os⟩ := I1.laid (t' := tk') (a := dx) (o := .xd [(f, v)]) (h' := G)
      (fun b o e => (gk b (Nat.ne_of_lt (Nat.lt_succ_of_lt (Heap.lt_size e)))).trans (k' b o e)) (show hp.objs.size ≤ dx by omega)
      ⟨_, hn.at fun o y => (gk dx hda).trans y, relO_put (fs := []) ru fun g => True.intro⟩
    refine ⟨hp.objs.size + 1, _, _, ⟨G, g, dr, tk', os⟩, _, .ref C, some dx, rfl, J, fun b o z => ?_, ge, hx', ⟨rfl, rfl⟩, rfl, rfl, ?_, rfl, I1.bare, raises_own S.exC S.tyC, q1 dx hn1⟩
    · by_cases hba : b = hp.objs.size + 1
      · rw [hba, ge] at z
        cases z
      · exact (gk b hba).symm.trans z
    · rw [upd_ne (Ne.symm hda)]
      exact I1.hok.fresh (show hp.objs.size ≤ hp.objs.size + 1 by omega)
end
end MX
set_option Elab.async false
set_option linter.all false
set_option maxRecDepth 100000
set_option maxHeartbeats 4000000
/-! try with several except clauses, each with a name or without one. -/
namespace MX
open PySem PySem.Spec PyProof.Rows L2

abbrev SuT : Type := Addr → Value → Option Addr → TS
/-- the ends of a suite whose name stands at slot i -/
def offAt (i : Nat) (D : Ends) : Ends := { nx := fun τ G => D.nx (τ.set i none) G, rt := D.rt, bk := fun τ G => D.bk (τ.set i none) G, ct := fun τ G => D.ct (τ.set i none) G }
/-- a clause: its class, the slot of its name, what its suite does -/
structure Cl where
  c : Value
  at_ : Option Nat
  ts : SuT
/-- what its suite wants -/
def Cl.want (q : Cl) (D : Ends) (a : Addr) (cls : Value) (d : Option Addr) (σ : L2.St) (H : Hp) : Prop := match q.at_ with
  | none => q.ts a cls d D σ H
  | some i => q.ts a cls d (offAt i D) (σ.set i (some (.ref a))) H
def wMix (K : PySem.W.Frag) (out : WX) (D : Ends) : List Cl → WX
  | [] => out
  | q :: l => fun cls d σ H => ∃ b, PySem.W.exmOne K cls q.c = some b ∧ (b = true → ∀ a, H a = none → q.want D a cls d σ H) ∧ (b = false → wMix K out D l cls d σ H)
def SuOk (X : Cx) (suite : List Stmt) (ts : SuT) : Prop := ∀ (a : Addr) (oe : Obj) (cls : Value) (d : Option Addr) (pn : List (Addr × Obj)), Zc cls d oe → (∃ vs, oe.data = .fields vs) → PSs (X.suite a ((a, oe) :: pn)) suite (ts a cls d)
inductive Cls (X : Cx) : List ExceptHandler → List Cl → Prop
  | nil : Cls X [] []
  | plain {x : Str} {c : Value} {ts : SuT} {b₀ : Stmt} {su : List Stmt} {p1 p2 : Pos} {hs : List ExceptHandler} {l : List Cl} : Names X x c → SuOk X (b₀ :: su) ts → Cls X hs l → Cls X (.ExceptHandler (some (.Name x p1)) none (b₀ :: su) p2 :: hs) (⟨c, none, ts⟩ :: l)
  | named {x n : Str} {i : Nat} {c : Value} {ts : SuT} {b₀ : Stmt} {su : List Stmt} {p1 p2 : Pos} {hs : List ExceptHandler} {l : List Cl} : Names X x c → X.N.Nodup → X.N[i]? = some n → X.env.kindOf n = some .local → SuOk X (b₀ :: su) ts → Cls X hs l →
      Cls X (.ExceptHandler (some (.Name x p1)) (some n) (b₀ :: su) p2 :: hs) (⟨c, some i, ts⟩ :: l)

section
variable {X : Cx} {pins : List (Addr × Obj)} {σ : L2.St} {H : Hp} {s : Shared} {a : Addr} {B : Heap} {cls : Value} {d : Option Addr}
/-- the exception has landed in the frame of X: I0 is the state ahead of it -/
structure Landed (X : Cx) (pins : List (Addr × Obj)) (σ : L2.St) (H : Hp) (s : Shared) (a : Addr) (B : Heap) (cls : Value) (d : Option Addr) : Prop where
  ex : ∃ s0 : Shared, L2.Inv X pins σ H s0 ∧ (∀ b o, s0.heap.get? b = some o → b ∉ frs X.stack → B.get? b = some o) ∧ s0.heap.UpToSlots s.heap ∧ s.os = s0.os ∧ AllBare s.gens
  fly : HandSPX.FlyingZ B (X.env :: X.outer) a (Zc cls d) s.heap
  na : H a = none
  nL : a ≠ X.env.locals
  nF : a ∉ X.fs
theorem Landed.inv (Y : Landed X pins σ H s a B cls d) : L2.Inv X pins σ H s := by
  obtain ⟨s0, J, nb, up, eo, eg⟩ := Y.ex
  exact J.landed nb Y.fly.1 up eo eg
theorem Landed.next (Y : Landed X pins σ H s a B cls d) {h2 : Heap} (f : HandSPX.FlyingZ B (X.env :: X.outer) a (Zc cls d) h2) (u : s.heap.UpToSlots h2) : Landed X pins σ H { s with heap := h2 } a B cls d := by
  obtain ⟨s0, J, nb, up, eo, eg⟩ := Y.ex
  exact ⟨⟨s0, J, nb, up.trans u, eo, eg⟩, f, Y.na, Y.nL, Y.nF⟩
theorem Landed.on (Y : Landed X pins σ H s a B cls d) : ∃ oe vs, s.heap.get? a = some oe ∧ Zc cls d oe ∧ oe.data = .fields vs ∧ L2.Inv (X.suite a ((a, oe) :: (X.pn ++ pins))) [] σ H s := by
  obtain ⟨oe, vs, h1, h2, h3⟩ := Y.fly.there
  exact ⟨oe, vs, h1, h2, h3, Y.inv.suite h1 h3 Y.na Y.nL Y.nF⟩
/-- the clause's class is looked up and tried -/
theorem Landed.test (Y : Landed X pins σ H s a B cls d) {x : Str} {c : Value} {b : Bool} {p1 : Pos} {Q : Bool → Shared → Prop} {E : Value → Shared → Prop} (hc : Names X x c) (hb : PySem.W.exmOne X.K cls c = some b) (q : Q b s) :
    wpAny (model X.prog X.w) (X.A.mark (some (.ref a))) (eval (.Name x p1) X.env) (fun k s1 => wpAny (model X.prog X.w) (X.A.mark (some (.ref a))) (excMatches (.ref a) k) Q E s1) E s := by
  obtain ⟨oe, vs, h1, h2, h3, J⟩ := Y.on
  have ty : PySem.W.Looks (model X.prog X.w) s.heap (typeOf (.ref a)) cls := fun A' Q' E' s' k z => by
    refine wpAny_typeOf_ref (k _ _ h1) ?_
    rw [h2.1]; exact z
  have go := (PySem.W.exm_one (M := model X.prog X.w) Y.inv.kIn ty hb).here (A := X.A.mark (some (.ref a))) (E := E) q
  obtain ⟨hg, hdb, z⟩ := hc
  rcases z with hm | ⟨hm, hv, hne⟩
  · exact ld_glob (X := X.suite a ((a, oe) :: (X.pn ++ pins))) J hg hm go hdb
  · exact ld_blt (X := X.suite a ((a, oe) :: (X.pn ++ pins))) J hg hm hv go hne hdb
/-- a suite's end, back in the frame -/
theorem Landed.back {D : Ends} {q : Addr × Obj} {f : Flow} {s2 : Shared} (ok : X.Ok) (z : SP (X.suite a (q :: (X.pn ++ pins))) [] D f s2) : SP X pins D f s2 := by
  cases f with
  | next => obtain ⟨τ, G, J, w⟩ := z; exact ⟨τ, G, J.unsuite ok, w⟩
  | brk => obtain ⟨τ, G, J, w⟩ := z; exact ⟨τ, G, J.unsuite ok, w⟩
  | cont => obtain ⟨τ, G, J, w⟩ := z; exact ⟨τ, G, J.unsuite ok, w⟩
  | ret u => obtain ⟨v, τ, G, J, r, w⟩ := z; exact ⟨v, τ, G, J.unsuite ok, r, w⟩
/-- .. where the clause's name goes -/
theorem Landed.drop {D : Ends} {q : Addr × Obj} {f : Flow} {s2 : Shared} {n : Str} {i : Nat} {p2 : Pos} {E : Value → Shared → Prop} (ok : X.Ok) (hN : X.N.Nodup) (hi : X.N[i]? = some n) (hl : X.env.kindOf n = some .local) (z : SP (X.suite a (q :: (X.pn ++ pins))) [] (offAt i D) f s2) :
    wpAny (model X.prog X.w) X.A (do bindName X.env n .none; unbindBehindTheSuite X.env n p2) (fun _ s3 => SP X pins D f s3) E s2 := by
  cases f with
  | next => obtain ⟨τ, G, J, w⟩ := z; exact gone_ok (J.unsuite ok) hN hi hl fun s3 J3 => ⟨_, G, J3, w⟩
  | brk => obtain ⟨τ, G, J, w⟩ := z; exact gone_ok (J.unsuite ok) hN hi hl fun s3 J3 => ⟨_, G, J3, w⟩
  | cont => obtain ⟨τ, G, J, w⟩ := z; exact gone_ok (J.unsuite ok) hN hi hl fun s3 J3 => ⟨_, G, J3, w⟩
  | ret u => obtain ⟨v, τ, G, J, r, w⟩ := z; exact gone_ok (J.unsuite ok) hN hi hl fun s3 J3 => ⟨v, _, G, J3, r, w⟩
/-- the clauses, one behind the other -/
theorem Landed.go {hs : List ExceptHandler} {l : List Cl} {out : WX} {D : Ends} (hk : Cls X hs l) (Y : Landed X pins σ H s a B cls d)
    (hno : out cls d σ H → wpAny (model X.prog X.w) X.A (handleBy (.ref a) X.env []) (SP X pins D) X.xe s) (w : wMix X.K out D l cls d σ H) :
    wpAny (model X.prog X.w) X.A (handleBy (.ref a) X.env hs) (SP X pins D) X.xe s := by
  have ok := Y.inv.ok
  induction hk with
  | nil => exact hno w
  | @plain x c ts b₀ su p1 p2 hs l hc hsu r ih =>
    obtain ⟨b, hb, hy, hn⟩ := w
    refine wpAny_handleBy_cons (codeAny_handlers_test ?_) (fun z => nomatch z)
    refine Y.test hc hb ?_
    cases b with
    | false => exact ih (hn rfl)
    | true =>
      refine codeAny_handlers_suite (HandSPX.lands_againZ Y.fly fun h4 fl4 up4 => ?_)
      obtain ⟨oe, vs, e1, e2, e3, J⟩ := (Y.next fl4 up4).on
      exact wpAny_mono ((hsu a oe cls d (X.pn ++ pins) e2 ⟨vs, e3⟩).run [] _ σ H D J (hy rfl a Y.na)) (fun f s2 z => Landed.back ok z) fun _ _ z => z.elim
  | @named x n i c ts b₀ su p1 p2 hs l hc hN hi hl hsu r ih =>
    obtain ⟨b, hb, hy, hn⟩ := w
    refine wpAny_handleBy_cons (codeAny_handlers_test ?_) (fun z => nomatch z)
    refine Y.test hc hb ?_
    cases b with
    | false => exact ih (hn rfl)
    | true =>
      refine codeAny_handlers_suite_as (HandSPX.lands_againZ Y.fly fun h4 fl4 up4 => ?_)
      obtain ⟨oe, vs, e1, e2, e3, J⟩ := (Y.next fl4 up4).on
      refine store_ok (X := X.suite a ((a, oe) :: (X.pn ++ pins))) (v := .ref a) J hN hi (.inl hl) rfl (fun s5 J5 => ?_) (.inr hl)
      exact wpAny_mono ((hsu a oe cls d (X.pn ++ pins) e2 ⟨vs, e3⟩).run [] s5 _ H (offAt i D) J5 (hy rfl a Y.na)) (fun f s2 z => Landed.drop ok hN hi hl z) fun _ _ z => z.elim
/-- no clause takes it: on -/
theorem Landed.on_ {out : WX} {D : Ends} (Y : Landed X pins σ H s a B cls d) (hst : X.stack = X.env :: X.outer) (hf : X.env.frame = some X.env.locals) (tk : Takes X out) (w : out cls d σ H) :
    wpAny (model X.prog X.w) X.A (handleBy (.ref a) X.env []) (SP X pins D) X.xe s := by
  refine wpAny_handleBy_nil ?_
  obtain ⟨_, _, _, oe, vs, T, oT, ts, he, hz, hd, h1, _⟩ := id Y.fly
  unfold PySem.passOn
  refine wpAny_bind (wpAny_field he hd h1 ?_)
  rw [if_neg (show ¬ ((Value.ref T == Value.none) = true) by simp)]
  obtain ⟨s0, J, nb, up, eo, eg⟩ := Y.ex
  have up_ : wpAny (model X.prog X.w) X.A (setFlight (.ref a) X.env.frame) (fun _ s4 => wpAny (model X.prog X.w) X.A (throw (.ref a) : Sem Flow) (SP X pins D) X.xe s4) X.xe s := by
    rw [hf]
    refine HandSPX.setFlight_upZ Y.fly fun h4 k4 u4 => wpAny_throw (tk _ _ ?_)
    exact ⟨a, B, s0, pins, σ, H, cls, d, rfl, J, nb, up.trans u4, .inr (.inr (by rw [hst]; exact k4)), Y.na, eo, eg, w⟩
  first
    | exact wpAny_bind (wpAny_pure (wpAny_bind up_))
    | exact wpAny_bind up_
end
section
variable {X : Cx} {body : List Stmt} {h0 : ExceptHandler} {hs : List ExceptHandler} {l : List Cl} {pos : Pos} {tb : WX → TS} {out : WX}
theorem ps_try_mix (hst : X.stack = X.env :: X.outer) (hf : X.env.frame = some X.env.locals) (tk : Takes X out)
    (hb : ∀ (W : WX) (pn : List (Addr × Obj)) (xe : Value → Shared → Prop), Takes (X.tr pn xe) W → PassesOwn (model X.prog X.w) X.A X.env xe → PSs (X.tr pn xe) body (tb W)) (hk : Cls X (h0 :: hs) l) :
    PS X (.Try body (h0 :: hs) [] [] pos) (fun D σ H => tb (wMix X.K out D l) D σ H) := by
  refine ⟨fun pins s σ H D I h => wpAny_Try_except ?_⟩
  have ok := I.ok
  let xe' : Value → Shared → Prop := fun e s₁ => wpAny (model X.prog X.w) X.A (noteFrame e X.env) (fun _ s₂ => wpAny (model X.prog X.w) X.A (setFlight e none) (fun _ s₃ =>
    wpAny (model X.prog X.w) X.A (handleBy e X.env (h0 :: hs)) (SP X pins D) X.xe s₃) X.xe s₂) X.xe s₁
  have hT : Takes (X.tr (X.pn ++ pins) xe') (wMix X.K out D l) := fun u s' xx => by
    obtain ⟨a, B, s0, pins', τ, G, cls, d, rfl, J', nb, up, sky, na, eo, eg, w⟩ := xx
    have J : L2.Inv X pins τ G s0 := J'.ofTry ok
    have sky' : Sky B (X.env :: X.outer) a (Zc cls d) X.env.locals s'.heap := by rw [← hst]; exact sky
    show wpAny (model X.prog X.w) X.A (noteFrame (.ref a) X.env) _ _ _
    refine Sky.land Zc.steady (by rw [ok.frames, hst]) hf sky' fun h3 f3 u3 => ?_
    have notIn : a ∉ frs (X.env :: X.outer) := fun hm => by
      obtain ⟨oe, vs, e1, _, e3⟩ := f3.there
      obtain ⟨_, o', e', nf⟩ := f3.2.2.1.mem hm
      rw [e1] at e'; cases e'
      exact nf _ e3
    have Y : Landed X pins τ G { s' with heap := h3 } a B cls d := ⟨⟨s0, J, nb, up.trans u3, eo, eg⟩, f3, na,
      fun z => notIn (List.mem_filterMap.mpr ⟨X.env, List.mem_cons_self, by rw [hf, z]⟩), fun hm => by
        obtain ⟨e, he, q⟩ := List.mem_filterMap.mp hm
        exact notIn (List.mem_filterMap.mpr ⟨e, List.mem_cons_of_mem _ he, q⟩)⟩
    exact Y.go hk (Y.on_ hst hf tk) w
  refine wpAny_mono ((hb (wMix X.K out D l) (X.pn ++ pins) xe' hT PassesOwn.looking).run [] s σ H D (I.toTry _) h) (fun f s1 z => ?_) fun e s1 z => z
  cases f with
  | next => obtain ⟨τ, G, J, w⟩ := z; exact wpAny_execs_nil ⟨τ, G, J.ofTry ok, w⟩
  | brk => obtain ⟨τ, G, J, w⟩ := z; exact ⟨τ, G, J.ofTry ok, w⟩
  | cont => obtain ⟨τ, G, J, w⟩ := z; exact ⟨τ, G, J.ofTry ok, w⟩
  | ret u => obtain ⟨v, τ, G, J, r, w⟩ := z; exact ⟨v, τ, G, J.ofTry ok, r, w⟩
end
end MX
set_option Elab.async false
set_option linter.all false
set_option maxRecDepth 100000
set_option maxHeartbeats 4000000
/-! Plain data over the hand layer: values as data, lists as places of a store; what an expression, a statement, a def is told by. -/
namespace MP
open PySem PySem.Spec PyProof.Rows L2

inductive D where
  | non | bl (b : Bool) | int (i : Int) | str (x : Str) | tup (ds : List D) | fl (ds : List D) | ref (n : Nat) | fn (i : Nat)
  deriving Inhabited

inductive SO where
  | lst (ds : List D)
  | dk (kvs : List (Key × D))
abbrev Sto := List SO
abbrev Rho := List (Option D)

/-- an exception: its class, its own field and what it keeps -/
structure Xn where
  c : Nat
  arg : Option (Str × D)

inductive Rs (α : Type) where
  | ok (a : α) (S : Sto)
  | exc (x : Xn) (S : Sto)
  | stuck
def Rs.bind {α β : Type} (r : Rs α) (k : α → Sto → Rs β) : Rs β := match r with
  | .ok a S => k a S
  | .exc x S => .exc x S
  | .stuck => .stuck

/-- the module: its written part, where its functions and classes stand -/
structure Md where
  K : PySem.W.Frag
  fa : Nat → Addr
  ca : Nat → Addr
  T : List (Addr × Str) := []
  cs : List (Addr × Addr) := []

structure Wd where
  μ : Nat → Addr
  S : Sto
  H : Hp

/-- a list that nobody writes -/
def FzL (K : PySem.W.Frag) (H : Hp) (a : Addr) (xs : List V) : Prop :=
  (∃ o, H a = some (.frz o (.lst xs))) ∨
    ∃ (o : Obj) (its : Array Value) (n : Nat), K.lookup a = some o ∧ o.cls = .type "list" ∧ o.dict = none ∧ o.data = .seq its n ∧ its.size ≤ sizeLine ∧ Vals xs its.toList

mutual
inductive DV (M : Md) (g : Wd) : D → V → Prop where
  | non : DV M g .non .non
  | bl (b : Bool) : DV M g (.bl b) (.bl b)
  | int (i : Int) : DV M g (.int i) (.int i)
  | str (x : Str) : DV M g (.str x) (.str x)
  | tup {a : Addr} {ds : List D} {xs : List V} : SqT M.K g.H a xs → DVs M g ds xs → DV M g (.tup ds) (.ref a)
  | fl {a : Addr} {ds : List D} {xs : List V} : FzL M.K g.H a xs → DVs M g ds xs → DV M g (.fl ds) (.ref a)
  | ref {n : Nat} : n < g.S.length → DV M g (.ref n) (.ref (g.μ n))
  | fn (i : Nat) : DV M g (.fn i) (.ref (M.fa i))
inductive DVs (M : Md) (g : Wd) : List D → List V → Prop where
  | nil : DVs M g [] []
  | cons {d : D} {ds : List D} {v : V} {vs : List V} : DV M g d v → DVs M g ds vs → DVs M g (d :: ds) (v :: vs)
end

def KDs (M : Md) (g : Wd) : List (Key × D) → List (Key × V) → Prop := Paired fun p q => p.1 = q.1 ∧ DV M g p.2 q.2

def OR (M : Md) (g : Wd) (a : Addr) : SO → Prop
  | .lst ds => ∃ xs, g.H a = some (.lst xs) ∧ DVs M g ds xs
  | .dk kvs => ∃ ws, g.H a = some (.dK ws) ∧ KDs M g kvs ws

structure Rep (M : Md) (g : Wd) : Prop where
  inj : ∀ i j, i < g.S.length → j < g.S.length → g.μ i = g.μ j → i = j
  obj : ∀ i o, g.S[i]? = some o → OR M g (g.μ i) o
  tabs : LamX.Tabs M.T g.H

structure Gr (g g' : Wd) : Prop where
  len : g.S.length ≤ g'.S.length
  same : ∀ n, n < g.S.length → g'.μ n = g.μ n
  fresh : ∀ n, g.S.length ≤ n → n < g'.S.length → ∀ o, g.H (g'.μ n) = some o → ∃ ps, o = .tbl ps
  keep : ∀ a o, g.H a = some o → (∀ n, n < g.S.length → g.μ n ≠ a) → (∀ ps, o ≠ .tbl ps) → g'.H a = some o
theorem isTbl (o : HO) : (∃ ps, o = .tbl ps) ∨ ∀ ps, o ≠ .tbl ps := by
  cases o <;> first | exact .inl ⟨_, rfl⟩ | exact .inr fun ps h => by cases h
/-- tables, an object at a that is no table and no code object was written -/
theorem tabs_but {T : List (Addr × Str)} {H H' : Hp} {a : Addr} (t : LamX.Tabs T H) (ha : (∃ xs, H a = some (.lst xs)) ∨ (∃ ws, H a = some (.dK ws)) ∨ H a = none) (e : ∀ b o, b ≠ a → H b = some o → H' b = some o) : LamX.Tabs T H' := fun p hp => by
  obtain ⟨ps, h1, h2, h3⟩ := t p hp
  have n1 : p.1 ≠ a := fun z => by
    rw [z] at h1
    rcases ha with ⟨_, q⟩ | ⟨_, q⟩ | q <;> (rw [q] at h1; cases h1)
  refine ⟨ps, e _ _ n1 h1, h2, fun pos cv hc => ?_⟩
  obtain ⟨c, e1, e2⟩ := h3 pos cv hc
  refine ⟨c, e1, e _ _ (fun z => ?_) e2⟩
  rw [z] at e2
  unfold LamX.CodeO at e2
  rcases ha with ⟨_, q⟩ | ⟨_, q⟩ | q <;> (rw [q] at e2; cases e2)

section
variable {M : Md} {g g' g1 g2 : Wd}

theorem OR.there {a : Addr} {o : SO} (h : OR M g a o) : (∃ xs, g.H a = some (.lst xs)) ∨ ∃ ws, g.H a = some (.dK ws) := by
  cases o with
  | lst ds => obtain ⟨xs, h, _⟩ := h; exact .inl ⟨xs, h⟩
  | dk kvs => obtain ⟨ws, h, _⟩ := h; exact .inr ⟨ws, h⟩
theorem Rep.at (r : Rep M g) {n : Nat} (h : n < g.S.length) : (∃ xs, g.H (g.μ n) = some (.lst xs)) ∨ ∃ ws, g.H (g.μ n) = some (.dK ws) :=
  (r.obj n _ (List.getElem?_eq_getElem h)).there
theorem Rep.not_tup (r : Rep M g) {n : Nat} (h : n < g.S.length) {xs : List V} : g.H (g.μ n) ≠ some (.tup xs) := fun e => by
  rcases r.at h with ⟨_, q⟩ | ⟨_, q⟩ <;> (rw [q] at e; cases e)
theorem Rep.not_frz (r : Rep M g) {n : Nat} (h : n < g.S.length) {o : Obj} {u : HO} : g.H (g.μ n) ≠ some (.frz o u) := fun e => by
  rcases r.at h with ⟨_, q⟩ | ⟨_, q⟩ <;> (rw [q] at e; cases e)
theorem Rep.not_xd (r : Rep M g) {n : Nat} (h : n < g.S.length) {fs : List (Str × V)} : g.H (g.μ n) ≠ some (.xd fs) := fun e => by
  rcases r.at h with ⟨_, q⟩ | ⟨_, q⟩ <;> (rw [q] at e; cases e)
theorem Rep.not_none (r : Rep M g) {n : Nat} (h : n < g.S.length) : g.H (g.μ n) ≠ none := fun e => by
  rcases r.at h with ⟨_, q⟩ | ⟨_, q⟩ <;> (rw [q] at e; cases e)

theorem Gr.refl : Gr g g := ⟨Nat.le_refl _, fun _ _ => rfl, fun n h1 h2 => absurd h2 (by omega), fun _ _ h _ _ => h⟩
theorem Gr.trans (r1 : Rep M g1) (a : Gr g g1) (b : Gr g1 g2) : Gr g g2 where
  len := Nat.le_trans a.len b.len
  same := fun n h => (b.same n (Nat.lt_of_lt_of_le h a.len)).trans (a.same n h)
  fresh := fun n h1 h2 o e => by
    by_cases h : n < g1.S.length
    · rw [b.same n h] at e; exact a.fresh n h1 h o e
    · have z := b.fresh n (by omega) h2
      rcases isTbl o with ht | ht
      · exact ht
      · by_cases hm : ∃ m, m < g.S.length ∧ g.μ m = g2.μ n
        · obtain ⟨m, h3, h4⟩ := hm
          have h5 := a.same m h3
          have h6 : m < g1.S.length := Nat.lt_of_lt_of_le h3 a.len
          rcases r1.at h6 with ⟨xs, q⟩ | ⟨ws, q⟩
          · rw [h5, h4] at q
            obtain ⟨ps, q2⟩ := z _ q
            cases q2
          · rw [h5, h4] at q
            obtain ⟨ps, q2⟩ := z _ q
            cases q2
        · exact z o (a.keep _ o e (fun m h3 h4 => hm ⟨m, h3, h4⟩) ht)
  keep := fun c o e h ht => by
    refine b.keep c o (a.keep c o e h ht) (fun n hn z => ?_) ht
    by_cases hl : n < g.S.length
    · exact h n hl (by rw [← a.same n hl]; exact z)
    · obtain ⟨ps, q⟩ := a.fresh n (by omega) hn o (by rw [z]; exact e)
      exact ht ps q

theorem Gr.tup (r : Rep M g) (k : Gr g g') {a : Addr} {xs : List V} (h : SqT M.K g.H a xs) : SqT M.K g'.H a xs := by
  rcases h with (h | ⟨o, h⟩) | h
  · exact .inl (.inl (k.keep _ _ h (fun n hn e => r.not_tup hn (by rw [e]; exact h)) (fun _ z => by cases z)))
  · exact .inl (.inr ⟨o, k.keep _ _ h (fun n hn e => r.not_frz hn (by rw [e]; exact h)) (fun _ z => by cases z)⟩)
  · exact .inr h
theorem Gr.fzl (r : Rep M g) (k : Gr g g') {a : Addr} {xs : List V} (h : FzL M.K g.H a xs) : FzL M.K g'.H a xs := by
  rcases h with ⟨o, h⟩ | h
  · exact .inl ⟨o, k.keep _ _ h (fun n hn e => r.not_frz hn (by rw [e]; exact h)) (fun _ z => by cases z)⟩
  · exact .inr h

mutual
theorem DV.mono (r : Rep M g) (k : Gr g g') : ∀ {d : D} {v : V}, DV M g d v → DV M g' d v
  | _, _, .non => .non
  | _, _, .bl b => .bl b
  | _, _, .int i => .int i
  | _, _, .str x => .str x
  | _, _, .tup h hs => .tup (k.tup r h) (DVs.mono r k hs)
  | _, _, .fl h hs => .fl (k.fzl r h) (DVs.mono r k hs)
  | _, _, .ref (n := n) h => by rw [← k.same n h]; exact .ref (Nat.lt_of_lt_of_le h k.len)
  | _, _, .fn i => .fn i
theorem DVs.mono (r : Rep M g) (k : Gr g g') : ∀ {ds : List D} {vs : List V}, DVs M g ds vs → DVs M g' ds vs
  | _, _, .nil => .nil
  | _, _, .cons h hs => .cons (DV.mono r k h) (DVs.mono r k hs)
end
theorem KDs.mono (r : Rep M g) (k : Gr g g') {a : List (Key × D)} {b : List (Key × V)} (h : KDs M g a b) : KDs M g' a b :=
  Paired.mapP h fun _ _ z => ⟨z.1, z.2.mono r k⟩

theorem DVs.length : ∀ {ds : List D} {vs : List V}, DVs M g ds vs → ds.length = vs.length
  | _, _, .nil => rfl
  | _, _, .cons _ t => by simp [DVs.length t]
theorem DVs.get : ∀ {ds : List D} {vs : List V} {i : Nat} {d : D}, DVs M g ds vs → ds[i]? = some d → ∃ v, vs[i]? = some v ∧ DV M g d v
  | _, _, _, _, .nil, e => by simp at e
  | _, _, 0, _, .cons h _, e => by simp at e; subst e; exact ⟨_, rfl, h⟩
  | _, _, i + 1, d, .cons _ t, e => by
    obtain ⟨u, h1, h2⟩ := DVs.get (i := i) (d := d) t (by simpa using e)
    exact ⟨u, by simpa using h1, h2⟩
theorem DVs.getV : ∀ {ds : List D} {vs : List V} {i : Nat} {v : V}, DVs M g ds vs → vs[i]? = some v → ∃ d, ds[i]? = some d ∧ DV M g d v
  | _, _, _, _, .nil, e => by simp at e
  | _, _, 0, _, .cons h _, e => by simp at e; subst e; exact ⟨_, rfl, h⟩
  | _, _, i + 1, d, .cons _ t, e => by
    obtain ⟨u, h1, h2⟩ := DVs.getV (i := i) (v := d) t (by simpa using e)
    exact ⟨u, by simpa using h1, h2⟩
theorem DVs.append : ∀ {a b : List D} {u v : List V}, DVs M g a u → DVs M g b v → DVs M g (a ++ b) (u ++ v)
  | _, _, _, _, .nil, s => s
  | _, _, _, _, .cons r t, s => .cons r (DVs.append t s)
theorem DVs.take : ∀ {a : List D} {u : List V} (n : Nat), DVs M g a u → DVs M g (a.take n) (u.take n)
  | _, _, 0, _ => .nil
  | _, _, _ + 1, .nil => .nil
  | _, _, n + 1, .cons r t => .cons r (DVs.take n t)
theorem DVs.drop : ∀ {a : List D} {u : List V} (n : Nat), DVs M g a u → DVs M g (a.drop n) (u.drop n)
  | _, _, 0, r => r
  | _, _, _ + 1, .nil => .nil
  | _, _, n + 1, .cons _ t => DVs.drop n t
theorem DVs.set {d : D} {v : V} (r : DV M g d v) : ∀ {a : List D} {u : List V} (n : Nat), DVs M g a u → DVs M g (a.set n d) (u.set n v)
  | _, _, _, .nil => .nil
  | _, _, 0, .cons _ t => .cons r t
  | _, _, n + 1, .cons q t => .cons q (DVs.set r n t)
theorem DVs.eraseIdx : ∀ {a : List D} {u : List V} (n : Nat), DVs M g a u → DVs M g (a.eraseIdx n) (u.eraseIdx n)
  | _, _, _, .nil => .nil
  | _, _, 0, .cons _ t => t
  | _, _, n + 1, .cons q t => .cons q (DVs.eraseIdx n t)
theorem DVs.dropLast {a : List D} {u : List V} (r : DVs M g a u) : DVs M g a.dropLast u.dropLast := by
  have h := r.take (a.length - 1)
  rw [List.dropLast_eq_take, List.dropLast_eq_take, ← r.length]
  exact h
theorem DVs.reverse : ∀ {a : List D} {u : List V}, DVs M g a u → DVs M g a.reverse u.reverse
  | _, _, .nil => .nil
  | _, _, .cons h t => by rw [List.reverse_cons, List.reverse_cons]; exact (DVs.reverse t).append (.cons h .nil)
theorem DVs.rep {a : List D} {u : List V} (r : DVs M g a u) : ∀ k : Nat, DVs M g (List.replicate k a).flatten (List.replicate k u).flatten
  | 0 => .nil
  | k + 1 => by rw [List.replicate_succ, List.replicate_succ, List.flatten_cons, List.flatten_cons]; exact r.append (DVs.rep r k)

/-! ### objects laid, written -/
/-- a new object that is no place of the store -/
theorem Gr.laid {p : Addr} {o : HO} (h : g.H p = none) : Gr g ⟨g.μ, g.S, upd g.H p o⟩ :=
  ⟨Nat.le_refl _, fun _ _ => rfl, fun n h1 h2 => absurd h2 (by show ¬ n < g.S.length; omega), fun a u e _ _ => by
    show upd g.H p o a = some u
    rw [upd_ne (ne_of_none e h)]; exact e⟩
theorem OR.of {a : Addr} {o : SO} (r : Rep M g) (k : Gr g g') (h : OR M g a o) (e : ∀ u, g.H a = some u → g'.H a = some u) : OR M g' a o := by
  cases o with
  | lst ds => obtain ⟨xs, h1, h2⟩ := h; exact ⟨xs, e _ h1, h2.mono r k⟩
  | dk kvs => obtain ⟨xs, h1, h2⟩ := h; exact ⟨xs, e _ h1, h2.mono r k⟩
theorem Rep.laid (r : Rep M g) {p : Addr} {o : HO} (h : g.H p = none) : Rep M ⟨g.μ, g.S, upd g.H p o⟩ :=
  ⟨r.inj, fun i u e => OR.of r (Gr.laid h) (r.obj i u e) fun w z => by
    show upd g.H p o _ = some w
    rw [upd_ne (ne_of_none z h)]; exact z, tabs_but r.tabs (.inr (.inr h)) fun b w hb z => by
    show upd g.H p o _ = some w
    rw [upd_ne hb]; exact z⟩
/-- a new place of the store -/
def Wd.new (g : Wd) (p : Addr) (o : SO) (u : HO) : Wd := ⟨fun n => if n = g.S.length then p else g.μ n, g.S ++ [o], upd g.H p u⟩
theorem Gr.new {p : Addr} {o : SO} {u : HO} (h : g.H p = none) : Gr g (g.new p o u) where
  len := by show g.S.length ≤ (g.S ++ [o]).length; simp
  same := fun n hn => by show (if n = g.S.length then p else g.μ n) = g.μ n; rw [if_neg (by omega)]
  fresh := fun n h1 h2 w z => by
    have h2 : n < (g.S ++ [o]).length := h2
    rw [List.length_append, List.length_singleton] at h2
    have e : n = g.S.length := by omega
    have z : g.H (if n = g.S.length then p else g.μ n) = some w := z
    rw [if_pos e, h] at z; cases z
  keep := fun a w e _ _ => by
    show upd g.H p u a = some w
    rw [upd_ne (ne_of_none e h)]; exact e
theorem Rep.new (r : Rep M g) {p : Addr} {o : SO} {u : HO} (h : g.H p = none) (ho : OR M (g.new p o u) p o) : Rep M (g.new p o u) := by
  have k : Gr g (g.new p o u) := Gr.new h
  have hl : (g.new p o u).S.length = g.S.length + 1 := by show (g.S ++ [o]).length = _; simp
  have hp : ∀ n, n < g.S.length → g.μ n ≠ p := fun n hn e => r.not_none hn (by rw [e]; exact h)
  refine ⟨fun i j hi hj e => ?_, fun i w e => ?_, tabs_but r.tabs (.inr (.inr h)) fun b w hb z => by
    show upd g.H p u _ = some w
    rw [upd_ne hb]; exact z⟩
  · rw [hl] at hi hj
    have e : (if i = g.S.length then p else g.μ i) = (if j = g.S.length then p else g.μ j) := e
    by_cases h1 : i = g.S.length
    · by_cases h2 : j = g.S.length
      · omega
      · rw [if_pos h1, if_neg h2] at e; exact absurd e.symm (hp j (by omega))
    · by_cases h2 : j = g.S.length
      · rw [if_neg h1, if_pos h2] at e; exact absurd e (hp i (by omega))
      · rw [if_neg h1, if_neg h2] at e; exact r.inj i j (by omega) (by omega) e
  · have e : (g.S ++ [o])[i]? = some w := e
    by_cases h1 : i < g.S.length
    · rw [List.getElem?_append_left h1] at e
      have q := OR.of r k (r.obj i w e) fun z hz => by
        show upd g.H p u _ = some z
        rw [upd_ne (ne_of_none hz h)]; exact hz
      have e2 : (g.new p o u).μ i = g.μ i := k.same i h1
      rw [e2]; exact q
    · have h2 : i = g.S.length := by
        have := (List.getElem?_eq_some_iff.mp e).1
        rw [List.length_append, List.length_singleton] at this
        omega
      subst h2
      rw [List.getElem?_append_right (Nat.le_refl _), Nat.sub_self] at e
      have e : some o = some w := e
      cases e
      have e2 : (g.new p o u).μ g.S.length = p := by show (if g.S.length = g.S.length then p else _) = p; rw [if_pos rfl]
      rw [e2]; exact ho
theorem DV.newRef {p : Addr} {o : SO} {u : HO} : DV M (g.new p o u) (.ref g.S.length) (.ref p) := by
  have e2 : (g.new p o u).μ g.S.length = p := by show (if g.S.length = g.S.length then p else _) = p; rw [if_pos rfl]
  have h : g.S.length < (g.new p o u).S.length := by show _ < (g.S ++ [o]).length; simp
  have q := DV.ref (M := M) (g := g.new p o u) h
  rw [e2] at q; exact q
/-- a place of the store is written -/
def Wd.put (g : Wd) (n : Nat) (o : SO) (u : HO) : Wd := ⟨g.μ, g.S.set n o, upd g.H (g.μ n) u⟩
theorem Gr.put {n : Nat} {o : SO} {u : HO} (hn : n < g.S.length) : Gr g (g.put n o u) where
  len := by show g.S.length ≤ (g.S.set n o).length; simp
  same := fun _ _ => rfl
  fresh := fun m h1 h2 => by
    have h2 : m < (g.S.set n o).length := h2
    rw [List.length_set] at h2
    omega
  keep := fun a w e h _ => by
    show upd g.H (g.μ n) u a = some w
    rw [upd_ne fun z => h n hn z.symm]; exact e
theorem Rep.put (r : Rep M g) {n : Nat} {o : SO} {u : HO} (hn : n < g.S.length) (ho : OR M (g.put n o u) (g.μ n) o) : Rep M (g.put n o u) := by
  have k : Gr g (g.put n o u) := Gr.put hn
  have hl : (g.put n o u).S.length = g.S.length := by show (g.S.set n o).length = _; simp
  refine ⟨fun i j hi hj e => r.inj i j (by omega) (by omega) e, fun i w e => ?_, tabs_but r.tabs ((r.at hn).elim .inl fun z => .inr (.inl z)) fun b w hb z => by
    show upd g.H (g.μ n) u _ = some w
    rw [upd_ne hb]; exact z⟩
  have e : (g.S.set n o)[i]? = some w := e
  by_cases h1 : i = n
  · subst h1
    rw [List.getElem?_set_self hn] at e
    cases e
    exact ho
  · rw [List.getElem?_set_ne (Ne.symm h1)] at e
    have hi : i < g.S.length := (List.getElem?_eq_some_iff.mp e).1
    refine OR.of r k (r.obj i w e) fun z hz => ?_
    show upd g.H (g.μ n) u (g.μ i) = some z
    rw [upd_ne fun q => h1 (r.inj i n hi hn q)]; exact hz
end

/-! ### what is wanted behind -/
def Aft (M : Md) {α : Type} (g : Wd) (r : Rs α) (P : α → Wd → Prop) (E : Xn → Wd → Prop) : Prop := match r with
  | .ok a S => ∀ g', g'.S = S → Gr g g' → Rep M g' → P a g'
  | .exc x S => ∀ g', g'.S = S → Gr g g' → Rep M g' → E x g'
  | .stuck => False
theorem Aft.bind {M : Md} {α β : Type} {g : Wd} {r : Rs α} {k : α → Sto → Rs β} {P : β → Wd → Prop} {E : Xn → Wd → Prop} (h : Aft M g (r.bind k) P E) : Aft M g r (fun a g1 => Aft M g1 (k a g1.S) P E) E := by
  cases r with
  | stuck => exact h
  | exc x S => exact h
  | ok a S =>
    intro g1 e1 k1 r1
    have h : Aft M g (k a S) P E := h
    rw [e1]
    cases hk : k a S with
    | stuck => rw [hk] at h; exact h
    | exc x S2 => rw [hk] at h; exact fun g2 e2 k2 r2 => h g2 e2 (k1.trans r1 k2) r2
    | ok b S2 => rw [hk] at h; exact fun g2 e2 k2 r2 => h g2 e2 (k1.trans r1 k2) r2
theorem Aft.mono {M : Md} {α : Type} {g : Wd} {r : Rs α} {P P' : α → Wd → Prop} {E E' : Xn → Wd → Prop} (h : Aft M g r P E) (hp : ∀ a g', Gr g g' → Rep M g' → P a g' → P' a g') (he : ∀ x g', Gr g g' → Rep M g' → E x g' → E' x g') : Aft M g r P' E' := by
  cases r with
  | stuck => exact h
  | exc x S => exact fun g1 e1 k1 r1 => he x g1 k1 r1 (h g1 e1 k1 r1)
  | ok a S => exact fun g1 e1 k1 r1 => hp a g1 k1 r1 (h g1 e1 k1 r1)
/-- nothing was laid or written -/
theorem Aft.here {M : Md} {α : Type} {g : Wd} {a : α} {P : α → Wd → Prop} {E : Xn → Wd → Prop} (r : Rep M g) (h : Aft M g (.ok a g.S) P E) : P a g := h g rfl Gr.refl r

/-- the slots -/
structure EnvOk (M : Md) (g : Wd) (ρ : Rho) (σ : L2.St) : Prop where
  len : ρ.length = σ.length
  at_ : ∀ (i : Nat) d, ρ[i]? = some (some d) → ∃ v, σ[i]? = some (some v) ∧ DV M g d v
theorem EnvOk.mono {M : Md} {g g' : Wd} {ρ : Rho} {σ : L2.St} (e : EnvOk M g ρ σ) (r : Rep M g) (k : Gr g g') : EnvOk M g' ρ σ :=
  ⟨e.len, fun i d h => let ⟨v, h1, h2⟩ := e.at_ i d h; ⟨v, h1, h2.mono r k⟩⟩
theorem EnvOk.set {M : Md} {g : Wd} {ρ : Rho} {σ : L2.St} {i : Nat} {d : D} {v : V} (e : EnvOk M g ρ σ) (h : DV M g d v) : EnvOk M g (ρ.set i (some d)) (σ.set i (some v)) := by
  refine ⟨by simp [e.len], fun j d' hj => ?_⟩
  by_cases hji : j = i
  · subst hji
    by_cases hl : j < ρ.length
    · rw [List.getElem?_set_self hl] at hj
      cases hj
      exact ⟨v, by rw [List.getElem?_set_self (by rw [← e.len]; exact hl)], h⟩
    · rw [List.getElem?_eq_none (by simpa using hl)] at hj; cases hj
  · rw [List.getElem?_set_ne (Ne.symm hji)] at hj
    obtain ⟨w, h1, h2⟩ := e.at_ j d' hj
    exact ⟨w, by rw [List.getElem?_set_ne (Ne.symm hji)]; exact h1, h2⟩

/-- what an exception is -/
def XV (M : Md) (g : Wd) (x : Xn) (cls : Value) (dx : Option Addr) : Prop :=
  cls = .ref (M.ca x.c) ∧ match x.arg with
    | none => dx = none
    | some (f, d) => ∃ a v, dx = some a ∧ g.H a = some (.xd [(f, v)]) ∧ DV M g d v

/-! ### expressions -/
abbrev Fe := Rho → Sto → Rs D
abbrev PD (M : Md) (Q : VK) : D → Wd → Prop := fun d g => ∀ v, DV M g d v → Q v g.H
abbrev XD (M : Md) (W : WX) (σ : L2.St) : Xn → Wd → Prop := fun x g => ∀ cls dx, XV M g x cls dx → W cls dx σ g.H
def tE (M : Md) (W : WX) (f : Fe) : TE := fun σ H Q => ∃ g ρ, g.H = H ∧ Rep M g ∧ EnvOk M g ρ σ ∧ Aft M g (f ρ g.S) (PD M Q) (XD M W σ)
/-- the expression e is told by f -/
abbrev ME (M : Md) (X : Cx) (W : WX) (e : Expr) (f : Fe) : Prop := PE X e (tE M W f)
theorem PE.imp {X : Cx} {e : Expr} {t t' : TE} (h : PE X e t) (i : ∀ σ H Q, t' σ H Q → t σ H Q) : PE X e t' := ⟨fun pins s σ H Q I h' => h.run pins s σ H Q I (i σ H Q h')⟩
theorem PT.imp {X : Cx} {e : Expr} {t t' : TT} (h : PT X e t) (i : ∀ σ H Q, t' σ H Q → t σ H Q) : PT X e t' := ⟨fun pins s σ H Q I h' => h.run pins s σ H Q I (i σ H Q h')⟩
theorem PS.imp {X : Cx} {e : Stmt} {t t' : TS} (h : PS X e t) (i : ∀ Dn σ H, t' Dn σ H → t Dn σ H) : PS X e t' := ⟨fun pins s σ H Dn I h' => h.run pins s σ H Dn I (i Dn σ H h')⟩
theorem PSs.imp {X : Cx} {e : List Stmt} {t t' : TS} (h : PSs X e t) (i : ∀ Dn σ H, t' Dn σ H → t Dn σ H) : PSs X e t' := ⟨fun pins s σ H Dn I h' => h.run pins s σ H Dn I (i Dn σ H h')⟩
theorem PA.imp {X : Cx} {e : List Expr} {t t' : TA} (h : PA X e t) (i : ∀ σ H Q, t' σ H Q → t σ H Q) : PA X e t' := ⟨fun pos pins s σ H Q I h' => h.run pos pins s σ H Q I (i σ H Q h')⟩

/-- from the reading of the one to the reading of the other: the way in -/
theorem tE.go {M : Md} {W : WX} {f : Fe} {σ : L2.St} {g : Wd} {ρ : Rho} {Q : VK} (r : Rep M g) (e : EnvOk M g ρ σ) (h : Aft M g (f ρ g.S) (PD M Q) (XD M W σ)) : tE M W f σ g.H Q := ⟨g, ρ, rfl, r, e, h⟩

section
variable {M : Md} {X : Cx} {W : WX}

def dVar (i : Nat) : Fe := fun ρ S => match ρ[i]? with
  | some (some d) => .ok d S
  | _ => .stuck
def dC (d : D) : Fe := fun _ S => .ok d S
theorem me_var {i : Nat} {x : Str} {pos : Pos} (hN : X.N[i]? = some x := by rfl) (hv : Vis X.env.scope x := by first | exact Or.inl rfl | exact Or.inr (Or.inl rfl) | exact Or.inr (Or.inr rfl)) (hd : (x == ("__debug__" : Str)) = false := by decide) (hcd : (x == ("__classdict__" : Str)) = false := by decide) : ME M X W (.Name x pos) (dVar i) := by
  refine PE.imp (pe_var hN hv hd hcd) fun σ H Q h => ?_
  obtain ⟨g, ρ, rfl, r, e, h⟩ := h
  unfold dVar at h
  split at h
  · rename_i d hd
    obtain ⟨v, h1, h2⟩ := e.at_ i d hd
    exact ⟨v, h1, h.here r v h2⟩
  · exact h.elim
theorem me_c {e : Expr} {v : V} {d : D} (h : PE X e (tC v)) (hd : ∀ g, DV M g d v) : ME M X W e (dC d) :=
  PE.imp h fun σ H Q h => by
    obtain ⟨g, ρ, rfl, r, e, h⟩ := h
    exact h.here r v (hd g)
theorem me_int {i : Int} {j : Nat} {pos : Pos} : ME M X W (.Constant (.int i) j pos) (dC (.int i)) := me_c pe_int fun _ => .int i
theorem me_bl {b : Bool} {j : Nat} {pos : Pos} : ME M X W (.Constant (.bool b) j pos) (dC (.bl b)) := me_c pe_bl fun _ => .bl b
theorem me_non {j : Nat} {pos : Pos} : ME M X W (.Constant .none j pos) (dC .non) := me_c pe_non fun _ => .non
theorem me_str {x : Str} {j : Nat} {pos : Pos} : ME M X W (.Constant (.str x) j pos) (dC (.str x)) := me_c pe_str fun _ => .str x
theorem me_glob {x : Str} {v : V} {d : D} {u : Value} {pos : Pos} (hg : Gl X x) (hm : X.mg x = some u) (r : RelV v u) (hd : ∀ g, DV M g d v) (hdb : (x == ("__debug__" : Str)) = false := by decide) : ME M X W (.Name x pos) (dC d) :=
  me_c (pe_glob hg hm r hdb) hd

/-! ### two operands -/
abbrev F2 := D → D → Sto → Rs D
def d2 (op : F2) (fa fb : Fe) : Fe := fun ρ S => (fa ρ S).bind fun x S1 => (fb ρ S1).bind fun y S2 => op x y S2
/-- an operation by values is told by op -/
def Op2 (M : Md) (r : R2) (op : F2) : Prop := ∀ (g : Wd) (x y : D) (v u : V) (Q : VK) (E : Xn → Wd → Prop), Rep M g → DV M g x v → DV M g y u → Aft M g (op x y g.S) (PD M Q) E → r v u g.H Q
theorem two {fa fb : Fe} {op : F2} {r : R2} (h : Op2 M r op) {σ : L2.St} {H : Hp} {Q : VK} (q : tE M W (d2 op fa fb) σ H Q) : tOp r (tE M W fa) (tE M W fb) σ H Q := by
  obtain ⟨g, ρ, rfl, rp, en, q⟩ := q
  have q := Aft.bind (k := fun x S1 => (fb ρ S1).bind fun y S2 => op x y S2) q
  refine tE.go rp en (q.mono (fun x g1 k1 r1 q1 v hv => ?_) fun _ _ _ _ z => z)
  have q1 := Aft.bind (k := fun y S2 => op x y S2) q1
  refine tE.go r1 (en.mono rp k1) (q1.mono (fun y g2 k2 r2 q2 u hu => ?_) fun _ _ _ _ z => z)
  exact h g2 x y v u Q _ r2 (hv.mono r1 k2) hu q2
theorem me_bin {a b : Expr} {op : Operator} {pos : Pos} {r : R2} {f : F2} {fa fb : Fe} (ho : OpR X (binaryOp op) r) (h : Op2 M r f) (ha : ME M X W a fa) (hb : ME M X W b fb) : ME M X W (.BinOp a op b pos) (d2 f fa fb) :=
  PE.imp (pe_op ho ha hb) fun _ _ _ q => two h q
theorem me_cmp {a b : Expr} {op : CmpOp} {pos : Pos} {r : R2} {f : F2} {fa fb : Fe} (ho : OpR X (compareOp op) r) (h : Op2 M r f) (ha : ME M X W a fa) (hb : ME M X W b fb) (hm : behindInMarks op b = false) : ME M X W (.Compare a [op] [b] pos) (d2 f fa fb) :=
  PE.imp (pe_cmpR ho ha hb hm) fun _ _ _ q => two h q
theorem me_ix {a b : Expr} {pos : Pos} {r : R2} {f : F2} {fa fb : Fe} (ho : IxR X r) (h : Op2 M r f) (ha : ME M X W a fa) (hb : ME M X W b fb) (hs : PlainIx b) : ME M X W (.Subscript a b pos) (d2 f fa fb) :=
  PE.imp (pe_ix ho ha hb hs) fun _ _ _ q => two h q
end
end MP
set_option Elab.async false
set_option linter.all false
set_option maxRecDepth 100000
set_option maxHeartbeats 4000000
/-! Operators by values. -/
namespace MP
open PySem PySem.Spec PyProof.Rows L2

section
variable {M : Md} {g : Wd}
theorem DV.tupI {ds : List D} {v : V} (h : DV M g (.tup ds) v) : ∃ a xs, v = .ref a ∧ SqT M.K g.H a xs ∧ DVs M g ds xs := by
  cases h with
  | tup h1 h2 => exact ⟨_, _, rfl, h1, h2⟩
theorem DV.refI {n : Nat} {v : V} (h : DV M g (.ref n) v) : v = .ref (g.μ n) ∧ n < g.S.length := by
  cases h with
  | ref h => exact ⟨rfl, h⟩
theorem DV.intI {i : Int} {v : V} (h : DV M g (.int i) v) : v = .int i := by cases h; rfl
theorem DV.blI {i : Bool} {v : V} (h : DV M g (.bl i) v) : v = .bl i := by cases h; rfl
theorem DV.strI {i : Str} {v : V} (h : DV M g (.str i) v) : v = .str i := by cases h; rfl
theorem Rep.lst (r : Rep M g) {n : Nat} {ds : List D} (h : g.S[n]? = some (.lst ds)) : ∃ xs, g.H (g.μ n) = some (.lst xs) ∧ DVs M g ds xs := r.obj n _ h
/-- a new list -/
theorem new_lst {ds : List D} {P : D → Wd → Prop} {E : Xn → Wd → Prop} (r : Rep M g) (h : Aft M g (.ok (.ref g.S.length) (g.S ++ [.lst ds])) P E) {xs : List V} {p : Addr} (hp : g.H p = none) (hx : DVs M g ds xs) :
    P (.ref g.S.length) (g.new p (.lst ds) (.lst xs)) :=
  h _ rfl (Gr.new hp) (r.new hp ⟨xs, upd_same, hx.mono r (Gr.new hp)⟩)
theorem new_tup {ds : List D} {P : D → Wd → Prop} {E : Xn → Wd → Prop} (r : Rep M g) (h : Aft M g (.ok (.tup ds) g.S) P E) {p : Addr} {o : HO} (hp : g.H p = none) : P (.tup ds) ⟨g.μ, g.S, upd g.H p o⟩ :=
  h _ rfl (Gr.laid hp) (r.laid hp)
theorem dv_new {ds : List D} {xs : List V} (r : Rep M g) {p : Addr} (hp : g.H p = none) (hx : DVs M g ds xs) : DV M ⟨g.μ, g.S, upd g.H p (.tup xs)⟩ (.tup ds) (.ref p) :=
  .tup (.inl (.inl upd_same)) (hx.mono r (Gr.laid hp))
/-- a list is written -/
theorem put_lst {α : Type} {a : α} {n : Nat} {ds ds' : List D} {P : α → Wd → Prop} {E : Xn → Wd → Prop} (r : Rep M g) (hn : g.S[n]? = some (.lst ds)) (h : Aft M g (.ok a (g.S.set n (.lst ds'))) P E) {xs' : List V} (hx : DVs M g ds' xs') :
    P a (g.put n (.lst ds') (.lst xs')) := by
  have hl : n < g.S.length := (List.getElem?_eq_some_iff.mp hn).1
  exact h _ rfl (Gr.put hl) (r.put hl ⟨xs', upd_same, hx.mono r (Gr.put hl)⟩)
end

/-! ### + -/
def dAdd : F2 := fun x y S => match x, y with
  | .int i, .int j => .ok (.int (i + j)) S
  | .str a, .str b => if a.length + b.length ≤ sizeLine then .ok (.str (a ++ b)) S else .stuck
  | .tup a, .tup b => if a.length + b.length ≤ sizeLine then .ok (.tup (a ++ b)) S else .stuck
  | .ref a, .ref b => match S[a]?, S[b]? with
    | some (.lst ds), some (.lst es) => if ds.length + es.length ≤ sizeLine then .ok (.ref S.length) (S ++ [.lst (ds ++ es)]) else .stuck
    | _, _ => .stuck
  | _, _ => .stuck
def rAddA (K : PySem.W.Frag) : R2 := fun x y H Q => (∃ i j, x = .int i ∧ y = .int j ∧ Q (.int (i + j)) H) ∨ ((∃ i j, x = .str i ∧ y = .str j ∧ i.length + j.length ≤ sizeLine ∧ Q (.str (i ++ j)) H) ∨ (rCatA K x y H Q ∨ rCat x y H Q))
theorem op_addA {X : Cx} : OpR X (binaryOp .Add) (rAddA X.K) := op_add.or (op_add_str.or (op_catA.or op_cat))
theorem o2_add {M : Md} : Op2 M (rAddA M.K) dAdd := by
  intro g x y v u Q E r hx hy h
  unfold dAdd at h
  split at h
  · rw [hx.intI, hy.intI]
    exact .inl ⟨_, _, rfl, rfl, h.here r _ (.int _)⟩
  · split at h
    · rename_i hz
      rw [hx.strI, hy.strI]
      exact .inr (.inl ⟨_, _, rfl, rfl, hz, h.here r _ (.str _)⟩)
    · exact h.elim
  · split at h
    · rename_i ds es hz
      obtain ⟨a, xs, rfl, ha, hxs⟩ := hx.tupI
      obtain ⟨b, ys, rfl, hb, hys⟩ := hy.tupI
      refine .inr (.inr (.inl ⟨a, b, xs, ys, rfl, rfl, ha, hb, by rw [← hxs.length, ← hys.length]; exact hz, fun e => ?_, fun _ e => ?_, fun _ _ p hp => ?_⟩))
      · subst e
        cases hxs
        exact h.here r _ hy
      · subst e
        cases hys
        have q := h.here r
        rw [List.append_nil] at q
        exact q _ hx
      · exact new_tup r h hp _ (dv_new r hp (hxs.append hys))
    · exact h.elim
  · split at h
    · rename_i a b _ _ ds es ha hb
      split at h
      · rename_i hz
        obtain ⟨rfl, _⟩ := hx.refI
        obtain ⟨rfl, _⟩ := hy.refI
        obtain ⟨xs, h1, hxs⟩ := r.lst ha
        obtain ⟨ys, h2, hys⟩ := r.lst hb
        refine .inr (.inr (.inr ⟨_, _, xs, ys, rfl, rfl, h1, h2, by rw [← hxs.length, ← hys.length]; exact hz, fun p hp => ?_⟩))
        exact new_lst r h hp (hxs.append hys) _ .newRef
      · exact h.elim
    · exact h.elim
  · exact h.elim

/-! ### - -/
def dSub : F2 := fun x y S => match x, y with
  | .int i, .int j => .ok (.int (i - j)) S
  | _, _ => .stuck
theorem o2_sub {M : Md} : Op2 M (rI0 fun i j => .int (i - j)) dSub := by
  intro g x y v u Q E r hx hy h
  unfold dSub at h
  split at h
  · rw [hx.intI, hy.intI]
    exact ⟨_, _, rfl, rfl, h.here r _ (.int _)⟩
  · exact h.elim

/-! ### * -/
def szMul (i j : Int) : Bool := decide (i.natAbs.log2 + j.natAbs.log2 < 100000000)
theorem szMul.ok {i j : Int} (h : szMul i j = true) : IntMulOk i j := by
  have h3 : i.natAbs.log2 + j.natAbs.log2 < 100000000 := of_decide_eq_true h
  have b : ∀ x : Int, Builtin.Int.intBits x ≤ x.natAbs.log2 + 1 := fun x => by
    unfold Builtin.Int.intBits
    split <;> omega
  have h1 := b i
  have h2 := b j
  have e : bitsLine = 134217728 := by decide
  unfold IntMulOk
  intro z
  rw [Bool.and_eq_true] at z
  have z2 := z.2
  unfold Builtin.Int.intTooBig at z2
  have z3 := of_decide_eq_true z2
  rw [e] at z3
  omega
theorem op_mulD {X : Cx} : OpR X (binaryOp .Mult) (rI (fun i j => szMul i j = true) fun i j => .int (i * j)) := opI fun _ _ _ _ _ _ _ hc q => mul_int q (szMul.ok hc)
def dMul : F2 := fun x y S => match x, y with
  | .int i, .int j => if szMul i j = true then .ok (.int (i * j)) S else .stuck
  | .ref a, .int k => match S[a]? with
    | some (.lst ds) => if -(2 ^ 63) ≤ k ∧ k < 2 ^ 63 ∧ ds.length * k.toNat ≤ sizeLine then .ok (.ref S.length) (S ++ [.lst (List.replicate k.toNat ds).flatten]) else .stuck
    | _ => .stuck
  | .tup ds, .int k => if ds ≠ [] ∧ 2 ≤ k ∧ k ≤ 1000 ∧ ds.length ≤ 1000 then .ok (.tup (List.replicate k.toNat ds).flatten) S else .stuck
  | _, _ => .stuck
def rMulA (K : PySem.W.Frag) : R2 := fun x y H Q => rI (fun i j => szMul i j = true) (fun i j => .int (i * j)) x y H Q ∨ (rRep x y H Q ∨ rRepT K x y H Q)
theorem op_mulA {X : Cx} : OpR X (binaryOp .Mult) (rMulA X.K) := op_mulD.or (op_rep.or op_repT)
theorem o2_mul {M : Md} : Op2 M (rMulA M.K) dMul := by
  intro g x y v u Q E r hx hy h
  unfold dMul at h
  split at h
  · split at h
    · rename_i hz
      rw [hx.intI, hy.intI]
      exact .inl ⟨_, _, rfl, rfl, hz, h.here r _ (.int _)⟩
    · exact h.elim
  · split at h
    · rename_i ds ha
      split at h
      · rename_i hz
        obtain ⟨rfl, _⟩ := hx.refI
        rw [hy.intI]
        obtain ⟨xs, h1, hxs⟩ := r.lst ha
        refine .inr (.inl ⟨_, _, xs, rfl, rfl, h1, hz.1, hz.2.1, by rw [← hxs.length]; exact hz.2.2, fun p hp => ?_⟩)
        exact new_lst r h hp (hxs.rep _) _ .newRef
      · exact h.elim
    · exact h.elim
  · split at h
    · rename_i ds k hz
      obtain ⟨a, xs, rfl, ha, hxs⟩ := hx.tupI
      rw [hy.intI]
      refine .inr (.inr ⟨a, _, xs, rfl, rfl, ha, fun e => hz.1 (by subst e; cases hxs; rfl), hz.2.1, hz.2.2.1, by rw [← hxs.length]; exact hz.2.2.2, fun p hp => ?_⟩)
      exact new_tup r h hp _ (dv_new r hp (hxs.rep _))
    · exact h.elim
  · exact h.elim

/-! ### // % ** -/
def szDiv (j : Int) : Bool := decide (j ≠ 0) && decide (j.natAbs.log2 < 9000)
theorem op_fdivD {X : Cx} : OpR X (binaryOp .FloorDiv) (rI (fun _ j => szDiv j = true) fun i j => .int (i.fdiv j)) := opI fun i j _ _ _ _ _ hc q => by
  have h := Bool.and_eq_true_iff.mp hc
  exact floordiv_int (of_decide_eq_true h.1) q (.inl (PyProof.noPylong_of_log2 (of_decide_eq_true h.2)))
def dFdiv : F2 := fun x y S => match x, y with
  | .int i, .int j => if szDiv j = true then .ok (.int (i.fdiv j)) S else .stuck
  | _, _ => .stuck
theorem o2_fdiv {M : Md} : Op2 M (rI (fun _ j => szDiv j = true) fun i j => .int (i.fdiv j)) dFdiv := by
  intro g x y v u Q E r hx hy h
  unfold dFdiv at h
  split at h
  · split at h
    · rename_i hz
      rw [hx.intI, hy.intI]
      exact ⟨_, _, rfl, rfl, hz, h.here r _ (.int _)⟩
    · exact h.elim
  · exact h.elim
def dMod : F2 := fun x y S => match x, y with
  | .int i, .int j => if j = 0 then .stuck else .ok (.int (i.fmod j)) S
  | _, _ => .stuck
theorem o2_mod {M : Md} : Op2 M (rI (fun _ j => j ≠ 0) fun i j => .int (i.fmod j)) dMod := by
  intro g x y v u Q E r hx hy h
  unfold dMod at h
  split at h
  · split at h
    · exact h.elim
    · rename_i hz
      rw [hx.intI, hy.intI]
      exact ⟨_, _, rfl, rfl, hz, h.here r _ (.int _)⟩
  · exact h.elim
def dPow : F2 := fun x y S => match x, y with
  | .int i, .int j => if 0 ≤ j ∧ j ≤ 1000000 ∧ i.natAbs < 2 ^ 64 then .ok (.int (i ^ j.toNat)) S else .stuck
  | _, _ => .stuck
theorem o2_pow {M : Md} : Op2 M (rI CPow fun i j => .int (i ^ j.toNat)) dPow := by
  intro g x y v u Q E r hx hy h
  unfold dPow at h
  split at h
  · split at h
    · rename_i hz
      rw [hx.intI, hy.intI]
      exact ⟨_, _, rfl, rfl, hz, h.here r _ (.int _)⟩
    · exact h.elim
  · exact h.elim

/-! ### orders of ints -/
def dIB (p : Int → Int → Bool) : F2 := fun x y S => match x, y with
  | .int i, .int j => .ok (.bl (p i j)) S
  | _, _ => .stuck
theorem o2_ib {M : Md} {p : Int → Int → Bool} : Op2 M (rI0 fun i j => .bl (p i j)) (dIB p) := by
  intro g x y v u Q E r hx hy h
  unfold dIB at h
  split at h
  · rw [hx.intI, hy.intI]
    exact ⟨_, _, rfl, rfl, h.here r _ (.bl _)⟩
  · exact h.elim
/-- orders that are stuck at once at what is not known -/
def ltI : Int → Int → Bool
  | .ofNat a, .ofNat b => Nat.ble (a + 1) b
  | .ofNat _, .negSucc _ => false
  | .negSucc _, .ofNat _ => true
  | .negSucc a, .negSucc b => Nat.ble (b + 1) a
def leI (i j : Int) : Bool := !ltI j i
@[simp] theorem ltI_eq (i j : Int) : ltI i j = decide (i < j) := by
  rw [Bool.eq_iff_iff, decide_eq_true_eq]
  match i, j with
  | .ofNat a, .ofNat b =>
    show Nat.ble (a + 1) b = true ↔ _
    rw [Nat.ble_eq]
    show a + 1 ≤ b ↔ (a : Int) < (b : Int)
    omega
  | .ofNat a, .negSucc b =>
    show false = true ↔ _
    constructor
    · intro h; cases h
    · intro h
      have : Int.ofNat a < Int.negSucc b := h
      have h1 : (0 : Int) ≤ Int.ofNat a := Int.natCast_nonneg a
      have h2 : Int.negSucc b < 0 := Int.negSucc_lt_zero b
      omega
  | .negSucc a, .ofNat b =>
    show true = true ↔ _
    have h1 : (0 : Int) ≤ Int.ofNat b := Int.natCast_nonneg b
    have h2 : Int.negSucc a < 0 := Int.negSucc_lt_zero a
    constructor
    · intro _; omega
    · intro _; rfl
  | .negSucc a, .negSucc b =>
    show Nat.ble (b + 1) a = true ↔ _
    rw [Nat.ble_eq, Int.negSucc_eq, Int.negSucc_eq]
    omega
@[simp] theorem leI_eq (i j : Int) : leI i j = decide (i ≤ j) := by
  unfold leI
  rw [ltI_eq, Bool.eq_iff_iff]
  simp
abbrev dLt : F2 := dIB ltI
abbrev dLe : F2 := dIB leI
abbrev dGt : F2 := dIB fun i j => ltI j i
abbrev dGe : F2 := dIB fun i j => leI j i
theorem o2_lt {M : Md} : Op2 M (rI0 fun i j => .bl (decide (i < j))) dLt := by
  have e := o2_ib (M := M) (p := ltI)
  simp only [ltI_eq] at e
  exact e
theorem o2_le {M : Md} : Op2 M (rI0 fun i j => .bl (decide (i ≤ j))) dLe := by
  have e := o2_ib (M := M) (p := leI)
  simp only [leI_eq] at e
  exact e
theorem o2_gt {M : Md} : Op2 M (rI0 fun i j => .bl (decide (j < i))) dGt := by
  have e := o2_ib (M := M) (p := fun i j => ltI j i)
  have e2 : (fun i j : Int => decide (j < i)) = fun i j => ltI j i := by funext i j; rw [ltI_eq]
  have e3 : (rI0 fun i j => .bl (decide (j < i))) = rI0 fun i j => .bl (ltI j i) := by simp only [ltI_eq]
  rw [e3]
  exact e
theorem o2_ge {M : Md} : Op2 M (rI0 fun i j => .bl (decide (j ≤ i))) dGe := by
  have e := o2_ib (M := M) (p := fun i j => leI j i)
  have e3 : (rI0 fun i j => .bl (decide (j ≤ i))) = rI0 fun i j => .bl (leI j i) := by simp only [leI_eq]
  rw [e3]
  exact e

/-! ### == of data -/
def toPyL (f : D → Option PyData) : List D → Option (List PyData)
  | [] => some []
  | d :: ds => match f d, toPyL f ds with
    | some a, some as => some (a :: as)
    | _, _ => none
def toPy : Nat → Sto → D → Option PyData
  | 0, _, _ => none
  | n + 1, S, d => match d with
    | .non => some .none
    | .bl b => some (.bool b)
    | .int i => some (.int i)
    | .str x => some (.str x)
    | .tup ds => (toPyL (toPy n S) ds).map .tuple
    | .fl ds => (toPyL (toPy n S) ds).map .list
    | .ref k => match S[k]? with
      | some (.lst ds) => (toPyL (toPy n S) ds).map .list
      | _ => none
    | .fn _ => none
theorem FzL.sql {K : PySem.W.Frag} {H : Hp} {a : Addr} {xs : List V} (h : FzL K H a xs) : SqL K H a xs := by
  rcases h with ⟨o, h⟩ | h
  · exact .inl (.inr ⟨o, h⟩)
  · exact .inr h
theorem toPyL_dp {M : Md} {g : Wd} {f : D → Option PyData} (hf : ∀ d v p, DV M g d v → f d = some p → Dp M.K g.H v p) : ∀ {ds : List D} {vs : List V} {ps : List PyData}, DVs M g ds vs → toPyL f ds = some ps → DpAll M.K g.H vs ps
  | [], _, _, h, e => by
    cases h
    cases (show some [] = some _ from e)
    exact .nil
  | d :: ds, _, _, h, e => by
    cases h with
    | cons h1 h2 =>
      unfold toPyL at e
      split at e
      · rename_i a as e1 e2
        cases e
        exact .cons (hf _ _ _ h1 e1) (toPyL_dp hf h2 e2)
      · cases e
theorem toPy_dp {M : Md} {g : Wd} (r : Rep M g) : ∀ (n : Nat) {d : D} {v : V} {p : PyData}, DV M g d v → toPy n g.S d = some p → Dp M.K g.H v p
  | 0, _, _, _, _, e => by cases e
  | n + 1, d, v, p, h, e => by
    have ih : ∀ d v p, DV M g d v → toPy n g.S d = some p → Dp M.K g.H v p := fun d v p => toPy_dp r n
    unfold toPy at e
    cases h with
    | non => cases e; exact .non
    | bl b => cases e; exact .bl b
    | int i => cases e; exact .int i
    | str x => cases e; exact .str x
    | tup h1 h2 =>
      simp only [Option.map_eq_some_iff] at e
      obtain ⟨ps, e1, rfl⟩ := e
      exact .tup h1 (toPyL_dp ih h2 e1)
    | fl h1 h2 =>
      simp only [Option.map_eq_some_iff] at e
      obtain ⟨ps, e1, rfl⟩ := e
      exact .lst h1.sql (toPyL_dp ih h2 e1)
    | ref h1 =>
      simp only at e
      split at e
      · rename_i ds hk
        simp only [Option.map_eq_some_iff] at e
        obtain ⟨ps, e1, rfl⟩ := e
        obtain ⟨xs, hx, hxs⟩ := r.lst hk
        exact .lst (.inl (.inl hx)) (toPyL_dp ih hxs e1)
      · cases e
    | fn i => cases e
def dEqB (neg : Bool) : F2 := fun x y S => match toPy 60 S x, toPy 60 S y with
  | some a, some b => if SeqAt.shaped a && SeqAt.shaped b then .ok (.bl (if neg then !PyData.eqv a b else PyData.eqv a b)) S else .stuck
  | _, _ => .stuck
abbrev dEq : F2 := dEqB false
abbrev dNe : F2 := dEqB true
theorem o2_eq {M : Md} : Op2 M (rEqD M.K) dEq := by
  intro g x y v u Q E r hx hy h
  unfold dEq dEqB at h
  split at h
  · rename_i a b ea eb
    split at h
    · rename_i hz
      rw [Bool.and_eq_true] at hz
      exact ⟨a, b, toPy_dp r _ hx ea, toPy_dp r _ hy eb, hz.1, hz.2, h.here r _ (.bl _)⟩
    · exact h.elim
  · exact h.elim
theorem o2_ne {M : Md} : Op2 M (rNeD M.K) dNe := by
  intro g x y v u Q E r hx hy h
  unfold dNe dEqB at h
  split at h
  · rename_i a b ea eb
    split at h
    · rename_i hz
      rw [Bool.and_eq_true] at hz
      exact ⟨a, b, toPy_dp r _ hx ea, toPy_dp r _ hy eb, hz.1, hz.2, h.here r _ (.bl _)⟩
    · exact h.elim
  · exact h.elim

/-! ### x in xs -/
def rInTD (K : PySem.W.Frag) (neg : Bool) : R2 := fun x y H Q => ∃ d ds, Dp K H x d ∧ Dp K H y (.tuple ds) ∧ SeqAt.shaped d = true ∧ SeqAt.shaped (.tuple ds) = true ∧ Q (.bl (if neg then !(ds.any fun z => PyData.eqv z d) else ds.any fun z => PyData.eqv z d)) H
theorem op_inTD {X : Cx} (hu : X.A.units + 65 < cLine) : OpR X (compareOp .In) (rInTD X.K false) := by
  intro pins s σ H x y v u Q I rx ry h
  obtain ⟨d, ds, hd, he, sd, se, q⟩ := h
  obtain ⟨as, r1⟩ := Dp.reads I d x v hd rx
  obtain ⟨bs, r2⟩ := Dp.reads I (.tuple ds) y u he ry
  exact SeqAt.in_tuple_reads r2 r1 (SeqAt.canLay_of_shaped se) (SeqAt.canLay_of_shaped sd) (room_in_shaped sd hu) ⟨.bl _, H, I, rfl, q⟩
theorem op_notInTD {X : Cx} (hu : X.A.units + 65 < cLine) : OpR X (compareOp .NotIn) (rInTD X.K true) := by
  intro pins s σ H x y v u Q I rx ry h
  obtain ⟨d, ds, hd, he, sd, se, q⟩ := h
  obtain ⟨as, r1⟩ := Dp.reads I d x v hd rx
  obtain ⟨bs, r2⟩ := Dp.reads I (.tuple ds) y u he ry
  exact SeqAt.notIn_tuple_reads r2 r1 (SeqAt.canLay_of_shaped se) (SeqAt.canLay_of_shaped sd) (room_in_shaped sd hu) ⟨.bl _, H, I, rfl, q⟩
def dInB (neg : Bool) : F2 := fun x y S => match toPy 60 S x, toPy 60 S y with
  | some a, some (.tuple ds) => if SeqAt.shaped a && SeqAt.shaped (.tuple ds) then .ok (.bl (if neg then !(ds.any fun z => PyData.eqv z a) else ds.any fun z => PyData.eqv z a)) S else .stuck
  | some a, some (.list ds) => if SeqAt.shaped a && SeqAt.shaped (.list ds) then .ok (.bl (if neg then !(ds.any fun z => PyData.eqv z a) else ds.any fun z => PyData.eqv z a)) S else .stuck
  | _, _ => .stuck
abbrev dIn : F2 := dInB false
abbrev dNotIn : F2 := dInB true
def rInA (K : PySem.W.Frag) : R2 := fun x y H Q => rInTD K false x y H Q ∨ rInD K x y H Q
def rNotInA (K : PySem.W.Frag) : R2 := fun x y H Q => rInTD K true x y H Q ∨ rNotInD K x y H Q
theorem op_inA {X : Cx} (hu : X.A.units + 65 < cLine) : OpR X (compareOp .In) (rInA X.K) := (op_inTD hu).or (op_inD hu)
theorem op_notInA {X : Cx} (hu : X.A.units + 65 < cLine) : OpR X (compareOp .NotIn) (rNotInA X.K) := (op_notInTD hu).or (op_notInD hu)
theorem o2_in {M : Md} : Op2 M (rInA M.K) dIn := by
  intro g x y v u Q E r hx hy h
  unfold dIn dInB at h
  split at h
  · rename_i a ds ea eb
    split at h
    · rename_i hz
      rw [Bool.and_eq_true] at hz
      exact .inl ⟨a, ds, toPy_dp r _ hx ea, toPy_dp r _ hy eb, hz.1, hz.2, h.here r _ (.bl _)⟩
    · exact h.elim
  · rename_i a ds ea eb
    split at h
    · rename_i hz
      rw [Bool.and_eq_true] at hz
      exact .inr ⟨a, ds, toPy_dp r _ hx ea, toPy_dp r _ hy eb, hz.1, hz.2, h.here r _ (.bl _)⟩
    · exact h.elim
  · exact h.elim
theorem o2_notIn {M : Md} : Op2 M (rNotInA M.K) dNotIn := by
  intro g x y v u Q E r hx hy h
  unfold dNotIn dInB at h
  split at h
  · rename_i a ds ea eb
    split at h
    · rename_i hz
      rw [Bool.and_eq_true] at hz
      exact .inl ⟨a, ds, toPy_dp r _ hx ea, toPy_dp r _ hy eb, hz.1, hz.2, h.here r _ (.bl _)⟩
    · exact h.elim
  · rename_i a ds ea eb
    split at h
    · rename_i hz
      rw [Bool.and_eq_true] at hz
      exact .inr ⟨a, ds, toPy_dp r _ hx ea, toPy_dp r _ hy eb, hz.1, hz.2, h.here r _ (.bl _)⟩
    · exact h.elim
  · exact h.elim

/-! ### items, slices -/
def dAt : F2 := fun x y S => match x, y with
  | .tup ds, .int i => match atI ds i with
    | some d => .ok d S
    | none => .stuck
  | .fl ds, .int i => match atI ds i with
    | some d => .ok d S
    | none => .stuck
  | .ref a, .int i => match S[a]? with
    | some (.lst ds) => match atI ds i with
      | some d => .ok d S
      | none => .stuck
    | _ => .stuck
  | _, _ => .stuck
theorem atI_dv {M : Md} {g : Wd} {ds : List D} {vs : List V} {i : Int} {d : D} (h : DVs M g ds vs) (e : atI ds i = some d) : ∃ v, atI vs i = some v ∧ DV M g d v := by
  unfold atI at e ⊢
  rw [← h.length]
  cases q : ixN ds.length i with
  | none => rw [q] at e; cases e
  | some j =>
    rw [q] at e
    exact h.get (show ds[j]? = some d from e)
theorem o2_at {M : Md} : Op2 M (rIx M.K) dAt := by
  intro g x y v u Q E r hx hy h
  unfold dAt at h
  split at h
  · split at h
    · rename_i d e
      obtain ⟨a, xs, rfl, ha, hxs⟩ := hx.tupI
      obtain ⟨w, h1, h2⟩ := atI_dv hxs e
      rw [hy.intI]
      exact .inr (.inl ⟨a, xs, _, w, rfl, rfl, ha, h1, h.here r _ h2⟩)
    · exact h.elim
  · split at h
    · rename_i d e
      cases hx with
      | fl ha hxs =>
        obtain ⟨w, h1, h2⟩ := atI_dv hxs e
        rw [hy.intI]
        exact .inl ⟨_, _, _, w, rfl, rfl, ha.sql, h1, h.here r _ h2⟩
    · exact h.elim
  · split at h
    · rename_i ds hk
      split at h
      · rename_i d e
        obtain ⟨rfl, _⟩ := hx.refI
        obtain ⟨xs, ha, hxs⟩ := r.lst hk
        obtain ⟨w, h1, h2⟩ := atI_dv hxs e
        rw [hy.intI]
        exact .inl ⟨_, _, _, w, rfl, rfl, .inl (.inl ha), h1, h.here r _ h2⟩
      · exact h.elim
    · exact h.elim
  · exact h.elim
end MP
set_option Elab.async false
set_option linter.all false
set_option maxRecDepth 100000
set_option maxHeartbeats 4000000
/-! Tests, displays, slices, calls. -/
namespace MP
open PySem PySem.Spec PyProof.Rows L2

/-! ### tests -/
abbrev Ft := Rho → Sto → Rs Bool
def tT (M : Md) (W : WX) (f : Ft) : TT := fun σ H Q => ∃ g ρ, g.H = H ∧ Rep M g ∧ EnvOk M g ρ σ ∧ Aft M g (f ρ g.S) (fun b g' => Q b g'.H) (XD M W σ)
abbrev MT (M : Md) (X : Cx) (W : WX) (e : Expr) (f : Ft) : Prop := PT X e (tT M W f)
theorem tT.go {M : Md} {W : WX} {f : Ft} {σ : L2.St} {g : Wd} {ρ : Rho} {Q : Bool → Hp → Prop} (r : Rep M g) (e : EnvOk M g ρ σ) (h : Aft M g (f ρ g.S) (fun b g' => Q b g'.H) (XD M W σ)) : tT M W f σ g.H Q := ⟨g, ρ, rfl, r, e, h⟩
def asB : D → Sto → Rs Bool := fun d S => match d with
  | .bl b => .ok b S
  | _ => .stuck
/-- a value that is a truth value, as a test -/
def fB (f : Fe) : Ft := fun ρ S => (f ρ S).bind asB
def truD : D → Sto → Rs Bool := fun d S => match d with
  | .non => .ok false S
  | .bl b => .ok b S
  | .int i => .ok (i != 0) S
  | .str x => if x.length ≤ sizeLine then .ok ((x.length : Int) != 0) S else .stuck
  | .tup ds => .ok (!ds.isEmpty) S
  | .fl ds => .ok (!ds.isEmpty) S
  | .ref n => match S[n]? with
    | some (.lst ds) => .ok (!ds.isEmpty) S
    | some (.dk kvs) => .ok (!kvs.isEmpty) S
    | _ => .stuck
  | .fn _ => .stuck
/-- any value as a test -/
def fTru (f : Fe) : Ft := fun ρ S => (f ρ S).bind truD
theorem isEmpty_dvs {M : Md} {g : Wd} {ds : List D} {xs : List V} (h : DVs M g ds xs) : ds.isEmpty = xs.isEmpty := by
  cases h <;> rfl
section
variable {M : Md} {X : Cx} {W : WX}
theorem asB_q {g : Wd} {d : D} {v : V} {Q : Bool → Hp → Prop} {E : Xn → Wd → Prop} (r : Rep M g) (hv : DV M g d v) (h : Aft M g (asB d g.S) (fun b g' => Q b g'.H) E) : ∃ k, v = .bl k ∧ Q k g.H := by
  unfold asB at h
  split at h
  · exact ⟨_, hv.blI, h.here r⟩
  · exact h.elim
theorem fB_t {f : Fe} {σ : L2.St} {H : Hp} {Q : Bool → Hp → Prop} (q : tT M W (fB f) σ H Q) : tE M W f σ H fun x H1 => ∃ k, x = .bl k ∧ Q k H1 := by
  obtain ⟨g, ρ, rfl, rp, en, q⟩ := q
  have q := Aft.bind (k := asB) q
  exact tE.go rp en (q.mono (fun d g1 k1 r1 q1 v hv => asB_q r1 hv q1) fun _ _ _ _ z => z)
theorem mt_val {e : Expr} {f : Fe} (h : ME M X W e f) (he : ∀ whole, isTrue e X.env whole = (do let v ← whole; standAt e.pos; holding [v] (truthy v)) := by intro _; rfl) : MT M X W e (fB f) :=
  PT.imp (pt_val h he) fun _ _ _ q => fB_t q
theorem mt_cmp {a b : Expr} {op : CmpOp} {pos : Pos} {r : R2} {f : F2} {fa fb : Fe} (ho : OpR X (compareOp op) r) (h : Op2 M r f) (ha : ME M X W a fa) (hb : ME M X W b fb) (hm : behindInMarks op b = false) : MT M X W (.Compare a [op] [b] pos) (fB (d2 f fa fb)) :=
  PT.imp (pt_cmpR ho ha hb hm) fun _ _ _ q => two h (fB_t q)
theorem truD_q {g : Wd} {d : D} {v : V} {Q : Bool → Hp → Prop} {E : Xn → Wd → Prop} (r : Rep M g) (hv : DV M g d v) (h : Aft M g (truD d g.S) (fun b g' => Q b g'.H) E) : ∃ k, TruV M.K v g.H k ∧ Q k g.H := by
  unfold truD at h
  cases hv with
  | non => exact ⟨_, rfl, h.here r⟩
  | bl b => exact ⟨_, rfl, h.here r⟩
  | int i => exact ⟨_, rfl, h.here r⟩
  | str x =>
    simp only at h
    split at h
    · rename_i hz; exact ⟨_, ⟨hz, rfl⟩, h.here r⟩
    · exact h.elim
  | tup h1 h2 => exact ⟨_, .inr (.inl ⟨_, h1, rfl⟩), by rw [← isEmpty_dvs h2]; exact h.here r⟩
  | fl h1 h2 => exact ⟨_, .inl ⟨_, h1.sql, rfl⟩, by rw [← isEmpty_dvs h2]; exact h.here r⟩
  | ref hn =>
    simp only at h
    split at h
    · rename_i ds hk
      obtain ⟨xs, hx, hxs⟩ := r.lst hk
      exact ⟨_, .inl ⟨xs, .inl (.inl hx), rfl⟩, by rw [← isEmpty_dvs hxs]; exact h.here r⟩
    · rename_i kvs hk
      obtain ⟨ws, hx, hxs⟩ := r.obj _ _ hk
      refine ⟨_, .inr (.inr ⟨ws, hx, rfl⟩), ?_⟩
      have e : kvs.isEmpty = ws.isEmpty := by cases hxs <;> rfl
      rw [← e]; exact h.here r
    · exact h.elim
  | fn i => exact h.elim
theorem mt_tru (hK : X.K = M.K) {e : Expr} {f : Fe} (h : ME M X W e f) (he : ∀ whole, isTrue e X.env whole = (do let v ← whole; standAt e.pos; holding [v] (truthy v)) := by intro _; rfl) : MT M X W e (fTru f) :=
  PT.imp (pt_truth h he) fun σ H Q q => by
    obtain ⟨g, ρ, rfl, rp, en, q⟩ := q
    have q := Aft.bind (k := truD) q
    rw [hK]
    exact tE.go rp en (q.mono (fun d g1 k1 r1 q1 v hv => truD_q r1 hv q1) fun _ _ _ _ z => z)

/-! ### and, or, not -/
abbrev MW (M : Md) (X : Cx) (W : WX) (e : Expr) (f : Ft) : Prop := PW X e (tT M W f)
theorem PW.imp {e : Expr} {t t' : TT} (h : PW X e t) (i : ∀ σ H Q, t' σ H Q → t σ H Q) : PW X e t' := ⟨fun wh pins s σ H Q I h' => h.run wh pins s σ H Q I (i σ H Q h')⟩
def fAnd (a b : Ft) : Ft := fun ρ S => (a ρ S).bind fun c S1 => if c = true then b ρ S1 else .ok false S1
def fOr (a b : Ft) : Ft := fun ρ S => (a ρ S).bind fun c S1 => if c = true then .ok true S1 else b ρ S1
def fNot (a : Ft) : Ft := fun ρ S => (a ρ S).bind fun c S1 => .ok (!c) S1
theorem mw_and1 {a : Expr} {pos : Pos} {fa : Ft} (ha : MT M X W a fa) : MW M X W (.BoolOp .And [a] pos) fa := pw_and1 ha
theorem mw_or1 {a : Expr} {pos : Pos} {fa : Ft} (ha : MT M X W a fa) : MW M X W (.BoolOp .Or [a] pos) fa := pw_or1 ha
theorem mw_and {a b : Expr} {rest : List Expr} {pos : Pos} {fa fb : Ft} (ha : MT M X W a fa) (hb : MW M X W (.BoolOp .And (b :: rest) pos) fb) : MW M X W (.BoolOp .And (a :: b :: rest) pos) (fAnd fa fb) :=
  PW.imp (pw_and ha hb) fun σ H Q q => by
    obtain ⟨g, ρ, rfl, rp, en, q⟩ := q
    have q := Aft.bind (k := fun c S1 => if c = true then fb ρ S1 else .ok false S1) q
    refine tT.go rp en (q.mono (fun c g1 k1 r1 q1 => ?_) fun _ _ _ _ z => z)
    cases c with
    | true => exact iteT (tT.go r1 (en.mono rp k1) q1)
    | false => exact iteF (Aft.here r1 q1)
theorem mw_or {a b : Expr} {rest : List Expr} {pos : Pos} {fa fb : Ft} (ha : MT M X W a fa) (hb : MW M X W (.BoolOp .Or (b :: rest) pos) fb) : MW M X W (.BoolOp .Or (a :: b :: rest) pos) (fOr fa fb) :=
  PW.imp (pw_or ha hb) fun σ H Q q => by
    obtain ⟨g, ρ, rfl, rp, en, q⟩ := q
    have q := Aft.bind (k := fun c S1 => if c = true then .ok true S1 else fb ρ S1) q
    refine tT.go rp en (q.mono (fun c g1 k1 r1 q1 => ?_) fun _ _ _ _ z => z)
    cases c with
    | true => exact iteT (Aft.here r1 q1)
    | false => exact iteF (tT.go r1 (en.mono rp k1) q1)
theorem mt_not {a : Expr} {pos : Pos} {fa : Ft} (ha : MT M X W a fa) : MT M X W (.UnaryOp .Not a pos) (fNot fa) :=
  PT.imp (pt_not ha) fun σ H Q q => by
    obtain ⟨g, ρ, rfl, rp, en, q⟩ := q
    have q := Aft.bind (k := fun c S1 => .ok (!c) S1) q
    exact tT.go rp en (q.mono (fun c g1 k1 r1 q1 => Aft.here r1 q1) fun _ _ _ _ z => z)
/-- as values -/
def dAnd (a b : Fe) : Fe := fun ρ S => (a ρ S).bind fun d S1 => match d with
  | .bl true => b ρ S1
  | .bl false => .ok (.bl false) S1
  | _ => .stuck
def dOr (a b : Fe) : Fe := fun ρ S => (a ρ S).bind fun d S1 => match d with
  | .bl true => .ok (.bl true) S1
  | .bl false => b ρ S1
  | _ => .stuck
def dNot (a : Fe) : Fe := fun ρ S => (a ρ S).bind fun d S1 => match d with
  | .bl b => .ok (.bl (!b)) S1
  | _ => .stuck
theorem me_one {a : Expr} {op : BoolOp} {pos : Pos} {fa : Fe} (ha : ME M X W a fa) : ME M X W (.BoolOp op [a] pos) fa := pe_one ha
theorem me_and {a b : Expr} {rest : List Expr} {pos : Pos} {fa fb : Fe} (ha : ME M X W a fa) (hb : ME M X W (.BoolOp .And (b :: rest) pos) fb) : ME M X W (.BoolOp .And (a :: b :: rest) pos) (dAnd fa fb) :=
  PE.imp (pe_and ha hb) fun σ H Q q => by
    obtain ⟨g, ρ, rfl, rp, en, q⟩ := q
    have q := Aft.bind (β := D) (k := fun (d : D) S1 => match d with
      | .bl true => fb ρ S1
      | .bl false => .ok (.bl false) S1
      | _ => .stuck) q
    refine tE.go rp en (q.mono (fun d g1 k1 r1 q1 v hv => ?_) fun _ _ _ _ z => z)
    split at q1
    · exact ⟨true, hv.blI, iteT (tE.go r1 (en.mono rp k1) q1)⟩
    · exact ⟨false, hv.blI, iteF (Aft.here r1 q1 _ (.bl _))⟩
    · exact q1.elim
theorem me_or {a b : Expr} {rest : List Expr} {pos : Pos} {fa fb : Fe} (ha : ME M X W a fa) (hb : ME M X W (.BoolOp .Or (b :: rest) pos) fb) : ME M X W (.BoolOp .Or (a :: b :: rest) pos) (dOr fa fb) :=
  PE.imp (pe_or ha hb) fun σ H Q q => by
    obtain ⟨g, ρ, rfl, rp, en, q⟩ := q
    have q := Aft.bind (β := D) (k := fun (d : D) S1 => match d with
      | .bl true => .ok (.bl true) S1
      | .bl false => fb ρ S1
      | _ => .stuck) q
    refine tE.go rp en (q.mono (fun d g1 k1 r1 q1 v hv => ?_) fun _ _ _ _ z => z)
    split at q1
    · exact ⟨true, hv.blI, iteT (Aft.here r1 q1 _ (.bl _))⟩
    · exact ⟨false, hv.blI, iteF (tE.go r1 (en.mono rp k1) q1)⟩
    · exact q1.elim
theorem me_not {a : Expr} {pos : Pos} {fa : Fe} (ha : ME M X W a fa) : ME M X W (.UnaryOp .Not a pos) (dNot fa) :=
  PE.imp (pe_not ha) fun σ H Q q => by
    obtain ⟨g, ρ, rfl, rp, en, q⟩ := q
    have q := Aft.bind (β := D) (k := fun (d : D) S1 => match d with
      | .bl b => .ok (.bl (!b)) S1
      | _ => .stuck) q
    refine tE.go rp en (q.mono (fun d g1 k1 r1 q1 v hv => ?_) fun _ _ _ _ z => z)
    split at q1
    · exact ⟨_, hv.blI, Aft.here r1 q1 _ (.bl _)⟩
    · exact q1.elim
def dIf (c : Ft) (a b : Fe) : Fe := fun ρ S => (c ρ S).bind fun k S1 => if k = true then a ρ S1 else b ρ S1
theorem me_if {c a b : Expr} {pos : Pos} {fc : Ft} {fa fb : Fe} (hc : MT M X W c fc) (ha : ME M X W a fa) (hb : ME M X W b fb) : ME M X W (.IfExp c a b pos) (dIf fc fa fb) :=
  PE.imp (pe_ifExp hc ha hb) fun σ H Q q => by
    obtain ⟨g, ρ, rfl, rp, en, q⟩ := q
    have q := Aft.bind (k := fun k S1 => if k = true then fa ρ S1 else fb ρ S1) q
    refine tT.go rp en (q.mono (fun c g1 k1 r1 q1 => ?_) fun _ _ _ _ z => z)
    cases c with
    | true => exact iteT (tE.go r1 (en.mono rp k1) q1)
    | false => exact iteF (tE.go r1 (en.mono rp k1) q1)
def dNeg : Fe → Fe := fun a ρ S => (a ρ S).bind fun d S1 => match d with
  | .int i => .ok (.int (-i)) S1
  | _ => .stuck
theorem me_neg {a : Expr} {pos : Pos} {fa : Fe} (ha : ME M X W a fa) : ME M X W (.UnaryOp .USub a pos) (dNeg fa) :=
  PE.imp (pe_un un_neg ha) fun σ H Q q => by
    obtain ⟨g, ρ, rfl, rp, en, q⟩ := q
    have q := Aft.bind (β := D) (k := fun (d : D) S1 => match d with
      | .int i => .ok (.int (-i)) S1
      | _ => .stuck) q
    refine tE.go rp en (q.mono (fun d g1 k1 r1 q1 v hv => ?_) fun _ _ _ _ z => z)
    split at q1
    · exact ⟨_, hv.intI, Aft.here r1 q1 _ (.int _)⟩
    · exact q1.elim
/-- is None -/
def isNonD : D → Bool
  | .non => true
  | _ => false
theorem isNonD_v {g : Wd} {d : D} {v : V} (h : DV M g d v) : isNonD d = decide (v = .non) := by
  cases h <;> rfl
def dIsN (neg : Bool) (a : Fe) : Fe := fun ρ S => (a ρ S).bind fun d S1 => .ok (.bl (if neg then !isNonD d else isNonD d)) S1
theorem isn_t {a : Fe} {σ : L2.St} {H : Hp} {Q : VK} (q : tE M W (dIsN false a) σ H Q) : tIsN (tE M W a) σ H Q := by
  obtain ⟨g, ρ, rfl, rp, en, q⟩ := q
  have q := Aft.bind (β := D) (k := fun (d : D) S1 => .ok (.bl (if false then !isNonD d else isNonD d)) S1) q
  refine tE.go rp en (q.mono (fun d g1 k1 r1 q1 v hv => ?_) fun _ _ _ _ z => z)
  show Q (V.bl (decide (v = V.non))) g1.H
  rw [← isNonD_v hv]
  exact Aft.here r1 q1 _ (.bl _)
theorem isnt_t {a : Fe} {σ : L2.St} {H : Hp} {Q : VK} (q : tE M W (dIsN true a) σ H Q) : tNotN (tE M W a) σ H Q := by
  obtain ⟨g, ρ, rfl, rp, en, q⟩ := q
  have q := Aft.bind (β := D) (k := fun (d : D) S1 => .ok (.bl (if true then !isNonD d else isNonD d)) S1) q
  refine tE.go rp en (q.mono (fun d g1 k1 r1 q1 v hv => ?_) fun _ _ _ _ z => z)
  show Q (V.bl (!decide (v = V.non))) g1.H
  rw [← isNonD_v hv]
  exact Aft.here r1 q1 _ (.bl _)
theorem me_isn {a : Expr} {j : Nat} {pos pos' : Pos} {fa : Fe} (ha : ME M X W a fa) : ME M X W (.Compare a [.Is] [.Constant .none j pos'] pos) (dIsN false fa) := PE.imp (pe_cmp (pc_isN ha) rfl) fun _ _ _ q => isn_t q
theorem me_isnt {a : Expr} {j : Nat} {pos pos' : Pos} {fa : Fe} (ha : ME M X W a fa) : ME M X W (.Compare a [.IsNot] [.Constant .none j pos'] pos) (dIsN true fa) := PE.imp (pe_cmp (pc_notN ha) rfl) fun _ _ _ q => isnt_t q
theorem mt_isn {a : Expr} {j : Nat} {pos pos' : Pos} {fa : Fe} (ha : ME M X W a fa) : MT M X W (.Compare a [.Is] [.Constant .none j pos'] pos) (fB (dIsN false fa)) := PT.imp (pt_cmp (pc_isN ha) rfl) fun _ _ _ q => isn_t (fB_t q)
theorem mt_isnt {a : Expr} {j : Nat} {pos pos' : Pos} {fa : Fe} (ha : ME M X W a fa) : MT M X W (.Compare a [.IsNot] [.Constant .none j pos'] pos) (fB (dIsN true fa)) := PT.imp (pt_cmp (pc_notN ha) rfl) fun _ _ _ q => isnt_t (fB_t q)

/-! ### a op b op' c -/
def dChain (op op' : F2) (fa fb fc : Fe) : Fe := fun ρ S => (fa ρ S).bind fun x S1 => (fb ρ S1).bind fun y S2 => (op x y S2).bind fun z S3 => match z with
  | .bl true => (fc ρ S3).bind fun w S4 => op' y w S4
  | .bl false => .ok (.bl false) S3
  | _ => .stuck
theorem chain_t {fa fb fc : Fe} {op op' : F2} {r r' : R2} (h : Op2 M r op) (h' : Op2 M r' op') {σ : L2.St} {H : Hp} {Q : VK} (q : tE M W (dChain op op' fa fb fc) σ H Q) : tChain r r' (tE M W fa) (tE M W fb) (tE M W fc) σ H Q := by
  obtain ⟨g, ρ, rfl, rp, en, q⟩ := q
  have q := Aft.bind (k := fun x S1 => (fb ρ S1).bind fun y S2 => (op x y S2).bind fun z S3 => match z with
    | .bl true => (fc ρ S3).bind fun w S4 => op' y w S4
    | .bl false => .ok (.bl false) S3
    | _ => .stuck) q
  refine tE.go rp en (q.mono (fun x g1 k1 r1 q1 v hv => ?_) fun _ _ _ _ z => z)
  have q1 := Aft.bind (k := fun y S2 => (op x y S2).bind fun z S3 => match z with
    | .bl true => (fc ρ S3).bind fun w S4 => op' y w S4
    | .bl false => .ok (.bl false) S3
    | _ => .stuck) q1
  refine tE.go r1 (en.mono rp k1) (q1.mono (fun y g2 k2 r2 q2 u hu => ?_) fun _ _ _ _ z => z)
  have q2 := Aft.bind (β := D) (k := fun (z : D) S3 => match z with
    | .bl true => (fc ρ S3).bind fun w S4 => op' y w S4
    | .bl false => .ok (.bl false) S3
    | _ => .stuck) q2
  refine h g2 x y v u _ _ r2 (hv.mono r1 k2) hu (q2.mono (fun z g3 k3 r3 q3 zv hz => ?_) fun _ _ _ _ z => z)
  split at q3
  · refine ⟨true, hz.blI, iteT ?_⟩
    have q3 := Aft.bind (k := fun w S4 => op' y w S4) q3
    refine tE.go r3 (((en.mono rp k1).mono r1 k2).mono r2 k3) (q3.mono (fun w g4 k4 r4 q4 wv hw => ?_) fun _ _ _ _ z => z)
    exact h' g4 y w u wv _ _ r4 ((hu.mono r2 k3).mono r3 k4) hw q4
  · exact ⟨false, hz.blI, iteF (Aft.here r3 q3 _ (.bl _))⟩
  · exact q3.elim
theorem me_chain {a b c : Expr} {op op' : CmpOp} {pos : Pos} {r r' : R2} {f f' : F2} {fa fb fc : Fe} (ho : OpR X (compareOp op) r) (h : Op2 M r f) (ho' : OpR X (compareOp op') r') (h' : Op2 M r' f') (ha : ME M X W a fa) (hb : ME M X W b fb) (hc : ME M X W c fc)
    (hm : lastMarks [op, op'] [b, c] = false := by with_unfolding_all rfl) : ME M X W (.Compare a [op, op'] [b, c] pos) (dChain f f' fa fb fc) :=
  PE.imp (pe_chain ho ho' ha hb hc hm) fun _ _ _ q => chain_t h h' q
theorem mt_chain {a b c : Expr} {op op' : CmpOp} {pos : Pos} {r r' : R2} {f f' : F2} {fa fb fc : Fe} (ho : OpR X (compareOp op) r) (h : Op2 M r f) (ho' : OpR X (compareOp op') r') (h' : Op2 M r' f') (ha : ME M X W a fa) (hb : ME M X W b fb) (hc : ME M X W c fc)
    (hm : lastMarks [op, op'] [b, c] = false := by with_unfolding_all rfl) : MT M X W (.Compare a [op, op'] [b, c] pos) (fB (dChain f f' fa fb fc)) :=
  PT.imp (pt_chain ho ho' ha hb hc hm) fun _ _ _ q => chain_t h h' (fB_t q)

/-! ### lists of expressions, displays -/
abbrev Fs := Rho → Sto → Rs (List D)
abbrev PDs (M : Md) (Q : List V → Hp → Prop) : List D → Wd → Prop := fun ds g => ∀ vs, DVs M g ds vs → Q vs g.H
def tA (M : Md) (W : WX) (f : Fs) : TA := fun σ H Q => ∃ g ρ, g.H = H ∧ Rep M g ∧ EnvOk M g ρ σ ∧ Aft M g (f ρ g.S) (PDs M Q) (XD M W σ)
abbrev MA (M : Md) (X : Cx) (W : WX) (es : List Expr) (f : Fs) : Prop := PA X es (tA M W f)
theorem tA.go {f : Fs} {σ : L2.St} {g : Wd} {ρ : Rho} {Q : List V → Hp → Prop} (r : Rep M g) (e : EnvOk M g ρ σ) (h : Aft M g (f ρ g.S) (PDs M Q) (XD M W σ)) : tA M W f σ g.H Q := ⟨g, ρ, rfl, r, e, h⟩
def aNil : Fs := fun _ S => .ok [] S
def aCons (a : Fe) (r : Fs) : Fs := fun ρ S => (a ρ S).bind fun d S1 => (r ρ S1).bind fun ds S2 => .ok (d :: ds) S2
def itemsD : D → Sto → Option (List D) := fun d S => match d with
  | .tup ds => some ds
  | .fl ds => some ds
  | .ref n => match S[n]? with
    | some (.lst ds) => some ds
    | _ => none
  | _ => none
theorem itemsD_v {g : Wd} {d : D} {v : V} {ds : List D} (r : Rep M g) (h : DV M g d v) (e : itemsD d g.S = some ds) : ∃ a xs, v = .ref a ∧ (SqT M.K g.H a xs ∨ SqL M.K g.H a xs) ∧ DVs M g ds xs := by
  unfold itemsD at e
  cases h with
  | tup h1 h2 => cases e; exact ⟨_, _, rfl, .inl h1, h2⟩
  | fl h1 h2 => cases e; exact ⟨_, _, rfl, .inr h1.sql, h2⟩
  | ref hn =>
    simp only at e
    split at e
    · rename_i es hk
      cases e
      obtain ⟨xs, hx, hxs⟩ := r.lst hk
      exact ⟨_, xs, rfl, .inr (.inl (.inl hx)), hxs⟩
    · cases e
  | _ => cases e
def aStar (a : Fe) (r : Fs) : Fs := fun ρ S => (a ρ S).bind fun d S1 => match itemsD d S1 with
  | some es => (r ρ S1).bind fun ds S2 => .ok (es ++ ds) S2
  | none => .stuck
theorem ma_nil : MA M X W [] aNil := PA.imp pa_nil fun σ H Q q => by
  obtain ⟨g, ρ, rfl, rp, en, q⟩ := q
  exact Aft.here rp q _ .nil
theorem ma_cons {e : Expr} {es : List Expr} {fa : Fe} {fr : Fs} (ha : ME M X W e fa) (hr : MA M X W es fr) (hs : starEach (e :: es) X.env = (false, eval e X.env) :: starEach es X.env := by rfl) : MA M X W (e :: es) (aCons fa fr) :=
  PA.imp (pa_cons ha hr hs) fun σ H Q q => by
    obtain ⟨g, ρ, rfl, rp, en, q⟩ := q
    have q := Aft.bind (k := fun d S1 => (fr ρ S1).bind fun ds S2 => .ok (d :: ds) S2) q
    refine tE.go rp en (q.mono (fun x g1 k1 r1 q1 v hv => ?_) fun _ _ _ _ z => z)
    have q1 := Aft.bind (k := fun ds S2 => .ok (x :: ds) S2) q1
    refine tA.go r1 (en.mono rp k1) (q1.mono (fun ds g2 k2 r2 q2 vs hvs => ?_) fun _ _ _ _ z => z)
    exact Aft.here r2 q2 _ (.cons (hv.mono r1 k2) hvs)
theorem ma_star (hK : X.K = M.K) {e : Expr} {p : Pos} {es : List Expr} {fa : Fe} {fr : Fs} (ha : ME M X W e fa) (hr : MA M X W es fr) (hs : starEach (.Starred e p :: es) X.env = (true, eval e X.env) :: starEach es X.env := by rfl) : MA M X W (.Starred e p :: es) (aStar fa fr) :=
  PA.imp (StX.pa_star ha hr hs) fun σ H Q q => by
    obtain ⟨g, ρ, rfl, rp, en, q⟩ := q
    have q := Aft.bind (β := List D) (k := fun (d : D) S1 => match itemsD d S1 with
      | some es => (fr ρ S1).bind fun ds S2 => .ok (es ++ ds) S2
      | none => .stuck) q
    refine tE.go rp en (q.mono (fun x g1 k1 r1 q1 v hv => ?_) fun _ _ _ _ z => z)
    split at q1
    · rename_i es he
      obtain ⟨a, xs, rfl, hx, hxs⟩ := itemsD_v r1 hv he
      rw [hK]
      refine ⟨a, xs, rfl, hx, ?_⟩
      have q1 := Aft.bind (k := fun ds S2 => .ok (es ++ ds) S2) q1
      refine tA.go r1 (en.mono rp k1) (q1.mono (fun ds g2 k2 r2 q2 vs hvs => ?_) fun _ _ _ _ z => z)
      exact Aft.here r2 q2 _ ((DVs.mono r1 k2 hxs).append hvs)
    · exact q1.elim
def mkTup (f : Fs) : Fe := fun ρ S => (f ρ S).bind fun ds S1 => if ds.length ≤ sizeLine then .ok (.tup ds) S1 else .stuck
def mkLst (f : Fs) : Fe := fun ρ S => (f ρ S).bind fun ds S1 => if ds.length ≤ sizeLine then .ok (.ref S1.length) (S1 ++ [.lst ds]) else .stuck
theorem me_tup {es : List Expr} {k : Nat} {pos : Pos} {f : Fs} (h : MA M X W es f) : ME M X W (.Tuple es k pos) (mkTup f) :=
  PE.imp (pe_tup h) fun σ H Q q => by
    obtain ⟨g, ρ, rfl, rp, en, q⟩ := q
    have q := Aft.bind (β := D) (k := fun (ds : List D) S1 => if ds.length ≤ sizeLine then .ok (.tup ds) S1 else .stuck) q
    refine tA.go rp en (q.mono (fun ds g1 k1 r1 q1 vs hvs => ?_) fun _ _ _ _ z => z)
    split at q1
    · rename_i hz
      exact ⟨by rw [← hvs.length]; exact hz, fun p hp => new_tup r1 q1 hp _ (dv_new r1 hp hvs)⟩
    · exact q1.elim
theorem me_lst {es : List Expr} {pos : Pos} {f : Fs} (h : MA M X W es f) : ME M X W (.List es pos) (mkLst f) :=
  PE.imp (pe_lst h) fun σ H Q q => by
    obtain ⟨g, ρ, rfl, rp, en, q⟩ := q
    have q := Aft.bind (β := D) (k := fun (ds : List D) S1 => if ds.length ≤ sizeLine then .ok (.ref S1.length) (S1 ++ [.lst ds]) else .stuck) q
    refine tA.go rp en (q.mono (fun ds g1 k1 r1 q1 vs hvs => ?_) fun _ _ _ _ z => z)
    split at q1
    · rename_i hz
      exact ⟨by rw [← hvs.length]; exact hz, fun p hp => new_lst r1 q1 hp hvs _ .newRef⟩
    · exact q1.elim

/-! ### slices -/
abbrev Fo := Rho → Sto → Rs (Option Int)
def tO (M : Md) (W : WX) (f : Fo) : TO := fun σ H Q => ∃ g ρ, g.H = H ∧ Rep M g ∧ EnvOk M g ρ σ ∧ Aft M g (f ρ g.S) (fun o g' => Q o g'.H) (XD M W σ)
theorem PO.imp {e : Option Expr} {t t' : TO} (h : PO X e t) (i : ∀ σ H Q, t' σ H Q → t σ H Q) : PO X e t' := ⟨fun pins s σ H Q I h' => h.run pins s σ H Q I (i σ H Q h')⟩
def oNone : Fo := fun _ S => .ok none S
def oSome (a : Fe) : Fo := fun ρ S => (a ρ S).bind fun d S1 => match d with
  | .int i => .ok (some i) S1
  | _ => .stuck
theorem mo_none : PO X none (tO M W oNone) := PO.imp po_none fun σ H Q q => by
  obtain ⟨g, ρ, rfl, rp, en, q⟩ := q
  exact Aft.here rp q
theorem mo_some {e : Expr} {fa : Fe} (h : ME M X W e fa) : PO X (some e) (tO M W (oSome fa)) := PO.imp (po_some h) fun σ H Q q => by
  obtain ⟨g, ρ, rfl, rp, en, q⟩ := q
  have q := Aft.bind (β := Option Int) (k := fun (d : D) S1 => match d with
    | .int i => .ok (some i) S1
    | _ => .stuck) q
  refine tE.go rp en (q.mono (fun x g1 k1 r1 q1 v hv => ?_) fun _ _ _ _ z => z)
  split at q1
  · exact ⟨_, hv.intI, Aft.here r1 q1⟩
  · exact q1.elim
def cutD (ds : List D) (lo hi : Option Int) : List D := (ds.drop (HT.sIx ds.length 0 lo)).take (HT.sIx ds.length ds.length hi - HT.sIx ds.length 0 lo)
theorem cut_dv {g : Wd} {ds : List D} {xs : List V} (h : DVs M g ds xs) (lo hi : Option Int) : DVs M g (cutD ds lo hi) (cutV xs lo hi) := by
  unfold cutD cutV
  rw [h.length]
  exact (h.drop _).take _
def sliceD : D → Option Int → Option Int → Sto → Rs D := fun d lo hi S => match d with
  | .tup ds => .ok (.tup (cutD ds lo hi)) S
  | .fl ds => .ok (.ref S.length) (S ++ [.lst (cutD ds lo hi)])
  | .ref n => match S[n]? with
    | some (.lst ds) => .ok (.ref S.length) (S ++ [.lst (cutD ds lo hi)])
    | _ => .stuck
  | .str z => if z.length ≤ sizeLine then .ok (.str (cutS z lo hi)) S else .stuck
  | _ => .stuck
def dSlice (a : Fe) (lo hi : Fo) : Fe := fun ρ S => (a ρ S).bind fun d S1 => (lo ρ S1).bind fun l S2 => (hi ρ S2).bind fun h S3 => sliceD d l h S3
def rSlX (K : PySem.W.Frag) : V → Option Int → Option Int → Hp → VK → Prop := fun x lo hi H Q => rSlA K x lo hi H Q ∨ (rSlL K x lo hi H Q ∨ rSlS x lo hi H Q)
theorem sl_any : SlR X (rSlX X.K) := sl_tupA.or (sl_list.or sl_str)
theorem me_slice (hK : X.K = M.K) {a : Expr} {lo hi : Option Expr} {pos p2 : Pos} {fa : Fe} {fl fh : Fo} (ha : ME M X W a fa) (hl : PO X lo (tO M W fl)) (hh : PO X hi (tO M W fh)) : ME M X W (.Subscript a (.Slice lo hi none p2) pos) (dSlice fa fl fh) :=
  PE.imp (pe_slice sl_any ha hl hh) fun σ H Q q => by
    obtain ⟨g, ρ, rfl, rp, en, q⟩ := q
    have q := Aft.bind (k := fun d S1 => (fl ρ S1).bind fun l S2 => (fh ρ S2).bind fun h S3 => sliceD d l h S3) q
    refine tE.go rp en (q.mono (fun x g1 k1 r1 q1 v hv => ?_) fun _ _ _ _ z => z)
    have q1 := Aft.bind (k := fun l S2 => (fh ρ S2).bind fun h S3 => sliceD x l h S3) q1
    refine ⟨g1, ρ, rfl, r1, en.mono rp k1, q1.mono (fun l g2 k2 r2 q2 => ?_) fun _ _ _ _ z => z⟩
    have q2 := Aft.bind (k := fun h S3 => sliceD x l h S3) q2
    refine ⟨g2, ρ, rfl, r2, (en.mono rp k1).mono r1 k2, q2.mono (fun h g3 k3 r3 q3 => ?_) fun _ _ _ _ z => z⟩
    have hv3 := (hv.mono r1 k2).mono r2 k3
    rw [hK]
    unfold sliceD at q3
    split at q3
    · obtain ⟨a, xs, rfl, hx, hxs⟩ := hv3.tupI
      refine .inl ⟨a, xs, rfl, hx, fun e => ?_, fun _ p hp => new_tup r3 q3 hp _ (dv_new r3 hp (cut_dv hxs l h))⟩
      have e2 : ∀ ds : List D, DVs M g3 ds xs → cutD ds l h = ds := fun ds hd => by
        unfold cutD
        rw [hd.length, e.1, e.2, List.drop_zero, Nat.sub_zero, ← hd.length, List.take_length]
      rw [e2 _ hxs] at q3
      exact Aft.here r3 q3 _ hv3
    · cases hv3 with
      | fl hx hxs => exact .inr (.inl ⟨_, _, rfl, hx.sql, fun p hp => new_lst r3 q3 hp (cut_dv hxs l h) _ .newRef⟩)
    · split at q3
      · rename_i ds hk
        obtain ⟨rfl, _⟩ := hv3.refI
        obtain ⟨xs, hx, hxs⟩ := r3.lst hk
        exact .inr (.inl ⟨_, xs, rfl, .inl (.inl hx), fun p hp => new_lst r3 q3 hp (cut_dv hxs l h) _ .newRef⟩)
      · exact q3.elim
    · split at q3
      · rename_i z hz
        rw [hv3.strI]
        exact .inr (.inr ⟨_, rfl, hz, Aft.here r3 q3 _ (.str _)⟩)
      · exact q3.elim
    · exact q3.elim

/-! ### calls of built-in functions -/
abbrev FN := List D → Sto → Rs D
def OpN (M : Md) (r : List V → Hp → VK → Prop) (f : FN) : Prop := ∀ (g : Wd) (ds : List D) (vs : List V) (Q : VK) (E : Xn → Wd → Prop), Rep M g → DVs M g ds vs → Aft M g (f ds g.S) (PD M Q) E → r vs g.H Q
def dN (f : FN) (a : Fs) : Fe := fun ρ S => (a ρ S).bind fun ds S1 => f ds S1
theorem callN_t {r : List V → Hp → VK → Prop} {f : FN} {a : Fs} (h : OpN M r f) {σ : L2.St} {H : Hp} {Q : VK} (q : tE M W (dN f a) σ H Q) : tCB r (tA M W a) σ H Q := by
  obtain ⟨g, ρ, rfl, rp, en, q⟩ := q
  have q := Aft.bind (k := fun ds S1 => f ds S1) q
  exact tA.go rp en (q.mono (fun ds g1 k1 r1 q1 vs hvs => h g1 ds vs Q _ r1 hvs q1) fun _ _ _ _ z => z)
theorem me_callB {x : Str} {p pos : Pos} {e : Expr} {es : List Expr} {id : String} {r : List V → Hp → VK → Prop} {f : FN} {a : Fs} (hc : CallR X (.builtin id) r) (h : OpN M r f) (hg : Gl X x) (hm : X.mg x = none) (hv : bootBuiltins x = some (.builtin id)) (ha : MA M X W (e :: es) a) (hn : x ≠ "__name__" := by decide) (hdb : (x == ("__debug__" : Str)) = false := by decide)
    (he : starEach (e :: es) X.env = (false, eval e X.env) :: starEach es X.env := by rfl) (hpl : (backTo pos (starEach es X.env)).any (·.1) = false := by rfl) : ME M X W (.Call (.Name x p) (e :: es) [] pos) (dN f a) :=
  PE.imp (pe_callB hc hg hm hv ha hn hdb he hpl) fun _ _ _ q => callN_t h q
theorem me_callTy {x : Str} {p pos : Pos} {e : Expr} {es : List Expr} {T : String} {r : List V → Hp → VK → Prop} {f : FN} {a : Fs} (hc : CallR X (.type T) r) (h : OpN M r f) (hg : Gl X x) (hm : X.mg x = none) (hv : bootBuiltins x = some (.type T)) (ha : MA M X W (e :: es) a) (hn : x ≠ "__name__" := by decide) (hdb : (x == ("__debug__" : Str)) = false := by decide)
    (he : starEach (e :: es) X.env = (false, eval e X.env) :: starEach es X.env := by rfl) (hpl : (backTo pos (starEach es X.env)).any (·.1) = false := by rfl) : ME M X W (.Call (.Name x p) (e :: es) [] pos) (dN f a) :=
  PE.imp (pe_callTy hc hg hm hv ha hn hdb he hpl) fun _ _ _ q => callN_t h q
end
end MP
set_option Elab.async false
set_option linter.all false
set_option maxRecDepth 100000
set_option maxHeartbeats 4000000
/-! Statements, targets, loops, comprehensions, defs. -/
namespace MP
open PySem PySem.Spec PyProof.Rows L2

inductive Fl where
  | nx (ρ : Rho) | ret (d : D) | brk (ρ : Rho) | ct (ρ : Rho)
inductive RsS where
  | fl (f : Fl) (S : Sto)
  | exc (x : Xn) (ρ : Rho) (S : Sto)
  | stuck
abbrev Fst := Rho → Sto → RsS
def AftS (M : Md) (g : Wd) (r : RsS) (Dn : Ends) (W : WX) : Prop := match r with
  | .fl (.nx ρ) S => ∀ g', g'.S = S → Gr g g' → Rep M g' → ∀ σ', EnvOk M g' ρ σ' → Dn.nx σ' g'.H
  | .fl (.ret d) S => ∀ g', g'.S = S → Gr g g' → Rep M g' → ∀ v, DV M g' d v → Dn.rt v g'.H
  | .fl (.brk ρ) S => ∀ g', g'.S = S → Gr g g' → Rep M g' → ∀ σ', EnvOk M g' ρ σ' → Dn.bk σ' g'.H
  | .fl (.ct ρ) S => ∀ g', g'.S = S → Gr g g' → Rep M g' → ∀ σ', EnvOk M g' ρ σ' → Dn.ct σ' g'.H
  | .exc x ρ S => ∀ g', g'.S = S → Gr g g' → Rep M g' → ∀ σ', EnvOk M g' ρ σ' → ∀ cls dx, XV M g' x cls dx → W cls dx σ' g'.H
  | .stuck => False
theorem AftS.up {M : Md} {g g1 : Wd} {r : RsS} {Dn : Ends} {W : WX} (h : AftS M g r Dn W) (k : Gr g g1) (r1 : Rep M g1) : AftS M g1 r Dn W := by
  cases r with
  | stuck => exact h
  | exc x ρ S => exact fun g' e k' r' => h g' e (k.trans r1 k') r'
  | fl f S =>
    cases f with
    | nx ρ => exact fun g' e k' r' => h g' e (k.trans r1 k') r'
    | ret d => exact fun g' e k' r' => h g' e (k.trans r1 k') r'
    | brk ρ => exact fun g' e k' r' => h g' e (k.trans r1 k') r'
    | ct ρ => exact fun g' e k' r' => h g' e (k.trans r1 k') r'
def tS (M : Md) (W : WX) (f : Fst) : TS := fun Dn σ H => ∃ g ρ, g.H = H ∧ Rep M g ∧ EnvOk M g ρ σ ∧ AftS M g (f ρ g.S) Dn W
abbrev MS (M : Md) (X : Cx) (W : WX) (st : Stmt) (f : Fst) : Prop := PS X st (tS M W f)
abbrev MSs (M : Md) (X : Cx) (W : WX) (st : List Stmt) (f : Fst) : Prop := PSs X st (tS M W f)
theorem tS.go {M : Md} {W : WX} {f : Fst} {σ : L2.St} {g : Wd} {ρ : Rho} {Dn : Ends} (r : Rep M g) (e : EnvOk M g ρ σ) (h : AftS M g (f ρ g.S) Dn W) : tS M W f Dn σ g.H := ⟨g, ρ, rfl, r, e, h⟩
/-- an expression's value, then a statement's work -/
def thenS {α : Type} (r : Rs α) (ρ : Rho) (k : α → Sto → RsS) : RsS := match r with
  | .ok a S => k a S
  | .exc x S => .exc x ρ S
  | .stuck => .stuck
theorem AftS.ofE {M : Md} {α : Type} {g : Wd} {r : Rs α} {ρ : Rho} {k : α → Sto → RsS} {Dn : Ends} {W : WX} {σ : L2.St} (rp : Rep M g) (en : EnvOk M g ρ σ) (h : AftS M g (thenS r ρ k) Dn W) : Aft M g r (fun a g1 => AftS M g1 (k a g1.S) Dn W) (XD M W σ) := by
  cases r with
  | stuck => exact h
  | exc x S => exact fun g1 e1 k1 r1 => h g1 e1 k1 r1 σ (en.mono rp k1)
  | ok a S =>
    intro g1 e1 k1 r1
    have h : AftS M g (k a S) Dn W := h
    rw [e1]
    exact h.up k1 r1
section
variable {M : Md} {X : Cx} {W : WX}

def sNil : Fst := fun ρ S => .fl (.nx ρ) S
def sSeq (f h : Fst) : Fst := fun ρ S => match f ρ S with
  | .fl (.nx ρ1) S1 => h ρ1 S1
  | r => r
theorem mss_nil : MSs M X W [] sNil := PSs.imp pss_nil fun Dn σ H q => by
  obtain ⟨g, ρ, rfl, rp, en, q⟩ := q
  exact q g rfl Gr.refl rp σ en
theorem mss_cons {st : Stmt} {rest : List Stmt} {f h : Fst} (h1 : MS M X W st f) (h2 : MSs M X W rest h) : MSs M X W (st :: rest) (sSeq f h) := PSs.imp (pss_cons h1 h2) fun Dn σ H q => by
  obtain ⟨g, ρ, rfl, rp, en, q⟩ := q
  refine tS.go rp en ?_
  unfold sSeq at q
  split at q
  · rename_i ρ1 S1 e
    rw [e]
    intro g1 e1 k1 r1 σ1 en1
    exact tS.go r1 en1 (by rw [e1]; exact q.up k1 r1)
  · rename_i e
    cases hr : f ρ g.S with
    | stuck => rw [hr] at q; exact q
    | exc x ρ1 S1 => rw [hr] at q; exact q
    | fl fl S1 =>
      rw [hr] at q
      cases fl with
      | nx ρ1 => exact (e ρ1 S1 hr).elim
      | ret d => exact q
      | brk ρ1 => exact q
      | ct ρ1 => exact q
theorem mss_one {st : Stmt} {f : Fst} (h1 : MS M X W st f) : MSs M X W [st] f := pss_one h1
theorem ms_pass {pos : Pos} : MS M X W (.Pass pos) sNil := PS.imp ps_pass fun Dn σ H q => by
  obtain ⟨g, ρ, rfl, rp, en, q⟩ := q
  exact q g rfl Gr.refl rp σ en
def sBrk : Fst := fun ρ S => .fl (.brk ρ) S
def sCt : Fst := fun ρ S => .fl (.ct ρ) S
theorem ms_break {pos : Pos} : MS M X W (.Break pos) sBrk := PS.imp ps_break fun Dn σ H q => by
  obtain ⟨g, ρ, rfl, rp, en, q⟩ := q
  exact q g rfl Gr.refl rp σ en
theorem ms_continue {pos : Pos} : MS M X W (.Continue pos) sCt := PS.imp ps_continue fun Dn σ H q => by
  obtain ⟨g, ρ, rfl, rp, en, q⟩ := q
  exact q g rfl Gr.refl rp σ en
/-- a statement that no run comes to -/
def sNo : Fst := fun _ _ => .stuck
theorem ms_no {st : Stmt} : MS M X W st sNo := PS.imp ps_never fun Dn σ H q => by
  obtain ⟨g, ρ, rfl, rp, en, q⟩ := q
  exact q
def sExpr (f : Fe) : Fst := fun ρ S => thenS (f ρ S) ρ fun _ S1 => .fl (.nx ρ) S1
theorem ms_expr {e : Expr} {pos : Pos} {f : Fe} (h : ME M X W e f) (hs : swapsWith e none pos.line X.env = pure false := by rfl) : MS M X W (.Expr e pos) (sExpr f) := PS.imp (ps_expr h hs) fun Dn σ H q => by
  obtain ⟨g, ρ, rfl, rp, en, q⟩ := q
  have q := AftS.ofE rp en q
  exact tE.go rp en (q.mono (fun d g1 k1 r1 q1 v hv => q1 g1 rfl Gr.refl r1 σ (en.mono rp k1)) fun _ _ _ _ z => z)
def sRet (f : Fe) : Fst := fun ρ S => thenS (f ρ S) ρ fun d S1 => .fl (.ret d) S1
theorem ms_ret {e : Expr} {pos : Pos} {f : Fe} (h : ME M X W e f) : MS M X W (.Return (some e) pos) (sRet f) := PS.imp (ps_ret h) fun Dn σ H q => by
  obtain ⟨g, ρ, rfl, rp, en, q⟩ := q
  have q := AftS.ofE rp en q
  exact tE.go rp en (q.mono (fun d g1 k1 r1 q1 v hv => q1 g1 rfl Gr.refl r1 v hv) fun _ _ _ _ z => z)
def sRetN : Fst := fun _ S => .fl (.ret .non) S
theorem ms_retN {pos : Pos} : MS M X W (.Return none pos) sRetN := PS.imp ps_retN fun Dn σ H q => by
  obtain ⟨g, ρ, rfl, rp, en, q⟩ := q
  exact q g rfl Gr.refl rp _ .non
def sIf (c : Ft) (a b : Fst) : Fst := fun ρ S => thenS (c ρ S) ρ fun k S1 => if k = true then a ρ S1 else b ρ S1
theorem ms_if {c : Expr} {a b : List Stmt} {pos : Pos} {fc : Ft} {fa fb : Fst} (hc : MT M X W c fc) (ha : MSs M X W a fa) (hb : MSs M X W b fb) : MS M X W (.If c a b pos) (sIf fc fa fb) := PS.imp (ps_if hc ha hb) fun Dn σ H q => by
  obtain ⟨g, ρ, rfl, rp, en, q⟩ := q
  have q := AftS.ofE (k := fun k S1 => if k = true then fa ρ S1 else fb ρ S1) rp en q
  refine tT.go rp en (q.mono (fun c g1 k1 r1 q1 => ?_) fun _ _ _ _ z => z)
  cases c with
  | true => exact iteT (tS.go r1 (en.mono rp k1) q1)
  | false => exact iteF (tS.go r1 (en.mono rp k1) q1)

/-! ### targets of names -/
end
mutual
inductive Tg where
  | nm (i : Nat)
  | tp (l : Tgs)
inductive Tgs where
  | nil
  | cons (t : Tg) (l : Tgs)
end
def Tgs.len : Tgs → Nat
  | .nil => 0
  | .cons _ l => l.len + 1
mutual
/-- the reading -/
def gT (K : PySem.W.Frag) : Tg → TG
  | .nm i => gName i
  | .tp l => gTup K l.len (gTs K l)
def gTs (K : PySem.W.Frag) : Tgs → TGs
  | .nil => gNil
  | .cons t l => gCons (gT K t) (gTs K l)
end
mutual
def setT : Tg → D → Rho → Option Rho
  | .nm i, d, ρ => some (ρ.set i (some d))
  | .tp l, d, ρ => match d with
    | .tup ds => setTs l ds ρ
    | _ => none
def setTs : Tgs → List D → Rho → Option Rho
  | .nil, ds, ρ => match ds with
    | [] => some ρ
    | _ => none
  | .cons t l, ds, ρ => match ds with
    | d :: ds => match setT t d ρ with
      | some ρ1 => setTs l ds ρ1
      | none => none
    | [] => none
end
mutual
def Tg.in_ (vs : List Nat) : Tg → Bool
  | .nm i => vs.contains i
  | .tp l => l.in_ vs
def Tgs.in_ (vs : List Nat) : Tgs → Bool
  | .nil => true
  | .cons t l => t.in_ vs && l.in_ vs
end
theorem wipe_get {σ : L2.St} : ∀ (vs : List Nat) (j : Nat), (wipe σ vs)[j]? = if j ∈ vs ∧ j < σ.length then some none else σ[j]?
  | [], j => by simp [wipe]
  | v :: vs, j => by
    have ih := wipe_get (σ := σ) vs j
    show ((wipe σ vs).set v none)[j]? = _
    have hl : (wipe σ vs).length = σ.length := wipe_length σ vs
    by_cases hv : v = j
    · subst hv
      by_cases hj : v < σ.length
      · rw [List.getElem?_set_self (by rw [hl]; exact hj), if_pos ⟨List.mem_cons_self, hj⟩]
      · rw [List.getElem?_eq_none (by rw [List.length_set, hl]; omega), if_neg (fun z => hj z.2), List.getElem?_eq_none (by omega)]
    · rw [List.getElem?_set_ne hv, ih]
      have e : (j ∈ v :: vs ∧ j < σ.length) ↔ (j ∈ vs ∧ j < σ.length) := by
        rw [List.mem_cons]
        exact ⟨fun ⟨a, b⟩ => ⟨a.resolve_left fun z => hv z.symm, b⟩, fun ⟨a, b⟩ => ⟨.inr a, b⟩⟩
      by_cases h : j ∈ vs ∧ j < σ.length
      · rw [if_pos h, if_pos (e.mpr h)]
      · rw [if_neg h, if_neg (fun z => h (e.mp z))]
theorem wipe_set {σ : L2.St} {vs : List Nat} {i : Nat} {x : Option V} (h : i ∈ vs) : wipe (σ.set i x) vs = wipe σ vs := by
  apply List.ext_getElem?
  intro j
  rw [wipe_get, wipe_get, List.length_set]
  by_cases hj : j ∈ vs ∧ j < σ.length
  · rw [if_pos hj, if_pos hj]
  · rw [if_neg hj, if_neg hj]
    by_cases hij : i = j
    · subst hij
      have : σ.length ≤ i := Nat.le_of_not_lt fun z => hj ⟨h, z⟩
      rw [List.getElem?_eq_none (by rw [List.length_set]; exact this), List.getElem?_eq_none this]
    · rw [List.getElem?_set_ne hij]
section
variable {M : Md} {X : Cx} {W : WX}
mutual
theorem gT_ok {g : Wd} (hK : X.K = M.K) (vs : List Nat) : ∀ (t : Tg) (d : D) (v : V) (ρ ρ' : Rho) (σ : L2.St) (Q : L2.St → Hp → Prop), EnvOk M g ρ σ → DV M g d v → setT t d ρ = some ρ' →
    (∀ σ', EnvOk M g ρ' σ' → (t.in_ vs = true → wipe σ' vs = wipe σ vs) → Q σ' g.H) → gT X.K t v σ g.H Q
  | .nm i, d, v, ρ, ρ', σ, Q, en, hv, e, h => by
    cases (show some (ρ.set i (some d)) = some ρ' from e)
    exact h _ (en.set hv) fun z => wipe_set (by simpa [Tg.in_] using z)
  | .tp l, d, v, ρ, ρ', σ, Q, en, hv, e, h => by
    unfold setT at e
    split at e
    · obtain ⟨a, xs, rfl, hx, hxs⟩ := hv.tupI
      refine ⟨a, xs, rfl, by rw [hK]; exact hx, ?_, gTs_ok hK vs l _ xs ρ ρ' σ Q en hxs e h⟩
      rw [← hxs.length]
      exact setTs_len e
    · cases e
theorem gTs_ok {g : Wd} (hK : X.K = M.K) (vs : List Nat) : ∀ (l : Tgs) (ds : List D) (us : List V) (ρ ρ' : Rho) (σ : L2.St) (Q : L2.St → Hp → Prop), EnvOk M g ρ σ → DVs M g ds us → setTs l ds ρ = some ρ' →
    (∀ σ', EnvOk M g ρ' σ' → (l.in_ vs = true → wipe σ' vs = wipe σ vs) → Q σ' g.H) → gTs X.K l us σ g.H Q
  | .nil, ds, us, ρ, ρ', σ, Q, en, hv, e, h => by
    unfold setTs at e
    split at e
    · cases e
      cases hv
      exact ⟨rfl, h σ en fun _ => rfl⟩
    · cases e
  | .cons t l, ds, us, ρ, ρ', σ, Q, en, hv, e, h => by
    unfold setTs at e
    split at e
    · rename_i d ds
      split at e
      · rename_i ρ1 e1
        cases hv with
        | cons h1 h2 =>
          refine ⟨_, _, rfl, gT_ok hK vs t d _ ρ ρ1 σ _ en h1 e1 fun σ1 en1 w1 => ?_⟩
          refine gTs_ok hK vs l ds _ ρ1 ρ' σ1 Q en1 h2 e fun σ2 en2 w2 => h σ2 en2 fun z => ?_
          have z := Bool.and_eq_true_iff.mp (show (t.in_ vs && l.in_ vs) = true from z)
          exact (w2 z.2).trans (w1 z.1)
      · cases e
    · cases e
theorem setTs_len : ∀ {l : Tgs} {ds : List D} {ρ ρ' : Rho}, setTs l ds ρ = some ρ' → ds.length = l.len
  | .nil, ds, ρ, ρ', e => by
    unfold setTs at e
    split at e
    · rfl
    · cases e
  | .cons t l, ds, ρ, ρ', e => by
    unfold setTs at e
    split at e
    · rename_i d ds
      split at e
      · rename_i ρ1 e1
        show ds.length + 1 = l.len + 1
        rw [setTs_len e]
      · cases e
    · cases e
end
/-- a target: its form in the text -/
abbrev MG (X : Cx) (tg : Expr) (t : Tg) : Prop := PG X tg (gT X.K t)
abbrev MGs (X : Cx) (tgs : List Expr) (l : Tgs) : Prop := PGs X tgs (gTs X.K l)
theorem mg_nm {i : Nat} {x : Str} {pos : Pos} (hN : X.N.Nodup) (hi : X.N[i]? = some x := by rfl) (hx : Loc X.env.scope x := by first | exact Or.inl rfl | exact Or.inr rfl) (hf : X.fn x = true ∨ X.env.scope.names.lookup x = some .local := by first | exact .inl rfl | exact .inr rfl) : MG X (.Name x pos) (.nm i) := pg_name hN hi hx hf
theorem mgs_nil : MGs X [] .nil := pgs_nil
theorem mgs_cons {e : Expr} {es : List Expr} {t : Tg} {l : Tgs} (h1 : MG X e t) (h2 : MGs X es l) (hs : (assignEach (e :: es) X.env).map (·.2) = assign e X.env :: (assignEach es X.env).map (·.2) := by rfl) : MGs X (e :: es) (.cons t l) := pgs_cons h1 h2 hs
theorem mg_tp {es : List Expr} {k : Nat} {pos : Pos} {l : Tgs} (hc : X.calm = true) (h : MGs X es l) (hn : (assignEach es X.env).length = l.len := by rfl) (hst : (assignEach es X.env).findIdx? (·.1) = none := by rfl) : MG X (.Tuple es k pos) (.tp l) := pg_tup hc h hn hst

/-- target = e -/
def sAsg (t : Tg) (f : Fe) : Fst := fun ρ S => thenS (f ρ S) ρ fun d S1 => match setT t d ρ with
  | some ρ1 => .fl (.nx ρ1) S1
  | none => .stuck
theorem asg_t (hK : X.K = M.K) {t : Tg} {f : Fe} {Dn : Ends} {σ : L2.St} {H : Hp} (q : tS M W (sAsg t f) Dn σ H) : tAsg (tE M W f) (gT X.K t) Dn σ H := by
  obtain ⟨g, ρ, rfl, rp, en, q⟩ := q
  have q := AftS.ofE (k := fun d S1 => match setT t d ρ with
    | some ρ1 => .fl (.nx ρ1) S1
    | none => .stuck) rp en q
  refine tE.go rp en (q.mono (fun d g1 k1 r1 q1 v hv => ?_) fun _ _ _ _ z => z)
  split at q1
  · rename_i ρ1 e
    exact gT_ok hK [] t d v ρ ρ1 σ _ (en.mono rp k1) hv e fun σ' en' _ => q1 g1 rfl Gr.refl r1 σ' en'
  · exact q1.elim
theorem ms_asg (hK : X.K = M.K) {tg e : Expr} {pos : Pos} {t : Tg} {f : Fe} (he : ME M X W e f) (hg : MG X tg t) (hs : swapsWithSole [tg] e pos.line X.env = pure false := by rfl) (hw : swappedStores [tg] e X.env = pure none := by rfl)
    (h1 : (assignEach [tg] X.env).map (·.2) = [assign tg X.env] := by rfl) : MS M X W (.Assign [tg] e pos) (sAsg t f) := PS.imp (ps_asg he hg hs hw h1) fun _ _ _ q => asg_t hK q
/-- name = e -/
def sSet (i : Nat) (f : Fe) : Fst := fun ρ S => thenS (f ρ S) ρ fun d S1 => .fl (.nx (ρ.set i (some d))) S1
theorem set_t {i : Nat} {f : Fe} {Dn : Ends} {σ : L2.St} {H : Hp} (q : tS M W (sSet i f) Dn σ H) : tAsg (tE M W f) (gName i) Dn σ H := by
  obtain ⟨g, ρ, rfl, rp, en, q⟩ := q
  have q := AftS.ofE (k := fun d S1 => .fl (.nx (ρ.set i (some d))) S1) rp en q
  exact tE.go rp en (q.mono (fun d g1 k1 r1 q1 v hv => q1 g1 rfl Gr.refl r1 _ ((en.mono rp k1).set hv)) fun _ _ _ _ z => z)
theorem ms_set {i : Nat} {x : Str} {e : Expr} {pos pos' : Pos} {f : Fe} (hN : X.N.Nodup) (he : ME M X W e f) (hi : X.N[i]? = some x := by rfl) (hx : Loc X.env.scope x := by first | exact Or.inl rfl | exact Or.inr rfl) (hs : swapsWith e (some (.Name x pos')) pos.line X.env = pure false := by rfl)
    (hf : X.fn x = true ∨ X.env.scope.names.lookup x = some .local := by first | exact .inl rfl | exact .inr rfl) : MS M X W (.Assign [.Name x pos'] e pos) (sSet i f) := PS.imp (ps_set hN hi hx he hs hf) fun _ _ _ q => set_t q
/-- a, b = x, y -/
def sPar (i j : Nat) (f : Fs) : Fst := fun ρ S => thenS (f ρ S) ρ fun ds S1 => match ds with
  | [d, e] => .fl (.nx ((ρ.set i (some d)).set j (some e))) S1
  | _ => .stuck
theorem ms_par {i j : Nat} {x y : Str} {a b : Expr} {f : Fs} {px py pt pos : Pos} {kt k2 : Nat} {pt2 : Pos} (hc : X.calm = true) (hN : X.N.Nodup) (ha : MA M X W [a, b] f) (hi : X.N[i]? = some x := by rfl) (hj : X.N[j]? = some y := by rfl) (hij : i ≠ j := by decide)
    (hx : X.env.scope.names.lookup x = some .local := by rfl) (hy : X.env.scope.names.lookup y = some .local := by rfl)
    (hw : swappedStores [.Tuple [.Name x px, .Name y py] kt pt] (.Tuple [a, b] k2 pt2) X.env = pure (some [x, y]) := by rfl)
    (hs : swapsWithSole [.Tuple [.Name x px, .Name y py] kt pt] (.Tuple [a, b] k2 pt2) pos.line X.env = pure false := by rfl) :
    MS M X W (.Assign [.Tuple [.Name x px, .Name y py] kt pt] (.Tuple [a, b] k2 pt2) pos) (sPar i j f) := PS.imp (ps_par hc hN hi hj hij hx hy ha hw hs) fun Dn σ H q => by
  obtain ⟨g, ρ, rfl, rp, en, q⟩ := q
  have q := AftS.ofE (α := List D) (k := fun (ds : List D) S1 => match ds with
    | [d, e] => .fl (.nx ((ρ.set i (some d)).set j (some e))) S1
    | _ => .stuck) rp en q
  refine tA.go rp en (q.mono (fun ds g1 k1 r1 q1 vs hvs => ?_) fun _ _ _ _ z => z)
  split at q1
  · cases hvs with
    | cons h1 h2 =>
      cases h2 with
      | cons h2 h3 =>
        cases h3
        exact ⟨_, _, rfl, q1 g1 rfl Gr.refl r1 _ (((en.mono rp k1).set h1).set h2)⟩
  · exact q1.elim
/-- a, b, c = x, y, z -/
def sPar3 (i j l : Nat) (f : Fs) : Fst := fun ρ S => thenS (f ρ S) ρ fun ds S1 => match ds with
  | [d, e, h] => .fl (.nx (((ρ.set i (some d)).set j (some e)).set l (some h))) S1
  | _ => .stuck
theorem ms_par3 {i j l : Nat} {x y z : Str} {a b c : Expr} {f : Fs} {px py pz pt pos : Pos} {kt k2 : Nat} {pt2 : Pos} (hc : X.calm = true) (hN : X.N.Nodup) (ha : MA M X W [a, b, c] f) (hi : X.N[i]? = some x := by rfl) (hj : X.N[j]? = some y := by rfl) (hl : X.N[l]? = some z := by rfl) (hij : i ≠ j := by decide) (hil : i ≠ l := by decide) (hjl : j ≠ l := by decide)
    (hx : X.env.scope.names.lookup x = some .local := by rfl) (hy : X.env.scope.names.lookup y = some .local := by rfl) (hz : X.env.scope.names.lookup z = some .local := by rfl)
    (hw : swappedStores [.Tuple [.Name x px, .Name y py, .Name z pz] kt pt] (.Tuple [a, b, c] k2 pt2) X.env = pure (some [x, y, z]) := by rfl)
    (hs : swapsWithSole [.Tuple [.Name x px, .Name y py, .Name z pz] kt pt] (.Tuple [a, b, c] k2 pt2) pos.line X.env = pure false := by rfl) :
    MS M X W (.Assign [.Tuple [.Name x px, .Name y py, .Name z pz] kt pt] (.Tuple [a, b, c] k2 pt2) pos) (sPar3 i j l f) := PS.imp (ps_par3 hc hN hi hj hl hij hil hjl hx hy hz ha hw hs) fun Dn σ H q => by
  obtain ⟨g, ρ, rfl, rp, en, q⟩ := q
  have q := AftS.ofE (α := List D) (k := fun (ds : List D) S1 => match ds with
    | [d, e, h] => .fl (.nx (((ρ.set i (some d)).set j (some e)).set l (some h))) S1
    | _ => .stuck) rp en q
  refine tA.go rp en (q.mono (fun ds g1 k1 r1 q1 vs hvs => ?_) fun _ _ _ _ z => z)
  split at q1
  · cases hvs with
    | cons h1 h2 =>
      cases h2 with
      | cons h2 h3 =>
        cases h3 with
        | cons h3 h4 =>
          cases h4
          exact ⟨_, _, _, rfl, q1 g1 rfl Gr.refl r1 _ ((((en.mono rp k1).set h1).set h2).set h3)⟩
  · exact q1.elim
/-- x op= e -/
def sAug (i : Nat) (op : F2) (f : Fe) : Fst := fun ρ S => match ρ[i]? with
  | some (some x) => thenS ((f ρ S).bind fun y S1 => op x y S1) ρ fun d S2 => .fl (.nx (ρ.set i (some d))) S2
  | _ => .stuck
theorem ms_aug {i : Nat} {x : Str} {e : Expr} {op : Operator} {r : R2} {fo : F2} {pos pos' : Pos} {f : Fe} (hN : X.N.Nodup) (ho : OpR X (inplaceOp op) r) (h : Op2 M r fo) (he : ME M X W e f) (hi : X.N[i]? = some x := by rfl) (hx : Loc X.env.scope x := by first | exact Or.inl rfl | exact Or.inr rfl)
    (hf : X.fn x = true ∨ X.env.scope.names.lookup x = some .local := by first | exact .inl rfl | exact .inr rfl) : MS M X W (.AugAssign (.Name x pos') op e pos) (sAug i fo f) := PS.imp (ps_aug hN hi hx he (ti := r) ho hf) fun Dn σ H q => by
  obtain ⟨g, ρ, rfl, rp, en, q⟩ := q
  unfold sAug at q
  split at q
  · rename_i d hd
    obtain ⟨v, hv1, hv⟩ := en.at_ i d hd
    refine ⟨v, hv1, ?_⟩
    have q := AftS.ofE (k := fun d S2 => .fl (.nx (ρ.set i (some d))) S2) rp en q
    have q := Aft.bind (k := fun y S1 => fo d y S1) q
    refine tE.go rp en (q.mono (fun y g1 k1 r1 q1 u hu => ?_) fun _ _ _ _ z => z)
    refine h g1 d y v u _ _ r1 (hv.mono rp k1) hu (q1.mono (fun z g2 k2 r2 q2 w hw => ?_) fun _ _ _ _ z => z)
    exact q2 g2 rfl Gr.refl r2 _ (((en.mono rp k1).mono r1 k2).set hw)
  · exact q.elim
/-- o[i] = e, o a list -/
def putD (o i d : D) (S : Sto) : Rs Unit := match o, i with
  | .ref n, .int k => match S[n]? with
    | some (.lst ds) => match ixN ds.length k with
      | some j => .ok () (S.set n (.lst (ds.set j d)))
      | none => .stuck
    | _ => .stuck
  | _, _ => .stuck
theorem put_q {g : Wd} {o i d : D} {ov iv v : V} {Q : Hp → Prop} {E : Xn → Wd → Prop} (r : Rep M g) (ho : DV M g o ov) (hi : DV M g i iv) (hv : DV M g d v) (h : Aft M g (putD o i d g.S) (fun _ g' => Q g'.H) E) : rSetL ov iv v g.H Q := by
  unfold putD at h
  split at h
  · rename_i n k
    split at h
    · rename_i ds hk
      split at h
      · rename_i j hj
        obtain ⟨rfl, hn⟩ := ho.refI
        obtain ⟨xs, hx, hxs⟩ := r.lst hk
        exact ⟨_, xs, k, j, rfl, hi.intI, hx, by rw [← hxs.length]; exact hj, put_lst r hk h (hxs.set hv j)⟩
      · exact h.elim
    · exact h.elim
  · exact h.elim
def sPut (f fo fi : Fe) : Fst := fun ρ S => thenS (f ρ S) ρ fun d S1 => thenS (fo ρ S1) ρ fun o S2 => thenS (fi ρ S2) ρ fun i S3 => thenS (putD o i d S3) ρ fun _ S4 => .fl (.nx ρ) S4
theorem ms_put {o i e : Expr} {p pos : Pos} {f fo fi : Fe} (he : ME M X W e f) (ho : ME M X W o fo) (hi : ME M X W i fi) (ha : ∀ v, assign (.Subscript o i p) X.env v = (do
      let ov ← holding [v] (eval o X.env)
      let iv ← holding [v, ov] (eval i X.env)
      standAt p
      holding [v, ov, iv] (setItem ov iv v)
      release [v, ov, iv] []) := by intro _; rfl) (hs : swapsWithSole [.Subscript o i p] e pos.line X.env = pure false := by rfl) (hw : swappedStores [.Subscript o i p] e X.env = pure none := by rfl)
    (h1 : (assignEach [.Subscript o i p] X.env).map (·.2) = [assign (.Subscript o i p) X.env] := by rfl) : MS M X W (.Assign [.Subscript o i p] e pos) (sPut f fo fi) := PS.imp (ps_asg he (pg_sub ho hi set_list ha) hs hw h1) fun Dn σ H q => by
  obtain ⟨g, ρ, rfl, rp, en, q⟩ := q
  have q := AftS.ofE (α := D) (k := fun (d : D) S1 => thenS (fo ρ S1) ρ fun o S2 => thenS (fi ρ S2) ρ fun i S3 => thenS (putD o i d S3) ρ fun _ S4 => .fl (.nx ρ) S4) rp en q
  refine tE.go rp en (q.mono (fun d g1 k1 r1 q1 v hv => ?_) fun _ _ _ _ z => z)
  have en1 := en.mono rp k1
  have q1 := AftS.ofE (α := D) (k := fun (o : D) S2 => thenS (fi ρ S2) ρ fun i S3 => thenS (putD o i d S3) ρ fun _ S4 => .fl (.nx ρ) S4) r1 en1 q1
  refine tE.go r1 en1 (q1.mono (fun o g2 k2 r2 q2 ov ho => ?_) fun _ _ _ _ z => z)
  have en2 := en1.mono r1 k2
  have q2 := AftS.ofE (α := D) (k := fun (i : D) S3 => thenS (putD o i d S3) ρ fun _ S4 => .fl (.nx ρ) S4) r2 en2 q2
  refine tE.go r2 en2 (q2.mono (fun i g3 k3 r3 q3 iv hi => ?_) fun _ _ _ _ z => z)
  have en3 := en2.mono r2 k3
  have hv3 := (hv.mono r1 k2).mono r2 k3
  have ho3 := ho.mono r2 k3
  have q3 := AftS.ofE (α := Unit) (k := fun _ S4 => .fl (.nx ρ) S4) r3 en3 q3
  exact put_q r3 ho3 hi hv3 (q3.mono (fun _ g4 k4 r4 q4 => q4 g4 rfl Gr.refl r4 σ (en3.mono r3 k4)) fun _ _ _ _ z => z)
end
end MP
set_option Elab.async false
set_option linter.all false
set_option maxRecDepth 100000
set_option maxHeartbeats 4000000
/-! Loops and comprehensions. -/
namespace MP
open PySem PySem.Spec PyProof.Rows L2

mutual
def beqD : D → D → Bool
  | .non, .non => true
  | .bl a, .bl b => a == b
  | .int a, .int b => a == b
  | .str a, .str b => a == b
  | .tup a, .tup b => beqDs a b
  | .fl a, .fl b => beqDs a b
  | .ref a, .ref b => a == b
  | .fn a, .fn b => a == b
  | _, _ => false
def beqDs : List D → List D → Bool
  | [], [] => true
  | x :: xs, y :: ys => beqD x y && beqDs xs ys
  | _, _ => false
end
mutual
theorem beqD_eq : ∀ (a b : D), beqD a b = true → a = b
  | .non, b, h => by cases b <;> simp_all [beqD]
  | .bl x, b, h => by cases b <;> simp_all [beqD]
  | .int x, b, h => by cases b <;> simp_all [beqD]
  | .str x, b, h => by cases b <;> simp_all [beqD]
  | .ref x, b, h => by cases b <;> simp_all [beqD]
  | .fn x, b, h => by cases b <;> simp_all [beqD]
  | .tup x, b, h => by
    cases b with
    | tup y => rw [beqDs_eq x y (by simpa [beqD] using h)]
    | _ => simp [beqD] at h
  | .fl x, b, h => by
    cases b with
    | fl y => rw [beqDs_eq x y (by simpa [beqD] using h)]
    | _ => simp [beqD] at h
theorem beqDs_eq : ∀ (a b : List D), beqDs a b = true → a = b
  | [], b, h => by cases b <;> simp_all [beqDs]
  | x :: xs, b, h => by
    cases b with
    | nil => simp [beqDs] at h
    | cons y ys =>
      have h := Bool.and_eq_true_iff.mp (show (beqD x y && beqDs xs ys) = true by simpa [beqDs] using h)
      rw [beqD_eq x y h.1, beqDs_eq xs ys h.2]
end
mutual
theorem beqD_refl : ∀ a : D, beqD a a = true
  | .non => by simp [beqD]
  | .bl x => by simp [beqD]
  | .int x => by simp [beqD]
  | .str x => by simp [beqD]
  | .ref x => by simp [beqD]
  | .fn x => by simp [beqD]
  | .tup x => by simp [beqD, beqDs_refl x]
  | .fl x => by simp [beqD, beqDs_refl x]
theorem beqDs_refl : ∀ a : List D, beqDs a a = true
  | [] => by simp [beqDs]
  | x :: xs => by simp [beqDs, beqD_refl x, beqDs_refl xs]
end

/-- what a loop walks: its items, and the lists that must stay as they are -/
structure Src where
  its : List D
  gd : List (Nat × List D)
def Src.ok (s : Src) (S : Sto) : Bool := s.gd.all fun p => match S[p.1]? with
  | some (.lst ds) => beqDs ds p.2
  | _ => false
def SrcOk (M : Md) (g0 : Wd) (src : Src) (J : It) : Prop := ∃ (G : Hp → Prop) (Y : Nat → Hp → V → Hp → Prop), Walk J src.its.length G Y ∧ src.ok g0.S = true ∧
  (∀ g1, Rep M g1 → Gr g0 g1 → src.ok g1.S = true → G g1.H) ∧
  ∀ i g1 x H', i < src.its.length → Rep M g1 → Gr g0 g1 → src.ok g1.S = true → Y i g1.H x H' → ∃ d g2, src.its[i]? = some d ∧ g2.H = H' ∧ g2.S = g1.S ∧ Gr g1 g2 ∧ Rep M g2 ∧ DV M g2 d x
abbrev Fi := Rho → Sto → Rs Src
def tI (M : Md) (W : WX) (f : Fi) : TI := fun σ H R => ∃ g ρ, g.H = H ∧ Rep M g ∧ EnvOk M g ρ σ ∧ Aft M g (f ρ g.S) (fun src g' => ∀ J, SrcOk M g' src J → R J g'.H) (XD M W σ)
abbrev MI (M : Md) (X : Cx) (W : WX) (tg e : Expr) (f : Fi) : Prop := PI X tg e (tI M W f)
theorem PI.imp {X : Cx} {tg e : Expr} {t t' : TI} (h : PI X tg e t) (i : ∀ σ H R, t' σ H R → t σ H R) : PI X tg e t' := ⟨fun pins s σ H R I h' => h.run pins s σ H R I (i σ H R h')⟩

/-! ### list or tuple -/
section
variable {X : Cx} {tg : Expr}
def iSeq (K : PySem.W.Frag) (tl : TE) : TI := fun σ H R => tl σ H fun x H1 => ∃ a, x = .ref a ∧ (((∃ xs, SqL K H1 a xs) ∧ R (Itl K a) H1) ∨ ((∃ xs, SqT K H1 a xs) ∧ R (Itt K a) H1))
theorem pi_seq {l : Expr} {tl : TE} (hl : PE X l tl) : PI X tg l (iSeq X.K tl) := by
  refine ⟨fun pins s σ H R I h => ?_⟩
  refine thn (hl.run pins s σ H _ I h) fun v s1 ⟨x, H1, I1, r1, q1⟩ => ?_
  obtain ⟨a, e, q⟩ := q1
  subst e
  cases r1
  have fp : ∀ b ∈ [s1.heap.objs.size], FpOk X pins H1 b := fun b hb => by
    have e : b = s1.heap.objs.size := by simpa using hb
    subst e
    exact I1.fpOk (Nat.le_refl _) (I1.hok.fresh (Nat.le_refl _))
  rcases q with ⟨⟨xs, hq⟩, q⟩ | ⟨⟨xs, hq⟩, q⟩
  · obtain ⟨its, rv, p, hz⟩ := I1.list hq
    refine wpAny_pyIter_list p.isList ?_
    exact ⟨s1.heap.objs.size, [s1.heap.objs.size], _, _, H1, rfl, I1.kept (t' := s1.toks) fun b o e => Heap.get?_push_of_some _ e, turn_list a _, ⟨_, Heap.get?_push_size _ rfl, rfl, rfl⟩, fp, q⟩
  · obtain ⟨its, rv, p, hz⟩ := I1.tuple hq
    refine wpAny_pyIter_tuple (show s1.heap.IsTuple a its.toArray from p) ?_
    exact ⟨s1.heap.objs.size, [s1.heap.objs.size], _, _, H1, rfl, I1.kept (t' := s1.toks) fun b o e => Heap.get?_push_of_some _ e, turn_tuple a _, ⟨_, Heap.get?_push_size _ rfl, rfl, rfl⟩, fp, q⟩
end
def srcD : D → Sto → Rs Src := fun d S => match d with
  | .tup ds => .ok ⟨ds, []⟩ S
  | .fl ds => .ok ⟨ds, []⟩ S
  | .ref n => match S[n]? with
    | some (.lst ds) => .ok ⟨ds, [(n, ds)]⟩ S
    | _ => .stuck
  | _ => .stuck
def iD (f : Fe) : Fi := fun ρ S => (f ρ S).bind srcD
section
variable {M : Md} {g0 : Wd}
/-- the list at place n, as long as it stays -/
theorem Src.at_ {src : Src} {S : Sto} (h : src.ok S = true) {n : Nat} {ds : List D} (hm : (n, ds) ∈ src.gd) : S[n]? = some (.lst ds) := by
  have z := List.all_eq_true.mp h _ hm
  simp only at z
  split at z
  · rename_i es e
    rw [e, beqDs_eq _ _ z]
  · cases z
theorem srcOk_tup {a : Addr} {ds : List D} {xs : List V} (r0 : Rep M g0) (h : SqT M.K g0.H a xs) (hd : DVs M g0 ds xs) : SrcOk M g0 ⟨ds, []⟩ (Itt M.K a) := by
  refine ⟨fun H => SqT M.K H a xs, YAt xs, by rw [show (Src.mk ds []).its.length = xs.length from hd.length]; exact walk_tup, rfl, fun g1 r1 k _ => k.tup r0 h, fun i g1 x H' hi r1 k _ y => ?_⟩
  obtain ⟨e, hx⟩ := y
  subst e
  obtain ⟨d, h1, h2⟩ := (hd.mono r0 k).getV hx
  exact ⟨d, g1, h1, rfl, rfl, Gr.refl, r1, h2⟩
theorem srcOk_fl {a : Addr} {ds : List D} {xs : List V} (r0 : Rep M g0) (h : FzL M.K g0.H a xs) (hd : DVs M g0 ds xs) : SrcOk M g0 ⟨ds, []⟩ (Itl M.K a) := by
  refine ⟨fun H => SqL M.K H a xs, YAt xs, by rw [show (Src.mk ds []).its.length = xs.length from hd.length]; exact walk_list, rfl, fun g1 r1 k _ => (k.fzl r0 h).sql, fun i g1 x H' hi r1 k _ y => ?_⟩
  obtain ⟨e, hx⟩ := y
  subst e
  obtain ⟨d, h1, h2⟩ := (hd.mono r0 k).getV hx
  exact ⟨d, g1, h1, rfl, rfl, Gr.refl, r1, h2⟩
theorem lst_at {g1 : Wd} (r0 : Rep M g0) (r1 : Rep M g1) (k : Gr g0 g1) {n : Nat} {ds : List D} (h0 : n < g0.S.length) (h : g1.S[n]? = some (.lst ds)) : ∃ xs, SqL M.K g1.H (g0.μ n) xs ∧ DVs M g1 ds xs := by
  obtain ⟨xs, h1, h2⟩ := r1.lst h
  rw [k.same n h0] at h1
  exact ⟨xs, .inl (.inl h1), h2⟩
theorem srcOk_ref {n : Nat} {ds : List D} (r0 : Rep M g0) (h : g0.S[n]? = some (.lst ds)) : SrcOk M g0 ⟨ds, [(n, ds)]⟩ (Itl M.K (g0.μ n)) := by
  have hn : n < g0.S.length := (List.getElem?_eq_some_iff.mp h).1
  refine ⟨fun H => ∃ xs, SqL M.K H (g0.μ n) xs ∧ xs.length = ds.length, fun i H x H' => H' = H ∧ ∀ xs, SqL M.K H (g0.μ n) xs → xs[i]? = some x, ⟨fun i H hi ⟨xs, q, e⟩ => ⟨xs, xs[i]'(by rw [e]; exact hi), q, by simp [e, hi]⟩, fun H ⟨xs, q, e⟩ => ⟨xs, q, by rw [e]; exact Nat.le_refl _⟩, fun i H x H' hi _ y => y⟩, ?_, fun g1 r1 k ok => ?_, fun i g1 x H' hi r1 k ok y => ?_⟩
  · show (match g0.S[n]? with | some (.lst es) => beqDs es ds | _ => false) && true = true
    rw [h]
    simp [beqDs_refl]
  · obtain ⟨xs, h1, h2⟩ := lst_at r0 r1 k hn (Src.at_ ok (List.mem_singleton.mpr rfl))
    exact ⟨xs, h1, h2.length.symm⟩
  · obtain ⟨e, hx⟩ := y
    subst e
    obtain ⟨xs, h1, h2⟩ := lst_at r0 r1 k hn (Src.at_ ok (List.mem_singleton.mpr rfl))
    obtain ⟨d, h3, h4⟩ := h2.getV (hx xs h1)
    exact ⟨d, g1, h3, rfl, rfl, Gr.refl, r1, h4⟩
end
section
variable {M : Md} {X : Cx} {W : WX} {tg : Expr}
theorem mi_d (hK : X.K = M.K) {e : Expr} {f : Fe} (h : ME M X W e f) : MI M X W tg e (iD f) := PI.imp (pi_seq h) fun σ H R q => by
  obtain ⟨g, ρ, rfl, rp, en, q⟩ := q
  have q := Aft.bind (k := srcD) q
  refine tE.go rp en (q.mono (fun d g1 k1 r1 q1 v hv => ?_) fun _ _ _ _ z => z)
  rw [hK]
  unfold srcD at q1
  cases hv with
  | tup h1 h2 => exact ⟨_, rfl, .inr ⟨⟨_, h1⟩, Aft.here r1 q1 _ (srcOk_tup r1 h1 h2)⟩⟩
  | fl h1 h2 => exact ⟨_, rfl, .inl ⟨⟨_, h1.sql⟩, Aft.here r1 q1 _ (srcOk_fl r1 h1 h2)⟩⟩
  | ref hn =>
    simp only at q1
    split at q1
    · rename_i ds hk
      obtain ⟨xs, hx, hxs⟩ := r1.lst hk
      exact ⟨_, rfl, .inl ⟨⟨xs, .inl (.inl hx)⟩, Aft.here r1 q1 _ (srcOk_ref r1 hk)⟩⟩
    · exact q1.elim
  | _ => exact q1.elim

/-! ### ranges -/
def rngD (lo : Int) (n : Nat) : List D := (List.range n).map fun (i : Nat) => .int (lo + (i : Int))
theorem srcOk_rng {g0 : Wd} {lo : Int} {n : Nat} : SrcOk M g0 ⟨rngD lo n, []⟩ (Itr lo n) := by
  have hl : (Src.mk (rngD lo n) []).its.length = n := by show (rngD lo n).length = n; unfold rngD; simp
  refine ⟨fun _ => True, YFn fun i => .int (lo + i), by rw [hl]; exact walk_range, rfl, fun _ _ _ _ => True.intro, fun i g1 x H' hi r1 k _ y => ?_⟩
  obtain ⟨e, hx⟩ := y
  subst e hx
  rw [hl] at hi
  exact ⟨.int (lo + i), g1, by show (rngD lo n)[i]? = _; unfold rngD; simp [hi], rfl, rfl, Gr.refl, r1, .int _⟩
/-- a bound that is stuck at once at what is not known -/
def fitI (j : Int) : Bool := Nat.ble j.natAbs 4000000000000000000
theorem fitI_of {j : Int} (h : fitI j = true) : -(2 ^ 62) ≤ j ∧ j < 2 ^ 62 := by
  have := Nat.le_of_ble_eq_true h
  omega
theorem fitI_ok {j : Int} (h : j.natAbs ≤ 4000000000000000000) : fitI j = true := Nat.ble_eq_true_of_le h
def iR1 (f : Fs) : Fi := fun ρ S => (f ρ S).bind fun ds S1 => match ds with
  | [.int j] => if fitI j = true then .ok ⟨rngD 0 j.toNat, []⟩ S1 else .stuck
  | _ => .stuck
theorem mi_range1 {a : Expr} {p pos : Pos} {f : Fs} (hm : X.mg "range" = none) (ha : MA M X W [a] f) (hg : Gl X "range" := by rfl) (hs : starEach [a] X.env = [(false, eval a X.env)] := by rfl) : MI M X W tg (.Call (.Name "range" p) [a] [] pos) (iR1 f) := PI.imp (pi_range1 hg hm ha hs) fun σ H R q => by
  obtain ⟨g, ρ, rfl, rp, en, q⟩ := q
  have q := Aft.bind (α := List D) (β := Src) (k := fun ds S1 => match ds with
    | [.int j] => if fitI j = true then .ok ⟨rngD 0 j.toNat, []⟩ S1 else .stuck
    | _ => .stuck) q
  refine tA.go rp en (q.mono (fun ds g1 k1 r1 q1 vs hvs => ?_) fun _ _ _ _ z => z)
  split at q1
  · split at q1
    · rename_i hz
      cases hvs with
      | cons h1 h2 =>
        cases h2
        exact ⟨_, by rw [h1.intI], (fitI_of hz).1, (fitI_of hz).2, Aft.here r1 q1 _ srcOk_rng⟩
    · exact q1.elim
  · exact q1.elim
def iR2 (f : Fs) : Fi := fun ρ S => (f ρ S).bind fun ds S1 => match ds with
  | [.int i, .int j] => if (fitI i && fitI j) = true then .ok ⟨rngD i (j - i).toNat, []⟩ S1 else .stuck
  | _ => .stuck
theorem mi_range2 {a b : Expr} {p pos : Pos} {f : Fs} (hm : X.mg "range" = none) (ha : MA M X W [a, b] f) (hg : Gl X "range" := by rfl) (hs : starEach [a, b] X.env = [(false, eval a X.env), (false, eval b X.env)] := by rfl) (hs2 : starEach [b] X.env = [(false, eval b X.env)] := by rfl) : MI M X W tg (.Call (.Name "range" p) [a, b] [] pos) (iR2 f) := PI.imp (pi_range2 hg hm ha hs hs2) fun σ H R q => by
  obtain ⟨g, ρ, rfl, rp, en, q⟩ := q
  have q := Aft.bind (α := List D) (β := Src) (k := fun ds S1 => match ds with
    | [.int i, .int j] => if (fitI i && fitI j) = true then .ok ⟨rngD i (j - i).toNat, []⟩ S1 else .stuck
    | _ => .stuck) q
  refine tA.go rp en (q.mono (fun ds g1 k1 r1 q1 vs hvs => ?_) fun _ _ _ _ z => z)
  split at q1
  · split at q1
    · rename_i hz
      cases hvs with
      | cons h1 h2 =>
        cases h2 with
        | cons h2 h3 =>
          cases h3
          exact ⟨_, _, by rw [h1.intI, h2.intI], (by
            rw [Bool.and_eq_true] at hz
            have a := fitI_of hz.1
            have b := fitI_of hz.2
            exact ⟨a.1, a.2, b.1, b.2⟩), Aft.here r1 q1 _ srcOk_rng⟩
    · exact q1.elim
  · exact q1.elim

/-! ### for -/
def forL (ok : Sto → Bool) (t : Tg) (b : Fst) : List D → Rho → Sto → RsS
  | [], ρ, S => .fl (.nx ρ) S
  | d :: ds, ρ, S => match setT t d ρ with
    | none => .stuck
    | some ρ1 => match b ρ1 S with
      | .fl (.nx ρ2) S2 => if ok S2 = true then forL ok t b ds ρ2 S2 else .stuck
      | .fl (.ct ρ2) S2 => if ok S2 = true then forL ok t b ds ρ2 S2 else .stuck
      | .fl (.brk ρ2) S2 => .fl (.nx ρ2) S2
      | r => r
def sFor (f : Fi) (t : Tg) (b : Fst) : Fst := fun ρ S => thenS (f ρ S) ρ fun src S1 => forL src.ok t b src.its ρ S1
theorem for_t (hK : X.K = M.K) {f : Fi} {t : Tg} {b : Fst} {Dn : Ends} {σ : L2.St} {H : Hp} (q : tS M W (sFor f t b) Dn σ H) : tFor (tI M W f) (gT X.K t) (tS M W b) Dn σ H := by
  obtain ⟨g, ρ, rfl, rp, en, q⟩ := q
  have q := AftS.ofE (α := Src) (k := fun (src : Src) S1 => forL src.ok t b src.its ρ S1) rp en q
  refine ⟨g, ρ, rfl, rp, en, q.mono (fun src g0 k0 r0 q0 J hJ => ?_) fun _ _ _ _ z => z⟩
  obtain ⟨G, Y, w, ok0, hG, hY⟩ := hJ
  refine for_it w (fun i σ H => ∃ g1 ρ1, g1.H = H ∧ Rep M g1 ∧ EnvOk M g1 ρ1 σ ∧ Gr g0 g1 ∧ src.ok g1.S = true ∧ AftS M g1 (forL src.ok t b (src.its.drop i) ρ1 g1.S) Dn W)
    ⟨g0, ρ, rfl, r0, en.mono rp k0, Gr.refl, ok0, q0⟩ (fun i σ H hi p => ?_) (fun i x σ H H' hi p y => ?_) fun σ H p => ?_
  · obtain ⟨g1, ρ1, rfl, r1, en1, k1, ok1, q1⟩ := p
    exact hG g1 r1 k1 ok1
  · obtain ⟨g1, ρ1, rfl, r1, en1, k1, ok1, q1⟩ := p
    obtain ⟨d, g2, hd, rfl, e2, k2, r2, hx⟩ := hY i g1 x H' hi r1 k1 ok1 y
    have ed : src.its.drop i = d :: src.its.drop (i + 1) := by
      rw [List.drop_eq_getElem_cons hi]
      rw [List.getElem?_eq_getElem hi] at hd
      cases hd
      rfl
    rw [ed] at q1
    have q1 := q1.up k2 r2
    rw [← e2] at q1 ok1
    unfold forL at q1
    split at q1
    · exact q1.elim
    · rename_i ρ2 e
      refine gT_ok hK [] t d x ρ1 ρ2 σ _ (en1.mono r1 k2) hx e fun σ2 en2 _ => tS.go r2 en2 ?_
      have k02 := k1.trans r1 k2
      cases hb : b ρ2 g2.S with
      | stuck => rw [hb] at q1; exact q1
      | exc x ρ3 S3 => rw [hb] at q1; exact q1
      | fl fl S3 =>
        rw [hb] at q1
        have go : ∀ ρ3 : Rho, AftS M g2 (if src.ok S3 = true then forL src.ok t b (src.its.drop (i + 1)) ρ3 S3 else .stuck) Dn W → ∀ g', g'.S = S3 → Gr g2 g' → Rep M g' → ∀ σ', EnvOk M g' ρ3 σ' →
            ∃ g1 ρ1, g1.H = g'.H ∧ Rep M g1 ∧ EnvOk M g1 ρ1 σ' ∧ Gr g0 g1 ∧ src.ok g1.S = true ∧ AftS M g1 (forL src.ok t b (src.its.drop (i + 1)) ρ1 g1.S) Dn W := fun ρ3 q3 g' e3 k3 r3 σ' en3 => by
          split at q3
          · rename_i ok3
            refine ⟨g', ρ3, rfl, r3, en3, k02.trans r2 k3, by rw [e3]; exact ok3, ?_⟩
            rw [e3]
            exact q3.up k3 r3
          · exact q3.elim
        cases fl with
        | nx ρ3 => exact go ρ3 q1
        | ct ρ3 => exact go ρ3 q1
        | brk ρ3 => exact q1
        | ret d3 => exact q1
  · obtain ⟨g1, ρ1, rfl, r1, en1, k1, ok1, q1⟩ := p
    rw [List.drop_length] at q1
    exact q1 g1 rfl Gr.refl r1 σ en1
theorem ms_for (hK : X.K = M.K) {iter : Expr} {body : List Stmt} {pos : Pos} {f : Fi} {t : Tg} {b : Fst} (hp : PassesOwn (model X.prog X.w) X.A X.env X.xe) (hc : X.calm = true) (hi : MI M X W tg iter f) (hg : MG X tg t) (hb : MSs M X W body b)
    (hs : ∀ x, foldedSetIterable iter X.env x = pure x := by intro _; rfl) : MS M X W (.For tg iter body [] pos) (sFor f t b) := PS.imp (ps_for hp hc hi hg hb hs) fun _ _ _ q => for_t hK q

/-! ### while -/
def whL (c : Ft) (b : Fst) : Nat → Rho → Sto → RsS
  | 0, _, _ => .stuck
  | n + 1, ρ, S => thenS (c ρ S) ρ fun k S1 => if k = true then (match b ρ S1 with
      | .fl (.nx ρ2) S2 => whL c b n ρ2 S2
      | .fl (.ct ρ2) S2 => whL c b n ρ2 S2
      | .fl (.brk ρ2) S2 => .fl (.nx ρ2) S2
      | r => r) else .fl (.nx ρ) S1
def whMost : Nat := 1000000
def sWhile (c : Ft) (b : Fst) : Fst := fun ρ S => whL c b whMost ρ S
theorem while_t {c : Ft} {b : Fst} {Dn : Ends} {σ : L2.St} {H : Hp} (q : tS M W (sWhile c b) Dn σ H) : tWhile (tT M W c) (tS M W b) Dn σ H := by
  obtain ⟨g, ρ, rfl, rp, en, q⟩ := q
  refine ⟨fun m σ H => ∃ g ρ, g.H = H ∧ Rep M g ∧ EnvOk M g ρ σ ∧ AftS M g (whL c b m ρ g.S) Dn W, ⟨whMost, g, ρ, rfl, rp, en, q⟩, fun m σ H p => ?_⟩
  obtain ⟨g, ρ, rfl, rp, en, q⟩ := p
  cases m with
  | zero => exact q.elim
  | succ n =>
    have q := AftS.ofE (α := Bool) (k := fun k S1 => if k = true then (match b ρ S1 with
      | .fl (.nx ρ2) S2 => whL c b n ρ2 S2
      | .fl (.ct ρ2) S2 => whL c b n ρ2 S2
      | .fl (.brk ρ2) S2 => .fl (.nx ρ2) S2
      | r => r) else .fl (.nx ρ) S1) rp en q
    refine tT.go rp en (q.mono (fun k g1 k1 r1 q1 => ?_) fun _ _ _ _ z => z)
    cases k with
    | false => exact iteF (q1 g1 rfl Gr.refl r1 σ (en.mono rp k1))
    | true =>
      refine iteT ⟨fun σ' H' => ∃ g ρ, g.H = H' ∧ Rep M g ∧ EnvOk M g ρ σ' ∧ AftS M g (whL c b n ρ g.S) Dn W, fun σ' H' p => ⟨n, Nat.lt_succ_self n, p⟩, tS.go r1 (en.mono rp k1) ?_⟩
      have q1 : AftS M g1 (match b ρ g1.S with
        | .fl (.nx ρ2) S2 => whL c b n ρ2 S2
        | .fl (.ct ρ2) S2 => whL c b n ρ2 S2
        | .fl (.brk ρ2) S2 => .fl (.nx ρ2) S2
        | r => r) Dn W := q1
      cases hb : b ρ g1.S with
      | stuck => rw [hb] at q1; exact q1
      | exc x ρ3 S3 => rw [hb] at q1; exact q1
      | fl fl S3 =>
        rw [hb] at q1
        cases fl with
        | nx ρ3 => exact fun g' e3 k3 r3 σ' en3 => ⟨g', ρ3, rfl, r3, en3, by rw [e3]; exact q1.up k3 r3⟩
        | ct ρ3 => exact fun g' e3 k3 r3 σ' en3 => ⟨g', ρ3, rfl, r3, en3, by rw [e3]; exact q1.up k3 r3⟩
        | brk ρ3 => exact q1
        | ret d3 => exact q1
theorem ms_while {c : Expr} {body : List Stmt} {pos : Pos} {fc : Ft} {b : Fst} (hp : PassesOwn (model X.prog X.w) X.A X.env X.xe) (hc : MT M X W c fc) (hb : MSs M X W body b) : MS M X W (.While c body [] pos) (sWhile fc b) := PS.imp (ps_while hp hc hb) fun _ _ _ q => while_t q
end
end MP
set_option Elab.async false
set_option linter.all false
set_option maxRecDepth 100000
set_option maxHeartbeats 4000000
/-! Comprehensions. -/
namespace MP
open PySem PySem.Spec PyProof.Rows L2

def wipeR (ρ : Rho) : List Nat → Rho
  | [] => ρ
  | v :: vs => (wipeR ρ vs).set v none
theorem wipeR_env {M : Md} {g : Wd} {ρ : Rho} {σ : L2.St} (en : EnvOk M g ρ σ) : ∀ vs : List Nat, EnvOk M g (wipeR ρ vs) (wipe σ vs)
  | [] => en
  | v :: vs => by
    have ih := wipeR_env en vs
    refine ⟨by show ((wipeR ρ vs).set v none).length = ((wipe σ vs).set v none).length; simp [ih.len], fun i d hi => ?_⟩
    have hi : ((wipeR ρ vs).set v none)[i]? = some (some d) := hi
    by_cases hv : v = i
    · subst hv
      by_cases hl : v < (wipeR ρ vs).length
      · rw [List.getElem?_set_self hl] at hi; cases hi
      · rw [List.getElem?_eq_none (by simpa using hl)] at hi; cases hi
    · rw [List.getElem?_set_ne hv] at hi
      obtain ⟨w, h1, h2⟩ := ih.at_ i d hi
      exact ⟨w, by show ((wipe σ vs).set v none)[i]? = _; rw [List.getElem?_set_ne hv]; exact h1, h2⟩

/-- the items, one after another: each in the slots ρ -/
def lcL (ok : Sto → Bool) (t : Tg) (c : Ft) (e : Fe) (ρ : Rho) : List D → Sto → Rs (List D)
  | [], S => .ok [] S
  | d :: ds, S => match setT t d ρ with
    | none => .stuck
    | some ρ1 => match c ρ1 S with
      | .ok true S1 => match e ρ1 S1 with
        | .ok y S2 => if ok S2 = true then (lcL ok t c e ρ ds S2).bind fun ys S3 => .ok (y :: ys) S3 else .stuck
        | _ => .stuck
      | .ok false S1 => if ok S1 = true then lcL ok t c e ρ ds S1 else .stuck
      | _ => .stuck
def lcFin : List D → Sto → Rs D := fun ys S => if ys.length ≤ sizeLine then .ok (.ref S.length) (S ++ [.lst ys]) else .stuck
def dLc (f : Fi) (t : Tg) (c : Ft) (e : Fe) (vs : List Nat) : Fe := fun ρ S => (f ρ S).bind fun src S1 => (lcL src.ok t c e (wipeR ρ vs) src.its S1).bind lcFin
def fYes : Ft := fun _ S => .ok true S

/-- an object of the heap becomes a place of the store -/
def Wd.adopt (g : Wd) (p : Addr) (o : SO) : Wd := ⟨fun n => if n = g.S.length then p else g.μ n, g.S ++ [o], g.H⟩
section
variable {M : Md} {g g0 g1 : Wd}
theorem adopt_len {p : Addr} {o : SO} : (g.adopt p o).S.length = g.S.length + 1 := by show (g.S ++ [o]).length = _; simp
theorem adopt_old {p : Addr} {o : SO} {n : Nat} (h : n < g.S.length) : (g.adopt p o).μ n = g.μ n := by show (if n = g.S.length then p else g.μ n) = _; rw [if_neg (by omega)]
theorem adopt_new {p : Addr} {o : SO} : (g.adopt p o).μ g.S.length = p := by show (if g.S.length = g.S.length then p else _) = p; rw [if_pos rfl]
mutual
theorem DV.adopt {p : Addr} {o : SO} : ∀ {d : D} {v : V}, DV M g d v → DV M (g.adopt p o) d v
  | _, _, .non => .non
  | _, _, .bl b => .bl b
  | _, _, .int i => .int i
  | _, _, .str x => .str x
  | _, _, .tup h hs => .tup h (DVs.adopt hs)
  | _, _, .fl h hs => .fl h (DVs.adopt hs)
  | _, _, .ref (n := n) h => by
    have q := DV.ref (M := M) (g := g.adopt p o) (n := n) (by rw [adopt_len]; omega)
    rw [adopt_old h] at q; exact q
  | _, _, .fn i => .fn i
theorem DVs.adopt {p : Addr} {o : SO} : ∀ {ds : List D} {vs : List V}, DVs M g ds vs → DVs M (g.adopt p o) ds vs
  | _, _, .nil => .nil
  | _, _, .cons h hs => .cons (DV.adopt h) (DVs.adopt hs)
end
theorem KDs.adopt {p : Addr} {o : SO} {a : List (Key × D)} {b : List (Key × V)} (h : KDs M g a b) : KDs M (g.adopt p o) a b := Paired.mapP h fun _ _ z => ⟨z.1, z.2.adopt⟩
theorem Rep.adopt (r : Rep M g) {p : Addr} {ds : List D} {xs : List V} (hp : ∀ n, n < g.S.length → g.μ n ≠ p) (h : g.H p = some (.lst xs)) (hd : DVs M g ds xs) : Rep M (g.adopt p (.lst ds)) := by
  refine ⟨fun i j hi hj e => ?_, fun i w e => ?_, r.tabs⟩
  · rw [adopt_len] at hi hj
    by_cases h1 : i = g.S.length
    · by_cases h2 : j = g.S.length
      · omega
      · rw [h1, adopt_new, adopt_old (by omega)] at e; exact absurd e.symm (hp j (by omega))
    · by_cases h2 : j = g.S.length
      · rw [h2, adopt_new, adopt_old (by omega)] at e; exact absurd e (hp i (by omega))
      · rw [adopt_old (by omega), adopt_old (by omega)] at e; exact r.inj i j (by omega) (by omega) e
  · have e : (g.S ++ [.lst ds])[i]? = some w := e
    by_cases h1 : i < g.S.length
    · rw [List.getElem?_append_left h1] at e
      rw [adopt_old h1]
      have q := r.obj i w e
      cases w with
      | lst es => obtain ⟨ys, h3, h4⟩ := q; exact ⟨ys, h3, h4.adopt⟩
      | dk kvs => obtain ⟨ys, h3, h4⟩ := q; exact ⟨ys, h3, h4.adopt⟩
    · have h2 : i = g.S.length := by
        have := (List.getElem?_eq_some_iff.mp e).1
        rw [List.length_append, List.length_singleton] at this
        omega
      subst h2
      rw [List.getElem?_append_right (Nat.le_refl _), Nat.sub_self] at e
      cases (show some (SO.lst ds) = some w from e)
      rw [adopt_new]
      exact ⟨xs, h, hd.adopt⟩
/-- from the world ahead of the object -/
theorem Gr.adopt {p : Addr} {o : SO} (hp : g0.H p = none) (k : Gr g0 g1) : Gr g0 (g1.adopt p o) where
  len := by rw [adopt_len]; exact Nat.le_succ_of_le k.len
  same := fun n hn => by rw [adopt_old (Nat.lt_of_lt_of_le hn k.len)]; exact k.same n hn
  fresh := fun n h1 h2 w z => by
    rw [adopt_len] at h2
    by_cases h : n < g1.S.length
    · rw [adopt_old h] at z; exact k.fresh n h1 h w z
    · have e : n = g1.S.length := by omega
      subst e
      rw [adopt_new, hp] at z; cases z
  keep := k.keep
/-- no place of the store stands at p -/
def Off (g : Wd) (p : Addr) : Prop := ∀ n, n < g.S.length → g.μ n ≠ p
theorem Off.up {p : Addr} {o : List V} (h : Off g p) (hp : g.H p = some (.lst o)) (k : Gr g g1) : Off g1 p := fun n hn e => by
  by_cases hl : n < g.S.length
  · rw [k.same n hl] at e; exact h n hl e
  · obtain ⟨ps, z⟩ := k.fresh n (Nat.le_of_not_lt hl) hn _ (by rw [e]; exact hp)
    cases z
theorem Gr.side {p : Addr} {u : HO} (hp : g0.H p = none) (k : Gr g0 g1) : Gr g0 ⟨g1.μ, g1.S, upd g1.H p u⟩ :=
  ⟨k.len, k.same, k.fresh, fun a w e hn ht => by
    show upd g1.H p u a = some w
    rw [upd_ne (ne_of_none e hp)]; exact k.keep a w e hn ht⟩
end

/-- the list at p is lengthened: no place of the store, no tuple, no frozen list -/
theorem DVs.side {M : Md} {g : Wd} {p : Addr} {u : HO} {ys : List V} (h : g.H p = some (.lst ys)) : ∀ {ds : List D} {vs : List V}, DVs M g ds vs → DVs M ⟨g.μ, g.S, upd g.H p u⟩ ds vs := by
  have ht : ∀ {a : Addr} {xs : List V}, SqT M.K g.H a xs → SqT M.K (upd g.H p u) a xs := fun {a xs} z => by
    rcases z with (z | ⟨o, z⟩) | z
    · exact .inl (.inl (by rw [upd_ne (ne_of z h (by intro q; cases q))]; exact z))
    · exact .inl (.inr ⟨o, by rw [upd_ne (ne_of z h (by intro q; cases q))]; exact z⟩)
    · exact .inr z
  have hf : ∀ {a : Addr} {xs : List V}, FzL M.K g.H a xs → FzL M.K (upd g.H p u) a xs := fun {a xs} z => by
    rcases z with ⟨o, z⟩ | z
    · exact .inl ⟨o, by rw [upd_ne (ne_of z h (by intro q; cases q))]; exact z⟩
    · exact .inr z
  have go : (∀ {d : D} {v : V}, DV M g d v → DV M ⟨g.μ, g.S, upd g.H p u⟩ d v) ∧ ∀ {ds : List D} {vs : List V}, DVs M g ds vs → DVs M ⟨g.μ, g.S, upd g.H p u⟩ ds vs := by
    refine ⟨fun {d v} z => ?_, fun {ds vs} z => ?_⟩
    · exact DV.rec (motive_1 := fun d v _ => DV M ⟨g.μ, g.S, upd g.H p u⟩ d v) (motive_2 := fun ds vs _ => DVs M ⟨g.μ, g.S, upd g.H p u⟩ ds vs) .non (fun b => .bl b) (fun i => .int i) (fun x => .str x) (fun h1 _ ih => .tup (ht h1) ih) (fun h1 _ ih => .fl (hf h1) ih) (fun hn => .ref hn) (fun i => .fn i) .nil (fun _ _ i1 i2 => .cons i1 i2) z
    · exact DVs.rec (motive_1 := fun d v _ => DV M ⟨g.μ, g.S, upd g.H p u⟩ d v) (motive_2 := fun ds vs _ => DVs M ⟨g.μ, g.S, upd g.H p u⟩ ds vs) .non (fun b => .bl b) (fun i => .int i) (fun x => .str x) (fun h1 _ ih => .tup (ht h1) ih) (fun h1 _ ih => .fl (hf h1) ih) (fun hn => .ref hn) (fun i => .fn i) .nil (fun _ _ i1 i2 => .cons i1 i2) z
  exact fun {ds vs} z => go.2 z
theorem DVs.side1 {M : Md} {g : Wd} {p : Addr} {u : HO} {ys : List V} (h : g.H p = some (.lst ys)) {d : D} {v : V} (z : DV M g d v) : DV M ⟨g.μ, g.S, upd g.H p u⟩ d v := by
  cases DVs.side (u := u) h (.cons z .nil) with
  | cons h1 _ => exact h1
theorem Rep.side {M : Md} {g : Wd} (r : Rep M g) {p : Addr} {ys zs : List V} (h : g.H p = some (.lst ys)) (hp : ∀ n, n < g.S.length → g.μ n ≠ p) : Rep M ⟨g.μ, g.S, upd g.H p (.lst zs)⟩ := by
  refine ⟨r.inj, fun i w e => ?_, tabs_but r.tabs (.inl ⟨_, h⟩) fun b w hb z => by
    show upd g.H p _ _ = some w
    rw [upd_ne hb]; exact z⟩
  have hi : i < g.S.length := (List.getElem?_eq_some_iff.mp e).1
  have q := r.obj i w e
  have ne : g.μ i ≠ p := hp i hi
  cases w with
  | lst es =>
    obtain ⟨xs, h1, h2⟩ := q
    exact ⟨xs, by show upd g.H p _ (g.μ i) = _; rw [upd_ne ne]; exact h1, DVs.side h h2⟩
  | dk kvs =>
    obtain ⟨xs, h1, h2⟩ := q
    exact ⟨xs, by show upd g.H p _ (g.μ i) = _; rw [upd_ne ne]; exact h1, Paired.mapP h2 fun _ _ z => ⟨z.1, DVs.side1 h z.2⟩⟩

theorem wipe_wipe (σ : L2.St) (vs : List Nat) : wipe (wipe σ vs) vs = wipe σ vs := by
  apply List.ext_getElem?
  intro j
  rw [wipe_get, wipe_length, wipe_get]
  by_cases h : j ∈ vs ∧ j < σ.length
  · rw [if_pos h, if_pos h]
  · rw [if_neg h]
theorem lcL_cons {ok : Sto → Bool} {t : Tg} {c : Ft} {e : Fe} {ρ : Rho} {d : D} {ds : List D} {S S' : Sto} {ys : List D} (h : lcL ok t c e ρ (d :: ds) S = .ok ys S') :
    ∃ ρ1, setT t d ρ = some ρ1 ∧ ((∃ S1 y S2 ys', c ρ1 S = .ok true S1 ∧ e ρ1 S1 = .ok y S2 ∧ ok S2 = true ∧ lcL ok t c e ρ ds S2 = .ok ys' S' ∧ ys = y :: ys') ∨
      ∃ S1, c ρ1 S = .ok false S1 ∧ ok S1 = true ∧ lcL ok t c e ρ ds S1 = .ok ys S') := by
  unfold lcL at h
  split at h
  · cases h
  · rename_i ρ1 e1
    refine ⟨ρ1, e1, ?_⟩
    split at h
    · rename_i S1 e2
      split at h
      · rename_i y S2 e3
        split at h
        · rename_i e4
          cases q : lcL ok t c e ρ ds S2 with
          | stuck => rw [q] at h; cases h
          | exc x S3 => rw [q] at h; cases h
          | ok ys' S3 =>
            rw [q] at h
            have h : Rs.ok (y :: ys') S3 = .ok ys S' := h
            cases h
            exact .inl ⟨S1, y, S2, ys', e2, e3, e4, q, rfl⟩
        · cases h
      · cases h
    · rename_i S1 e2
      split at h
      · rename_i e4
        exact .inr ⟨S1, e2, e4, h⟩
      · cases h
    · cases h
theorem lcL_noexc {ok : Sto → Bool} {t : Tg} {c : Ft} {e : Fe} {ρ : Rho} {x : Xn} : ∀ {ds : List D} {S S' : Sto}, lcL ok t c e ρ ds S ≠ .exc x S'
  | [], S, S', h => by cases h
  | d :: ds, S, S', h => by
    unfold lcL at h
    split at h
    · cases h
    · split at h
      · split at h
        · split at h
          · rename_i S2 _ _
            cases q : lcL ok t c e ρ ds S2 with
            | stuck => rw [q] at h; cases h
            | exc x S3 => exact lcL_noexc q
            | ok ys' S3 => rw [q] at h; cases h
          · cases h
        · cases h
      · split at h
        · exact lcL_noexc h
        · cases h
      · cases h
abbrev WF : WX := fun _ _ _ _ => False
theorem lc_t {M : Md} {X : Cx} {W : WX} (hK : X.K = M.K) {f : Fi} {t : Tg} {c : Ft} {e : Fe} {vs : List Nat} (hv : t.in_ vs = true) {σ : L2.St} {H : Hp} {Q : VK} (q : tE M W (dLc f t c e vs) σ H Q) : tLc (tI M W f) (gT X.K t) (tT M WF c) (tE M WF e) vs σ H Q := by
  obtain ⟨g, ρ, rfl, rp, en, q⟩ := q
  have q := Aft.bind (α := Src) (β := D) (k := fun src S1 => (lcL src.ok t c e (wipeR ρ vs) src.its S1).bind lcFin) q
  refine ⟨g, ρ, rfl, rp, en, q.mono (fun src g0 k0 r0 q0 J hJ Dl hD => ?_) fun _ _ _ _ z => z⟩
  obtain ⟨G, Y, w, ok0, hG, hY⟩ := hJ
  cases hall : lcL src.ok t c e (wipeR ρ vs) src.its g0.S with
  | stuck => rw [hall] at q0; exact q0.elim
  | exc x S3 => exact (lcL_noexc hall).elim
  | ok all Sall =>
    rw [hall] at q0
    have q0 : Aft M g0 (lcFin all Sall) (PD M Q) (XD M W σ) := q0
    unfold lcFin at q0
    split at q0
    · rename_i hz
      have rl : Rep M ⟨g0.μ, g0.S, upd g0.H Dl (.lst [])⟩ := r0.laid hD
      have kl : Gr g0 ⟨g0.μ, g0.S, upd g0.H Dl (.lst [])⟩ := Gr.laid hD
      have en0 := wipeR_env (en.mono rp k0) vs
      refine lc_it w (fun i H => ∃ g1 acc accv ys, g1.H = H ∧ Rep M g1 ∧ Gr g0 g1 ∧ Off g1 Dl ∧ src.ok g1.S = true ∧ H Dl = some (.lst accv) ∧ DVs M g1 acc accv ∧
          lcL src.ok t c e (wipeR ρ vs) (src.its.drop i) g1.S = .ok ys Sall ∧ all = acc ++ ys)
        ⟨_, [], [], all, rfl, rl, kl, fun n hn e => r0.not_none hn (by rw [show g0.μ n = Dl from e]; exact hD), ok0, upd_same, .nil, hall, rfl⟩ (fun i H hi p => ?_) (fun i x H H' hi p y => ?_) fun H p => ?_
      · obtain ⟨g1, acc, accv, ys, rfl, r1, k01, _, ok1, _⟩ := p
        exact hG g1 r1 k01 ok1
      · obtain ⟨g1, acc, accv, ys, rfl, r1, k01, off1, ok1, hDl, hacc, hys, hal⟩ := p
        obtain ⟨d, g2, hd, rfl, e2, k2, r2, hx⟩ := hY i g1 x H' hi r1 k01 ok1 y
        have ed : src.its.drop i = d :: src.its.drop (i + 1) := by
          rw [List.drop_eq_getElem_cons hi]
          rw [List.getElem?_eq_getElem hi] at hd
          cases hd
          rfl
        rw [ed, ← e2] at hys
        obtain ⟨ρ1, eT, hys⟩ := lcL_cons hys
        have k02 := k01.trans r1 k2
        have off2 := off1.up hDl k2
        have hD2 := k2.keep _ _ hDl off1 (fun _ z => by cases z)
        refine gT_ok hK vs t d x _ ρ1 _ _ (en0.mono r0 k02) hx eT fun σ2 en2 w2 => ⟨(w2 hv).trans (wipe_wipe σ vs), tT.go r2 en2 ?_⟩
        rcases hys with ⟨S1, y, S2, ys', h1, h2, ok2, h3, rfl⟩ | ⟨S1, h1, ok2, h3⟩
        · rw [h1]
          intro g3 e3 k3 r3
          refine iteT (tE.go r3 (en2.mono r2 k3) ?_)
          rw [e3, h2]
          intro g4 e4 k4 r4 v hv4
          have off3 := off2.up hD2 k3
          have hD3 := k3.keep _ _ hD2 off2 (fun _ z => by cases z)
          have off4 := off3.up hD3 k4
          have hD4 : g4.H Dl = some (.lst accv) := k4.keep _ _ hD3 off3 (fun _ z => by cases z)
          have hacc4 : DVs M g4 acc accv := ((hacc.mono r1 k2).mono r2 k3).mono r3 k4
          have hlen : acc.length + (ys'.length + 1) ≤ sizeLine := by rw [hal, List.length_append, List.length_cons] at hz; exact hz
          have k04 := (k02.trans r2 k3).trans r3 k4
          exact ⟨accv, hD4, by rw [← hacc4.length]; omega, ⟨g4.μ, g4.S, upd g4.H Dl (.lst (accv ++ [v]))⟩, acc ++ [y], accv ++ [v], ys', rfl, r4.side hD4 off4, k04.side hD, off4, by show src.ok g4.S = true; rw [e4]; exact ok2, upd_same,
            DVs.side hD4 (hacc4.append (.cons hv4 .nil)), by show lcL _ _ _ _ _ _ g4.S = _; rw [e4]; exact h3, by rw [hal, List.append_assoc]; rfl⟩
        · rw [h1]
          intro g3 e3 k3 r3
          exact iteF ⟨g3, acc, accv, ys, rfl, r3, k02.trans r2 k3, off2.up hD2 k3, by rw [e3]; exact ok2, k3.keep _ _ hD2 off2 (fun _ z => by cases z), (hacc.mono r1 k2).mono r2 k3, by rw [e3]; exact h3, hal⟩
      · obtain ⟨g1, acc, accv, ys, rfl, r1, k01, off1, ok1, hDl, hacc, hys, hal⟩ := p
        rw [List.drop_length] at hys
        cases (show Rs.ok [] g1.S = .ok ys Sall from hys)
        rw [List.append_nil] at hal
        subst hal
        have z := q0 (g1.adopt Dl (.lst all)) rfl (Gr.adopt hD k01) (r1.adopt off1 hDl hacc) (.ref Dl)
        have z2 : DV M (g1.adopt Dl (.lst all)) (.ref g1.S.length) (.ref Dl) := by
          have q := DV.ref (M := M) (g := g1.adopt Dl (.lst all)) (n := g1.S.length) (by rw [adopt_len]; omega)
          rw [adopt_new] at q; exact q
        exact z z2
    · exact q0.elim

section
variable {M : Md} {X : Cx} {W : WX}
/-- [e for t in iter if c] -/
theorem me_lc (hK : X.K = M.K) {elt tg iter : Expr} {ifs : List Expr} {scope : Scope} {own : List (Str × Nat)} {pos : Pos} {f : Fi} {t : Tg} {c : Ft} {e : Fe} (hc : X.calm = true) (hN : X.N.Nodup) (hi : MI M X W tg iter f) (hb : blkC X.N X.env.scope scope own = true)
    (hg : ∀ (s : Shared) (H : Hp) (C : Addr) (cl : List (Str × Addr)) (fp : List Addr), MG (X.blk s H scope (compEnvC scope cl C X.env) fp) tg t)
    (ht : ∀ (s : Shared) (H : Hp) (C : Addr) (cl : List (Str × Addr)) (fp : List Addr), PTs (X.blk s H scope (compEnvC scope cl C X.env) fp) ifs (tT M WF c))
    (he : ∀ (s : Shared) (H : Hp) (C : Addr) (cl : List (Str × Addr)) (fp : List Addr), ME M (X.blk s H scope (compEnvC scope cl C X.env) fp) WF elt e) (hv : t.in_ (own.map (·.2)) = true := by rfl) (hs : ∀ x, foldedSetIterable iter X.env x = pure x := by intro _; rfl) :
    ME M X W (.ListComp elt [⟨tg, iter, ifs, 0⟩] scope pos) (dLc f t c e (own.map (·.2))) :=
  PE.imp (pe_lc hc hN hi (blkOk_by hb) hg ht he hs) fun _ _ _ q => lc_t hK hv q
theorem mts_nil : PTs X [] (tT M W fYes) := ⟨fun pins s σ H Q I h => by
  obtain ⟨g, ρ, rfl, rp, en, q⟩ := h
  exact pts_nil.run pins s σ g.H Q I (Aft.here rp q)⟩
theorem mts_one {c : Expr} {f : Ft} (h : MT M X W c f) : PTs X [c] (tT M W f) := pts_one h
/-- name = [..] on one line -/
theorem ms_setLc (hK : X.K = M.K) {i : Nat} {y : Str} {py : Pos} {elt tg iter : Expr} {ifs : List Expr} {scope : Scope} {own : List (Str × Nat)} {pos spos : Pos} {f : Fi} {t : Tg} {c : Ft} {e : Fe} (hc : X.calm = true) (hN : X.N.Nodup) (hi : MI M X W tg iter f) (hb : blkC X.N X.env.scope scope own = true)
    (hg : ∀ (s : Shared) (H : Hp) (C : Addr) (cl : List (Str × Addr)) (fp : List Addr), MG (X.blk s H scope (compEnvC scope cl C X.env) fp) tg t)
    (ht : ∀ (s : Shared) (H : Hp) (C : Addr) (cl : List (Str × Addr)) (fp : List Addr), PTs (X.blk s H scope (compEnvC scope cl C X.env) fp) ifs (tT M WF c))
    (he : ∀ (s : Shared) (H : Hp) (C : Addr) (cl : List (Str × Addr)) (fp : List Addr), ME M (X.blk s H scope (compEnvC scope cl C X.env) fp) WF elt e)
    (ha : (scope.names.any fun (n, k) => n == y && (k == .local || k == .cell)) = false) (hk : X.env.scope.kind = .function := by rfl) (hy : X.N[i]? = some y := by rfl) (hyl : X.env.scope.names.lookup y = some .local := by rfl) (hl : (py.line == pos.line) = true := by rfl)
    (hv : t.in_ (own.map (·.2)) = true := by rfl) (hs : ∀ x, foldedSetIterable iter X.env x = pure x := by intro _; rfl) :
    MS M X W (.Assign [.Name y py] (.ListComp elt [⟨tg, iter, ifs, 0⟩] scope pos) spos) (sSet i (dLc f t c e (own.map (·.2)))) :=
  PS.imp (ps_setLc hc hN hy hyl (sw_true hk hyl hl ha) hi (blkOk_by hb) hg ht he hs) fun Dn σ H q => by
    have q := set_t q
    exact lc_t hK hv q
end
end MP
set_option Elab.async false
set_option linter.all false
set_option maxRecDepth 100000
set_option maxHeartbeats 4000000
/-! Built-in functions, methods, defs. -/
namespace MP
open PySem PySem.Spec PyProof.Rows L2

/-! ### a slot's value, the items' kinds -/
def asInts : List D → Option (List Int)
  | [] => some []
  | .int i :: ds => (asInts ds).map (i :: ·)
  | _ => none
def asBls : List D → Option (List Bool)
  | [] => some []
  | .bl b :: ds => (asBls ds).map (b :: ·)
  | _ => none
section
variable {M : Md} {g : Wd}
theorem asInts_v : ∀ {ds : List D} {vs : List V} {ns : List Int}, DVs M g ds vs → asInts ds = some ns → vs = ns.map V.int
  | _, _, _, .nil, e => by cases (show some [] = some _ from e); rfl
  | d :: ds, _, ns, .cons h t, e => by
    cases h with
    | int i =>
      have e : (asInts ds).map (i :: ·) = some ns := e
      simp only [Option.map_eq_some_iff] at e
      obtain ⟨ms, e1, rfl⟩ := e
      rw [asInts_v t e1]; rfl
    | _ => cases e
theorem asBls_v : ∀ {ds : List D} {vs : List V} {ns : List Bool}, DVs M g ds vs → asBls ds = some ns → vs = ns.map V.bl
  | _, _, _, .nil, e => by cases (show some [] = some _ from e); rfl
  | d :: ds, _, ns, .cons h t, e => by
    cases h with
    | bl i =>
      have e : (asBls ds).map (i :: ·) = some ns := e
      simp only [Option.map_eq_some_iff] at e
      obtain ⟨ms, e1, rfl⟩ := e
      rw [asBls_v t e1]; rfl
    | _ => cases e
/-- the items of a list (no tuple) -/
def lstD : D → Sto → Option (List D) := fun d S => match d with
  | .fl ds => some ds
  | .ref n => match S[n]? with
    | some (.lst ds) => some ds
    | _ => none
  | _ => none
theorem lstD_v {d : D} {v : V} {ds : List D} (r : Rep M g) (h : DV M g d v) (e : lstD d g.S = some ds) : ∃ a xs, v = .ref a ∧ SqL M.K g.H a xs ∧ DVs M g ds xs := by
  unfold lstD at e
  cases h with
  | fl h1 h2 => cases e; exact ⟨_, _, rfl, h1.sql, h2⟩
  | ref hn =>
    simp only at e
    split at e
    · rename_i es hk
      cases e
      obtain ⟨xs, hx, hxs⟩ := r.lst hk
      exact ⟨_, xs, rfl, .inl (.inl hx), hxs⟩
    · cases e
  | _ => cases e
theorem DVs.one {d : D} {vs : List V} (h : DVs M g [d] vs) : ∃ v, vs = [v] ∧ DV M g d v := by
  cases h with
  | cons h t => cases t; exact ⟨_, rfl, h⟩
theorem DVs.two {d e : D} {vs : List V} (h : DVs M g [d, e] vs) : ∃ v u, vs = [v, u] ∧ DV M g d v ∧ DV M g e u := by
  cases h with
  | cons h t =>
    obtain ⟨u, rfl, hu⟩ := t.one
    exact ⟨_, _, rfl, h, hu⟩

/-! ### functions -/
def nLen : FN := fun ds S => match ds with
  | [.str z] => if z.length ≤ sizeLine then .ok (.int (z.length : Nat)) S else .stuck
  | [d] => match itemsD d S with
    | some es => .ok (.int (es.length : Nat)) S
    | none => .stuck
  | _ => .stuck
def rLenV (K : PySem.W.Frag) : List V → Hp → VK → Prop := fun xs H Q => ∃ x n, xs = [x] ∧ LenV K x H n ∧ Q (.int (n : Nat)) H
theorem on_len : OpN M (rLenV M.K) nLen := by
  intro g ds vs Q E r hv h
  unfold nLen at h
  split at h
  · split at h
    · rename_i z hz
      obtain ⟨v, rfl, h1⟩ := hv.one
      exact ⟨v, _, rfl, by rw [h1.strI]; exact ⟨hz, rfl⟩, h.here r _ (.int _)⟩
    · exact h.elim
  · split at h
    · rename_i es he
      obtain ⟨v, rfl, h1⟩ := hv.one
      obtain ⟨a, xs, rfl, hx, hxs⟩ := itemsD_v r h1 he
      refine ⟨_, xs.length, rfl, ?_, by rw [← hxs.length]; exact h.here r _ (.int _)⟩
      rcases hx with hx | hx
      · exact .inr ⟨xs, hx, rfl⟩
      · exact .inl ⟨xs, hx, rfl⟩
    · exact h.elim
  · exact h.elim
def nAbs : FN := fun ds S => match ds with
  | [.int i] => .ok (.int (if i < 0 then -i else i)) S
  | _ => .stuck
theorem on_abs : OpN M (fun xs H Q => ∃ i, xs = [.int i] ∧ Q (.int (if i < 0 then -i else i)) H) nAbs := by
  intro g ds vs Q E r hv h
  unfold nAbs at h
  split at h
  · obtain ⟨v, rfl, h1⟩ := hv.one
    exact ⟨_, by rw [h1.intI], h.here r _ (.int _)⟩
  · exact h.elim
def nMax2 : FN := fun ds S => match ds with
  | [.int i, .int j] => .ok (.int (if j > i then j else i)) S
  | _ => .stuck
theorem on_max2 : OpN M (fun xs H Q => ∃ i j, xs = [.int i, .int j] ∧ Q (.int (if j > i then j else i)) H) nMax2 := by
  intro g ds vs Q E r hv h
  unfold nMax2 at h
  split at h
  · obtain ⟨v, u, rfl, h1, h2⟩ := hv.two
    exact ⟨_, _, by rw [h1.intI, h2.intI], h.here r _ (.int _)⟩
  · exact h.elim
def nMin2 : FN := fun ds S => match ds with
  | [.int i, .int j] => .ok (.int (if j < i then j else i)) S
  | _ => .stuck
theorem on_min2 : OpN M (fun xs H Q => ∃ i j, xs = [.int i, .int j] ∧ Q (.int (if j < i then j else i)) H) nMin2 := by
  intro g ds vs Q E r hv h
  unfold nMin2 at h
  split at h
  · obtain ⟨v, u, rfl, h1, h2⟩ := hv.two
    exact ⟨_, _, by rw [h1.intI, h2.intI], h.here r _ (.int _)⟩
  · exact h.elim
def nInt : FN := fun ds S => match ds with
  | [.int i] => .ok (.int i) S
  | [.bl k] => .ok (.int (if k then 1 else 0)) S
  | _ => .stuck
theorem on_int : OpN M (fun xs H Q => (∃ i, xs = [.int i] ∧ Q (.int i) H) ∨ ∃ k, xs = [.bl k] ∧ Q (.int (if k then 1 else 0)) H) nInt := by
  intro g ds vs Q E r hv h
  unfold nInt at h
  split at h
  · obtain ⟨v, rfl, h1⟩ := hv.one
    exact .inl ⟨_, by rw [h1.intI], h.here r _ (.int _)⟩
  · obtain ⟨v, rfl, h1⟩ := hv.one
    exact .inr ⟨_, by rw [h1.blI], h.here r _ (.int _)⟩
  · exact h.elim
def nTuple : FN := fun ds S => match ds with
  | [d] => match d with
    | .tup es => .ok (.tup es) S
    | d => match lstD d S with
      | some es => .ok (.tup es) S
      | none => .stuck
  | _ => .stuck
def rTupleOf (K : PySem.W.Frag) : List V → Hp → VK → Prop := fun xs H Q => ∃ p ys, xs = [.ref p] ∧ ((SqL K H p ys ∧ ∀ l, H l = none → Q (.ref l) (upd H l (.tup ys))) ∨ (SqT K H p ys ∧ Q (.ref p) H))
theorem on_tuple : OpN M (rTupleOf M.K) nTuple := by
  intro g ds vs Q E r hv h
  unfold nTuple at h
  split at h
  · split at h
    · obtain ⟨v, rfl, h1⟩ := hv.one
      obtain ⟨a, xs, rfl, hx, hxs⟩ := h1.tupI
      exact ⟨a, xs, rfl, .inr ⟨hx, h.here r _ h1⟩⟩
    · split at h
      · rename_i es he
        obtain ⟨v, rfl, h1⟩ := hv.one
        obtain ⟨a, xs, rfl, hx, hxs⟩ := lstD_v r h1 he
        exact ⟨a, xs, rfl, .inl ⟨hx, fun p hp => new_tup r h hp _ (dv_new r hp hxs)⟩⟩
      · exact h.elim
  · exact h.elim
def nList : FN := fun ds S => match ds with
  | [d] => match itemsD d S with
    | some es => .ok (.ref S.length) (S ++ [.lst es])
    | none => .stuck
  | _ => .stuck
def rListOf (K : PySem.W.Frag) : List V → Hp → VK → Prop := fun xs H Q => ∃ p ys, xs = [.ref p] ∧ (SqL K H p ys ∨ SqT K H p ys) ∧ ∀ l, H l = none → Q (.ref l) (upd H l (.lst ys))
theorem on_list : OpN M (rListOf M.K) nList := by
  intro g ds vs Q E r hv h
  unfold nList at h
  split at h
  · split at h
    · rename_i es he
      obtain ⟨v, rfl, h1⟩ := hv.one
      obtain ⟨a, xs, rfl, hx, hxs⟩ := itemsD_v r h1 he
      exact ⟨a, xs, rfl, hx.symm, fun p hp => new_lst r h hp hxs _ .newRef⟩
    · exact h.elim
  · exact h.elim
def nAll : FN := fun ds S => match ds with
  | [d] => match lstD d S with
    | some es => match asBls es with
      | some bs => .ok (.bl (bs.all id)) S
      | none => .stuck
    | none => .stuck
  | _ => .stuck
theorem on_all : OpN M (rAll M.K) nAll := by
  intro g ds vs Q E r hv h
  unfold nAll at h
  split at h
  · split at h
    · rename_i es he
      split at h
      · rename_i bs hb
        obtain ⟨v, rfl, h1⟩ := hv.one
        obtain ⟨a, xs, rfl, hx, hxs⟩ := lstD_v r h1 he
        rw [asBls_v hxs hb] at hx
        exact ⟨a, bs, rfl, hx, h.here r _ (.bl _)⟩
      · exact h.elim
    · exact h.elim
  · exact h.elim
def nAny : FN := fun ds S => match ds with
  | [d] => match lstD d S with
    | some es => match asBls es with
      | some bs => .ok (.bl (bs.any id)) S
      | none => .stuck
    | none => .stuck
  | _ => .stuck
theorem on_any : OpN M (rAny M.K) nAny := by
  intro g ds vs Q E r hv h
  unfold nAny at h
  split at h
  · split at h
    · rename_i es he
      split at h
      · rename_i bs hb
        obtain ⟨v, rfl, h1⟩ := hv.one
        obtain ⟨a, xs, rfl, hx, hxs⟩ := lstD_v r h1 he
        rw [asBls_v hxs hb] at hx
        exact ⟨a, bs, rfl, hx, h.here r _ (.bl _)⟩
      · exact h.elim
    · exact h.elim
  · exact h.elim
def nSum : FN := fun ds S => match ds with
  | [d] => match lstD d S with
    | some es => match asInts es with
      | some ns => .ok (.int ns.sum) S
      | none => .stuck
    | none => .stuck
  | _ => .stuck
theorem on_sum : OpN M (rSum M.K) nSum := by
  intro g ds vs Q E r hv h
  unfold nSum at h
  split at h
  · split at h
    · rename_i es he
      split at h
      · rename_i bs hb
        obtain ⟨v, rfl, h1⟩ := hv.one
        obtain ⟨a, xs, rfl, hx, hxs⟩ := lstD_v r h1 he
        rw [asInts_v hxs hb] at hx
        exact ⟨a, bs, rfl, hx, h.here r _ (.int _)⟩
      · exact h.elim
    · exact h.elim
  · exact h.elim
def nGcd : FN := fun ds S => match ds with
  | [.int i, .int j] => .ok (.int ((Nat.gcd i.natAbs j.natAbs : Nat) : Int)) S
  | _ => .stuck
theorem on_gcd : OpN M rGcd nGcd := by
  intro g ds vs Q E r hv h
  unfold nGcd at h
  split at h
  · obtain ⟨v, u, rfl, h1, h2⟩ := hv.two
    exact ⟨_, _, by rw [h1.intI, h2.intI], h.here r _ (.int _)⟩
  · exact h.elim

/-! ### isinstance -/
end
inductive Ty where
  | none | bool | int | str | tuple | list | dict
  deriving DecidableEq
def Ty.nm : Ty → String
  | .none => "NoneType" | .bool => "bool" | .int => "int" | .str => "str" | .tuple => "tuple" | .list => "list" | .dict => "dict"
def Ty.sub (a b : Ty) : Bool := decide (a = b) || (decide (a = .bool) && decide (b = .int))
theorem Ty.kit (a b : Ty) (h : b ≠ .none) : kitB a.nm b.nm = some (Ty.sub a b) := by
  cases a <;> cases b <;> first | exact absurd rfl h | decide +kernel
def tyD : D → Sto → Option Ty := fun d S => match d with
  | .non => some .none
  | .bl _ => some .bool
  | .int _ => some .int
  | .str _ => some .str
  | .tup _ => some .tuple
  | .fl _ => some .list
  | .ref n => match S[n]? with
    | some (.lst _) => some .list
    | some (.dk _) => some .dict
    | _ => Option.none
  | .fn _ => Option.none
def dIsi (b : Ty) (f : Fe) : Fe := fun ρ S => (f ρ S).bind fun d S1 => match tyD d S1 with
  | some a => .ok (.bl (Ty.sub a b)) S1
  | Option.none => .stuck
section
variable {M : Md} {X : Cx} {W : WX}
theorem tyD_v {g : Wd} {d : D} {v : V} {a : Ty} (r : Rep M g) (h : DV M g d v) (e : tyD d g.S = some a) : TyX M.K g.H v (.type a.nm) := by
  unfold tyD at e
  cases h with
  | non => cases e; exact .base .non
  | bl b => cases e; exact .base (.bl b)
  | int i => cases e; exact .base (.int i)
  | str x => cases e; exact .base (.str x)
  | tup h1 h2 =>
    cases e
    rcases h1 with (h1 | ⟨o, h1⟩) | ⟨o, its, n, h1, h2, _⟩
    · exact .base (.tup h1)
    · exact .fTuple h1
    · exact .kTuple h1 h2
  | fl h1 h2 =>
    cases e
    rcases h1 with ⟨o, h1⟩ | ⟨o, its, n, h1, h2, _⟩
    · exact .base (.frz h1)
    · exact .kList h1 h2
  | ref hn =>
    simp only at e
    split at e
    · rename_i ds hk
      cases e
      obtain ⟨xs, hx, _⟩ := r.lst hk
      exact .base (.lst hx)
    · rename_i kvs hk
      cases e
      obtain ⟨ws, hx, _⟩ := r.obj _ _ hk
      exact .base (.dK hx)
    · cases e
  | fn i => cases e
theorem me_isi (hK : X.K = M.K) {e : Expr} {T : Str} {p p2 pos : Pos} {f : Fe} {b : Ty} (hm : X.mg "isinstance" = none) (hmT : X.mg T = none) (hvT : bootBuiltins T = some (.type b.nm)) (hb : b ≠ .none) (he : ME M X W e f) (hg : Gl X "isinstance" := by rfl) (hgT : Gl X T := by rfl)
    (hnT : T ≠ "__name__" := by decide) (hdT : (T == ("__debug__" : Str)) = false := by decide)
    (hs : starEach [e, .Name T p2] X.env = (false, eval e X.env) :: starEach [.Name T p2] X.env := by rfl) :
    ME M X W (.Call (.Name "isinstance" p) [e, .Name T p2] [] pos) (dIsi b f) :=
  PE.imp (pe_callB call_isi hg hm boot_isinstance (pa_cons he (pa_cons (pe_bltn (v := .ty b.nm) hgT hmT hvT rfl hnT hdT) pa_nil) hs) (he := hs)) fun σ H Q q => by
    obtain ⟨g, ρ, rfl, rp, en, q⟩ := q
    have q := Aft.bind (β := D) (k := fun (d : D) S1 => match tyD d S1 with
      | some a => .ok (.bl (Ty.sub a b)) S1
      | Option.none => .stuck) q
    refine tE.go rp en (q.mono (fun d g1 k1 r1 q1 v hv => ?_) fun _ _ _ _ z => z)
    split at q1
    · rename_i a ha
      rw [hK]
      exact ⟨v, .ty b.nm, _, _, _, rfl, .ty _, tyD_v r1 hv ha, kit_ty (Ty.kit a b hb), Aft.here r1 q1 _ (.bl _)⟩
    · exact q1.elim
/-- a module's name for a built-in function -/
theorem me_callBfun {x : Str} {p pos : Pos} {e : Expr} {es : List Expr} {id : String} {r : List V → Hp → VK → Prop} {f : FN} {a : Fs} (hc : CallR X (.builtin id) r) (h : OpN M r f) (hm : X.mg x = some (.builtin id)) (ha : MA M X W (e :: es) a) (hg : Gl X x := by rfl) (hdb : (x == ("__debug__" : Str)) = false := by decide)
    (he : starEach (e :: es) X.env = (false, eval e X.env) :: starEach es X.env := by rfl) (hpl : (backTo pos (starEach es X.env)).any (·.1) = false := by rfl) : ME M X W (.Call (.Name x p) (e :: es) [] pos) (dN f a) :=
  PE.imp (pe_callBfun hc hg hm ha hdb he hpl) fun _ _ _ q => callN_t h q

/-! ### methods of lists -/
abbrev FM := D → List D → Sto → Rs D
def dM0 (f : FM) (o : Fe) : Fe := fun ρ S => (o ρ S).bind fun d S1 => f d [] S1
def dM (f : FM) (o : Fe) (a : Fs) : Fe := fun ρ S => (o ρ S).bind fun d S1 => (a ρ S1).bind fun ds S2 => f d ds S2
/-- the receiver's type is there as soon as it is evaluated: it is a list, whatever the arguments do -/
def isLstD : D → Sto → Bool := fun d S => match lstD d S with
  | some _ => true
  | none => false
def dML (f : FM) (o : Fe) (a : Fs) : Fe := fun ρ S => (o ρ S).bind fun d S1 => if isLstD d S1 = true then (a ρ S1).bind fun ds S2 => f d ds S2 else .stuck
def OpM (M : Md) (r : V → List V → Hp → VK → Prop) (f : FM) : Prop := ∀ (g : Wd) (d : D) (v : V) (ds : List D) (vs : List V) (Q : VK) (E : Xn → Wd → Prop), Rep M g → DV M g d v → DVs M g ds vs → Aft M g (f d ds g.S) (PD M Q) E → r v vs g.H Q
theorem isLst_ty {g : Wd} {d : D} {v : V} (r : Rep M g) (hv : DV M g d v) (h : isLstD d g.S = true) : tyV M.K "list" v g.H := by
  unfold isLstD at h
  split at h
  · rename_i ds e
    obtain ⟨a, xs, rfl, hx, _⟩ := lstD_v r hv e
    exact .inl ⟨rfl, xs, hx⟩
  · cases h
theorem methL_t {r : V → List V → Hp → VK → Prop} {f : FM} {o : Fe} {a : Fs} (h : OpM M r f) {σ : L2.St} {H : Hp} {Q : VK} (q : tE M W (dML f o a) σ H Q) : tBM M.K "list" r (tE M W o) (tA M W a) σ H Q := by
  obtain ⟨g, ρ, rfl, rp, en, q⟩ := q
  have q := Aft.bind (α := D) (k := fun d S1 => if isLstD d S1 = true then (a ρ S1).bind fun ds S2 => f d ds S2 else .stuck) q
  refine tE.go rp en (q.mono (fun d g1 k1 r1 q1 v hv => ?_) fun _ _ _ _ z => z)
  split at q1
  · rename_i hl
    refine ⟨isLst_ty r1 hv hl, ?_⟩
    have q1 := Aft.bind (α := List D) (k := fun ds S2 => f d ds S2) q1
    exact tA.go r1 (en.mono rp k1) (q1.mono (fun ds g2 k2 r2 q2 vs hvs => h g2 d v ds vs Q _ r2 (hv.mono r1 k2) hvs q2) fun _ _ _ _ z => z)
  · exact q1.elim
def mAppend : FM := fun d ds S => match d, ds with
  | .ref n, [y] => match S[n]? with
    | some (.lst es) => if es.length < sizeLine then .ok .non (S.set n (.lst (es ++ [y]))) else .stuck
    | _ => .stuck
  | _, _ => .stuck
theorem om_append : OpM M rAppend mAppend := by
  intro g d v ds vs Q E r hv hvs h
  unfold mAppend at h
  split at h
  · rename_i n y
    split at h
    · rename_i es hk
      split at h
      · rename_i hz
        obtain ⟨rfl, _⟩ := hv.refI
        obtain ⟨u, rfl, hu⟩ := hvs.one
        obtain ⟨xs, hx, hxs⟩ := r.lst hk
        exact ⟨_, xs, u, rfl, rfl, hx, by rw [← hxs.length]; exact hz, put_lst r hk h (hxs.append (.cons hu .nil)) _ .non⟩
      · exact h.elim
    · exact h.elim
  · exact h.elim
def mExtend : FM := fun d ds S => match d, ds with
  | .ref n, [.ref m] => match S[n]?, S[m]? with
    | some (.lst es), some (.lst fs) => if es.length + fs.length ≤ sizeLine then .ok .non (S.set n (.lst (es ++ fs))) else .stuck
    | _, _ => .stuck
  | _, _ => .stuck
theorem om_extend : OpM M rExtend mExtend := by
  intro g d v ds vs Q E r hv hvs h
  unfold mExtend at h
  split at h
  · rename_i n m
    split at h
    · rename_i es fs hk hk2
      split at h
      · rename_i hz
        obtain ⟨rfl, _⟩ := hv.refI
        obtain ⟨u, rfl, hu⟩ := hvs.one
        obtain ⟨rfl, _⟩ := hu.refI
        obtain ⟨xs, hx, hxs⟩ := r.lst hk
        obtain ⟨ys, hy, hys⟩ := r.lst hk2
        exact ⟨_, _, xs, ys, rfl, rfl, hx, hy, by rw [← hxs.length, ← hys.length]; exact hz, put_lst r hk h (hxs.append hys) _ .non⟩
      · exact h.elim
    · exact h.elim
  · exact h.elim
def mPop : FM := fun d ds S => match d, ds with
  | .ref n, [] => match S[n]? with
    | some (.lst es) => match es[es.length - 1]? with
      | some y => .ok y (S.set n (.lst es.dropLast))
      | none => .stuck
    | _ => .stuck
  | _, _ => .stuck
theorem om_pop : OpM M rPop mPop := by
  intro g d v ds vs Q E r hv hvs h
  unfold mPop at h
  split at h
  · rename_i n
    split at h
    · rename_i es hk
      split at h
      · rename_i y hy
        obtain ⟨rfl, hn⟩ := hv.refI
        cases hvs
        obtain ⟨xs, hx, hxs⟩ := r.lst hk
        obtain ⟨u, hu, huv⟩ := hxs.get hy
        refine ⟨_, xs, u, rfl, rfl, hx, by rw [← hxs.length]; exact hu, ?_⟩
        have kk : Gr g (g.put n (.lst es.dropLast) (.lst xs.dropLast)) := Gr.put hn
        exact put_lst r hk h hxs.dropLast _ (huv.mono r kk)
      · exact h.elim
    · exact h.elim
  · exact h.elim
theorem me_append (hK : X.K = M.K) {o e : Expr} {es : List Expr} {apos cpos : Pos} {fo : Fe} {a : Fs} (ho : ME M X W o fo) (ha : MA M X W (e :: es) a) (hbase : attributeBase o "append" X.env (eval o X.env) = eval o X.env := by rfl)
    (hfew : ((backTo cpos (starEach (e :: es) X.env)).all (fun x => !x.1) && (backToKw cpos (keywordEach [] X.env)).all (fun x => x.1.isSome)
      && decide ((e :: es).length + ([] : List Keyword).length + (if ([] : List Keyword).isEmpty then 0 else 1) < 30)) = true := by rfl)
    (hline : (apos.endLine == cpos.line) = true := by rfl) (hs : starEach (e :: es) X.env = (false, eval e X.env) :: starEach es X.env := by rfl) (hplain : (backTo cpos (starEach es X.env)).any (·.1) = false := by rfl) :
    ME M X W (.Call (.Attribute o "append" apos) (e :: es) [] cpos) (dML mAppend fo a) :=
  PE.imp (pe_bm PySem.F.plainAttrs_list PySem.F.slot_list_append PySem.F.type_list_append mt_append ho ha hbase hfew hline hs hplain) fun _ _ _ q => by rw [hK]; exact methL_t om_append q
theorem me_extend (hK : X.K = M.K) {o e : Expr} {es : List Expr} {apos cpos : Pos} {fo : Fe} {a : Fs} (ho : ME M X W o fo) (ha : MA M X W (e :: es) a) (hbase : attributeBase o "extend" X.env (eval o X.env) = eval o X.env := by rfl)
    (hfew : ((backTo cpos (starEach (e :: es) X.env)).all (fun x => !x.1) && (backToKw cpos (keywordEach [] X.env)).all (fun x => x.1.isSome)
      && decide ((e :: es).length + ([] : List Keyword).length + (if ([] : List Keyword).isEmpty then 0 else 1) < 30)) = true := by rfl)
    (hline : (apos.endLine == cpos.line) = true := by rfl) (hs : starEach (e :: es) X.env = (false, eval e X.env) :: starEach es X.env := by rfl) (hplain : (backTo cpos (starEach es X.env)).any (·.1) = false := by rfl) :
    ME M X W (.Call (.Attribute o "extend" apos) (e :: es) [] cpos) (dML mExtend fo a) :=
  PE.imp (pe_bm PySem.F.plainAttrs_list PySem.F.slot_list_extend PySem.F.type_list_extend mt_extend ho ha hbase hfew hline hs hplain) fun _ _ _ q => by rw [hK]; exact methL_t om_extend q
def dML0 (f : FM) (o : Fe) : Fe := fun ρ S => (o ρ S).bind fun d S1 => if isLstD d S1 = true then f d [] S1 else .stuck
theorem me_pop (hK : X.K = M.K) {o : Expr} {apos cpos : Pos} {fo : Fe} (ho : ME M X W o fo) (hbase : attributeBase o "pop" X.env (eval o X.env) = eval o X.env := by rfl) (hline : (apos.endLine == cpos.line) = true := by rfl) :
    ME M X W (.Call (.Attribute o "pop" apos) [] [] cpos) (dML0 mPop fo) :=
  PE.imp (pe_bm0 PySem.F.plainAttrs_list PySem.F.slot_list_pop PySem.F.type_list_pop mt_pop ho hbase hline) fun σ H Q q => by
    rw [hK]
    obtain ⟨g, ρ, rfl, rp, en, q⟩ := q
    have q := Aft.bind (α := D) (k := fun d S1 => if isLstD d S1 = true then mPop d [] S1 else .stuck) q
    refine tE.go rp en (q.mono (fun d g1 k1 r1 q1 v hv => ?_) fun _ _ _ _ z => z)
    split at q1
    · rename_i hl
      exact ⟨isLst_ty r1 hv hl, om_pop g1 d v [] [] Q _ r1 hv .nil q1⟩
    · exact q1.elim

/-! ### {} -/
def dEmpty : Fe := fun _ S => .ok (.ref S.length) (S ++ [.dk []])
theorem me_empty {pos : Pos} : ME M X W (.Dict [] [] pos) dEmpty := PE.imp pe_dnewK fun σ H Q q => by
  obtain ⟨g, ρ, rfl, rp, en, q⟩ := q
  intro d hd
  have hd : g.H d = none := hd
  exact q (g.new d (.dk []) (.dK [])) rfl (Gr.new hd) (rp.new hd ⟨[], upd_same, .nil⟩) _ .newRef
end

/-! ### defs -/
/-- what a def promises: n arguments, told by F -/
def spF (M : Md) (n : Nat) (F : FN) : Sp := fun vs H Q E => vs.length = n ∧ ∃ g ds, g.H = H ∧ Rep M g ∧ DVs M g ds vs ∧ Aft M g (F ds g.S) (PD M Q) (fun x g' => ∀ cls dx, XV M g' x cls dx → E cls dx g'.H)
abbrev WD (E : XK) : WX := fun cls d _ H => E cls d H
def entry (N : Nat) (ds : List D) : Rho := ds.map some ++ List.replicate (N - ds.length) none
def runF (N : Nat) (b : Fst) : FN := fun ds S => match b (entry N ds) S with
  | .fl (.nx _) S1 => .ok .non S1
  | .fl (.ret d) S1 => .ok d S1
  | .exc x _ S1 => .exc x S1
  | _ => .stuck
theorem entry_ok {M : Md} {g : Wd} {N : List Str} : ∀ {ds : List D} {vs : List V}, DVs M g ds vs → EnvOk M g (entry N.length ds) (L2.start N vs) := fun {ds vs} h => by
  refine ⟨by unfold entry L2.start; simp [h.length], fun i d e => ?_⟩
  unfold entry at e
  by_cases hi : i < ds.length
  · rw [List.getElem?_append_left (by simpa using hi), List.getElem?_map] at e
    cases q : ds[i]? with
    | none => rw [q] at e; cases e
    | some a =>
      rw [q] at e
      cases e
      obtain ⟨v, h1, h2⟩ := h.get q
      refine ⟨v, ?_, h2⟩
      unfold L2.start
      rw [List.getElem?_append_left (by simpa [← h.length] using hi), List.getElem?_map, h1]
      rfl
  · rw [List.getElem?_append_right (by simpa using hi), List.getElem?_replicate] at e
    split at e <;> cases e
/-- a def of the text: x, told by F at the level k -/
structure Kn (P : Program) (w : World) (mg : Str → Option Value) (base : Heap) (M : Md) (x : Str) (k n : Nat) (F : FN) : Prop where
  ex : ∃ (f : Addr) (fd : FuncData) (ps : List Str), FnOk P w M.K mg base (L2.CX P w) k f fd ps (spF M n F) ∧ mg x = some (.ref f) ∧ PySem.W.keepIn M.K (.ref f) = true ∧ Binds M.K fd ps []
section
variable {P : Program} {w : World} {mg : Str → Option Value} {base : Heap} {M : Md}
theorem fok_of {x qual : Str} {params : Arguments} {body : List Stmt} {scope : Scope} {f : Addr} {fd : FuncData} {N ps : List Str} {k : Nat} {b : Fst} (F : FunD M.K x qual params body scope [] [] f fd) (S : FnScope N ps scope)
    (hbody : ∀ (cdv : Value) (A : Around) (outer : List Env) (s : Shared) (H : Hp) (E : XK), Room k (A.deeper (envOfC qual scope s.heap.objs.size f cdv)) →
      MSs M (cxOf (L2.CX P w) P w M.K mg base N qual scope f cdv A outer s H E) (WD E) body b) : FnOk P w M.K mg base (L2.CX P w) (k + 1) f fd ps (spF M ps.length (runF N.length b)) := by
  refine F.ok S (fun vs H Q E h => h.1) (fun cdv A outer s H vs Q E hr h => ⟨tS M (WD E) b, hbody cdv A outer s H E hr, ?_⟩)
  obtain ⟨_, g, ds, rfl, rp, hvs, q⟩ := h
  refine tS.go rp (entry_ok hvs) ?_
  unfold runF at q
  split at q
  · rename_i e
    rw [e]
    exact fun g1 e1 k1 r1 σ1 _ => q g1 e1 k1 r1 _ .non
  · rename_i e
    rw [e]
    exact fun g1 e1 k1 r1 v hv => q g1 e1 k1 r1 v hv
  · rename_i e
    rw [e]
    exact fun g1 e1 k1 r1 σ1 _ cls dx hx => q g1 e1 k1 r1 cls dx hx
  · exact q.elim
theorem kn_of {x qual : Str} {params : Arguments} {body : List Stmt} {scope : Scope} {f : Addr} {fd : FuncData} {N ps : List Str} {k : Nat} {b : Fst} (F : FunD M.K x qual params body scope [] [] f fd) (S : FnScope N ps scope) (hm : mg x = some (.ref f)) (hb : Binds M.K fd ps [])
    (hbody : ∀ (cdv : Value) (A : Around) (outer : List Env) (s : Shared) (H : Hp) (E : XK), Room k (A.deeper (envOfC qual scope s.heap.objs.size f cdv)) →
      MSs M (cxOf (L2.CX P w) P w M.K mg base N qual scope f cdv A outer s H E) (WD E) body b) : Kn P w mg base M x (k + 1) ps.length (runF N.length b) :=
  ⟨f, fd, ps, fok_of F S hbody, hm, F.kp, hb⟩
end
section
variable {M : Md} {X : Cx} {W : WX}
def dCall (F : FN) (n : Nat) (a : Fs) : Fe := fun ρ S => (a ρ S).bind fun ds S1 => if ds.length = n then F ds S1 else .stuck
theorem me_call {x : Str} {p pos : Pos} {e : Expr} {es : List Expr} {k j n : Nat} {F : FN} {a : Fs} (hK : X.K = M.K) (tk : Takes X W) (K : Kn X.prog X.w X.mg X.base M x k n F) (hr : Room j X.A) (ha : MA M X W (e :: es) a) (hkj : k ≤ j := by decide) (hg : Gl X x := by rfl) (hdb : (x == ("__debug__" : Str)) = false := by decide)
    (he : starEach (e :: es) X.env = (false, eval e X.env) :: starEach es X.env := by rfl) (hpl : (backTo pos (starEach es X.env)).any (·.1) = false := by rfl) : ME M X W (.Call (.Name x p) (e :: es) [] pos) (dCall F n a) := by
  obtain ⟨f, fd, ps, FK, hm, hkp, hb⟩ := K.ex
  rw [← hK] at FK hkp hb
  refine PE.imp (pe_callS FK (hr.mono hkj) hg hm hkp hb (fun σ => passAt tk σ) ha hdb he hpl) fun σ H Q q => ?_
  obtain ⟨g, ρ, rfl, rp, en, q⟩ := q
  have q := Aft.bind (α := List D) (k := fun ds S1 => if ds.length = n then F ds S1 else .stuck) q
  refine tA.go rp en (q.mono (fun ds g1 k1 r1 q1 vs hvs => ?_) fun _ _ _ _ z => z)
  split at q1
  · rename_i hl
    exact ⟨by rw [← hvs.length]; exact hl, g1, ds, rfl, r1, hvs, q1⟩
  · exact q1.elim
theorem me_call0 {x : Str} {p pos : Pos} {k j : Nat} {F : FN} (hK : X.K = M.K) (tk : Takes X W) (K : Kn X.prog X.w X.mg X.base M x k 0 F) (hr : Room j X.A) (hkj : k ≤ j := by decide) (hg : Gl X x := by rfl) (hdb : (x == ("__debug__" : Str)) = false := by decide) :
    ME M X W (.Call (.Name x p) [] [] pos) (fun _ S => F [] S) := by
  obtain ⟨f, fd, ps, FK, hm, hkp, hb⟩ := K.ex
  rw [← hK] at FK hkp hb
  refine ⟨fun pins s σ H Q I q => ?_⟩
  obtain ⟨g, ρ, rfl, rp, en, q⟩ := q
  refine wpAny_Call_Name_kw (ld_glob I hg hm ?_ hdb)
  exact PySem.W.callWith_K0 I.kIn hkp (run_fnS (us := []) FK (hr.mono hkj) hb (passAt tk σ) I .nil ⟨rfl, g, [], rfl, rp, .nil, q⟩)
end
end MP
set_option Elab.async false
set_option linter.all false
set_option maxRecDepth 100000
set_option maxHeartbeats 4000000
/-! enumerate, zip, reversed slices. -/
namespace MP
open PySem PySem.Spec PyProof.Rows L2

/-! ### enumerate of a tuple, at the library's level -/
theorem meets_enumT (l : Addr) (items : Array Value) (n : Nat) (dct : Option Addr) (sl : Array (Option Value)) :
    Meets (Builtin.«enumerate.__new__» ⟨[.type "enumerate", .ref l], []⟩) (fun _ R s => s.heap.get? l = some { cls := .type "tuple", dict := dct, data := .seq items n, slots := sl } ∧
      R (.ok (.ret (.ref (s.heap.push { cls := .type "tuple_iterator", data := .fields #[.ref l, .int 0 0] }).objs.size)))
        { s with heap := (s.heap.push { cls := .type "tuple_iterator", data := .fields #[.ref l, .int 0 0] }).push { cls := .type "enumerate", data := .fields #[.none, .bool false, .ref s.heap.objs.size, rawInt 0, .none, .none] } }) :=
  .of_wp fun prog w A R s h => by
    obtain ⟨hp, g, d, tk, os⟩ := s; obtain ⟨hl, h⟩ := h
    have hsub := sub_enumerate
    have hL : Heap.IsTuple (Shared.heap ⟨hp, g, d, tk, os⟩) l items := ⟨_, hl, rfl, n, rfl⟩
    wp_walk using AutoSeq1.wpAny_loadPart' hl
    refine wpAny_stack_any fun st => wpAny_pure ?_
    split
    · rename_i c _ _ _ _ _
      cases (c == Value.type "enumerate")
      · wp_walk using AutoSeq1.wpAny_loadPart' hl, wpAny_pyIter_tuple hL
        exact ⟨_, rfl, h⟩
      · wp_walk using AutoSeq1.wpAny_loadPart' hl, wpAny_pyIter_tuple hL
        exact ⟨_, rfl, h⟩
    · wp_walk using AutoSeq1.wpAny_loadPart' hl, wpAny_pyIter_tuple hL
      exact ⟨_, rfl, h⟩
section
variable {prog : Program} {w : World} {A : Around} {E : Value → Shared → Prop} {s : Shared}
theorem call_enumT {l : Addr} {items : Array Value} {Q : Value → Shared → Prop} (hL : s.heap.IsTuple l items)
    (h : ∀ h', IsEnum h' (s.heap.objs.size + 1) s.heap.objs.size 0 .none → h'.IsTupleIter s.heap.objs.size l 0 → h'.objs.size = s.heap.objs.size + 2 →
      (∀ b o, s.heap.get? b = some o → h'.get? b = some o) → Q (.ref (s.heap.objs.size + 1)) { s with heap := h' }) :
    wpAny (model prog w) A (call (.type "enumerate") [.ref l]) Q E s := by
  obtain ⟨⟨c, dct, dt, sl⟩, hl, hc, n, hd⟩ := hL
  replace hc : c = .type "tuple" := hc
  replace hd : dt = .seq items n := hd
  subst hc hd
  refine callType_new F.called_enumerate (by decide) (F.typeCall_enumerate_1 _) (F.newCall_enumerate_1 _) (fun obj => F.args_object_init_2 obj _) F.entry_enumerate_new
    (meets_enumT l items n dct sl) ⟨hl, ?_⟩
  have hz : (s.heap.push { cls := .type "tuple_iterator", data := .fields #[.ref l, .int 0 0] }).objs.size = s.heap.objs.size + 1 := Heap.size_push ..
  show _ ∧ _
  rw [hz]
  have he : IsEnum ((s.heap.push { cls := .type "tuple_iterator", data := .fields #[.ref l, .int 0 0] }).push
      { cls := .type "enumerate", data := .fields #[.none, .bool false, .ref s.heap.objs.size, rawInt 0, .none, .none] }) (s.heap.objs.size + 1) s.heap.objs.size 0 .none := by
    have := Heap.get?_push_size (s.heap.push { cls := .type "tuple_iterator", data := .fields #[.ref l, .int 0 0] })
      (o := { cls := .type "enumerate", data := .fields #[.none, .bool false, .ref s.heap.objs.size, rawInt 0, .none, .none] }) rfl
    rw [hz] at this; exact this
  refine ⟨⟨_, he, rfl⟩, h _ he ⟨_, Heap.get?_push_of_some _ (Heap.get?_push_size _ rfl), rfl, rfl⟩ (by rw [Heap.size_push, hz]) fun b o x => Heap.get?_push_of_some _ (Heap.get?_push_of_some _ x)⟩
end

def ItEt (K : PySem.W.Frag) (a : Addr) : It :=
  ⟨fun i H => ∃ (xs : List V) (x : V), SqT K H a xs ∧ xs[i]? = some x, fun i H v H' => ∃ T x, v = .ref T ∧ H T = none ∧ H' = upd H T (.tup [.int (i : Nat), x]) ∧ ∀ xs, SqT K H a xs → xs[i]? = some x, fun i H => ∃ xs : List V, SqT K H a xs ∧ xs.length ≤ i⟩
theorem turn_enumT {P : Program} {w : World} {K : PySem.W.Frag} {elts : List Expr} {kk : Nat} {tpos : Pos} (a e it : Addr) :
    Turn P w K (.Tuple elts kk tpos) (ItEt K a) [e, it] e (fun i h => (∃ old, IsEnum h e it ((i : Nat) : Int) old) ∧ h.IsTupleIter it a i ∧ e ≠ it ∧ e ≠ a ∧ a ≠ it) where
  mem := by simp
  obj := fun i h st b hb => by
    obtain ⟨⟨old, he⟩, ⟨o, ho, hc, hd⟩, _⟩ := st
    have e' : b = e ∨ b = it := by simpa using hb
    rcases e' with z | z
    · rw [z]; exact ⟨_, he, fun v q => nomatch q⟩
    · rw [z]; exact ⟨o, ho, fun v q => by rw [hd] at q; cases q⟩
  keep := fun i h h' st k => let ⟨⟨old, he⟩, hi, hne⟩ := st; ⟨⟨old, k e (by simp) _ he⟩, hi.at fun o q => k it (by simp) o q, hne⟩
  item := by
    intro X hP hw hK hc i pins s σ H E I hf st hg
    subst hP hw hK
    obtain ⟨⟨old, he⟩, hit, hne, hea, hai⟩ := st
    obtain ⟨xs, x, hq, hx⟩ := hg
    obtain ⟨its, rv, p, hz⟩ := I.tuple hq
    obtain ⟨u, hu, ru⟩ := rv.get hx
    have hel : e < s.heap.objs.size := Heap.lt_size he
    have hil : it < s.heap.objs.size := by obtain ⟨_, q, _⟩ := hit; exact Heap.lt_size q
    have hui : its.toArray[i]? = some u := by simpa using hu
    have hlt : i < its.toArray.size := (Array.getElem?_eq_some_iff.mp hui).1
    refine wpAny_pyNext_enum_itemD (Draws.tuple (prog := X.prog) (w := X.w) (A := X.A.in1) (I.ok.hd hc) it a hai its.toArray) he ⟨hit, show s.heap.IsTuple a its.toArray from p⟩ hlt hne (by simp [hne, hea]) fun u' h' tk hu' ho hit' hT hsz hk => ?_
    have eu : u' = u := by rw [hui] at hu'; cases hu'; rfl
    subst eu
    refine ⟨_, rfl, wpAny_letOwnedTupleGo_enum (s := { s with heap := h', toks := tk + 1 }) ho fun h'' he' sb => ?_⟩
    have hT2 : h''.get? s.heap.objs.size = some { cls := .type "tuple", data := .seq #[.int i tk, u'] } := (sb.2 _ (Nat.ne_of_gt hel)).trans hT
    have new : ObjOk X.prog X.w (upd H s.heap.objs.size (.tup [.int (i : Nat), x])) h'' s.heap.objs.size (.tup [.int (i : Nat), x]) :=
      ⟨by show 2 ≤ sizeLine; decide, [.int i tk, u'], .cons ⟨_, rfl⟩ (.cons ru .nil), ⟨_, hT2, rfl, _, rfl⟩⟩
    have I1 : Inv X pins σ (upd H s.heap.objs.size (.tup [.int (i : Nat), x])) { s with heap := h'', toks := tk + 1 } :=
      I.turnedNew (ch := [e, it]) (fun b ob hb q => (sb.2 b (fun z => hb (by simp [z]))).trans (hk b ob (fun z => hb (by simp [z])) (fun z => hb (by simp [z])) q)) hf (Nat.le_refl _) new
    refine ⟨.ref s.heap.objs.size, _, I1, rfl, ⟨_, x, rfl, I.hok.fresh (Nat.le_refl _), rfl, fun ys hy => by rw [I.tuple_inj hy hq]; exact hx⟩, ⟨⟨u', ?_⟩, hit'.1.at fun o q => (sb.2 it (Ne.symm hne)).trans q, hne, hea, hai⟩, fun b hb => ?_⟩
    · have e1 : ((i + 1 : Nat) : Int) = (i : Int) + 1 := by omega
      rw [e1]; exact he'
    · have hb' : b < s.heap.objs.size := by
        have e' : b = e ∨ b = it := by simpa using hb
        rcases e' with z | z
        · rw [z]; exact hel
        · rw [z]; exact hil
      rw [upd_ne (Nat.ne_of_lt hb')]
      exact (hf b hb).1
  done := by
    intro X hP hw hK hc i pins s σ H E I hf st hg
    subst hP hw hK
    obtain ⟨⟨old, he⟩, hit, hne, hea, hai⟩ := st
    obtain ⟨xs, hq, hx⟩ := hg
    obtain ⟨its, rv, p, hz⟩ := I.tuple hq
    obtain ⟨f0, f1, f2, f3, f4, f5⟩ := hf it (by simp)
    have hl := rv.length
    have hh : X.A.in1.handled = none := I.ok.hd hc
    have D : Draws X.prog X.w X.A.in1 it [it, a] 0 (fun _ _ => True) (fun j h => h.IsTupleIter it a (j + i) ∧ h.IsTuple a its.toArray) :=
      { live := fun _ _ st => let ⟨o, ho, _⟩ := st.1; ⟨o, ho⟩
        frame := fun _ _ _ st hk => ⟨st.1.at fun o e => hk it (by simp) o e, st.2.at fun o e => hk a (by simp) o e⟩
        item := fun j s' Q' E' hj => absurd hj (Nat.not_lt_zero _)
        done := fun s' Q' E' st' hE' => wpAny_nextOf_tuple_end hh st'.1 st'.2 (by simp; omega) hE' }
    exact wpAny_pyNext_enum_endD D he ⟨by rw [Nat.zero_add]; exact hit, show s.heap.IsTuple a its.toArray from p⟩ fun h' eb => ⟨rfl, I.turned (t' := s.toks) (fun b o hb q => eb b o hb q) f0 f1 f3 f4 f5⟩
  self := fun A i s Q E st h => let ⟨⟨_, he⟩, _⟩ := st; wpAny_pyIter_enum he h

def iEnumA (K : PySem.W.Frag) (ta : TA) : TI := fun σ H R => ta σ H fun vs H1 => ∃ a xs, vs = [.ref a] ∧ ((SqL K H1 a xs ∧ R (Ite K a) H1) ∨ (SqT K H1 a xs ∧ R (ItEt K a) H1))
theorem pi_enumA {X : Cx} {e : Expr} {ta : TA} {p pos tpos : Pos} {elts : List Expr} {kk : Nat} (hg : Gl X "enumerate") (hm : X.mg "enumerate" = none) (ha : PA X [e] ta) (hs : starEach [e] X.env = [(false, eval e X.env)] := by rfl) :
    PI X (.Tuple elts kk tpos) (.Call (.Name "enumerate" p) [e] [] pos) (iEnumA X.K ta) := by
  refine ⟨fun pins s σ H R I h => ?_⟩
  refine Call_ (ld_blt I hg hm boot_enumerate (PyProof.Rows.callWith_type1 (thn (ha.run pos pins s σ H _ I h) fun us s1 ⟨vs, H1, I1, r1, q1⟩ => ?_) hs rfl))
  obtain ⟨a, xs, ex, q⟩ := q1
  subst ex
  cases r1 with
  | cons r rr =>
    cases rr
    cases r
    have fp : ∀ b ∈ [s1.heap.objs.size + 1, s1.heap.objs.size], FpOk X pins H1 b := fun b hb => by
      have e' : b = s1.heap.objs.size + 1 ∨ b = s1.heap.objs.size := by simpa using hb
      have hle : s1.heap.objs.size ≤ b := by
        rcases e' with z | z
        · rw [z]; exact Nat.le_add_right _ _
        · rw [z]; exact Nat.le_refl _
      exact I1.fpOk hle (I1.hok.fresh hle)
    rcases q with ⟨hq, q⟩ | ⟨hq, q⟩
    · obtain ⟨its, rv, p', hz⟩ := I1.list hq
      refine call_enumerate_list p'.isList fun h' he hit hsz hk => wpAny_pyIter_enum he ?_
      have I2 : Inv X pins σ H1 { s1 with heap := h' } := I1.kept (t' := s1.toks) hk
      exact ⟨s1.heap.objs.size + 1, [s1.heap.objs.size + 1, s1.heap.objs.size], _, _, H1, rfl, I2, turn_enum a (s1.heap.objs.size + 1) s1.heap.objs.size, ⟨⟨.none, he⟩, hit, Nat.succ_ne_self _⟩, fp, q⟩
    · obtain ⟨its, rv, p', hz⟩ := I1.tuple hq
      obtain ⟨o1, ho1, _⟩ := id p'
      have hal : a < s1.heap.objs.size := Heap.lt_size ho1
      refine call_enumT (show s1.heap.IsTuple a its.toArray from p') fun h' he hit hsz hk => wpAny_pyIter_enum he ?_
      have I2 : Inv X pins σ H1 { s1 with heap := h' } := I1.kept (t' := s1.toks) hk
      exact ⟨s1.heap.objs.size + 1, [s1.heap.objs.size + 1, s1.heap.objs.size], _, _, H1, rfl, I2, turn_enumT a (s1.heap.objs.size + 1) s1.heap.objs.size, ⟨⟨.none, he⟩, hit, Nat.succ_ne_self _, Nat.ne_of_gt (Nat.lt_succ_of_lt hal), Nat.ne_of_lt hal⟩, fp, q⟩

/-! ### as plain data -/
def pairD (x y : D) : D := .tup [x, y]
def enumD (ds : List D) : List D := (List.range ds.length).map fun i => pairD (.int (i : Nat)) (ds[i]?.getD .non)
theorem enumD_len {ds : List D} : (enumD ds).length = ds.length := by unfold enumD; simp
theorem enumD_get {ds : List D} {i : Nat} {d : D} (h : ds[i]? = some d) : (enumD ds)[i]? = some (pairD (.int (i : Nat)) d) := by
  have hi := (List.getElem?_eq_some_iff.mp h).1
  have e := (List.getElem?_eq_some_iff.mp h).2
  unfold enumD
  simp [hi, e]
def zipD (a b : List D) : List D := List.zipWith pairD a b
theorem zipD_get {a b : List D} {i : Nat} {x y : D} (h1 : a[i]? = some x) (h2 : b[i]? = some y) : (zipD a b)[i]? = some (pairD x y) := by
  unfold zipD
  rw [List.getElem?_zipWith, h1, h2]
theorem dv_pair {M : Md} {g : Wd} {x y : D} {v u : V} (r : Rep M g) {p : Addr} (hp : g.H p = none) (hx : DV M g x v) (hy : DV M g y u) : DV M ⟨g.μ, g.S, upd g.H p (.tup [v, u])⟩ (pairD x y) (.ref p) :=
  dv_new r hp (.cons hx (.cons hy .nil))
section
variable {M : Md} {g0 : Wd}
theorem srcOk_enumT {a : Addr} {ds : List D} {xs : List V} (r0 : Rep M g0) (h : SqT M.K g0.H a xs) (hd : DVs M g0 ds xs) : SrcOk M g0 ⟨enumD ds, []⟩ (ItEt M.K a) := by
  refine ⟨fun H => SqT M.K H a xs, fun i H v H' => ∃ T x, v = .ref T ∧ H T = none ∧ H' = upd H T (.tup [.int (i : Nat), x]) ∧ xs[i]? = some x,
    ⟨fun i H hi q => ?_, fun H q => ⟨xs, q, ?_⟩, fun i H x H' hi q y => ?_⟩, rfl, fun g1 r1 k _ => k.tup r0 h, fun i g1 v H' hi r1 k _ y => ?_⟩
  · have hi : i < xs.length := by rw [← hd.length]; simpa [enumD_len] using hi
    exact ⟨xs, xs[i], q, by simp [hi]⟩
  · rw [← hd.length]; simp [enumD_len]
  · obtain ⟨T, z, e1, e2, e3, e4⟩ := y
    exact ⟨T, z, e1, e2, e3, e4 xs q⟩
  · obtain ⟨T, z, rfl, e2, rfl, e4⟩ := y
    obtain ⟨d, h1, h2⟩ := (hd.mono r0 k).getV e4
    exact ⟨_, ⟨g1.μ, g1.S, _⟩, enumD_get h1, rfl, rfl, Gr.laid e2, r1.laid e2, dv_pair r1 e2 (.int _) h2⟩
theorem srcOk_enumF {a : Addr} {ds : List D} {xs : List V} (r0 : Rep M g0) (h : FzL M.K g0.H a xs) (hd : DVs M g0 ds xs) : SrcOk M g0 ⟨enumD ds, []⟩ (Ite M.K a) := by
  refine ⟨fun H => SqL M.K H a xs, fun i H v H' => ∃ T x, v = .ref T ∧ H T = none ∧ H' = upd H T (.tup [.int (i : Nat), x]) ∧ xs[i]? = some x,
    ⟨fun i H hi q => ?_, fun H q => ⟨xs, q, ?_⟩, fun i H x H' hi q y => ?_⟩, rfl, fun g1 r1 k _ => (k.fzl r0 h).sql, fun i g1 v H' hi r1 k _ y => ?_⟩
  · have hi : i < xs.length := by rw [← hd.length]; simpa [enumD_len] using hi
    exact ⟨xs, xs[i], q, by simp [hi]⟩
  · rw [← hd.length]; simp [enumD_len]
  · obtain ⟨T, z, e1, e2, e3, e4⟩ := y
    exact ⟨T, z, e1, e2, e3, e4 xs q⟩
  · obtain ⟨T, z, rfl, e2, rfl, e4⟩ := y
    obtain ⟨d, h1, h2⟩ := (hd.mono r0 k).getV e4
    exact ⟨_, ⟨g1.μ, g1.S, _⟩, enumD_get h1, rfl, rfl, Gr.laid e2, r1.laid e2, dv_pair r1 e2 (.int _) h2⟩
theorem guard_one {n : Nat} {ds its : List D} {S : Sto} (h : S[n]? = some (.lst ds)) : (Src.mk its [(n, ds)]).ok S = true := by
  show (match S[n]? with | some (.lst es) => beqDs es ds | _ => false) && true = true
  rw [h]
  simp [beqDs_refl]
theorem srcOk_enumR {n : Nat} {ds : List D} (r0 : Rep M g0) (h : g0.S[n]? = some (.lst ds)) : SrcOk M g0 ⟨enumD ds, [(n, ds)]⟩ (Ite M.K (g0.μ n)) := by
  have hn : n < g0.S.length := (List.getElem?_eq_some_iff.mp h).1
  refine ⟨fun H => ∃ xs, SqL M.K H (g0.μ n) xs ∧ xs.length = ds.length, fun i H v H' => ∃ T x, v = .ref T ∧ H T = none ∧ H' = upd H T (.tup [.int (i : Nat), x]) ∧ ∀ xs, SqL M.K H (g0.μ n) xs → xs[i]? = some x,
    ⟨fun i H hi q => ?_, fun H q => ?_, fun i H x H' hi q y => y⟩, guard_one h, fun g1 r1 k ok => ?_, fun i g1 v H' hi r1 k ok y => ?_⟩
  · obtain ⟨xs, q, e⟩ := q
    have hi : i < xs.length := by rw [e]; simpa [enumD_len] using hi
    exact ⟨xs, xs[i], q, by simp [hi]⟩
  · obtain ⟨xs, q, e⟩ := q
    exact ⟨xs, q, by rw [e]; simp [enumD_len]⟩
  · obtain ⟨xs, h1, h2⟩ := lst_at r0 r1 k hn (Src.at_ ok (List.mem_singleton.mpr rfl))
    exact ⟨xs, h1, h2.length.symm⟩
  · obtain ⟨T, z, rfl, e2, rfl, e4⟩ := y
    obtain ⟨xs, h1, h2⟩ := lst_at r0 r1 k hn (Src.at_ ok (List.mem_singleton.mpr rfl))
    obtain ⟨d, h3, h4⟩ := h2.getV (e4 xs h1)
    exact ⟨_, ⟨g1.μ, g1.S, _⟩, enumD_get h3, rfl, rfl, Gr.laid e2, r1.laid e2, dv_pair r1 e2 (.int _) h4⟩
end
def enumS : List D → Sto → Rs Src := fun ds S => match ds with
  | [.tup ds] => .ok ⟨enumD ds, []⟩ S
  | [.fl ds] => .ok ⟨enumD ds, []⟩ S
  | [.ref n] => match S[n]? with
    | some (.lst ds) => .ok ⟨enumD ds, [(n, ds)]⟩ S
    | _ => .stuck
  | _ => .stuck
def iEn (f : Fs) : Fi := fun ρ S => (f ρ S).bind enumS
section
variable {M : Md} {X : Cx} {W : WX}
theorem mi_enum (hK : X.K = M.K) {e : Expr} {f : Fs} {p pos tpos : Pos} {elts : List Expr} {kk : Nat} (hm : X.mg "enumerate" = none) (ha : MA M X W [e] f) (hg : Gl X "enumerate" := by rfl) (hs : starEach [e] X.env = [(false, eval e X.env)] := by rfl) :
    MI M X W (.Tuple elts kk tpos) (.Call (.Name "enumerate" p) [e] [] pos) (iEn f) := PI.imp (pi_enumA hg hm ha hs) fun σ H R q => by
  obtain ⟨g, ρ, rfl, rp, en, q⟩ := q
  have q := Aft.bind (k := enumS) q
  refine tA.go rp en (q.mono (fun ds g1 k1 r1 q1 vs hvs => ?_) fun _ _ _ _ z => z)
  rw [hK]
  unfold enumS at q1
  split at q1
  · obtain ⟨v, rfl, hv⟩ := hvs.one
    obtain ⟨a, xs, rfl, h1, h2⟩ := hv.tupI
    exact ⟨_, xs, rfl, .inr ⟨h1, Aft.here r1 q1 _ (srcOk_enumT r1 h1 h2)⟩⟩
  · obtain ⟨v, rfl, hv⟩ := hvs.one
    cases hv with
    | fl h1 h2 => exact ⟨_, _, rfl, .inl ⟨h1.sql, Aft.here r1 q1 _ (srcOk_enumF r1 h1 h2)⟩⟩
  · split at q1
    · rename_i n ds hk
      obtain ⟨v, rfl, hv⟩ := hvs.one
      obtain ⟨rfl, _⟩ := hv.refI
      obtain ⟨xs, hx, hxs⟩ := r1.lst hk
      exact ⟨_, xs, rfl, .inl ⟨.inl (.inl hx), Aft.here r1 q1 _ (srcOk_enumR r1 hk)⟩⟩
    · exact q1.elim
  · exact q1.elim

/-! ### zip -/
def gdOk (gd : List (Nat × List D)) (S : Sto) : Bool := (Src.mk [] gd).ok S
theorem gdOk_app {a b : List (Nat × List D)} {S : Sto} {its : List D} : (Src.mk its (a ++ b)).ok S = (gdOk a S && gdOk b S) := by
  unfold gdOk Src.ok
  simp only [List.all_append]
def lstG : D → Sto → Option (List D × List (Nat × List D)) := fun d S => match d with
  | .fl ds => some (ds, [])
  | .ref n => match S[n]? with
    | some (.lst ds) => some (ds, [(n, ds)])
    | _ => none
  | _ => none
theorem lstG_v {g0 : Wd} {d : D} {v : V} {ds : List D} {gd : List (Nat × List D)} (r0 : Rep M g0) (h : DV M g0 d v) (e : lstG d g0.S = some (ds, gd)) :
    ∃ a xs, v = .ref a ∧ SqL M.K g0.H a xs ∧ gdOk gd g0.S = true ∧ ∀ g1, Rep M g1 → Gr g0 g1 → gdOk gd g1.S = true → ∃ xs, SqL M.K g1.H a xs ∧ DVs M g1 ds xs := by
  unfold lstG at e
  split at e
  · cases e
    cases h with
    | fl h1 h2 => exact ⟨_, _, rfl, h1.sql, rfl, fun g1 r1 k _ => ⟨_, (k.fzl r0 h1).sql, h2.mono r0 k⟩⟩
  · split at e
    · rename_i n es hk
      cases e
      obtain ⟨rfl, hn⟩ := h.refI
      obtain ⟨xs, hx, hxs⟩ := r0.lst hk
      exact ⟨_, xs, rfl, .inl (.inl hx), guard_one hk, fun g1 r1 k ok => lst_at r0 r1 k hn (Src.at_ ok (List.mem_singleton.mpr rfl))⟩
    · cases e
  · cases e
def zipS : List D → Sto → Rs Src := fun ds S => match ds with
  | [.tup a, .tup b] => .ok ⟨zipD a b, []⟩ S
  | [x, y] => match lstG x S, lstG y S with
    | some (a, ga), some (b, gb) => .ok ⟨zipD a b, ga ++ gb⟩ S
    | _, _ => .stuck
  | _ => .stuck
def iZp (f : Fs) : Fi := fun ρ S => (f ρ S).bind zipS
theorem srcOk_zipT {g0 : Wd} {a b : Addr} {ds es : List D} {xs ys : List V} (r0 : Rep M g0) (h : SqT M.K g0.H a xs) (hd : DVs M g0 ds xs) (h' : SqT M.K g0.H b ys) (hd' : DVs M g0 es ys) : SrcOk M g0 ⟨zipD ds es, []⟩ (RZ.ItzT M.K a b) := by
  have hl : (zipD ds es).length = min xs.length ys.length := by unfold zipD; simp [hd.length, hd'.length]
  refine ⟨fun H => SqT M.K H a xs ∧ SqT M.K H b ys, fun i H v H' => ∃ T x y, v = .ref T ∧ H T = none ∧ H' = upd H T (.tup [x, y]) ∧ xs[i]? = some x ∧ ys[i]? = some y,
    ⟨fun i H hi q => ?_, fun H q => ⟨xs, ys, q.1, q.2, ?_⟩, fun i H x H' hi q y => ?_⟩, rfl, fun g1 r1 k _ => ⟨k.tup r0 h, k.tup r0 h'⟩, fun i g1 v H' hi r1 k _ y => ?_⟩
  · have hi : i < (zipD ds es).length := hi
    rw [hl] at hi
    have h1 : i < xs.length := by omega
    have h2 : i < ys.length := by omega
    exact ⟨xs, ys, xs[i], ys[i], q.1, q.2, by simp [h1], by simp [h2]⟩
  · show xs.length ≤ (zipD ds es).length ∨ ys.length ≤ (zipD ds es).length
    omega
  · obtain ⟨T, z, z', e1, e2, e3, e4, e5⟩ := y
    exact ⟨T, z, z', e1, e2, e3, e4 xs q.1, e5 ys q.2⟩
  · obtain ⟨T, z, z', rfl, e2, rfl, e4, e5⟩ := y
    obtain ⟨d, h1, h2⟩ := (hd.mono r0 k).getV e4
    obtain ⟨d', h1', h2'⟩ := (hd'.mono r0 k).getV e5
    exact ⟨_, ⟨g1.μ, g1.S, _⟩, zipD_get h1 h1', rfl, rfl, Gr.laid e2, r1.laid e2, dv_pair r1 e2 h2 h2'⟩
theorem srcOk_zipL {g0 : Wd} {a b : Addr} {ds es : List D} {ga gb : List (Nat × List D)} (r0 : Rep M g0) (oa : gdOk ga g0.S = true) (ob : gdOk gb g0.S = true)
    (ha : ∀ g1, Rep M g1 → Gr g0 g1 → gdOk ga g1.S = true → ∃ xs, SqL M.K g1.H a xs ∧ DVs M g1 ds xs) (hb : ∀ g1, Rep M g1 → Gr g0 g1 → gdOk gb g1.S = true → ∃ xs, SqL M.K g1.H b xs ∧ DVs M g1 es xs) :
    SrcOk M g0 ⟨zipD ds es, ga ++ gb⟩ (Itz M.K a b) := by
  have hl : (zipD ds es).length = min ds.length es.length := by unfold zipD; simp
  refine ⟨fun H => (∃ xs, SqL M.K H a xs ∧ xs.length = ds.length) ∧ ∃ ys, SqL M.K H b ys ∧ ys.length = es.length,
    fun i H v H' => ∃ T x y, v = .ref T ∧ H T = none ∧ H' = upd H T (.tup [x, y]) ∧ (∀ xs, SqL M.K H a xs → xs[i]? = some x) ∧ ∀ ys, SqL M.K H b ys → ys[i]? = some y,
    ⟨fun i H hi q => ?_, fun H q => ?_, fun i H x H' hi q y => y⟩, by rw [gdOk_app, oa, ob]; rfl, fun g1 r1 k ok => ?_, fun i g1 v H' hi r1 k ok y => ?_⟩
  · obtain ⟨⟨xs, q1, e1⟩, ys, q2, e2⟩ := q
    have hi : i < (zipD ds es).length := hi
    rw [hl] at hi
    have h1 : i < xs.length := by omega
    have h2 : i < ys.length := by omega
    exact ⟨xs, ys, xs[i], ys[i], q1, q2, by simp [h1], by simp [h2]⟩
  · obtain ⟨⟨xs, q1, e1⟩, ys, q2, e2⟩ := q
    refine ⟨xs, ys, q1, q2, ?_⟩
    show xs.length ≤ (zipD ds es).length ∨ ys.length ≤ (zipD ds es).length
    omega
  · rw [gdOk_app, Bool.and_eq_true] at ok
    obtain ⟨xs, h1, h2⟩ := ha g1 r1 k ok.1
    obtain ⟨ys, h3, h4⟩ := hb g1 r1 k ok.2
    exact ⟨⟨xs, h1, h2.length.symm⟩, ys, h3, h4.length.symm⟩
  · obtain ⟨T, z, z', rfl, e2, rfl, e4, e5⟩ := y
    rw [gdOk_app, Bool.and_eq_true] at ok
    obtain ⟨xs, h1, h2⟩ := ha g1 r1 k ok.1
    obtain ⟨ys, h3, h4⟩ := hb g1 r1 k ok.2
    obtain ⟨d, h5, h6⟩ := h2.getV (e4 xs h1)
    obtain ⟨d', h5', h6'⟩ := h4.getV (e5 ys h3)
    exact ⟨_, ⟨g1.μ, g1.S, _⟩, zipD_get h5 h5', rfl, rfl, Gr.laid e2, r1.laid e2, dv_pair r1 e2 h6 h6'⟩
theorem mi_zip (hK : X.K = M.K) {e e2 : Expr} {f : Fs} {p pos tpos : Pos} {elts : List Expr} {kk : Nat} (hm : X.mg "zip" = none) (ha : MA M X W [e, e2] f) (hg : Gl X "zip" := by rfl)
    (hs : starEach [e, e2] X.env = (false, eval e X.env) :: starEach [e2] X.env := by rfl) (hpl : (backTo pos (starEach [e2] X.env)).any (·.1) = false := by rfl) :
    MI M X W (.Tuple elts kk tpos) (.Call (.Name "zip" p) [e, e2] [] pos) (iZp f) := PI.imp (RZ.pi_zipA hg hm ha hs hpl) fun σ H R q => by
  obtain ⟨g, ρ, rfl, rp, en, q⟩ := q
  have q := Aft.bind (k := zipS) q
  refine tA.go rp en (q.mono (fun ds g1 k1 r1 q1 vs hvs => ?_) fun _ _ _ _ z => z)
  rw [hK]
  unfold zipS at q1
  split at q1
  · obtain ⟨v, u, rfl, hv, hu⟩ := hvs.two
    obtain ⟨a, xs, rfl, h1, h2⟩ := hv.tupI
    obtain ⟨b, ys, rfl, h3, h4⟩ := hu.tupI
    exact ⟨_, _, xs, ys, rfl, .inr ⟨h1, h3, Aft.here r1 q1 _ (srcOk_zipT r1 h1 h2 h3 h4)⟩⟩
  · split at q1
    · rename_i ea eb
      obtain ⟨v, u, rfl, hv, hu⟩ := hvs.two
      obtain ⟨a, xs, rfl, h1, h2, h3⟩ := lstG_v r1 hv ea
      obtain ⟨b, ys, rfl, h4, h5, h6⟩ := lstG_v r1 hu eb
      exact ⟨_, _, xs, ys, rfl, .inl ⟨h1, h4, Aft.here r1 q1 _ (srcOk_zipL r1 h2 h5 h3 h6)⟩⟩
    · exact q1.elim
  · exact q1.elim
end

/-! ### xs[::-1] -/
section
variable {prog : Program} {w : World} {A : Around} {E : Value → Shared → Prop} {s : Shared}
theorem rev_places (n : Nat) : Builtin.Slice.slicePlaces ((n : Int) - 1) (-1) (-1) = n := by
  unfold Builtin.Slice.slicePlaces
  rw [if_neg (by decide)]
  split <;> simp <;> omega
theorem rev_pick (xs : Array Value) : ((List.range xs.size).filterMap fun (k : Nat) => xs[(((xs.size : Int) - 1) + (k : Int) * -1).toNat]?).toArray = xs.toList.reverse.toArray := by
  congr 1
  apply List.ext_getElem?
  intro i
  have e : (List.range xs.size).filterMap (fun (k : Nat) => xs[(((xs.size : Int) - 1) + (k : Int) * -1).toNat]?) = (List.range xs.size).map fun k => xs.toList.reverse[k]?.getD .none := by
    have gen : ∀ (l : List Nat), (∀ k ∈ l, k < xs.size) → l.filterMap (fun (k : Nat) => xs[(((xs.size : Int) - 1) + (k : Int) * -1).toNat]?) = l.map fun k => xs.toList.reverse[k]?.getD .none := by
      intro l
      induction l with
      | nil => intro _; rfl
      | cons k l ih =>
        intro hl
        have hk : k < xs.size := hl k (List.mem_cons_self ..)
        have e1 : (((xs.size : Int) - 1) + (k : Int) * -1).toNat = xs.size - 1 - k := by omega
        have h1 : xs.size - 1 - k < xs.size := by omega
        have h2 : k < xs.toList.reverse.length := by simpa using hk
        rw [List.filterMap_cons, e1, Array.getElem?_eq_getElem h1, ih fun j hj => hl j (List.mem_cons_of_mem _ hj), List.map_cons, List.getElem?_eq_getElem h2]
        simp
    exact gen _ fun k hk => List.mem_range.mp hk
  rw [e]
  by_cases hi : i < xs.size
  · have h2 : i < xs.toList.reverse.length := by simpa using hi
    rw [List.getElem?_map, List.getElem?_range hi, List.getElem?_eq_getElem h2]
    simp [hi]
  · rw [List.getElem?_eq_none (by simp; omega), List.getElem?_eq_none (by simp; omega)]
theorem getItem_tuple_rev {t sl : Addr} {items : Array Value} {vs : Value} {Q : Value → Shared → Prop} (ht : IsTup s.heap t items) (hs : s.heap.IsSliceOf sl .none .none vs) (ps : IsPart vs (some (-1)))
    (h : Q (.ref s.heap.objs.size) { s with heap := s.heap.push { cls := .type "tuple", data := .seq items.toList.reverse.toArray } })
    (hsz : items.size ≤ sizeLine) : wpAny (model prog w) A (getItem (.ref t) (.ref sl)) Q E s := by
  have htake : sizeOk (.seq items.toList.reverse.toArray) := by
    show items.toList.reverse.toArray.size ≤ sizeLine
    simpa using hsz
  obtain ⟨os, hos, hcs, hds⟩ := id hs
  have hTs : s.TypeIs (.ref sl) "slice" := ⟨os, hos, hcs⟩
  unfold getItem
  try with_reducible refine wpAny_holding ?_
  first | refine wpAny_bind (wpAny_pure ?_) | skip
  refine wpAny_bind (wpAny_sequenceKey ht.typeIs (by decide) ?_)
  refine wpAny_bind (wpAny_callSpecial?_slot (name := Str.ofString "__getitem__") ht.typeIs PyProof.Rows.slot_tuple_getitem
    (wpAny_call_entry PyProof.Rows.slot_tuple_getitem ht.typeIs entry_tuple_getitem ?_ (args_tuple_getitem _ _)))
  show wpAny _ _ (Builtin.Tuple.tupleItemsOf (.ref t) >>= _) _ _ s
  refine wpAny_bind (PyProof.Rows.tupleItemsOf_ ht ?_)
  refine wpAny_bind (wpAny_typeOf hTs ?_)
  rw [if_pos (by decide)]
  refine wpAny_bind (m := Builtin.Slice.sliceApplied _ _) ?_
  · unfold Builtin.Slice.sliceApplied Builtin.Slice.sliceFields
    refine wpAny_bind (wpAny_bind (wpAny_field hos hds (x := .none) rfl (wpAny_bind (wpAny_field hos hds (x := .none) rfl (wpAny_bind (wpAny_field hos hds (x := vs) rfl (wpAny_pure ?_)))))))
    refine wpAny_bind (HT.slicePart_ ps ?_)
    show wpAny _ _ (if ((-1 : Int) == 0) = true then _ else _) _ _ s
    rw [if_neg (by decide)]
    refine wpAny_bind (HT.slicePart_ .none (wpAny_bind (HT.slicePart_ .none (wpAny_bind (wpAny_pure ?_)))))
    show wpAny _ _ (pure (((items.size : Int) - 1), (-1 : Int), Builtin.Slice.slicePlaces ((items.size : Int) - 1) (-1) (-1))) _ _ s
    rw [rev_places]
    refine wpAny_pure ?_
    have hno : ¬ ((((items.size : Int) - 1) == 0 && (-1 : Int) == 1 && items.size == items.size) = true) := by
      intro q
      rw [Bool.and_eq_true, Bool.and_eq_true] at q
      exact absurd q.1.2 (by decide)
    show wpAny _ _ (if (((items.size : Int) - 1) == 0 && (-1 : Int) == 1 && items.size == items.size) = true then _ else _) _ _ s
    rw [if_neg hno, rev_pick]
    first
      | exact wpAny_bind (m := Builtin.Tuple.tupleExact _) (wpAny_newObj_type (wpAny_pure ⟨_, rfl, wpAny_pure h⟩) htake)
      | exact wpAny_bind (m := Builtin.Tuple.tupleExact _) (wpAny_newObj_type (wpAny_bind (wpAny_pure (wpAny_pure ⟨_, rfl, wpAny_pure h⟩))) htake)
      | exact wpAny_bind (wpAny_bind (m := Builtin.Tuple.tupleExact _) (wpAny_newObj_type (wpAny_pure (wpAny_pure ⟨_, rfl, wpAny_pure h⟩)) htake))
      | exact wpAny_bind (wpAny_bind (m := Builtin.Tuple.tupleExact _) (wpAny_newObj_type (wpAny_pure ⟨_, rfl, wpAny_pure h⟩) htake))
end
def tRevA (K : PySem.W.Frag) (te : TE) : TE := fun σ H Q => te σ H fun x H1 => ∃ a xs, x = .ref a ∧ ((SqL K H1 a xs ∧ ∀ p, H1 p = none → Q (.ref p) (upd H1 p (.lst xs.reverse))) ∨ (SqT K H1 a xs ∧ ∀ p, H1 p = none → Q (.ref p) (upd H1 p (.tup xs.reverse))))
theorem pe_revA {X : Cx} {e : Expr} {te : TE} {k : Nat} {p1 p2 p3 pos : Pos} (he : PE X e te) : PE X (.Subscript e (.Slice none none (some (.UnaryOp .USub (.Constant (.int 1) k p1) p2)) p3) pos) (tRevA X.K te) := by
  refine ⟨fun pins s σ H Q I h => ?_⟩
  refine Subscript_ (thn (he.run pins s σ H _ I h) fun v s1 ⟨x, H1, I1, r1, q1⟩ => ?_)
  obtain ⟨a, xs, ex, q⟩ := q1
  subst ex
  cases r1
  have hst : PO X (some (.UnaryOp .USub (.Constant (.int 1) k p1) p2)) (tPart (tUn (rU fun i => .int (-i)) (tC (.int 1)))) := po_some (pe_un un_neg pe_int)
  refine wpAny_Slice (thn (po_none.run pins s1 σ H1 (fun o H2 => o = none ∧ H2 = H1) I1 ⟨rfl, rfl⟩) fun vl s2 ⟨l, H2, I2, pl, el, e2⟩ => ?_)
  subst el e2
  refine thn (po_none.run pins s2 σ H2 (fun o H3 => o = none ∧ H3 = H2) I2 ⟨rfl, rfl⟩) fun vu s3 ⟨u, H3, I3, pu, eu, e3⟩ => ?_
  subst eu e3
  refine thn (hst.run pins s3 σ H3 (fun o H4 => o = some (-1) ∧ H4 = H3) I3 ⟨1, rfl, -1, rfl, rfl, rfl⟩) fun vs s4 ⟨o, H4, I4, ps, eo, e4⟩ => ?_
  subst eo e4
  have I5 : Inv X pins σ H4 { s4 with heap := s4.heap.push { cls := .type "slice", data := .fields #[vl, vu, vs] } } := I4.kept (t' := s4.toks) fun b ob q => Heap.get?_push_of_some _ q
  show wpAny (model X.prog X.w) X.A (subscriptTail e (.Slice none none (some (.UnaryOp .USub (.Constant (.int 1) k p1) p2)) p3) (.ref a) (.ref s4.heap.objs.size)) (EP X pins σ Q) X.xe { s4 with heap := s4.heap.push { cls := .type "slice", data := .fields #[vl, vu, vs] } }
  rcases q with ⟨hx, q⟩ | ⟨hx, q⟩
  · obtain ⟨its, r, ht, hz⟩ := I5.list hx
    have hlen := r.length
    refine tail_any (ops := [.ref a, .ref s4.heap.objs.size]) ht.isList.typeIs (PySem.slot_list_getitem.lookup) ?_ (by with_unfolding_all rfl)
    refine wpAny_getItem_list_slice ht.isList (Heap.IsSliceOf.new _ vl vu vs) pl pu ps (by decide) ?_ (by rw [List.size_toArray]; omega)
    rw [PySem.W.krv_pick]
    refine ⟨.ref _, _, I5.laid (t' := s4.toks) (o := .lst xs.reverse) (fun b ob q => Heap.get?_push_of_some _ q) (Nat.le_refl _) ?_, rfl, q _ (I5.hok.fresh (Nat.le_refl _))⟩
    exact ⟨by rw [List.length_reverse]; exact hz, _, 0, r.reverse, Heap.get?_push_size _ rfl⟩
  · obtain ⟨its, r, ht, hz⟩ := I5.tuple hx
    have hlen := r.length
    cases pl
    cases pu
    refine tail_any (ops := [.ref a, .ref s4.heap.objs.size]) ht.typeIs (PyProof.Rows.slot_tuple_getitem.lookup) ?_ (by with_unfolding_all rfl)
    refine getItem_tuple_rev ht (Heap.IsSliceOf.new _ .none .none vs) ps ?_ (by rw [List.size_toArray]; omega)
    refine ⟨.ref _, _, I5.laid (t' := s4.toks) (o := .tup xs.reverse) (fun b ob q => Heap.get?_push_of_some _ q) (Nat.le_refl _) ?_, rfl, q _ (I5.hok.fresh (Nat.le_refl _))⟩
    exact ⟨by rw [List.length_reverse]; exact hz, _, r.reverse, IsTup.new _ _⟩
def revD : D → Sto → Rs D := fun d S => match d with
  | .tup ds => .ok (.tup ds.reverse) S
  | d => match lstD d S with
    | some ds => .ok (.ref S.length) (S ++ [.lst ds.reverse])
    | none => .stuck
def dRev (f : Fe) : Fe := fun ρ S => (f ρ S).bind revD
theorem me_rev {M : Md} {X : Cx} {W : WX} (hK : X.K = M.K) {e : Expr} {f : Fe} {k : Nat} {p1 p2 p3 pos : Pos} (he : ME M X W e f) : ME M X W (.Subscript e (.Slice none none (some (.UnaryOp .USub (.Constant (.int 1) k p1) p2)) p3) pos) (dRev f) := PE.imp (pe_revA he) fun σ H Q q => by
  obtain ⟨g, ρ, rfl, rp, en, q⟩ := q
  have q := Aft.bind (k := revD) q
  refine tE.go rp en (q.mono (fun d g1 k1 r1 q1 v hv => ?_) fun _ _ _ _ z => z)
  rw [hK]
  unfold revD at q1
  split at q1
  · obtain ⟨a, xs, rfl, h1, h2⟩ := hv.tupI
    exact ⟨a, xs, rfl, .inr ⟨h1, fun p hp => new_tup r1 q1 hp _ (dv_new r1 hp h2.reverse)⟩⟩
  · split at q1
    · rename_i ds hd
      obtain ⟨a, xs, rfl, h1, h2⟩ := lstD_v r1 hv hd
      exact ⟨a, xs, rfl, .inl ⟨h1, fun p hp => new_lst r1 q1 hp h2.reverse _ .newRef⟩⟩
    · exact q1.elim
end MP
set_option Elab.async false
set_option linter.all false
set_option maxRecDepth 100000
set_option maxHeartbeats 4000000
/-! Constants of the module, updates, the end. -/
namespace MP
open PySem PySem.Spec PyProof.Rows L2

theorem _root_.L2.Room.u65 {k : Nat} {A : Around} (r : Room k A) : A.units + 65 < cLine := by have := r.un; omega

/-! ### constants -/
def dvName : D → Value → Bool := fun _ _ => true
mutual
/-- u, as it stands among the module's objects, is the plain value d -/
def dvK (K : PySem.W.Frag) : D → Value → Bool
  | .non, .none => true
  | .bl b, .bool c => b == c
  | .int i, .int j _ => decide (i = j)
  | .str x, .str y _ => decide (x = y)
  | .tup ds, .ref a => match K.lookup a with
    | some ⟨.type c, _, .seq its _, _⟩ => decide (c = "tuple") && (decide (its.size ≤ sizeLine) && dvKs K ds its.toList)
    | _ => false
  | .fl ds, .ref a => match K.lookup a with
    | some ⟨.type c, none, .seq its _, _⟩ => decide (c = "list") && (decide (its.size ≤ sizeLine) && dvKs K ds its.toList)
    | _ => false
  | _, _ => false
def dvKs (K : PySem.W.Frag) : List D → List Value → Bool
  | [], [] => true
  | d :: ds, u :: us => dvK K d u && dvKs K ds us
  | _, _ => false
end
mutual
theorem dvK_ok {M : Md} : ∀ {d : D} {u : Value}, dvK M.K d u = true → ∃ v, RelV v u ∧ ∀ g, DV M g d v
  | .non, u, h => by
    cases u <;> simp [dvK] at h
    exact ⟨.non, rfl, fun _ => .non⟩
  | .bl b, u, h => by
    cases u <;> simp [dvK] at h
    subst h
    exact ⟨.bl b, rfl, fun _ => .bl _⟩
  | .int i, u, h => by
    cases u <;> simp [dvK] at h
    subst h
    exact ⟨.int i, ⟨_, rfl⟩, fun _ => .int _⟩
  | .str i, u, h => by
    cases u <;> simp [dvK] at h
    subst h
    exact ⟨.str i, ⟨_, rfl⟩, fun _ => .str _⟩
  | .ref i, u, h => by cases u <;> simp [dvK] at h
  | .fn i, u, h => by cases u <;> simp [dvK] at h
  | .tup ds, u, h => by
    cases u with
    | ref a =>
      unfold dvK at h
      split at h
      · rename_i c od its n sl e
        simp only [Bool.and_eq_true, decide_eq_true_eq] at h
        obtain ⟨h1, h2, h3⟩ := h
        obtain ⟨vs, h4, h5⟩ := dvKs_ok h3
        subst h1
        exact ⟨.ref a, rfl, fun g => .tup (.inr ⟨_, its, n, e, rfl, rfl, h2, h4⟩) (h5 g)⟩
      · cases h
    | _ => simp [dvK] at h
  | .fl ds, u, h => by
    cases u with
    | ref a =>
      unfold dvK at h
      split at h
      · rename_i c its n sl e
        simp only [Bool.and_eq_true, decide_eq_true_eq] at h
        obtain ⟨h1, h2, h3⟩ := h
        obtain ⟨vs, h4, h5⟩ := dvKs_ok h3
        subst h1
        exact ⟨.ref a, rfl, fun g => .fl (.inr ⟨_, its, n, e, rfl, rfl, rfl, h2, h4⟩) (h5 g)⟩
      · cases h
    | _ => simp [dvK] at h
theorem dvKs_ok {M : Md} : ∀ {ds : List D} {us : List Value}, dvKs M.K ds us = true → ∃ vs, Vals vs us ∧ ∀ g, DVs M g ds vs
  | [], us, h => by
    cases us with
    | nil => exact ⟨[], .nil, fun _ => .nil⟩
    | cons _ _ => simp [dvKs] at h
  | d :: ds, us, h => by
    cases us with
    | nil => simp [dvKs] at h
    | cons u us =>
      have h := Bool.and_eq_true_iff.mp (show (dvK M.K d u && dvKs M.K ds us) = true by simpa [dvKs] using h)
      obtain ⟨v, h1, h2⟩ := dvK_ok h.1
      obtain ⟨vs, h3, h4⟩ := dvKs_ok h.2
      exact ⟨v :: vs, .cons h1 h3, fun g => .cons (h2 g) (h4 g)⟩
end
/-- the module's name x stands for the plain value d -/
def KonG (M : Md) (mg : Str → Option Value) (x : Str) (d : D) : Prop := ∃ u v, mg x = some u ∧ RelV v u ∧ ∀ g, DV M g d v
theorem me_con {M : Md} {X : Cx} {W : WX} {x : Str} {d : D} {pos : Pos} (h : KonG M X.mg x d) (hg : Gl X x) (hdb : (x == ("__debug__" : Str)) = false := by decide) : ME M X W (.Name x pos) (dC d) := by
  obtain ⟨u, v, h1, h2, h3⟩ := h
  exact me_glob hg h1 h2 h3 hdb
/-- what the head looks at: constants, built-in functions by the module's names -/
def konB (K : PySem.W.Frag) (x : Str) (d : D) : Bool := match PySem.W.nsIn K mainGlobals x with
  | some (some u) => dvK K d u
  | _ => false
theorem konB_ok {M : Md} {h : Heap} {mg : Str → Option Value} (KX : M.K.In h) (G : h.Ns mainGlobals mg) {x : Str} {d : D} (c : konB M.K x d = true) : KonG M mg x d := by
  unfold konB at c
  split at c
  · rename_i u e
    obtain ⟨v, h1, h2⟩ := dvK_ok c
    exact ⟨u, v, PySem.W.mg_of KX G e, h1, h2⟩
  · cases c
def bltB (K : PySem.W.Frag) (x : Str) (id : String) : Bool := He.eqO (PySem.W.nsIn K mainGlobals x) (some (some (.builtin id)))
theorem bltB_ok {K : PySem.W.Frag} {h : Heap} {mg : Str → Option Value} (KX : K.In h) (G : h.Ns mainGlobals mg) {x : Str} {id : String} (c : bltB K x id = true) : mg x = some (.builtin id) := PySem.W.mg_of KX G (He.eqO_ok c)

/-! ### x op= e -/
def dIAdd : F2 := fun x y S => match x, y with
  | .int i, .int j => .ok (.int (i + j)) S
  | .str i, .str j => if i.length + j.length ≤ sizeLine then .ok (.str (i ++ j)) S else .stuck
  | _, _ => .stuck
abbrev rIAdd : R2 := fun x y H Q => rI0 (fun i j => .int (i + j)) x y H Q ∨ ∃ i j, x = .str i ∧ y = .str j ∧ i.length + j.length ≤ sizeLine ∧ Q (.str (i ++ j)) H
theorem iop_addD {X : Cx} : OpR X (inplaceOp .Add) rIAdd := iop_add.or iop_add_str
theorem o2_iadd {M : Md} : Op2 M rIAdd dIAdd := by
  intro g x y v u Q E r hx hy h
  unfold dIAdd at h
  split at h
  · rw [hx.intI, hy.intI]
    exact .inl ⟨_, _, rfl, rfl, h.here r _ (.int _)⟩
  · split at h
    · rename_i hz
      rw [hx.strI, hy.strI]
      exact .inr ⟨_, _, rfl, rfl, hz, h.here r _ (.str _)⟩
    · exact h.elim
  · exact h.elim
def dIMul : F2 := fun x y S => match x, y with
  | .int i, .int j => if szMul i j = true then .ok (.int (i * j)) S else .stuck
  | _, _ => .stuck
theorem iop_mulD {X : Cx} : OpR X (inplaceOp .Mult) (rI (fun i j => szMul i j = true) fun i j => .int (i * j)) := opI fun _ _ _ _ _ _ _ hc q => imul_int q (szMul.ok hc)
theorem o2_imul {M : Md} : Op2 M (rI (fun i j => szMul i j = true) fun i j => .int (i * j)) dIMul := by
  intro g x y v u Q E r hx hy h
  unfold dIMul at h
  split at h
  · split at h
    · rename_i hz
      rw [hx.intI, hy.intI]
      exact ⟨_, _, rfl, rfl, hz, h.here r _ (.int _)⟩
    · exact h.elim
  · exact h.elim

/-! ### the law's end -/
/-- the law's list, as told by walk's end: a list of ints, nothing else tracked -/
def law_D (ns : List Int) : D := .fl (ns.map D.int)
end MP
set_option Elab.async false
set_option linter.all false
set_option maxRecDepth 100000
set_option maxHeartbeats 4000000
/-! The law's end over a head by facts. -/
namespace MP
open PySem PySem.Spec PyProof.Rows L2

theorem walk_ofW {l : PySem.W.OpenLaw} {n k : Nat} {q : Program} {loose : List Str} {XP : (Str → Option Value) → Heap → Prop} {YP : World → Heap → Prop} {d : DefRec} {x : Str}
    (hn : l.most = some n) (hn2 : n ≤ sizeLine) (hdf : d.params.defaults = []) (hr : Room k callerA)
    (F : ∀ (w : World) (mg : Str → Option Value) (fa : Addr) (h : Heap), YP w h → h.Ns mainGlobals mg → mg d.name = some (.ref fa) →
      ∃ (K : PySem.W.Frag) (fd : FuncData) (sp : Sp), K.In h ∧ (∀ (s : Shared) (u : Value), BindsTo s fd ⟨[u], []⟩ [(x, u)]) ∧
        (∀ (H : Hp) (a : Addr) (ns : List Int), ns.length ≤ n → Only H → SqL K H a (ns.map V.int) → sp [.ref a] H (fun v _ => v = .bl true) fun _ _ _ => False) ∧
        ∀ base : Heap, K.In base → base.Ns mainGlobals mg → FnOk l.prog w K mg base (L2.CX l.prog w) k fa fd [x] sp) :
    PySem.W.WalkO q loose XP YP l.row.toRowW d [] (fun f vs => PySem.call f vs) := by
  refine Att.attach_call hn hdf fun w s₀ s₁ mg mb fa o pm cd doc a vs ns G Y ho hd hcd hmg hobj hints hlen hg => ?_
  obtain ⟨K, fd, sp, KX, hb, hsp, hF⟩ := F w mg fa _ Y G.T.g hmg
  exact law_call KX G.T.g G.T.b G.T.builtins G.T.nolimit hg hobj hints (Nat.le_trans hlen hn2) hr hF hb (fun H hO hS => hsp H a ns hlen hO hS) fun H e s' z => by
    obtain ⟨_, _, _, _, _, _, _, _, _, _, _, _, h⟩ := z
    exact h
theorem ints_dvs {M : Md} {g : Wd} : ∀ ns : List Int, DVs M g (ns.map D.int) (ns.map V.int)
  | [] => .nil
  | n :: ns => .cons (.int n) (ints_dvs ns)
theorem law_spT {M : Md} {F : FN} {H : Hp} {a : Addr} {ns : List Int} {S : Sto} (hF : F [law_D ns] [] = .ok (.bl true) S) (hz : FzL M.K H a (ns.map V.int)) (hT : LamX.Tabs M.T H) : spF M 1 F [.ref a] H (fun v _ => v = .bl true) fun _ _ _ => False := by
  refine ⟨rfl, ⟨fun _ => 0, [], H⟩, [law_D ns], rfl, ⟨fun i j hi => absurd hi (Nat.not_lt_zero _), (fun i o e => by cases e), hT⟩, .cons (.fl hz (ints_dvs ns)) .nil, ?_⟩
  show Aft M _ (F [law_D ns] []) _ _
  rw [hF]
  intro g1 e1 k1 r1 v hv
  exact hv.blI
theorem law_sp {M : Md} {F : FN} {H : Hp} {a : Addr} {ns : List Int} {S : Sto} (hF : F [law_D ns] [] = .ok (.bl true) S) (hO : Only H) (hS : SqL M.K H a (ns.map V.int)) (hT : LamX.Tabs M.T H) : spF M 1 F [.ref a] H (fun v _ => v = .bl true) fun _ _ _ => False := by
  refine law_spT hF ?_ hT
  rcases hS with (h | ⟨o, h⟩) | h
  · rcases hO a with z | ⟨o, xs, z⟩
    · rw [h] at z; cases z
    · rw [h] at z; cases z
  · exact .inl ⟨o, h⟩
  · exact .inr h
end MP
set_option Elab.async false
set_option linter.all false
set_option maxRecDepth 100000
set_option maxHeartbeats 4000000
/-! Texts, whole roots, binomials. -/
namespace MP
open PySem PySem.Spec PyProof.Rows L2

/-! ### math.isqrt, math.comb -/
def rIsqrt : List V → Hp → VK → Prop := fun vs H Q => ∃ a : Int, vs = [.int a] ∧ 0 ≤ a ∧ a.toNat.log2 ≤ 13000 ∧ Q (.int ((Float64.isqrt a.toNat : Nat) : Int)) H
theorem cr_isqrt {X : Cx} : CallR X (.builtin "math.isqrt") rIsqrt := by
  intro pins s σ H vs us Q I r h
  obtain ⟨a, rfl, h0, h1, q⟩ := h
  obtain ⟨u, rfl, t, rfl⟩ := vals1 r
  exact PySem.call_function_meets PySem.W.MGF.kind_isqrt PySem.W.MGF.plain_isqrt PySem.W.MGF.entry_isqrt (PySem.W.MGF.args_isqrt _) (PySem.W.mg_run_isqrt a t (by omega) (by omega) (by omega)).meets ⟨.int _, H, I.tok _, ⟨_, rfl⟩, q⟩
def nIsqrt : FN := fun ds S => match ds with
  | [.int i] => if 0 ≤ i ∧ i.toNat.log2 ≤ 13000 then .ok (.int ((Float64.isqrt i.toNat : Nat) : Int)) S else .stuck
  | _ => .stuck
def rComb : List V → Hp → VK → Prop := fun vs H Q => ∃ a b : Int, vs = [.int a, .int b] ∧ 0 ≤ a ∧ 0 ≤ b ∧ a < 2 ^ 64 ∧ b ≤ 9000 ∧ Q (.int (PySem.W.mcComb a b)) H
theorem cr_comb {X : Cx} : CallR X (.builtin "math.comb") rComb := by
  intro pins s σ H vs us Q I r h
  obtain ⟨a, b, rfl, h0, h1, h2, h3, q⟩ := h
  obtain ⟨t, u, rfl⟩ := Vals.int2 r
  exact PySem.W.mc_comb h0 h1 h2 (.inl h3) fun _ => ⟨.int _, H, I.tok _, ⟨_, rfl⟩, q⟩
/-- bounds of a binomial, stuck at once at what is not known -/
def fitC (i j : Int) : Bool := leI 0 i && (leI 0 j && (fitI i && fitI j && Nat.ble j.natAbs 9000))
theorem fitC_of {i j : Int} (h : fitC i j = true) : 0 ≤ i ∧ 0 ≤ j ∧ i < 2 ^ 64 ∧ j ≤ 9000 := by
  unfold fitC at h
  rw [Bool.and_eq_true, Bool.and_eq_true, Bool.and_eq_true, Bool.and_eq_true, leI_eq, leI_eq, decide_eq_true_eq, decide_eq_true_eq] at h
  have a := fitI_of h.2.2.1.1
  have b := Nat.le_of_ble_eq_true h.2.2.2
  have c := h.2.1
  have d := h.1
  omega
theorem fitC_ok {i j : Int} (h1 : 0 ≤ i) (h2 : 0 ≤ j) (h3 : i ≤ 9000) (h4 : j ≤ 9000) : fitC i j = true := by
  unfold fitC
  rw [Bool.and_eq_true, Bool.and_eq_true, Bool.and_eq_true, Bool.and_eq_true, leI_eq, leI_eq, decide_eq_true_eq, decide_eq_true_eq]
  exact ⟨h1, h2, ⟨fitI_ok (by omega), fitI_ok (by omega)⟩, Nat.ble_eq_true_of_le (by omega)⟩
def nComb : FN := fun ds S => match ds with
  | [.int i, .int j] => if fitC i j = true then .ok (.int (PySem.W.mcComb i j)) S else .stuck
  | _ => .stuck
section
variable {M : Md}
theorem on_isqrt : OpN M rIsqrt nIsqrt := by
  intro g ds vs Q E r hv h
  unfold nIsqrt at h
  split at h
  · split at h
    · rename_i hz
      obtain ⟨v, rfl, h1⟩ := hv.one
      exact ⟨_, by rw [h1.intI], hz.1, hz.2, h.here r _ (.int _)⟩
    · exact h.elim
  · exact h.elim
theorem on_comb : OpN M rComb nComb := by
  intro g ds vs Q E r hv h
  unfold nComb at h
  split at h
  · split at h
    · rename_i hz
      obtain ⟨v, u, rfl, h1, h2⟩ := hv.two
      have hz := fitC_of hz
      exact ⟨_, _, by rw [h1.intI, h2.intI], hz.1, hz.2.1, hz.2.2.1, hz.2.2.2, h.here r _ (.int _)⟩
    · exact h.elim
  · exact h.elim
/-! ### str(n), int(text) -/
def nStr : FN := fun ds S => match ds with
  | [.int i] => if i.natAbs.log2 < 1920 then .ok (.str (toString i)) S else .stuck
  | _ => .stuck
theorem on_str : OpN M (fun xs H Q => ∃ i, xs = [.int i] ∧ i.natAbs.log2 < 1920 ∧ Q (.str (toString i)) H) nStr := by
  intro g ds vs Q E r hv h
  unfold nStr at h
  split at h
  · split at h
    · rename_i hz
      obtain ⟨v, rfl, h1⟩ := hv.one
      exact ⟨_, by rw [h1.intI], hz, h.here r _ (.str _)⟩
    · exact h.elim
  · exact h.elim
def nIntT : FN := fun ds S => match ds with
  | [.str a] => match PySem.intText? a with
    | some n => if a.length ≤ 640 then .ok (.int n) S else .stuck
    | none => .stuck
  | _ => .stuck
theorem on_intT : OpN M (fun xs H Q => ∃ a n, xs = [.str a] ∧ PySem.intText? a = some n ∧ a.length ≤ 640 ∧ Q (.int n) H) nIntT := by
  intro g ds vs Q E r hv h
  unfold nIntT at h
  split at h
  · split at h
    · rename_i n hn
      split at h
      · rename_i hz
        obtain ⟨v, rfl, h1⟩ := hv.one
        exact ⟨_, _, by rw [h1.strI], hn, hz, h.here r _ (.int _)⟩
      · exact h.elim
    · exact h.elim
  · exact h.elim
/-! ### sign in text -/
def dInS : F2 := fun x y S => match x, y with
  | .str a, .str z => if a.cps.size = 1 then .ok (.bl (decide (a.cps.getD 0 0 ∈ z.cps.toList))) S else .stuck
  | _, _ => .stuck
def rInSg : R2 := fun x y H Q => ∃ (c : Nat) (z : Str), x = .str ⟨#[c]⟩ ∧ y = .str z ∧ Q (.bl (decide (c ∈ z.cps.toList))) H
theorem op_inSg {X : Cx} : OpR X (compareOp .In) rInSg := op_in_sign
theorem o2_inS : Op2 M rInSg dInS := by
  intro g x y v u Q E r hx hy h
  unfold dInS at h
  split at h
  · rename_i a z
    split at h
    · rename_i hz
      rw [hx.strI, hy.strI]
      obtain ⟨arr⟩ := a
      have e : arr = #[arr.getD 0 0] := by
        apply Array.ext
        · simpa using hz
        · intro i h1 h2
          have : i = 0 := by simp at h2; omega
          subst this
          simp [Array.getD, h1]
      refine ⟨arr.getD 0 0, z, by rw [← e], rfl, h.here r _ (.bl _)⟩
    · exact h.elim
  · exact h.elim
end
/-! ### f-strings -/
section
variable {M : Md} {X : Cx} {W : WX}
def fmtD : D → Sto → Rs D := fun d S => match d with
  | .str y => if y.length ≤ sizeLine then .ok (.str y) S else .stuck
  | .int i => if i.natAbs.log2 < 1920 then .ok (.str (toString i)) S else .stuck
  | _ => .stuck
def dFmt (f : Fe) : Fe := fun ρ S => (f ρ S).bind fmtD
theorem me_fmt {e : Expr} {pos : Pos} {f : Fe} (he : ME M X W e f) : ME M X W (.FormattedValue e (-1) none pos) (dFmt f) :=
  PE.imp (pe_fmt he) fun σ H Q q => by
    obtain ⟨g, ρ, rfl, rp, en, q⟩ := q
    have q := Aft.bind (k := fmtD) q
    refine tE.go rp en (q.mono (fun d g1 k1 r1 q1 v hv => ?_) fun _ _ _ _ z => z)
    unfold fmtD at q1
    split at q1
    · split at q1
      · rename_i y hz
        exact .inl ⟨y, hv.strI, hz, q1.here r1 _ (.str _)⟩
      · exact q1.elim
    · split at q1
      · rename_i i hz
        exact .inr ⟨i, hv.intI, hz, q1.here r1 _ (.str _)⟩
      · exact q1.elim
    · exact q1.elim
theorem me_joined1 {e : Expr} {pos : Pos} {f : Fe} (he : ME M X W e f) : ME M X W (.JoinedStr [e] pos) f := pe_joined1 he
def dJs : List Fe → Str → Fe
  | [], acc => fun _ S => .ok (.str acc) S
  | f :: fs, acc => fun ρ S => (f ρ S).bind fun d S1 => match d with
    | .str y => if (acc ++ y).length ≤ sizeLine then dJs fs (acc ++ y) ρ S1 else .stuck
    | _ => .stuck
inductive MJ (M : Md) (X : Cx) (W : WX) : List Expr → List Fe → Prop where
  | nil : MJ M X W [] []
  | cons {e : Expr} {f : Fe} {es : List Expr} {fs : List Fe} (h : ME M X W e f) (r : MJ M X W es fs) : MJ M X W (e :: es) (f :: fs)
theorem MJ.pj : ∀ {es : List Expr} {fs : List Fe}, MJ M X W es fs → PJ X es (fs.map fun f => tE M W f)
  | _, _, .nil => .nil
  | _, _, .cons h r => .cons h r.pj
theorem tJs_of : ∀ {fs : List Fe} {acc : Str} {σ : L2.St} {g : Wd} {ρ : Rho} {Q : VK}, Rep M g → EnvOk M g ρ σ → Aft M g (dJs fs acc ρ g.S) (PD M Q) (XD M W σ) → tJs (fs.map fun f => tE M W f) acc σ g.H fun out H1 => Q (.str out) H1
  | [], acc, σ, g, ρ, Q, rp, en, q => by
    have q : Aft M g (.ok (.str acc) g.S) (PD M Q) (XD M W σ) := q
    exact q.here rp _ (.str _)
  | f :: fs, acc, σ, g, ρ, Q, rp, en, q => by
    have q := Aft.bind (r := f ρ g.S) (k := fun d S1 => match d with
      | .str y => if (acc ++ y).length ≤ sizeLine then dJs fs (acc ++ y) ρ S1 else .stuck
      | _ => .stuck) q
    refine tE.go rp en (q.mono (fun d g1 k1 r1 q1 v hv => ?_) fun _ _ _ _ z => z)
    split at q1
    · split at q1
      · rename_i y hz
        exact ⟨y, hv.strI, hz, tJs_of r1 (en.mono rp k1) q1⟩
      · exact q1.elim
    · exact q1.elim
theorem me_joined {v1 v2 : Expr} {rest : List Expr} {pos : Pos} {fs : List Fe} (h : MJ M X W (v1 :: v2 :: rest) fs) : ME M X W (.JoinedStr (v1 :: v2 :: rest) pos) (dJs fs Str.empty) :=
  PE.imp (pe_joined h.pj) fun σ H Q q => by
    obtain ⟨g, ρ, rfl, rp, en, q⟩ := q
    exact tJs_of rp en q
/-! ### s.partition(t) -/
def partD (x y : D) : Sto → Rs D := fun S => match x, y with
  | .str a, .str b => if (b.length == 0) = false ∧ a.length ≤ sizeLine then .ok (.tup [.str (Txt.partition a b).1, .str (Txt.partition a b).2.1, .str (Txt.partition a b).2.2]) S else .stuck
  | _, _ => .stuck
def isStrD : D → Bool
  | .str _ => true
  | _ => false
def dPart (o e : Fe) : Fe := fun ρ S => (o ρ S).bind fun x S1 => if isStrD x = true then (e ρ S1).bind fun y S2 => partD x y S2 else .stuck
theorem me_part {o e : Expr} {apos pos : Pos} {fo fe : Fe} (ho : ME M X W o fo) (he : ME M X W e fe) (hs : starEach [e] X.env = [(false, eval e X.env)] := by rfl) (hbase : attributeBase o "partition" X.env (eval o X.env) = eval o X.env := by rfl) (hline : (apos.endLine == pos.line) = true := by rfl) :
    ME M X W (.Call (.Attribute o "partition" apos) [e] [] pos) (dPart fo fe) :=
  PE.imp (pe_partition ho he hs hbase hline) fun σ H Q q => by
    obtain ⟨g, ρ, rfl, rp, en, q⟩ := q
    have q := Aft.bind (k := fun x S1 => if isStrD x = true then (fe ρ S1).bind fun y S2 => partD x y S2 else .stuck) q
    refine tE.go rp en (q.mono (fun x g1 k1 r1 q1 v hv => ?_) fun _ _ _ _ z => z)
    split at q1
    · rename_i hx
      cases x with
      | str a =>
        refine ⟨⟨a, hv.strI⟩, ?_⟩
        have q1 := Aft.bind (k := fun y S2 => partD (.str a) y S2) q1
        refine tE.go r1 (en.mono rp k1) (q1.mono (fun y g2 k2 r2 q2 u hu => ?_) fun _ _ _ _ z => z)
        unfold partD at q2
        split at q2
        · rename_i a' b e1
          cases e1
          split at q2
          · rename_i hz
            rw [hv.strI, hu.strI]
            refine ⟨a, b, rfl, rfl, hz.1, hz.2, fun p hp => ?_⟩
            exact q2 ⟨g2.μ, g2.S, upd g2.H p (.tup [.str (Txt.partition a b).1, .str (Txt.partition a b).2.1, .str (Txt.partition a b).2.2])⟩ rfl (Gr.laid hp) (r2.laid hp) _ (dv_new r2 hp (.cons (.str _) (.cons (.str _) (.cons (.str _) .nil))))
          · exact q2.elim
        · exact q2.elim
      | _ => cases hx
    · exact q1.elim
/-! ### the signs of a text -/
def signsD (z : Str) : List D := z.cps.toList.map fun c => .str ⟨#[c]⟩
def txtD : D → Sto → Rs Src := fun d S => match d with
  | .str z => .ok ⟨signsD z, []⟩ S
  | _ => .stuck
def iT (f : Fe) : Fi := fun ρ S => (f ρ S).bind txtD
theorem srcOk_txt {g0 : Wd} {z : Str} : SrcOk M g0 ⟨signsD z, []⟩ (Its z) := by
  have hl : (Src.mk (signsD z) []).its.length = z.cps.size := by show (signsD z).length = _; unfold signsD; simp
  refine ⟨fun _ => True, fun i H v H' => H' = H ∧ ∃ c, z.cps[i]? = some c ∧ v = .str ⟨#[c]⟩, by rw [hl]; exact walk_str, rfl, fun _ _ _ _ => True.intro, fun i g1 x H' hi r1 k _ y => ?_⟩
  obtain ⟨e, c, hc, hx⟩ := y
  subst e hx
  refine ⟨.str ⟨#[c]⟩, g1, ?_, rfl, rfl, Gr.refl, r1, .str _⟩
  show (signsD z)[i]? = _
  unfold signsD
  rw [List.getElem?_map, Array.getElem?_toList, hc]
  rfl
theorem mi_t {tg e : Expr} {f : Fe} (h : ME M X W e f) : MI M X W tg e (iT f) := PI.imp (pi_str h) fun σ H R q => by
  obtain ⟨g, ρ, rfl, rp, en, q⟩ := q
  have q := Aft.bind (k := txtD) q
  refine tE.go rp en (q.mono (fun d g1 k1 r1 q1 v hv => ?_) fun _ _ _ _ z => z)
  unfold txtD at q1
  split at q1
  · rename_i z
    exact ⟨z, hv.strI, Aft.here r1 q1 _ srcOk_txt⟩
  · exact q1.elim
end
end MP
set_option Elab.async false
set_option linter.all false
set_option maxRecDepth 100000
set_option maxHeartbeats 4000000
/-! repr of plain data. -/
namespace MP
open PySem PySem.Spec PyProof.Rows L2 MX

def optAll (f : D → Option PyData) : List D → Option (List PyData)
  | [] => some []
  | d :: ds => match f d, optAll f ds with
    | some x, some xs => some (x :: xs)
    | _, _ => none
/-- plain data without dicts, as the library has it -/
def pyN (S : Sto) : Nat → D → Option PyData
  | 0, _ => none
  | n + 1, d => match d with
    | .non => some .none
    | .bl b => some (.bool b)
    | .int i => some (.int i)
    | .str x => some (.str x)
    | .tup ds => (optAll (pyN S n) ds).map .tuple
    | .fl ds => (optAll (pyN S n) ds).map .list
    | .ref k => match S[k]? with
      | some (.lst ds) => (optAll (pyN S n) ds).map .list
      | _ => none
    | .fn _ => none
def pyT (S : Sto) (d : D) : Option PyData := match d with
  | .ref k => match S[k]? with
    | some (.dk []) => some (.dict [])
    | _ => pyN S 8 d
  | _ => pyN S 8 d
def nRepr : FN := fun ds S => match ds with
  | [d] => match pyT S d with
    | some p => if (p.showable && decide (p.shown.length ≤ sizeLine)) = true then .ok (.str p.shown) S else .stuck
    | none => .stuck
  | _ => .stuck
section
variable {M : Md} {X : Cx} {W : WX} {pins : List (Addr × Obj)} {σ : L2.St} {g : Wd} {s : Shared}
theorem depthAll_le {n : Nat} : ∀ {l : List PyData}, (∀ p ∈ l, p.depth ≤ n) → PyData.depthAll l ≤ n
  | [], _ => by simp [PyData.depthAll]
  | p :: l, h => by
    have h1 := h p List.mem_cons_self
    have h2 := depthAll_le (l := l) fun q hq => h q (List.mem_cons_of_mem _ hq)
    simp only [PyData.depthAll]
    omega
theorem hasDictAll_no : ∀ {l : List PyData}, (∀ p ∈ l, p.hasDict = false) → PyData.hasDictAll l = false
  | [], _ => by simp [PyData.hasDictAll]
  | p :: l, h => by
    have h1 := h p List.mem_cons_self
    have h2 := hasDictAll_no (l := l) fun q hq => h q (List.mem_cons_of_mem _ hq)
    simp [PyData.hasDictAll, h1, h2]
theorem optAll_reads {f : D → Option PyData} {h : Heap} {n : Nat} (hf : ∀ d v u p, DV M g d v → RelV v u → f d = some p → (∃ as, Reads h u p as) ∧ p.hasDict = false ∧ p.depth ≤ n) :
    ∀ {ds : List D} {vs : List V} {us : List Value} {ps : List PyData}, DVs M g ds vs → Vals vs us → optAll f ds = some ps → (∃ as, ReadsAll h us ps as) ∧ ∀ p ∈ ps, p.hasDict = false ∧ p.depth ≤ n
  | [], _, _, ps, .nil, .nil, e => by
    cases (show some [] = some ps from e)
    exact ⟨⟨_, .nil⟩, fun p hp => by cases hp⟩
  | d :: ds, _, _, ps, .cons hd hds, .cons r rs, e => by
    unfold optAll at e
    split at e
    · rename_i x xs e1 e2
      cases e
      obtain ⟨⟨as, q1⟩, q2, q3⟩ := hf _ _ _ _ hd r e1
      obtain ⟨⟨bs, q4⟩, q5⟩ := optAll_reads hf hds rs e2
      refine ⟨⟨_, .cons q1 q4⟩, fun p hp => ?_⟩
      rcases List.mem_cons.mp hp with rfl | hp
      · exact ⟨q2, q3⟩
      · exact q5 p hp
    · cases e
theorem pyN_reads (I : L2.Inv X pins σ g.H s) (hK : X.K = M.K) (r : Rep M g) : ∀ (n : Nat) (d : D) (v : V) (u : Value) (p : PyData), DV M g d v → RelV v u → pyN g.S n d = some p → (∃ as, Reads s.heap u p as) ∧ p.hasDict = false ∧ p.depth ≤ 2 * n
  | 0, _, _, _, _, _, _, e => by cases e
  | n + 1, d, v, u, p, hd, ru, e => by
    have ih := pyN_reads I hK r n
    have lst : ∀ {a : Addr} {ds : List D} {xs : List V} {p : PyData}, SqL M.K g.H a xs → DVs M g ds xs → (optAll (pyN g.S n) ds).map PyData.list = some p → (∃ as, Reads s.heap (.ref a) p as) ∧ p.hasDict = false ∧ p.depth ≤ 2 * (n + 1) := fun {a ds xs p} h1 h2 e => by
      rw [← hK] at h1
      obtain ⟨ps, e1, e2⟩ := Option.map_eq_some_iff.mp e
      subst e2
      obtain ⟨its, rv, ⟨o, m, w1, w2, w3, w4⟩, _⟩ := I.list h1
      obtain ⟨⟨as, q⟩, q2⟩ := optAll_reads ih h2 rv e1
      refine ⟨⟨_, .list w1 w2 w4 (by simpa using q)⟩, ?_, ?_⟩
      · simp only [PyData.hasDict]
        exact hasDictAll_no fun p hp => (q2 p hp).1
      · have := depthAll_le fun p hp => (q2 p hp).2
        simp only [PyData.depth]
        omega
    cases d with
    | non =>
      cases hd
      obtain rfl : u = Value.none := ru
      cases (show some PyData.none = some p from e)
      exact ⟨⟨_, .none⟩, by simp [PyData.hasDict], by simp [PyData.depth]⟩
    | bl b =>
      cases hd
      obtain rfl : u = Value.bool b := ru
      cases (show some (PyData.bool b) = some p from e)
      exact ⟨⟨_, .bool b⟩, by simp [PyData.hasDict], by simp [PyData.depth]⟩
    | int i =>
      cases hd
      obtain ⟨t, rfl⟩ := (show ∃ t, u = Value.int i t from ru)
      cases (show some (PyData.int i) = some p from e)
      exact ⟨⟨_, .int i t⟩, by simp [PyData.hasDict], by simp [PyData.depth]⟩
    | str i =>
      cases hd
      obtain ⟨t, rfl⟩ := (show ∃ t, u = Value.str i t from ru)
      cases (show some (PyData.str i) = some p from e)
      exact ⟨⟨_, .str i t⟩, by simp [PyData.hasDict], by simp [PyData.depth]⟩
    | fn i => cases e
    | tup ds =>
      cases hd with
      | tup h1 h2 =>
        rename_i a xs
        obtain rfl : u = Value.ref a := ru
        rw [← hK] at h1
        obtain ⟨ps, e1, e2⟩ := Option.map_eq_some_iff.mp (show (optAll (pyN g.S n) ds).map PyData.tuple = some p from e)
        subst e2
        obtain ⟨its, rv, ⟨o, w1, w2, m, w3⟩, _⟩ := I.tuple h1
        obtain ⟨⟨as, q⟩, q2⟩ := optAll_reads ih h2 rv e1
        refine ⟨⟨_, .tuple w1 w2 w3 (by simpa using q)⟩, ?_, ?_⟩
        · simp only [PyData.hasDict]
          exact hasDictAll_no fun p hp => (q2 p hp).1
        · have := depthAll_le fun p hp => (q2 p hp).2
          simp only [PyData.depth]
          omega
    | fl ds =>
      cases hd with
      | fl h1 h2 =>
        rename_i a xs
        obtain rfl : u = Value.ref a := ru
        refine lst ?_ h2 (show (optAll (pyN g.S n) ds).map PyData.list = some p from e)
        rcases h1 with ⟨o, h1⟩ | h1
        · exact .inl (.inr ⟨o, h1⟩)
        · exact .inr h1
    | ref k =>
      obtain ⟨rfl, _⟩ := hd.refI
      obtain rfl : u = Value.ref (g.μ k) := ru
      have e : (match g.S[k]? with
        | some (.lst ds) => (optAll (pyN g.S n) ds).map PyData.list
        | _ => none) = some p := e
      split at e
      · rename_i ds hk
        obtain ⟨xs, hx, hxs⟩ := r.lst hk
        exact lst (.inl (.inl hx)) hxs e
      · cases e
theorem call_reprD (hK : X.K = M.K) (hg : X.A.guards = some []) (un : X.A.units + 200 < cLine) : CallR X (.builtin "repr") (fun xs H Q => ∃ (g : Wd) (d : D) (v : V) (p : PyData), xs = [v] ∧ g.H = H ∧ Rep M g ∧ DV M g d v ∧ pyT g.S d = some p ∧ p.showable = true ∧ p.shown.length ≤ sizeLine ∧ Q (.str p.shown) H) := by
  intro pins s σ H xs us Q I r h
  obtain ⟨g, d, v, p, rfl, rfl, rp, hd, e, hs, hz, q⟩ := h
  obtain ⟨u, rfl, ru⟩ := vals1 r

  have fin : ∀ {a : Addr} {as : List Addr}, u = .ref a → Reads s.heap u p as → (p.hasDict = true → sysModules ∉ as) → p.depth ≤ 100 → wpAny (model X.prog X.w) X.A (call (.builtin "repr") [u]) (EP X pins σ Q) X.xe s := fun {a as} hu hrd hsm hdp => by
    subst hu
    exact repr_of_reads' hrd hs hsm hg (by omega) (fun _ _ e => e) (fun h' t tk k => ⟨.str p.shown, g.H, I.kept k, ⟨_, rfl⟩, q⟩) hz
  by_cases hdk : ∃ k, d = .ref k ∧ g.S[k]? = some (.dk [])
  · obtain ⟨k, rfl, hk⟩ := hdk
    have e2 : pyT g.S (.ref k) = some (.dict []) := by simp only [pyT, hk]
    rw [e2] at e
    cases e
    obtain ⟨rfl, _⟩ := hd.refI
    obtain rfl : u = Value.ref (g.μ k) := ru
    obtain ⟨ws, hw, hkd⟩ := rp.obj k _ hk
    cases hkd
    obtain ⟨_, hsys, vs, rel, o, es, ep, w1, w2, w3, w4, w5, w6⟩ := (show ObjOk X.prog X.w g.H s.heap (g.μ k) (.dK []) from I.hok _ _ hw)
    cases rel
    have es0 : es.toList = [] := by
      cases hl : es.toList with
      | nil => rfl
      | cons x l => rw [hl] at w5; cases w5
    refine fin (as := [g.μ k]) rfl (.dict (kvs := []) (as := []) (bs := []) w1 w2.1 w3 (by rw [es0]; exact .nil) (by rw [es0]; exact .nil)) (fun _ hm => ?_) (by simp [PyData.depth, PyData.depthKv])
    rcases List.mem_cons.mp hm with z | z
    · rw [← z] at hsys
      simp at hsys
    · cases z
  · have e : pyN g.S 8 d = some p := by
      unfold pyT at e
      split at e
      · rename_i k
        split at e
        · rename_i hk
          exact absurd ⟨k, rfl, hk⟩ hdk
        · exact e
      · exact e
    obtain ⟨⟨as, hrd⟩, hnd, hdp⟩ := pyN_reads I hK rp 8 d v u p hd ru e
    cases hrd with
    | none => exact PySem.P.repr_of_none ⟨.str _, g.H, I.tok _, ⟨_, rfl⟩, by simpa only [PyData.shown] using q⟩
    | bool b => exact PySem.P.repr_of_bool ⟨.str _, g.H, I.tok _, ⟨_, rfl⟩, by simpa only [PyData.shown] using q⟩
    | int i t => exact PySem.P.repr_of_int (by simpa [PyData.showable] using hs) ⟨.str _, g.H, I.tok _, ⟨_, rfl⟩, by simpa only [PyData.shown] using q⟩
    | str x t => exact PySem.P.repr_of_str ⟨.str _, g.H, I.tok _, ⟨_, rfl⟩, by simpa only [PyData.shown] using q⟩ (by simpa only [PyData.shown] using hz)
    | list w1 w2 w3 w4 => exact fin rfl (.list w1 w2 w3 w4) (fun z => by rw [hnd] at z; cases z) (by omega)
    | tuple w1 w2 w3 w4 => exact fin rfl (.tuple w1 w2 w3 w4) (fun z => by rw [hnd] at z; cases z) (by omega)
    | dict w1 w2 w3 w4 w5 => exact fin rfl (.dict w1 w2 w3 w4 w5) (fun z => by rw [hnd] at z; cases z) (by omega)
theorem on_repr : OpN M (fun xs H Q => ∃ (g : Wd) (d : D) (v : V) (p : PyData), xs = [v] ∧ g.H = H ∧ Rep M g ∧ DV M g d v ∧ pyT g.S d = some p ∧ p.showable = true ∧ p.shown.length ≤ sizeLine ∧ Q (.str p.shown) H) nRepr := by
  intro g ds vs Q E r hv h
  unfold nRepr at h
  split at h
  · split at h
    · rename_i d p hp
      split at h
      · rename_i hz
        obtain ⟨v, rfl, h1⟩ := hv.one
        simp only [Bool.and_eq_true, decide_eq_true_eq] at hz
        exact ⟨g, _, v, _, rfl, rfl, r, h1, hp, hz.1, hz.2, h.here r _ (.str _)⟩
      · exact h.elim
    · exact h.elim
  · exact h.elim
end
end MP
set_option Elab.async false
set_option linter.all false
set_option maxRecDepth 100000
set_option maxHeartbeats 4000000
/-! raise, try, over plain data. -/
namespace MP
open PySem PySem.Spec PyProof.Rows L2 MX

/-- the module's x is the exception class number c, without an __init__ of its own -/
structure Kc0 (mg : Str → Option Value) (M : Md) (x : Str) (c : Nat) : Prop where
  ex : ∃ B newId initId bmB, ExcBaseFacts B newId initId bmB ∧ PySem.W.excIn M.K (M.ca c) bmB newId = true
  m : mg x = some (.ref (M.ca c))
  kp : PySem.W.keepIn M.K (.ref (M.ca c)) = true
  exC : PySem.W.subIn M.K (.ref (M.ca c)) (.type "BaseException") = some true
  tyC : PySem.W.typeIn M.K (.ref (M.ca c)) = some (.type "type")
/-- .. with __init__: super().__init__('..'); self.f = given -/
structure Kc1 (P : Program) (mg : Str → Option Value) (M : Md) (x : Str) (c : Nat) (f : Str) : Prop where
  ex : ∃ B newId initId bmB fI cc cda slf giv txt, SupB B newId initId bmB ∧ SupK P M.K B newId initId bmB (M.ca c) fI cc cda f slf giv txt
  m : mg x = some (.ref (M.ca c))
section
variable {M : Md} {X : Cx} {W : WX}
def sRaise0 (c : Nat) : Fst := fun ρ S => .exc ⟨c, none⟩ ρ S
def sRaise1 (c : Nat) (f : Str) (fe : Fe) : Fst := fun ρ S => thenS (fe ρ S) ρ fun d S1 => .exc ⟨c, some (f, d)⟩ ρ S1
theorem ms_raise0 {x m : Str} {c j : Nat} {p p2 pos pos' : Pos} (hK : X.K = M.K) (hc : X.calm = true) (tk : Takes X W) (k : Kc0 X.mg M x c) (hg : Gl X x := by rfl) (hdb : (x == ("__debug__" : Str)) = false := by decide) :
    MS M X W (.Raise (some (.Call (.Name x p) [.Constant (.str m) j p2] [] pos)) none pos') (sRaise0 c) := by
  obtain ⟨B, newId, initId, bmB, F, q⟩ := k.ex
  refine PS.imp (ps_raise hc tk (pmk_own F (by rw [hK]; exact q) k.m (by rw [hK]; exact k.kp) (raises_own (by rw [hK]; exact k.exC) (by rw [hK]; exact k.tyC)) hg hdb)) fun Dn σ H z => ?_
  obtain ⟨g, ρ, rfl, rp, en, z⟩ := z
  exact z g rfl Gr.refl rp σ en _ _ ⟨rfl, rfl⟩
theorem ms_raise1 {x f : Str} {c : Nat} {p pos pos' : Pos} {e : Expr} {fe : Fe} (hK : X.K = M.K) (hc : X.calm = true) (tk : Takes X W) (k : Kc1 X.prog X.mg M x c f) {n : Nat} (hr : Room n X.A) (he : ME M X W e fe) (hg : Gl X x := by rfl) (hdb : (x == ("__debug__" : Str)) = false := by decide)
    (hst : starEach (e :: []) X.env = (false, eval e X.env) :: starEach [] X.env := by rfl) (hpl : (backTo pos (starEach [] X.env)).any (·.1) = false := by rfl) :
    MS M X W (.Raise (some (.Call (.Name x p) [e] [] pos)) none pos') (sRaise1 c f fe) := by
  obtain ⟨B, newId, initId, bmB, fI, cc, cda, slf, giv, txt, SB, SK⟩ := k.ex
  rw [← hK] at SK
  refine PS.imp (ps_raise hc tk (pmk_sup SB SK (by have := hr.dp; omega) hg k.m he hdb hst hpl)) fun Dn σ H z => ?_
  obtain ⟨g, ρ, rfl, rp, en, z⟩ := z
  have q := AftS.ofE rp en z
  exact tE.go rp en (q.mono (fun d g1 k1 r1 q1 v hv => ⟨v, rfl, fun dx hdx => q1 ⟨g1.μ, g1.S, upd g1.H dx (.xd [(f, v)])⟩ rfl (Gr.laid hdx) (r1.laid hdx) σ ((en.mono rp k1).mono r1 (Gr.laid hdx)) _ _ ⟨rfl, dx, v, rfl, upd_same, hv.mono r1 (Gr.laid hdx)⟩⟩) fun _ _ _ _ z => z)

/-! ### suites that return a value -/
abbrev FX := Xn → Sto → Rs D
def RtOk (M : Md) (g : Wd) (r : Rs D) (D0 : Ends) : Prop := match r with
  | .ok d S1 => ∀ g', g'.S = S1 → Gr g g' → Rep M g' → ∀ v, DV M g' d v → D0.rt v g'.H
  | _ => False
def tSu (M : Md) (io : Option Nat) (c : Nat) (su : FX) : SuT := fun a cls d D σ H => ∃ g x, g.H = H ∧ Rep M g ∧ XV M g x cls d ∧ (∀ i, io = some i → σ[i]? = some (some (.ref a))) ∧ RtOk M g (su x g.S) D
theorem envNone {g : Wd} {σ : L2.St} : EnvOk M g (List.replicate σ.length none) σ := ⟨by simp, fun i d h => by
  rw [List.getElem?_replicate] at h
  split at h <;> cases h⟩
theorem RtOk.aft {g : Wd} {r : Rs D} {D0 : Ends} {E : Xn → Wd → Prop} (h : RtOk M g r D0) : Aft M g r (PD M D0.rt) E := by
  cases r with
  | ok d S1 => exact fun g' e k r v hv => h g' e k r v hv
  | exc x S => exact h.elim
  | stuck => exact h.elim
theorem su_pure {io : Option Nat} {c : Nat} {e : Expr} {pos : Pos} {fe : Fe} (he : ∀ (a : Addr) (pn : List (Addr × Obj)), ME M (X.suite a pn) (fun _ _ _ _ => False) e fe) (hfe : ∀ ρ S, fe ρ S = fe [] S) : SuOk X [.Return (some e) pos] (tSu M io c fun _ S => fe [] S) := by
  intro a oe cls d pn hz hf
  refine PSs.imp (pss_one (ps_ret (he a ((a, oe) :: pn)))) fun D0 σ H q => ?_
  obtain ⟨g, x, rfl, rp, hx, hi, q⟩ := q
  exact ⟨g, List.replicate σ.length none, rfl, rp, envNone, by rw [hfe]; exact q.aft⟩
/-- what a class must have for its field to be read -/
structure Kf (M : Md) (c : Nat) (f : Str) : Prop where
  T : XfC M.K (M.ca c)
  no : PySem.W.findIn M.K (.ref (M.ca c)) f = some none
/-- the kept value -/
def kept (c : Nat) (f : Str) (x : Xn) : Option D := match x.arg with
  | some (f', k) => if x.c = c ∧ f' = f then some k else none
  | none => none
theorem kept_v {g : Wd} {c : Nat} {f : Str} {x : Xn} {k : D} {cls : Value} {d : Option Addr} (h : kept c f x = some k) (hx : XV M g x cls d) : cls = .ref (M.ca c) ∧ ∃ dx v, d = some dx ∧ g.H dx = some (.xd [(f, v)]) ∧ DV M g k v := by
  obtain ⟨xc, xa⟩ := x
  obtain ⟨h1, h2⟩ := hx
  cases xa with
  | none => cases h
  | some q =>
    obtain ⟨f', k'⟩ := q
    have h : (if xc = c ∧ f' = f then some k' else none) = some k := h
    by_cases z : xc = c ∧ f' = f
    · rw [if_pos z] at h
      cases h
      obtain ⟨rfl, rfl⟩ := z
      exact ⟨h1, h2⟩
    · rw [if_neg z] at h
      cases h
section
variable {a : Addr} {oe : Obj} {cls : Value} {d : Option Addr} {pn : List (Addr × Obj)} {n f : Str} {c i : Nat} {p p1 : Pos}
/-- e.f in the suite -/
theorem pe_kept (hK : X.K = M.K) (K : Kf M c f) (hz : Zc cls d oe) (hf : ∃ vs, oe.data = .fields vs) (hN : X.N[i]? = some n) (hv : Vis X.env.scope n) (hdb : (n == ("__debug__" : Str)) = false := by decide) (hcd : (n == ("__classdict__" : Str)) = false := by decide)
    (hb : attributeBase (.Name n p) f X.env (eval (.Name n p) X.env) = eval (.Name n p) X.env := by rfl) : PE (X.suite a ((a, oe) :: pn)) (.Attribute (.Name n p) f p1) (tXf a cls d (M.ca c) f (tVar i)) :=
  pe_xf (by rw [hK]; exact K.T) (by rw [hK]; exact K.no) hz hf (pe_var (X := X.suite a ((a, oe) :: pn)) hN hv hdb hcd) hb
theorem tXf_go {g : Wd} {σ : L2.St} {x : Xn} {k : D} {Q : VK} (h : kept c f x = some k) (hx : XV M g x cls d) (hi : σ[i]? = some (some (.ref a))) (q : ∀ v, DV M g k v → Q v g.H) : tXf a cls d (M.ca c) f (tVar i) σ g.H Q := by
  obtain ⟨h1, dx, v, h2, h3, h4⟩ := kept_v h hx
  exact ⟨.ref a, hi, rfl, h1, dx, [(f, v)], v, h2, h3, by simp [List.lookup], q v h4⟩
end
/-- return ('t', e.f) -/
def fSu2 (t : Str) (c : Nat) (f : Str) : FX := fun x S => match kept c f x with
  | some k => .ok (.tup [.str t, k]) S
  | none => .stuck
theorem su_2 {n f t : Str} {c i j j2 : Nat} {p1 p2 p3 p4 p5 : Pos} (hK : X.K = M.K) (K : Kf M c f) (hN : X.N[i]? = some n) (hv : Vis X.env.scope n) (hdb : (n == ("__debug__" : Str)) = false := by decide) (hcd : (n == ("__classdict__" : Str)) = false := by decide)
    (hb : attributeBase (.Name n p2) f X.env (eval (.Name n p2) X.env) = eval (.Name n p2) X.env := by rfl) (hs1 : starEach [.Constant (.str t) j p1, .Attribute (.Name n p2) f p3] X.env = (false, eval (.Constant (.str t) j p1) X.env) :: starEach [.Attribute (.Name n p2) f p3] X.env := by rfl)
    (hs2 : starEach [.Attribute (.Name n p2) f p3] X.env = (false, eval (.Attribute (.Name n p2) f p3) X.env) :: starEach [] X.env := by rfl) :
    SuOk X [.Return (some (.Tuple [.Constant (.str t) j p1, .Attribute (.Name n p2) f p3] j2 p4)) p5] (tSu M (some i) c (fSu2 t c f)) := by
  intro a oe cls d pn hz hf
  refine PSs.imp (pss_one (ps_ret (pe_tup (pa_cons (X := X.suite a ((a, oe) :: pn)) pe_str (pa_cons (pe_kept hK K hz hf hN hv hdb hcd hb) pa_nil hs2) hs1)))) fun D0 σ H q => ?_
  obtain ⟨g, x, rfl, rp, hx, hi, q⟩ := q
  unfold fSu2 at q
  split at q
  · rename_i k hk
    refine tXf_go hk hx (hi i rfl) fun v hv => ⟨by show 2 ≤ sizeLine; rw [sizeLine_eq]; omega, fun p hp => ?_⟩
    exact new_tup (E := fun _ _ => True) rp (RtOk.aft q) hp _ (dv_new rp hp (.cons (.str t) (.cons hv .nil)))
  · exact q.elim
/-- return ('t', 'u' + repr(e.f)) -/
def fSu3 (t u : Str) (c : Nat) (f : Str) : FX := fun x S => match kept c f x with
  | some k => (nRepr [k] S).bind fun r S1 => (dAdd (.str u) r S1).bind fun z S2 => .ok (.tup [.str t, z]) S2
  | none => .stuck
theorem su_3 {n f t u : Str} {c i j j2 j3 : Nat} {p1 p2 p3 p4 p5 p6 p7 p8 p9 : Pos} (hK : X.K = M.K) (hg : X.A.guards = some []) (un : X.A.units + 200 < cLine) (hr : Gl X "repr") (hm : X.mg "repr" = none) (K : Kf M c f) (hN : X.N[i]? = some n) (hv : Vis X.env.scope n) (hdb : (n == ("__debug__" : Str)) = false := by decide) (hcd : (n == ("__classdict__" : Str)) = false := by decide)
    (hb : attributeBase (.Name n p2) f X.env (eval (.Name n p2) X.env) = eval (.Name n p2) X.env := by rfl) (hs1 : starEach [.Constant (.str t) j p1, .BinOp (.Constant (.str u) j3 p6) .Add (.Call (.Name "repr" p7) [.Attribute (.Name n p2) f p3] [] p8) p9] X.env = (false, eval (.Constant (.str t) j p1) X.env) :: starEach [.BinOp (.Constant (.str u) j3 p6) .Add (.Call (.Name "repr" p7) [.Attribute (.Name n p2) f p3] [] p8) p9] X.env := by rfl)
    (hs2 : starEach [.BinOp (.Constant (.str u) j3 p6) .Add (.Call (.Name "repr" p7) [.Attribute (.Name n p2) f p3] [] p8) p9] X.env = (false, eval (.BinOp (.Constant (.str u) j3 p6) .Add (.Call (.Name "repr" p7) [.Attribute (.Name n p2) f p3] [] p8) p9) X.env) :: starEach [] X.env := by rfl)
    (hs3 : starEach [.Attribute (.Name n p2) f p3] X.env = (false, eval (.Attribute (.Name n p2) f p3) X.env) :: starEach [] X.env := by rfl) :
    SuOk X [.Return (some (.Tuple [.Constant (.str t) j p1, .BinOp (.Constant (.str u) j3 p6) .Add (.Call (.Name "repr" p7) [.Attribute (.Name n p2) f p3] [] p8) p9] j2 p4)) p5] (tSu M (some i) c (fSu3 t u c f)) := by
  intro a oe cls d pn hz hf
  refine PSs.imp (pss_one (ps_ret (pe_tup (pa_cons (X := X.suite a ((a, oe) :: pn)) pe_str (pa_cons (pe_op op_addA pe_str (pe_callB (call_reprD (M := M) hK hg un) hr hm boot_repr (pa_cons (pe_kept hK K hz hf hN hv hdb hcd hb) pa_nil hs3) (by decide) (by decide) hs3)) pa_nil hs2) hs1)))) fun D0 σ H q => ?_
  obtain ⟨g, x, rfl, rp, hx, hi, q⟩ := q
  unfold fSu3 at q
  split at q
  · rename_i k hk
    refine tXf_go hk hx (hi i rfl) fun v hv => ?_
    have q1 := Aft.bind (α := D) (k := fun r S1 => (dAdd (.str u) r S1).bind fun z S2 => .ok (.tup [.str t, z]) S2) (RtOk.aft (E := fun _ _ => True) q)
    refine on_repr g [k] [v] (fun y H2 => rAddA X.K (.str u) y H2 fun z H3 => [V.str t, z].length ≤ sizeLine ∧ ∀ p, H3 p = none → D0.rt (.ref p) (upd H3 p (.tup [V.str t, z]))) (fun _ _ => True) rp (.cons hv .nil) (q1.mono (fun r g1 k1 r1 q2 rv hrv => ?_) fun _ _ _ _ _ => trivial)
    have q3 := Aft.bind (α := D) (k := fun z S2 => (Rs.ok (D.tup [D.str t, z]) S2 : Rs D)) q2
    show rAddA X.K (.str u) rv g1.H _
    rw [hK]
    refine o2_add g1 (.str u) r _ rv _ _ r1 (.str u) hrv (q3.mono (fun z g2 k2 r2 q4 zv hzv => ?_) fun _ _ _ _ _ => trivial)
    refine ⟨by show 2 ≤ sizeLine; rw [sizeLine_eq]; omega, fun p hp => ?_⟩
    exact new_tup (E := fun _ _ => True) r2 q4 hp _ (dv_new r2 hp (.cons (.str t) (.cons hzv .nil)))
  · exact q.elim
/-- return ('t', 'u', repr(e.f)) -/
def fSu4 (t u : Str) (c : Nat) (f : Str) : FX := fun x S => match kept c f x with
  | some k => (nRepr [k] S).bind fun z S1 => .ok (.tup [.str t, .str u, z]) S1
  | none => .stuck

/-! ### try -/
structure DCl where
  c : Nat
  i : Option Nat
  su : FX
def pickCl (sub : Nat → Nat → Bool) (x : Xn) : List DCl → Rho → Sto → RsS
  | [], ρ, S => .exc x ρ S
  | q :: l, ρ, S => if sub x.c q.c = true then (if (match q.i with | none => true | some i => decide (i < ρ.length)) = true then (match q.su x S with | .ok d S1 => .fl (.ret d) S1 | _ => .stuck) else .stuck) else pickCl sub x l ρ S
def sTry (nc : Nat) (sub : Nat → Nat → Bool) (b : Fst) (l : List DCl) : Fst := fun ρ S => match b ρ S with
  | .exc x ρ1 S1 => if decide (x.c < nc) = true then pickCl sub x l ρ1 S1 else .stuck
  | r => r
inductive Dcs (M : Md) (X : Cx) (nc : Nat) : List ExceptHandler → List DCl → Prop
  | nil : Dcs M X nc [] []
  | plain {x : Str} {c : Nat} {su : FX} {b₀ : Stmt} {st : List Stmt} {p1 p2 : Pos} {hs : List ExceptHandler} {l : List DCl} : c < nc → X.mg x = some (.ref (M.ca c)) → Gl X x → (x == ("__debug__" : Str)) = false → SuOk X (b₀ :: st) (tSu M none c su) → Dcs M X nc hs l → Dcs M X nc (.ExceptHandler (some (.Name x p1)) none (b₀ :: st) p2 :: hs) (⟨c, none, su⟩ :: l)
  | named {x n : Str} {i c : Nat} {su : FX} {b₀ : Stmt} {st : List Stmt} {p1 p2 : Pos} {hs : List ExceptHandler} {l : List DCl} : c < nc → X.mg x = some (.ref (M.ca c)) → Gl X x → (x == ("__debug__" : Str)) = false → X.N.Nodup → X.N[i]? = some n → X.env.kindOf n = some .local → SuOk X (b₀ :: st) (tSu M (some i) c su) → Dcs M X nc hs l →
      Dcs M X nc (.ExceptHandler (some (.Name x p1)) (some n) (b₀ :: st) p2 :: hs) (⟨c, some i, su⟩ :: l)
def clOf (M : Md) (q : DCl) : Cl := ⟨.ref (M.ca q.c), q.i, tSu M q.i q.c q.su⟩
theorem Dcs.cls {nc : Nat} {hs : List ExceptHandler} {l : List DCl} (h : Dcs M X nc hs l) : Cls X hs (l.map (clOf M)) := by
  induction h with
  | nil => exact .nil
  | plain h1 h2 h3 h4 h5 _ ih => exact .plain ⟨h3, h4, .inl h2⟩ h5 ih
  | named h1 h2 h3 h4 h5 h6 h7 h8 _ ih => exact .named ⟨h3, h4, .inl h2⟩ h5 h6 h7 h8 ih
theorem Dcs.lt {nc : Nat} {hs : List ExceptHandler} {l : List DCl} (h : Dcs M X nc hs l) : ∀ q ∈ l, q.c < nc := by
  induction h with
  | nil => intro q hq; cases hq
  | plain h1 h2 h3 h4 h5 _ ih =>
    intro q hq
    rcases List.mem_cons.mp hq with rfl | hq
    · exact h1
    · exact ih q hq
  | named h1 h2 h3 h4 h5 h6 h7 h8 _ ih =>
    intro q hq
    rcases List.mem_cons.mp hq with rfl | hq
    · exact h1
    · exact ih q hq
/-- which class is below which -/
structure Kx (M : Md) (nc : Nat) (sub : Nat → Nat → Bool) : Prop where
  at_ : ∀ i j, i < nc → j < nc → PySem.W.exmOne M.K (.ref (M.ca i)) (.ref (M.ca j)) = some (sub i j)
theorem mix_ok {nc : Nat} {sub : Nat → Nat → Bool} (Z : Kx M nc sub) {g : Wd} {ρ : Rho} {σ : L2.St} {x : Xn} {cls : Value} {d : Option Addr} {Dn : Ends} (rp : Rep M g) (en : EnvOk M g ρ σ) (hx : XV M g x cls d) (hc : x.c < nc) :
    ∀ (l : List DCl), (∀ q ∈ l, q.c < nc) → AftS M g (pickCl sub x l ρ g.S) Dn W → wMix M.K W Dn (l.map (clOf M)) cls d σ g.H
  | [], _, q => q g rfl Gr.refl rp σ en cls d hx
  | e :: l, hl, q => by
    have h1 := Z.at_ x.c e.c hc (hl e List.mem_cons_self)
    refine ⟨sub x.c e.c, by rw [hx.1]; exact h1, fun hb a ha => ?_, fun hb => ?_⟩
    · unfold pickCl at q
      rw [if_pos hb] at q
      by_cases hi : (match e.i with | none => true | some i => decide (i < ρ.length)) = true
      · rw [if_pos hi] at q
        obtain ⟨ec, ei, es⟩ := e
        have q : AftS M g (match es x g.S with | .ok d S1 => .fl (.ret d) S1 | _ => .stuck) Dn W := q
        have rt : RtOk M g (es x g.S) Dn := by
          cases hr : es x g.S with
          | ok r S1 => rw [hr] at q; exact fun g' e k r v hv => q g' e k r v hv
          | exc y S => rw [hr] at q; exact q.elim
          | stuck => rw [hr] at q; exact q.elim
        cases ei with
        | none => exact ⟨g, x, rfl, rp, hx, fun i z => (by cases z), rt⟩
        | some i =>
          refine ⟨g, x, rfl, rp, hx, fun j z => ?_, rt⟩
          cases z
          have hi : i < ρ.length := by simpa using hi
          rw [List.getElem?_set_self (by rw [← en.len]; exact hi)]
      · rw [if_neg hi] at q
        exact q.elim
    · unfold pickCl at q
      rw [if_neg (by rw [hb]; decide)] at q
      exact mix_ok Z rp en hx hc l (fun q hq => hl q (List.mem_cons_of_mem _ hq)) q
theorem ms_try {nc : Nat} {sub : Nat → Nat → Bool} {body : List Stmt} {h0 : ExceptHandler} {hs : List ExceptHandler} {l : List DCl} {pos : Pos} {b : Fst} (hK : X.K = M.K) (Z : Kx M nc sub) (hst : X.stack = X.env :: X.outer) (hf : X.env.frame = some X.env.locals) (tk : Takes X W)
    (hb : ∀ (W : WX) (pn : List (Addr × Obj)) (xe : Value → Shared → Prop), Takes (X.tr pn xe) W → PassesOwn (model X.prog X.w) X.A X.env xe → MSs M (X.tr pn xe) W body b) (hk : Dcs M X nc (h0 :: hs) l) : MS M X W (.Try body (h0 :: hs) [] [] pos) (sTry nc sub b l) :=
  PS.imp (ps_try_mix (tb := fun W => tS M W b) hst hf tk hb hk.cls) fun Dn σ H z => by
    obtain ⟨g, ρ, rfl, rp, en, z⟩ := z
    refine tS.go rp en ?_
    unfold sTry at z
    cases hr : b ρ g.S with
    | stuck => rw [hr] at z; exact z
    | fl f S1 => rw [hr] at z; cases f <;> exact z
    | exc x ρ1 S1 =>
      rw [hr] at z
      have z : AftS M g (if decide (x.c < nc) = true then pickCl sub x l ρ1 S1 else .stuck) Dn W := z
      split at z
      · rename_i hc
        intro g1 e1 k1 r1 σ1 en1 cls d hx
        rw [hK]
        exact mix_ok Z r1 en1 hx (of_decide_eq_true hc) l hk.lt (by rw [e1]; exact z.up k1 r1)
      · exact z.elim
end
end MP
set_option Elab.async false
set_option linter.all false
set_option maxRecDepth 100000
set_option maxHeartbeats 4000000
/-! Defs that know that no repr runs around them; lambdas handed to a def that tries them. -/
namespace MP
open PySem PySem.Spec PyProof.Rows L2 MX LamX

/-- a def's promise where no guard stands -/
structure FnG (P : Program) (w : World) (K : PySem.W.Frag) (mg : Str → Option Value) (base : Heap) (k : Nat) (f : Addr) (fd : FuncData) (ps : List Str) (sp : Sp) : Prop where
  len : ∀ vs H Q E, sp vs H Q E → vs.length = ps.length
  run : ∀ (A : Around) (outer : List Env) (s : Shared) (H : Hp) (args : Args) (us : List Value) (vs : List V) (Q : VK) (E : XK), A.guards = some [] → Room k A → Env0 P w K mg base A outer s H → BindsTo s fd args (ps.zip us) → Vals vs us → sp vs H Q E →
    codeAny (model P w) A (.call (.ref f) args) (CR (L2.CX P w) outer P w H s Q E) s
structure KnG (P : Program) (w : World) (mg : Str → Option Value) (base : Heap) (M : Md) (x : Str) (k n : Nat) (F : FN) : Prop where
  ex : ∃ (f : Addr) (fd : FuncData) (ps : List Str), FnG P w M.K mg base k f fd ps (spF M n F) ∧ mg x = some (.ref f) ∧ PySem.W.keepIn M.K (.ref f) = true ∧ Binds M.K fd ps []
section
variable {P : Program} {w : World} {mg : Str → Option Value} {base : Heap} {M : Md}
theorem fg_of {x qual : Str} {params : Arguments} {body : List Stmt} {scope : Scope} {f c : Addr} {fd : FuncData} {N ps : List Str} {k : Nat} {b : Fst} (F : FunD M.K x qual params body scope [] [] f fd) (hc : fd.code = .ref c) (S : FnScope N ps scope)
    (hbody : ∀ (A : Around) (outer : List Env) (s : Shared) (H : Hp) (E : XK), A.guards = some [] → Room k (A.deeper (envOfC qual scope s.heap.objs.size f (.ref c))) →
      MSs M (cxOf (L2.CX P w) P w M.K mg base N qual scope f (.ref c) A outer s H E) (WD E) body b) : FnG P w M.K mg base (k + 1) f fd ps (spF M ps.length (runF N.length b)) := by
  obtain ⟨oc, od, dV, kV, doc, pm, an, cdv, ct, osl, rfl, lk, hcd, _, _⟩ := F.ex
  obtain rfl : cdv = .ref c := hc
  refine ⟨fun vs H Q E h => h.1, fun A outer s H args us vs Q E hg hr e0 hb rv h => run_ofS lk hcd S hr e0 hb rv h.1 fun hr' => ⟨tS M (WD E) b, hbody A outer s H E hg hr', ?_⟩⟩
  obtain ⟨_, g, ds, rfl, rp, hvs, q⟩ := h
  refine tS.go rp (entry_ok hvs) ?_
  unfold runF at q
  split at q
  · rename_i e
    rw [e]
    exact fun g1 e1 k1 r1 σ1 _ => q g1 e1 k1 r1 _ .non
  · rename_i e
    rw [e]
    exact fun g1 e1 k1 r1 v hv => q g1 e1 k1 r1 v hv
  · rename_i e
    rw [e]
    exact fun g1 e1 k1 r1 σ1 _ cls dx hx => q g1 e1 k1 r1 cls dx hx
  · exact q.elim
theorem kg_of {x qual : Str} {params : Arguments} {body : List Stmt} {scope : Scope} {f c : Addr} {fd : FuncData} {N ps : List Str} {k : Nat} {b : Fst} (F : FunD M.K x qual params body scope [] [] f fd) (hc : fd.code = .ref c) (S : FnScope N ps scope) (hm : mg x = some (.ref f)) (hb : Binds M.K fd ps [])
    (hbody : ∀ (A : Around) (outer : List Env) (s : Shared) (H : Hp) (E : XK), A.guards = some [] → Room k (A.deeper (envOfC qual scope s.heap.objs.size f (.ref c))) →
      MSs M (cxOf (L2.CX P w) P w M.K mg base N qual scope f (.ref c) A outer s H E) (WD E) body b) : KnG P w mg base M x (k + 1) ps.length (runF N.length b) :=
  ⟨f, fd, ps, fg_of F hc S hbody, hm, F.kp, hb⟩
end
section
variable {M : Md} {X : Cx} {W : WX}
theorem run_g {pins : List (Addr × Obj)} {σ : L2.St} {H : Hp} {s : Shared} {Q : VK} {us : List Value} {vs : List V} {k : Nat} {f : Addr} {fd : FuncData} {ps : List Str} {sp : Sp} (F : FnG X.prog X.w X.K X.mg X.base k f fd ps sp) (hg : X.A.guards = some []) (hr : Room k X.A) (hb : Binds X.K fd ps []) (tk : Takes X W)
    (I : L2.Inv X pins σ H s) (r : Vals vs us) (h : sp vs H Q (WE W σ)) : wpAny (model X.prog X.w) X.A (call (.ref f) us) (EP X pins σ Q) X.xe s := by
  have b := hb s us I.kIn (by rw [List.append_nil, ← r.length]; exact F.len _ _ _ _ h)
  rw [List.append_nil] at b
  refine wpAny_call (codeAny_mono (F.run X.A X.stack s H ⟨us, []⟩ us vs Q _ hg hr I.env0 b r h) fun res s' z => ?_)
  cases res with
  | error e => exact passAt tk σ pins H s e s' I z
  | ok fl => cases fl <;> first | exact I.after z | exact z.elim
theorem me_callG {x : Str} {p pos : Pos} {e : Expr} {es : List Expr} {k j n : Nat} {F : FN} {a : Fs} (hK : X.K = M.K) (tk : Takes X W) (K : KnG X.prog X.w X.mg X.base M x k n F) (hgd : X.A.guards = some []) (hr : Room j X.A) (ha : MA M X W (e :: es) a) (hkj : k ≤ j := by decide) (hg : Gl X x := by rfl) (hdb : (x == ("__debug__" : Str)) = false := by decide)
    (he : starEach (e :: es) X.env = (false, eval e X.env) :: starEach es X.env := by rfl) (hpl : (backTo pos (starEach es X.env)).any (·.1) = false := by rfl) : ME M X W (.Call (.Name x p) (e :: es) [] pos) (dCall F n a) := by
  obtain ⟨f, fd, ps, FK, hm, hkp, hb⟩ := K.ex
  rw [← hK] at FK hkp hb
  refine ⟨fun pins s σ H Q I q => ?_⟩
  obtain ⟨g, ρ, rfl, rp, en, q⟩ := q
  have q := Aft.bind (α := List D) (k := fun ds S1 => if ds.length = n then F ds S1 else .stuck) q
  refine wpAny_Call_Name_kw (ld_glob I hg hm ?_ hdb)
  refine PySem.W.callWith_K (h₀ := X.base) I.ok.mod.kin hkp (thn (ha.run pos pins s σ g.H (fun vs H1 => spF M n F vs H1 Q (WE W σ)) I (tA.go rp en (q.mono (fun ds g1 k1 r1 q1 vs hvs => ?_) fun _ _ _ _ z => z))) fun us s1 ⟨vs, H1, I1, r, z⟩ => ⟨I1.kIn, run_g FK hgd (hr.mono hkj) hb tk I1 r z⟩) he hpl
  split at q1
  · rename_i hl
    exact ⟨by rw [← hvs.length]; exact hl, g1, ds, rfl, r1, hvs, q1⟩
  · exact q1.elim
end
end MP
set_option Elab.async false
set_option linter.all false
set_option maxRecDepth 100000
set_option maxHeartbeats 4000000
/-! Lambdas handed to a def that tries them. -/
namespace MP
open PySem PySem.Spec PyProof.Rows L2 MX LamX

abbrev FTh := Sto → Rs D
/-- what such a def makes of the thunk: post behind a value, the clauses behind an exception; n names -/
def metF (nc : Nat) (sub : Nat → Nat → Bool) (l : List DCl) (n : Nat) (post : D → Sto → Rs D) (th : FTh) : FTh := fun S => match th S with
  | .ok d S1 => post d S1
  | .exc x S1 => if decide (x.c < nc) = true then (match pickCl sub x l (List.replicate n none) S1 with | .fl (.ret d) S2 => .ok d S2 | _ => .stuck) else .stuck
  | .stuck => .stuck
section
variable {M : Md} {X : Cx} {W : WX}
theorem envNil {g : Wd} {σ : L2.St} {n : Nat} (h : σ.length = n) : EnvOk M g (List.replicate n none) σ := by
  subst h
  exact envNone
/-- the thunk th is told where the lambda's reading tl is wished -/
def ThOk (M : Md) (th : FTh) (tl : XK → Hp → VK → Prop) (g : Wd) : Prop := ∀ (E : XK) (Q : VK), Aft M g (th g.S) (PD M Q) (fun x g' => ∀ cls dx, XV M g' x cls dx → E cls dx g'.H) → tl E g.H Q
/-- what the def makes of it -/
def TTm (M : Md) (met : FTh → FTh) : (XK → Hp → VK → Prop) → Hp → VK → Prop := fun tl H Q => ∃ g th, g.H = H ∧ Rep M g ∧ ThOk M th tl g ∧ Aft M g (met th g.S) (PD M Q) (fun _ _ => False)
theorem takes_len (tk : Takes X W) : Takes X (fun cls d _ H => ∀ σ' : L2.St, σ'.length = X.N.length → W cls d σ' H) := fun u s' x => by
  obtain ⟨a, B, sI, pins, σ, H, cls, d, e, I, nb, up, sky, na, os, ag, w⟩ := x
  exact tk u s' ⟨a, B, sI, pins, σ, H, cls, d, e, I, nb, up, sky, na, os, ag, w σ I.len⟩
/-- the wish behind the thunk's call: K1 behind a value -/
def AftT (M : Md) (g : Wd) (n : Nat) (W : WX) (r : Rs D) (K1 : D → Wd → Prop) : Prop := match r with
  | .ok d S1 => ∀ g', g'.S = S1 → Gr g g' → Rep M g' → K1 d g'
  | .exc x S1 => ∀ g', g'.S = S1 → Gr g g' → Rep M g' → ∀ σ' : L2.St, σ'.length = n → ∀ cls dx, XV M g' x cls dx → W cls dx σ' g'.H
  | .stuck => False
def CallsTh (Z : Cx) (a : Str) (c' : Addr) (q : Str) (f : Addr) (tl : XK → Hp → VK → Prop) : Prop := ∀ (W : WX) (pn : List (Addr × Obj)) (xe : Value → Shared → Prop) (E : XK) (p1 p2 : Pos), Takes (Z.tr pn xe) W → (∀ cls d σ' H', E cls d H' → W cls d σ' H') →
  PE (Z.tr pn xe) (.Call (.Name a p1) [] [] p2) (fun σZ HZ Q => σZ[0]? = some (some (.ref f)) ∧ HZ c' = some (CodeO c' q) ∧ tl E HZ Q)
/-- the try's body: the call as a statement, or returned -/
def tBd (M : Md) (n : Nat) (a : Str) (c' : Addr) (q : Str) (f : Addr) (th : FTh) (tl : XK → Hp → VK → Prop) (K1 : Ends → L2.St → D → Wd → Prop) (W : WX) : TS := fun Dn σ H => ∃ g, g.H = H ∧ Rep M g ∧ σ[0]? = some (some (.ref f)) ∧ H c' = some (CodeO c' q) ∧ σ.length = n ∧ ThOk M th tl g ∧ AftT M g n W (th g.S) (K1 Dn σ)
theorem tBd_e {g : Wd} {n : Nat} {W : WX} {r : Rs D} {K1 : D → Wd → Prop} {Q : VK} (h : AftT M g n W r K1) (hq : ∀ d g', Rep M g' → K1 d g' → ∀ v, DV M g' d v → Q v g'.H) : Aft M g r (PD M Q) (fun x g' => ∀ cls dx, XV M g' x cls dx → ∀ σ' : L2.St, σ'.length = n → W cls dx σ' g'.H) := by
  cases r with
  | stuck => exact h
  | ok d S1 => exact fun g' e k r v hv => hq d g' r (h g' e k r) v hv
  | exc x S1 => exact fun g' e k r cls dx hx σ' hl => h g' e k r σ' hl cls dx hx
theorem bd_expr {Z : Cx} {a q : Str} {c' f : Addr} {th : FTh} {tl : XK → Hp → VK → Prop} {p1 p2 p3 : Pos} {pn : List (Addr × Obj)} {xe : Value → Shared → Prop} (act : CallsTh Z a c' q f tl) (tk : Takes (Z.tr pn xe) W) (hs : swapsWith (.Call (.Name a p1) [] [] p2) none p3.line Z.env = pure false := by rfl) :
    PSs (Z.tr pn xe) [.Expr (.Call (.Name a p1) [] [] p2) p3] (tBd M Z.N.length a c' q f th tl (fun Dn σ _ g' => Dn.nx σ g'.H) W) := by
  refine pss_one ⟨fun pins s σ H Dn I h => ?_⟩
  obtain ⟨g, rfl, rp, h0, hc, hl, ht, q⟩ := h
  have hp := act _ pn xe (fun cls d H' => ∀ σ' : L2.St, σ'.length = Z.N.length → W cls d σ' H') p1 p2 (takes_len tk) (fun _ _ _ _ z => z)
  exact (ps_expr hp hs).run pins s σ g.H Dn I ⟨h0, hc, ht _ _ (tBd_e q fun d g' r z v hv => z)⟩
theorem bd_told {Z : Cx} {a q t : Str} {c' f : Addr} {j j2 : Nat} {th : FTh} {tl : XK → Hp → VK → Prop} {p1 p2 p3 p4 p5 : Pos} {pn : List (Addr × Obj)} {xe : Value → Shared → Prop} (act : CallsTh Z a c' q f tl) (tk : Takes (Z.tr pn xe) W)
    (hs1 : starEach [.Constant (.str t) j p4, .Call (.Name a p1) [] [] p2] Z.env = (false, eval (.Constant (.str t) j p4) Z.env) :: starEach [.Call (.Name a p1) [] [] p2] Z.env := by rfl) (hs2 : starEach [.Call (.Name a p1) [] [] p2] Z.env = (false, eval (.Call (.Name a p1) [] [] p2) Z.env) :: starEach [] Z.env := by rfl) :
    PSs (Z.tr pn xe) [.Return (some (.Tuple [.Constant (.str t) j p4, .Call (.Name a p1) [] [] p2] j2 p5)) p3] (tBd M Z.N.length a c' q f th tl (fun Dn σ d g' => ∀ g2, g2.S = g'.S → Gr g' g2 → Rep M g2 → ∀ v, DV M g2 (.tup [.str t, d]) v → Dn.rt v g2.H) W) := by
  refine pss_one ⟨fun pins s σ H Dn I h => ?_⟩
  obtain ⟨g, rfl, rp, h0, hc, hl, ht, q⟩ := h
  have hp := act _ pn xe (fun cls d H' => ∀ σ' : L2.St, σ'.length = Z.N.length → W cls d σ' H') p1 p2 (takes_len tk) (fun _ _ _ _ z => z)
  refine (ps_ret (pe_tup (pa_cons (X := Z.tr pn xe) pe_str (pa_cons hp pa_nil hs2) hs1))).run pins s σ g.H Dn I ⟨h0, hc, ht _ _ (tBd_e q fun d g' r z v hv => ?_)⟩
  refine ⟨by show 2 ≤ sizeLine; rw [sizeLine_eq]; omega, fun p hp => ?_⟩
  exact new_tup (E := fun _ _ => True) (P := PD M Dn.rt) r (fun g2 e2 k2 r2 => z g2 e2 k2 r2) hp _ (dv_new r hp (.cons (.str t) (.cons hv .nil)))
/-- try: a() / except ..: ..  return e -/
theorem met_expr {nc : Nat} {sub : Nat → Nat → Bool} {Ng : List Str} {x a q : Str} {sg : Scope} {g0 : Addr} {cdg : Value} {h0 : ExceptHandler} {hs : List ExceptHandler} {l : List DCl} {e : Expr} {fe : Fe} {p1 p2 p3 p4 p5 : Pos} (hK : X.K = M.K) (Z : Kx M nc sub) (hst : ∀ f : Addr, (L2.start Ng [V.ref f])[0]? = some (some (V.ref f)) ∧ (L2.start Ng [V.ref f]).length = Ng.length)
    (hh : ∀ (s : Shared) (H : Hp), Dcs M (cxOf C8.CX0 X.prog X.w X.K X.mg X.base Ng x sg g0 cdg X.A X.stack s H C8.E0).nox nc (h0 :: hs) l)
    (he : ∀ (s : Shared) (H : Hp), ME M (cxOf C8.CX0 X.prog X.w X.K X.mg X.base Ng x sg g0 cdg X.A X.stack s H C8.E0).nox (fun _ _ _ _ => False) e fe) (hfe : ∀ ρ S, fe ρ S = fe [] S) (hsw : ∀ (s : Shared) (H : Hp), swapsWith (.Call (.Name a p1) [] [] p2) none p3.line (cxOf C8.CX0 X.prog X.w X.K X.mg X.base Ng x sg g0 cdg X.A X.stack s H C8.E0).env = pure false) :
    GivesTo X Ng x sg g0 cdg [.Try [.Expr (.Call (.Name a p1) [] [] p2) p3] (h0 :: hs) [] [] p4, .Return (some e) p5] a q (TTm M (metF nc sub l Ng.length fun _ S => fe [] S)) := by
  intro f c' s H Q tl act hc h
  obtain ⟨g, th, rfl, rp, ht, q0⟩ := h
  obtain ⟨z0, zl⟩ := hst f
  refine ⟨_, pss_cons (ps_try_mix (X := (cxOf C8.CX0 X.prog X.w X.K X.mg X.base Ng x sg g0 cdg X.A X.stack s g.H C8.E0).nox) (out := fun _ _ _ _ => False) (tb := tBd M Ng.length a c' q f th tl (fun Dn σ _ g' => Dn.nx σ g'.H)) rfl rfl L2.takes0
      (fun W pn xe tk _ => bd_expr (Z := (cxOf C8.CX0 X.prog X.w X.K X.mg X.base Ng x sg g0 cdg X.A X.stack s g.H C8.E0).nox) act tk (hsw s g.H)) (hh s g.H).cls) (pss_one (ps_ret (he s g.H))), ?_⟩
  refine ⟨g, rfl, rp, z0, hc, zl, ht, ?_⟩
  unfold metF at q0
  cases hr : th g.S with
  | stuck => rw [hr] at q0; exact q0
  | ok d S1 =>
    rw [hr] at q0
    intro g1 e1 k1 r1
    refine ⟨g1, List.replicate Ng.length none, rfl, r1, envNil zl, ?_⟩
    rw [hfe, e1]
    have q0 : Aft M g (fe [] S1) (PD M Q) (fun _ _ => False) := q0
    cases hf : fe [] S1 with
    | stuck => rw [hf] at q0; exact q0
    | exc x S2 => rw [hf] at q0; exact fun g2 e2 k2 r2 cls dx hx => q0 g2 e2 (k1.trans r1 k2) r2
    | ok d2 S2 => rw [hf] at q0; exact fun g2 e2 k2 r2 v hv => q0 g2 e2 (k1.trans r1 k2) r2 v hv
  | exc x S1 =>
    rw [hr] at q0
    intro g1 e1 k1 r1 σ1 hl cls dx hx
    have q0 : Aft M g (if decide (x.c < nc) = true then (match pickCl sub x l (List.replicate Ng.length none) S1 with | .fl (.ret d) S2 => Rs.ok d S2 | _ => .stuck) else .stuck) (PD M Q) (fun _ _ => False) := q0
    by_cases hn : x.c < nc
    · rw [if_pos (decide_eq_true hn)] at q0
      show wMix X.K _ _ _ _ _ _ _
      rw [hK]
      refine mix_ok Z r1 (envNil hl) hx hn l (hh s g.H).lt ?_
      rw [e1]
      cases hp : pickCl sub x l (List.replicate Ng.length none) S1 with
      | stuck => rw [hp] at q0; exact q0
      | exc y ρ S => rw [hp] at q0; exact q0.elim
      | fl fl S2 =>
        rw [hp] at q0
        cases fl with
        | ret d => exact fun g2 e2 k2 r2 v hv => q0 g2 e2 (k1.trans r1 k2) r2 v hv
        | nx ρ => exact q0.elim
        | brk ρ => exact q0.elim
        | ct ρ => exact q0.elim
    · rw [if_neg (by simpa using hn)] at q0
      exact q0.elim
/-- try: return ('t', a()) / except ..: .. -/
theorem met_told {nc : Nat} {sub : Nat → Nat → Bool} {Ng : List Str} {x a q t : Str} {sg : Scope} {g0 : Addr} {cdg : Value} {h0 : ExceptHandler} {hs : List ExceptHandler} {l : List DCl} {j j2 : Nat} {p1 p2 p3 p4 p5 p6 : Pos} (hK : X.K = M.K) (Z : Kx M nc sub) (hst : ∀ f : Addr, (L2.start Ng [V.ref f])[0]? = some (some (V.ref f)) ∧ (L2.start Ng [V.ref f]).length = Ng.length)
    (hh : ∀ (s : Shared) (H : Hp), Dcs M (cxOf C8.CX0 X.prog X.w X.K X.mg X.base Ng x sg g0 cdg X.A X.stack s H C8.E0).nox nc (h0 :: hs) l)
    (hs1 : ∀ (s : Shared) (H : Hp), starEach [.Constant (.str t) j p4, .Call (.Name a p1) [] [] p2] (cxOf C8.CX0 X.prog X.w X.K X.mg X.base Ng x sg g0 cdg X.A X.stack s H C8.E0).env = (false, eval (.Constant (.str t) j p4) (cxOf C8.CX0 X.prog X.w X.K X.mg X.base Ng x sg g0 cdg X.A X.stack s H C8.E0).env) :: starEach [.Call (.Name a p1) [] [] p2] (cxOf C8.CX0 X.prog X.w X.K X.mg X.base Ng x sg g0 cdg X.A X.stack s H C8.E0).env)
    (hs2 : ∀ (s : Shared) (H : Hp), starEach [.Call (.Name a p1) [] [] p2] (cxOf C8.CX0 X.prog X.w X.K X.mg X.base Ng x sg g0 cdg X.A X.stack s H C8.E0).env = (false, eval (.Call (.Name a p1) [] [] p2) (cxOf C8.CX0 X.prog X.w X.K X.mg X.base Ng x sg g0 cdg X.A X.stack s H C8.E0).env) :: starEach [] (cxOf C8.CX0 X.prog X.w X.K X.mg X.base Ng x sg g0 cdg X.A X.stack s H C8.E0).env) :
    GivesTo X Ng x sg g0 cdg [.Try [.Return (some (.Tuple [.Constant (.str t) j p4, .Call (.Name a p1) [] [] p2] j2 p5)) p3] (h0 :: hs) [] [] p6] a q (TTm M (metF nc sub l Ng.length fun d S => .ok (.tup [.str t, d]) S)) := by
  intro f c' s H Q tl act hc h
  obtain ⟨g, th, rfl, rp, ht, q0⟩ := h
  obtain ⟨z0, zl⟩ := hst f
  refine ⟨_, pss_one (ps_try_mix (X := (cxOf C8.CX0 X.prog X.w X.K X.mg X.base Ng x sg g0 cdg X.A X.stack s g.H C8.E0).nox) (out := fun _ _ _ _ => False) (tb := tBd M Ng.length a c' q f th tl (fun Dn σ d g' => ∀ g2, g2.S = g'.S → Gr g' g2 → Rep M g2 → ∀ v, DV M g2 (.tup [.str t, d]) v → Dn.rt v g2.H)) rfl rfl L2.takes0
      (fun W pn xe tk _ => bd_told (Z := (cxOf C8.CX0 X.prog X.w X.K X.mg X.base Ng x sg g0 cdg X.A X.stack s g.H C8.E0).nox) act tk (hs1 s g.H) (hs2 s g.H)) (hh s g.H).cls), ?_⟩
  refine ⟨g, rfl, rp, z0, hc, zl, ht, ?_⟩
  unfold metF at q0
  cases hr : th g.S with
  | stuck => rw [hr] at q0; exact q0
  | ok d S1 =>
    rw [hr] at q0
    exact fun g1 e1 k1 r1 g2 e2 k2 r2 v hv => q0 g2 (e2.trans e1) (k1.trans r1 k2) r2 v hv
  | exc x S1 =>
    rw [hr] at q0
    intro g1 e1 k1 r1 σ1 hl cls dx hx
    have q0 : Aft M g (if decide (x.c < nc) = true then (match pickCl sub x l (List.replicate Ng.length none) S1 with | .fl (.ret d) S2 => Rs.ok d S2 | _ => .stuck) else .stuck) (PD M Q) (fun _ _ => False) := q0
    by_cases hn : x.c < nc
    · rw [if_pos (decide_eq_true hn)] at q0
      show wMix X.K _ _ _ _ _ _ _
      rw [hK]
      refine mix_ok Z r1 (envNil hl) hx hn l (hh s g.H).lt ?_
      rw [e1]
      cases hp : pickCl sub x l (List.replicate Ng.length none) S1 with
      | stuck => rw [hp] at q0; exact q0
      | exc y ρ S => rw [hp] at q0; exact q0.elim
      | fl fl S2 =>
        rw [hp] at q0
        cases fl with
        | ret d => exact fun g2 e2 k2 r2 v hv => q0 g2 e2 (k1.trans r1 k2) r2 v hv
        | nx ρ => exact q0.elim
        | brk ρ => exact q0.elim
        | ct ρ => exact q0.elim
    · rw [if_neg (by simpa using hn)] at q0
      exact q0.elim

/-! ### x(lambda: e) -/
def noExc (r : Rs D) : Rs D := match r with | .ok d S => .ok d S | _ => .stuck
def dLam (met : FTh → FTh) (fe : Fe) : Fe := fun ρ S => noExc (met (fun S' => fe ρ S') S)
theorem ext_rep {g : Wd} {H1 : Hp} (r : Rep M g) (e : ExtN g.H H1) (t : Tabs M.T H1) : Gr g ⟨g.μ, g.S, H1⟩ ∧ Rep M ⟨g.μ, g.S, H1⟩ := by
  have k : Gr g ⟨g.μ, g.S, H1⟩ := ⟨Nat.le_refl _, fun _ _ => rfl, fun n h1 h2 => absurd h2 (by show ¬ n < g.S.length; omega), fun a o h _ ht => e a o h ht⟩
  refine ⟨k, r.inj, fun i o h => OR.of r k (r.obj i o h) fun u hu => e _ u hu fun ps z => ?_, t⟩
  subst z
  rcases r.at (n := i) (List.getElem?_eq_some_iff.mp h).1 with ⟨_, q⟩ | ⟨_, q⟩ <;> (rw [q] at hu; cases hu)
/-- what is known of the def that gets the lambda -/
structure MetOk (M : Md) (X : Cx) (x : Str) (met : FTh → FTh) (q : Str) : Prop where
  ex : ∃ (g : Addr) (a : Str) (pg : Arguments) (bg : List Stmt) (sg : Scope) (dV kV doc pm cdv ct oc : Value) (an od : Option Addr) (osl : Array (Option Value)) (Ng : List Str), X.mg x = some (.ref g) ∧ PySem.W.keepIn X.K (.ref g) = true ∧
    X.K.lookup g = some ⟨oc, od, .func (PySem.W.fnOf x x pg bg sg dV kV doc pm an cdv ct), osl⟩ ∧ PySem.W.codeIn X.K cdv x = true ∧ L2.Binds X.K (PySem.W.fnOf x x pg bg sg dV kV doc pm an cdv ct) [a] [] ∧ FnScope Ng [a] sg ∧ Ng[0]? = some a ∧ Vis sg a ∧
    (a == ("__debug__" : Str)) = false ∧ (a == ("__classdict__" : Str)) = false ∧ GivesTo X Ng x sg g cdv bg a q (TTm M met)
theorem me_lam {x : Str} {met : FTh → FTh} {c P : Addr} {k : Nat} {params : Arguments} {body : Expr} {scope : Scope} {p lpos pos : Pos} {fe : Fe} (hm : MetOk M X x met (X.env.qual ++ "<lambda>")) (hg : Gl X x) (TB : TabB X.base X.mg c P) (hcode : X.env.code = .ref c) (hT : (P, X.env.qual ++ "<lambda>") ∈ M.T) (hu : ∀ p ∈ M.T, p.1 = P → p.2 = X.env.qual ++ "<lambda>")
    (hr : Room (k + 2) X.A) (L : LamS X.env.scope scope) (hdef : defaultsOf params X.env = ([], [])) (hbind : ∀ (q : Str) (cl : List (Str × Addr)) (pm cv ctv : Value), bindArgs (PySem.W.kla_fn "<lambda>" q params body scope cl pm cv ctv) ⟨[], []⟩ = pure [])
    (hbody : ∀ (A : Around) (outer : List Env) (s : Shared) (H : Hp) (E : XK) (f c' : Addr), Room k (A.deeper (lamEnv X scope s.heap.objs.size f c')) → ME M (lamCx X A outer s H E scope f c') (WD E) body fe) (hdb : (x == ("__debug__" : Str)) = false := by decide) :
    ME M X W (.Call (.Name x p) [.Lambda params body scope lpos] [] pos) (dLam met fe) := by
  obtain ⟨g0, a, pg, bg, sg, dV, kV, doc, pm, cdv, ct, oc, an, od, osl, Ng, h1, h2, h3, h4, h5, h6, h7, h8, h9, h10, hG⟩ := hm.ex
  refine PE.imp (pe_lamcall (T := M.T) (t := fun E => tE M (WD E) fe) hg h1 h2 h3 h4 h5 h6 h7 h8 hG TB hcode hT hu hr L hdef hbind hbody hdb h9 h10) fun σ H Q q => ?_
  obtain ⟨g, ρ, rfl, rp, en, q⟩ := q
  refine ⟨rp.tabs, fun H1 ex t1 => ?_⟩
  obtain ⟨kk, r1⟩ := ext_rep rp ex t1
  refine ⟨⟨g.μ, g.S, H1⟩, fun S' => fe ρ S', rfl, r1, fun E Q' z => tE.go r1 (en.mono rp kk) z, ?_⟩
  have q : Aft M g (noExc (met (fun S' => fe ρ S') g.S)) (PD M Q) (XD M W σ) := q
  show Aft M ⟨g.μ, g.S, H1⟩ (met (fun S' => fe ρ S') g.S) (PD M Q) (fun _ _ => False)
  cases hr : met (fun S' => fe ρ S') g.S with
  | stuck => rw [hr] at q; exact q
  | exc x S => rw [hr] at q; exact q.elim
  | ok d S1 => rw [hr] at q; exact fun g2 e2 k2 r2 => q g2 e2 (kk.trans r1 k2) r2
end
end MP
set_option Elab.async false
set_option linter.all false
set_option maxRecDepth 100000
set_option maxHeartbeats 4000000
/-! What a head tells of exception classes. -/
namespace MP
open PySem PySem.Spec PyProof.Rows L2 MX LamX

/-! ### classes without an __init__ -/
def k0B (K : PySem.W.Frag) (x : Str) (bmB : List Value) (newId : String) : Bool := PySem.W.excIn K (He.ga K x) bmB newId && (He.eqO (PySem.W.nsIn K mainGlobals x) (some (some (.ref (He.ga K x)))) && (PySem.W.keepIn K (.ref (He.ga K x)) &&
  (decide (PySem.W.subIn K (.ref (He.ga K x)) (.type "BaseException") = some true) && decide (PySem.W.typeIn K (.ref (He.ga K x)) = some (.type "type")))))
theorem k0B_ok {M : Md} {h : Heap} {mg : Str → Option Value} {B newId initId : String} {bmB : List Value} {x : Str} {c : Nat} (KX : M.K.In h) (G : h.Ns mainGlobals mg) (F : ExcBaseFacts B newId initId bmB) (hc : M.ca c = He.ga M.K x) (e : k0B M.K x bmB newId = true) : Kc0 mg M x c := by
  unfold k0B at e
  simp only [Bool.and_eq_true, decide_eq_true_eq] at e
  obtain ⟨h1, h2, h3, h4, h5⟩ := e
  refine ⟨⟨B, newId, initId, bmB, F, by rw [hc]; exact h1⟩, ?_, by rw [hc]; exact h3, by rw [hc]; exact h4, by rw [hc]; exact h5⟩
  rw [hc]
  exact PySem.W.mg_of KX G (He.eqO_ok h2)

/-! ### classes with super().__init__('..'); self.f = given -/
def inFn (K : PySem.W.Frag) (x : Str) : Addr := He.ma K (He.ga K x) "__init__"
abbrev InW : Type := Option (Str × Str × Arguments × FuncBody × Scope × Addr × Addr)
def inW (K : PySem.W.Frag) (x : Str) : InW := match K.lookup (inFn K x) with
  | some ⟨_, _, .func fd, _⟩ => some (fd.name, fd.qualname, fd.params, fd.body, fd.scope, fd.globals, fd.builtins)
  | _ => none
def clCd (cl : List (Str × Addr)) (cd : Value) : Option (Addr × Addr) := match cl, cd with
  | [(n, cc)], .ref cda => if n = ("__class__" : Str) then some (cc, cda) else none
  | _, _ => none
/-- no defaults -/
def dfN (d k : Value) (r : Option (Addr × Addr)) : Option (Addr × Addr) := match d, k with
  | .none, .none => r
  | _, _ => none
theorem dfN_some {d k : Value} {r : Option (Addr × Addr)} {z : Addr × Addr} (h : dfN d k r = some z) : d = .none ∧ k = .none ∧ r = some z := by
  unfold dfN at h
  split at h
  · exact ⟨rfl, rfl, h⟩
  · cases h
def inCl (K : PySem.W.Frag) (x : Str) : Option (Addr × Addr) := match K.lookup (inFn K x) with
  | some ⟨_, _, .func fd, _⟩ => dfN fd.defaults fd.kwdefaults (clCd fd.closure fd.code)
  | _ => none
def clB (K : PySem.W.Frag) (C cc cda : Addr) (file qual : Str) : Bool := (match K.lookup cc with
  | some ⟨_, _, .cell (some (.ref D)), _⟩ => decide (D = C)
  | _ => false) && ((match K.lookup cda with
  | some ⟨_, _, .fields vs, _⟩ => (match (vs[2]? : Option Value) with
    | some (.str fl _) => (file == fl)
    | _ => false)
  | _ => false) && PySem.W.codeIn K (.ref cda) qual)
def k1B (K : PySem.W.Frag) (x f : Str) (B newId initId : String) (bmB : List Value) (file qual : Str) : Bool :=
  He.eqO (PySem.W.nsIn K mainGlobals x) (some (some (.ref (He.ga K x)))) && (He.eqO (PySem.W.findIn K (.ref (He.ga K x)) "__init__") (some (some (.ref (inFn K x)))) && (PySem.W.isFn K (.ref (inFn K x)) && (PySem.W.excInitIn K (He.ga K x) bmB newId && (PySem.W.excOver K (He.ga K x) bmB &&
  (He.eqO (PySem.W.takerIn K (He.ga K x) f) (some none) && (PySem.W.hasDictIn K (He.ga K x) && (He.eqO (PySem.W.findIn K (.ref (He.ga K x)) "__setattr__") (some (some (.builtin "object.__setattr__"))) && (He.eqO (PySem.W.ks_superIn K (He.ga K x) (He.ga K x) "__init__") (some (some (.builtin initId))) &&
  (decide (PySem.W.subIn K (.ref (He.ga K x)) (.type B) = some true) && (decide (PySem.W.subIn K (.ref (He.ga K x)) (.type "BaseException") = some true) && (decide (PySem.W.typeIn K (.ref (He.ga K x)) = some (.type "type")) && (PySem.W.keepIn K (.ref (He.ga K x)) && (He.eqO (PySem.W.nsIn K cStatics "thirdparty.any") (some none) &&
  (decide (PySem.W.mroIn K (He.ga K x) (.ref (He.ga K x)) = some true) && ((PySem.W.clsIn K (He.ga K x)).isSome && (He.eqO (PySem.W.nsIn K mainGlobals "super") (some none) && (match inCl K x with
    | some (cc, cda) => clB K (He.ga K x) cc cda file qual
    | none => false)))))))))))))))))
/-- what the text of such an __init__ must be -/
structure InitSh (f : Str) (params : Arguments) (body : List Stmt) (scope : Scope) (qual : Str) (slf giv txt : Str) : Prop where
  ex : ∃ j p0 p1 p2 p3 p4 p5 p6 p7 p8 p9, body = [.Expr (.Call (.Attribute (.Call (.Name "super" p0) [] [] p1) "__init__" p2) [.Constant (.str txt) j p3] [] p4) p5, .Assign [.Attribute (.Name slf p6) f p7] (.Name giv p8) p9] ∧
    (∀ x ∈ scope.names, x.2 ≠ .cell) ∧ scope.isCoroutine = false ∧ scope.isGenerator = false ∧ scope.kind = .function ∧
    scope.names.lookup ("super" : Str) = some .globalImplicit ∧ scope.names.lookup ("__class__" : Str) = some .free ∧ scope.names.lookup slf = some .local ∧ scope.names.lookup giv = some .local ∧
    (∃ ar, (params.posonlyargs ++ params.args).head? = some ar ∧ ar.arg = slf) ∧
    (∃ pl : Sem Bool, ∀ env : Env, eval (.Call (.Attribute (.Call (.Name "super" p0) [] [] p1) "__init__" p2) [.Constant (.str txt) j p3] [] p4) env = (do
      let ov ← attributeBase (.Call (.Name "super" p0) [] [] p1) "__init__" env (eval (.Call (.Name "super" p0) [] [] p1) env)
      standAt p2.atName
      let (f, first) ← holding [ov] (getMethod ov "__init__" pl)
      callWith p4 f first (backTo p4 (starEach [.Constant (.str txt) j p3] env)) []))
  bind : ∀ (doc pm cdv ct : Value) (an : Option Addr) (cc : Addr) (a b : Value), bindArgs (PySem.W.ksFn "__init__" qual params body scope .none .none doc pm an cdv ct cc) ⟨[a, b], []⟩ = pure [(slf, a), (giv, b)]
  ne : slf ≠ giv
  dS : (slf == ("__debug__" : Str)) = false
  dG : (giv == ("__debug__" : Str)) = false
theorem k1B_ok {M : Md} {P : Program} {h : Heap} {mg : Str → Option Value} {B newId initId : String} {bmB : List Value} {x f qual slf giv txt : Str} {params : Arguments} {body : List Stmt} {scope : Scope} {c : Nat} (KX : M.K.In h) (G : h.Ns mainGlobals mg) (SB : SupB B newId initId bmB) (hc : M.ca c = He.ga M.K x)
    (e : k1B M.K x f B newId initId bmB P.main.file qual = true) (hW : inW M.K x = some (("__init__" : Str), qual, params, FuncBody.stmts body, scope, mainGlobals, builtinsNs)) (hS : InitSh f params body scope qual slf giv txt) (top : (P.main.scope.names.lookup ("super" : Str)).isSome = false) : Kc1 P mg M x c f := by
  unfold k1B at e
  simp only [Bool.and_eq_true, decide_eq_true_eq] at e
  obtain ⟨h1, h2, h3, h4, h5, h6, h7, h8, h9, h10, h11, h12, h13, h14, h15, h16, h17, h18⟩ := e
  refine ⟨?_, by rw [hc]; exact PySem.W.mg_of KX G (He.eqO_ok h1)⟩
  cases hcl : inCl M.K x with
  | none => rw [hcl] at h18; cases h18
  | some q =>
    obtain ⟨cc, cda⟩ := q
    rw [hcl] at h18
    have h18 : clB M.K (He.ga M.K x) cc cda P.main.file qual = true := h18
    unfold clB at h18
    simp only [Bool.and_eq_true] at h18
    obtain ⟨w1, w2, w3⟩ := h18
    refine ⟨B, newId, initId, bmB, inFn M.K x, cc, cda, slf, giv, txt, SB, ?_⟩
    rw [hc]
    refine { iC := He.eqO_ok h2, isF := h3, q := h4, over := h5, taker := He.eqO_ok h6, hasD := h7, sa := He.eqO_ok h8, sup := He.eqO_ok h9, subB := h10, exC := h11, tyC := h12, kC := h13, opq := He.eqO_ok h14, mro := h15, cls := Option.isSome_iff_exists.mp h16, cell := ?_, code := ?_, top := top, gS := He.eqO_ok h17, fn := ?_, ne := hS.ne, dS := hS.dS, dG := hS.dG }
    · split at w1
      · rename_i oc od D sl hl
        obtain rfl := of_decide_eq_true w1
        exact ⟨_, _, _, hl⟩
      · cases w1
    · split at w2
      · rename_i oc od vs sl hl
        split at w2
        · rename_i fl t hv
          exact ⟨_, _, vs, _, fl, t, hl, hv, w2⟩
        · cases w2
      · cases w2
    · unfold inW at hW
      unfold inCl at hcl
      cases hl : M.K.lookup (inFn M.K x) with
      | none => rw [hl] at hW; cases hW
      | some o =>
        obtain ⟨oc, od, dt, osl⟩ := o
        rw [hl] at hW hcl
        cases dt with
        | func fd =>
          obtain ⟨n1, n2, n3, n4, n5, n6, n7, n8, n9, n10, n11, n12, n13, n14, n15⟩ := fd
          have e2 : (some (n1, n2, n3, n4, n5, n6, n15) : InW) = some (("__init__" : Str), qual, params, FuncBody.stmts body, scope, mainGlobals, builtinsNs) := hW
          simp only [Option.some.injEq, Prod.mk.injEq] at e2
          obtain ⟨k1, k2, k3, k4, k5, k6, k7⟩ := e2
          subst k1 k2 k3 k4 k5 k6 k7
          have e0 : dfN n8 n9 (clCd n7 n13) = some (cc, cda) := hcl
          obtain ⟨rfl, rfl, e3⟩ := dfN_some e0
          unfold clCd at e3
          split at e3
          · rename_i n cc' cda'
            by_cases hn : n = ("__class__" : Str)
            · rw [if_pos hn] at e3
              cases e3
              subst hn
              obtain ⟨j, p0, p1, p2, p3, p4, p5, p6, p7, p8, p9, hb, r1, r2, r3, r4, r5, r6, r7, r8, r9, r10⟩ := hS.ex
              have hbd := hS.bind
              subst hb
              exact ⟨oc, od, osl, n2, n3, n5, .none, .none, n10, n11, n12, n14, j, p0, p1, p2, p3, p4, p5, p6, p7, p8, p9, rfl, w3, r1, r2, r3, r4, r5, r6, r7, r8, r9, r10, fun a b => hbd _ _ _ _ _ _ a b⟩
            · rw [if_neg hn] at e3
              cases e3
          · cases e3
        | _ => cases hW
/-- the field of a caught exception -/
def kfB (K : PySem.W.Frag) (x f : Str) : Bool := xfB K (He.ga K x) && He.eqO (PySem.W.findIn K (.ref (He.ga K x)) f) (some none)
theorem kfB_ok {M : Md} {x f : Str} {c : Nat} (hc : M.ca c = He.ga M.K x) (e : kfB M.K x f = true) : Kf M c f := by
  obtain ⟨h1, h2⟩ := He.ba e
  exact ⟨by rw [hc]; exact xfB_ok h1, by rw [hc]; exact He.eqO_ok h2⟩
/-- which class is below which -/
def kxB (K : PySem.W.Frag) (ca : Nat → Addr) (nc : Nat) (sub : Nat → Nat → Bool) : Bool := (List.range nc).all fun i => (List.range nc).all fun j => decide (PySem.W.exmOne K (.ref (ca i)) (.ref (ca j)) = some (sub i j))
theorem kxB_ok {M : Md} {nc : Nat} {sub : Nat → Nat → Bool} (e : kxB M.K M.ca nc sub = true) : Kx M nc sub := ⟨fun i j hi hj => by
  have h1 := List.all_eq_true.mp e i (List.mem_range.mpr hi)
  exact of_decide_eq_true (List.all_eq_true.mp h1 j (List.mem_range.mpr hj))⟩
end MP
set_option Elab.async false
set_option linter.all false
set_option maxRecDepth 100000
set_option maxHeartbeats 4000000
/-! The head's look with the statics, the law's end with tables and without guards. -/
namespace MP
open PySem PySem.Spec PyProof.Rows L2 MX LamX

/-! ### the hook -/
def frY (n : Nat) (g : Addr → Option Obj) : PySem.W.Frag := He.frT g (cStatics :: He.asD g n)
structure SaysY (fa : List He.Fa) (fn : List He.DefD) (tf : List He.Defn) (ex : PySem.W.Frag → Bool) (ins : List Str) (vs : List InW) (w : World) (h : Heap) (K : PySem.W.Frag) : Prop where
  x : He.SaysX fa fn [] tf ex w h K
  ini : ins.map (inW K) = vs
abbrev AlY : Type := He.AlX × List InW
def obsY (n : Nat) (fa : List He.Fa) (fn : List He.DefD) (tf : List He.Defn) (ex : PySem.W.Frag → Bool) (ins : List Str) (g : Addr → Option Obj) : AlY := ((He.obsT fa fn [] (frY n g), ex (frY n g) && He.tabsB g tf (frY n g)), ins.map (inW (frY n g)))
def valY (fn : List He.DefD) (vs : List InW) (w : World) : AlY := (He.valX fn [] w, vs)
theorem saysY_of {n : Nat} {fa : List He.Fa} {fn : List He.DefD} {tf : List He.Defn} {ex : PySem.W.Frag → Bool} {ins : List Str} {vs : List InW} {w : World} {h : Heap} (e : obsY n fa fn tf ex ins h.get? = valY fn vs w) : SaysY fa fn tf ex ins vs w h (frY n h.get?) := by
  have a1 := congrArg (fun z : AlY => z.1.1) e
  have a2 := He.ba (congrArg (fun z : AlY => z.1.2) e)
  have a3 := congrArg (fun z : AlY => z.2) e
  have tb : ∀ p ∈ tf, PySem.W.codeHdIn (frY n h.get?) (He.cT (frY n h.get?) p).1 (He.cT (frY n h.get?) p).2 = true ∧ ∃ o, h.get? (He.cT (frY n h.get?) p).2 = some o ∧ He.emptyTab o = true := fun p hp => by
    obtain ⟨b1, b2⟩ := He.ba (List.all_eq_true.mp a2.2 p hp)
    refine ⟨b1, ?_⟩
    split at b2
    · rename_i o ho
      exact ⟨o, ho, b2⟩
    · cases b2
  refine ⟨⟨a1, a2.1, fun p hp => (tb p hp).1, fun p hp => ?_, fun p hp => ?_⟩, a3⟩
  · obtain ⟨_, o, ho, hz⟩ := tb p hp
    exact He.frT_none ho hz
  · obtain ⟨_, o, ho, hz⟩ := tb p hp
    rw [ho, He.emptyTab_eq hz]
def hookY (n : Nat) (fa : List He.Fa) (fn : List He.DefD) (tf : List He.Defn) (ex : PySem.W.Frag → Bool) (ins : List Str) (vs : List InW) : PySem.W.Hook where
  α := AlY
  obs := fun s => obsY n fa fn tf ex ins s.heap.get?
  val := fun w => valY fn vs w
  says := fun w h => ∃ K : PySem.W.Frag, K.In h ∧ SaysY fa fn tf ex ins vs w h K
  of := fun _ _ e => ⟨_, He.frT_in, saysY_of e⟩
  keeps := fun _ _ _ ⟨K, hK, c⟩ k => ⟨K, hK.keeps k, ⟨c.x.t, c.x.more, c.x.hd, c.x.out, fun p hp => k _ _ (c.x.empty p hp)⟩, c.ini⟩
theorem obsY_eq {n : Nat} {fa : List He.Fa} {fn : List He.DefD} {tf : List He.Defn} {ex : PySem.W.Frag → Bool} {ins : List Str} {vs : List InW} {g : Addr → Option Obj} {s : Shared} (h : ∀ a, g a = s.heap.get? a) : obsY n fa fn tf ex ins g = (hookY n fa fn tf ex ins vs).obs s := by
  rw [show g = s.heap.get? from funext h]
  rfl

/-! ### the end -/
section
variable {P : Program} {w : World} {K : PySem.W.Frag} {mg mb : Str → Option Value} {k : Nat} {fa a : Addr} {cs : List (Addr × Addr)} {fd : FuncData} {x : Str} {sp : Sp} {s : Shared} {vs : List Value} {ns : List Int}
/-- the heap as the law's call sees it: the script is frozen, the tables are empty -/
def endHp (K : PySem.W.Frag) (a : Addr) (vs : List Value) (ns : List Int) (ts : List Addr) : Hp := fun b => if b = a ∧ K.lookup a = none then some (.frz { cls := .type "list", data := .seq vs.toArray } (.lst (ns.map V.int))) else if b ∈ ts then some (.tbl #[]) else none
theorem law_callY (KX : K.In s.heap) (G : s.heap.Ns mainGlobals mg) (hb : s.heap.Ns builtinsNs mb) (hbb : ∀ x : Str, x ≠ "__name__" → mb x = bootBuiltins x) (lim : s.heap.NoLimit) (hg : s.gens = #[])
    (em : ∀ p ∈ cs, s.heap.get? p.2 = some { cls := .none, data := .fields #[] }) (nK : ∀ p ∈ cs, K.lookup p.2 = none) (C : ∀ p ∈ cs, PySem.W.CodeHd s.heap p.1 p.2)
    (hbm : ∃ (bm : Addr) (ob : Obj), mg "__builtins__" = some (.ref bm) ∧ bm ≠ builtinsNs ∧ s.heap.get? bm = some ob ∧ ob.cls = .type "module" ∧ ob.dict = some builtinsNs ∧ ob.data = .plain)
    (ha : s.heap.get? a = some { cls := .type "list", data := .seq vs.toArray }) (hi : IntsAre vs ns) (hl : ns.length ≤ sizeLine) (hr : Room k callerA)
    (F : ∀ base : Heap, K.In base → base.Ns mainGlobals mg → (∀ p ∈ cs, TabB base mg p.1 p.2) → FnG P w K mg base k fa fd [x] sp) (hbind : ∀ (s : Shared) (u : Value), BindsTo s fd ⟨[u], []⟩ [(x, u)])
    (hsp : ∀ H : Hp, (∀ p ∈ cs, H p.2 = some (.tbl #[])) → FzL K H a (ns.map V.int) → sp [.ref a] H (fun v _ => v = .bl true) fun _ _ _ => False) :
    codeAny (model P w) callerA (.call (.ref fa) ⟨[.ref a], []⟩) (fun r s' => r = .ok (.ret (.bool true)) ∧ OldK s.heap s'.heap ∧ s'.os = s.os ∧ AllBare s'.gens) s := by
  have rv := vals_ints hi
  have tab : ∀ b ∈ cs.map (·.2), s.heap.get? b = some { cls := .none, data := .fields #[] } ∧ K.lookup b = none := fun b hb => by
    obtain ⟨p, hp, rfl⟩ := List.mem_map.mp hb
    exact ⟨em p hp, nK p hp⟩
  have aNo : a ∉ cs.map (·.2) := fun z => by
    have q := (tab a z).1
    rw [ha] at q
    have q2 : Data.seq vs.toArray _ = Data.fields #[] := congrArg Obj.data (Option.some.inj q)
    cases q2
  obtain ⟨H, hH⟩ : ∃ H, H = endHp K a vs ns (cs.map (·.2)) := ⟨_, rfl⟩
  have Hat : ∀ b u, H b = some u → (b = a ∧ K.lookup a = none ∧ u = .frz { cls := .type "list", data := .seq vs.toArray } (.lst (ns.map V.int))) ∨ (b ∈ cs.map (·.2) ∧ u = .tbl #[]) := fun b u e => by
    rw [hH] at e
    unfold endHp at e
    split at e
    · rename_i z; cases e; exact .inl ⟨z.1, z.2, rfl⟩
    · split at e
      · rename_i z; cases e; exact .inr ⟨z, rfl⟩
      · cases e
  have Htab : ∀ p ∈ cs, H p.2 = some (.tbl #[]) := fun p hp => by
    have m : p.2 ∈ cs.map (·.2) := List.mem_map.mpr ⟨p, hp, rfl⟩
    rw [hH]
    unfold endHp
    rw [if_neg (fun z => aNo (by rw [← z.1]; exact m)), if_pos m]
  have Hfz : FzL K H a (ns.map V.int) := by
    cases hk : K.lookup a with
    | none => exact .inl ⟨_, by rw [hH]; unfold endHp; rw [if_pos ⟨rfl, hk⟩]⟩
    | some o =>
      have e := KX a o hk
      rw [ha] at e
      cases e
      exact .inr ⟨_, vs.toArray, _, hk, rfl, rfl, rfl, by rw [List.size_toArray, hi.length]; exact hl, by simpa using rv⟩
  have ok : HOk P w H s.heap := fun b u e => by
    rcases Hat b u e with ⟨rfl, _, rfl⟩ | ⟨m, rfl⟩
    · exact ⟨ha, by rw [List.length_map]; exact hl, vs, _, rv, ha⟩
    · exact (tab b m).1
  have none_of : ∀ {b : Addr} {o : Obj}, s.heap.get? b = some o → (∀ us n, o.data ≠ .seq us n) → o.data ≠ .fields #[] → H b = none := fun {b o} e h1 h2 => by
    cases q : H b with
    | none => rfl
    | some u =>
      rcases Hat b u q with ⟨rfl, _, _⟩ | ⟨m, _⟩
      · rw [ha] at e; cases e; exact (h1 _ _ rfl).elim
      · rw [(tab b m).1] at e; cases e; exact (h2 rfl).elim
  have Hdict : ∀ {b : Addr} {m : Str → Option Value}, s.heap.Ns b m → (hidT s.heap H).Ns b m := fun {b m} ⟨o, es, ep, e, d, r⟩ => ⟨o, es, ep, hidT_get e (none_of e (fun _ _ z => by rw [d] at z; cases z) (fun z => by rw [d] at z; cases z)), d, r⟩
  have KB : K.In (hidT s.heap H) := fun b o e => by
    refine hidT_get (KX b o e) ?_
    cases q : H b with
    | none => rfl
    | some u =>
      rcases Hat b u q with ⟨rfl, z, _⟩ | ⟨m, _⟩
      · rw [z] at e; cases e
      · rw [(tab b m).2] at e; cases e
  have md : L2.Mod K mg (hidT s.heap H) := ⟨KB, Hdict G, ⟨mb, Hdict hb, hbb⟩, by
    obtain ⟨mc, z1, z2⟩ := lim
    exact ⟨mc, Hdict z1, z2⟩⟩
  have TB : ∀ p ∈ cs, TabB (hidT s.heap H) mg p.1 p.2 := fun p hp => by
    have ep := em p hp
    refine ⟨?_, ?_, fun z => ?_⟩
    · obtain ⟨o, us, file, tf, flags, tg, inF, text, tt, e1, r1, r2, r3, r⟩ := C p hp
      refine ⟨o, us, file, tf, flags, tg, inF, text, tt, hidT_get e1 (none_of e1 (fun _ _ z => by rw [r2] at z; cases z) (fun z => ?_)), r1, r2, r3, r⟩
      rw [r2] at z
      cases z
      simp at r3
    · obtain ⟨bm, ob, b1, b2, b3, b4, b5, b6⟩ := hbm
      have pl : ∀ us : Array Value, ∀ n, ob.data ≠ .seq us n := fun _ _ z => by rw [b6] at z; cases z
      refine ⟨bm, ob, b1, b2, fun q => ?_, fun q => ?_, hidT_get b3 (none_of b3 pl (fun z => by rw [b6] at z; cases z)), b4, b5, b6⟩
      · obtain ⟨o, es, n, e, d, _⟩ := G
        rw [q, e] at b3; cases b3
        rw [d] at b6; cases b6
      · rw [q, ep] at b3; cases b3; cases b6
    · obtain ⟨o, es, n, e, d, _⟩ := G
      rw [z, ep] at e; cases e; cases d
  have e0 : Env0 P w K mg (hidT s.heap H) callerA [] s H := ⟨rfl, md, fun b o e => of_hidT e, Nat.le_of_eq (hidT_size _ _), trivial, (fun b hb => by cases hb), ok, .of_eq hg⟩
  refine codeAny_mono ((F _ KB (Hdict G) TB).run callerA [] s H ⟨[.ref a], []⟩ [.ref a] [.ref a] _ _ rfl hr e0 (hbind s (.ref a)) (.cons rfl .nil) (hsp H Htab Hfz)) fun r s' z => ?_
  cases r with
  | error e =>
    obtain ⟨_, _, _, _, _, _, _, _, _, _, _, _, f⟩ := z
    exact f.elim
  | ok fl =>
    cases fl with
    | next => exact z.elim
    | brk => exact z.elim
    | cont => exact z.elim
    | ret u =>
      obtain ⟨v, H2, eo, bare, un, ok2, rv2, rfl⟩ := z
      obtain rfl : u = Value.bool true := rv2
      have kept : ∀ b o, b ∉ cs.map (·.2) → s.heap.get? b = some o → s'.heap.get? b = some o := fun b o nb e => by
        cases q : H b with
        | none => exact un.keep b o e q (fun m => by cases m) (fun m => by cases m)
        | some u =>
          rcases Hat b u q with ⟨rfl, _, rfl⟩ | ⟨m, _⟩
          · have z2 := ok2 b _ (un.frzs b _ _ q)
            rw [ha] at e; cases e
            exact z2.1
          · exact absurd m nb
      have grew : ∀ p ∈ cs, ∃ more : Array Value, s'.heap.get? p.2 = some { cls := .none, data := .fields more } := fun p hp => by
        obtain ⟨more, z⟩ := un.tbls p.2 #[] (Htab p hp)
        exact ⟨_, ok2 p.2 _ z⟩
      refine ⟨rfl, ⟨fun b o e => ?_, fun b o e => ?_⟩, eo, bare⟩
      · by_cases m : b ∈ cs.map (·.2)
        · obtain ⟨p, hp, rfl⟩ := List.mem_map.mp m
          obtain ⟨more, hm⟩ := grew p hp
          rw [em p hp] at e
          cases e
          exact .inr (.inl ⟨((C p hp).tab (em p hp)).isCodeTable, rfl, #[], more, rfl, by rw [Array.empty_append]; exact hm⟩)
        · exact .inl (kept b o m e)
      · by_cases m : b ∈ cs.map (·.2)
        · obtain ⟨p, hp, rfl⟩ := List.mem_map.mp m
          obtain ⟨more, hm⟩ := grew p hp
          exact ⟨_, hm⟩
        · exact ⟨o, kept b o m e⟩
end
theorem walk_ofY {l : PySem.W.OpenLaw} {n k : Nat} {q : Program} {loose : List Str} {XP : (Str → Option Value) → Heap → Prop} {YP : World → Heap → Prop} {d : DefRec} {x : Str}
    (hn : l.most = some n) (hn2 : n ≤ sizeLine) (hdf : d.params.defaults = []) (hr : Room k callerA)
    (F : ∀ (w : World) (mg : Str → Option Value) (fa : Addr) (h : Heap), YP w h → h.Ns mainGlobals mg → mg d.name = some (.ref fa) →
      ∃ (K : PySem.W.Frag) (fd : FuncData) (cs : List (Addr × Addr)) (sp : Sp), K.In h ∧ (∀ p ∈ cs, h.get? p.2 = some { cls := .none, data := .fields #[] }) ∧ (∀ p ∈ cs, K.lookup p.2 = none) ∧ (∀ p ∈ cs, PySem.W.CodeHd h p.1 p.2) ∧ (∀ (s : Shared) (u : Value), BindsTo s fd ⟨[u], []⟩ [(x, u)]) ∧
        (∀ (H : Hp) (a : Addr) (ns : List Int), ns.length ≤ n → (∀ p ∈ cs, H p.2 = some (.tbl #[])) → FzL K H a (ns.map V.int) → sp [.ref a] H (fun v _ => v = .bl true) fun _ _ _ => False) ∧
        ∀ base : Heap, K.In base → base.Ns mainGlobals mg → (∀ p ∈ cs, TabB base mg p.1 p.2) → FnG l.prog w K mg base k fa fd [x] sp) :
    PySem.W.WalkO q loose XP YP l.row.toRowW d [] (fun f vs => PySem.call f vs) := by
  refine Att.attach_callB hn hdf fun w s₀ s₁ mg mb fa o pm cd doc a vs ns G Y ho hd hcd hmg hobj hints hlen hbits hg => ?_
  obtain ⟨K, fd, cs, sp, KX, em, nK, C, hb, hsp, hF⟩ := F w mg fa _ Y G.T.g hmg
  exact law_callY KX G.T.g G.T.b G.T.builtins G.T.nolimit hg em nK C G.T.bmain hobj hints (Nat.le_trans hlen hn2) hr hF hb fun H h1 h2 => hsp H a ns hlen h1 h2
end MP
set_option Elab.async false
set_option linter.all false
set_option maxRecDepth 100000
set_option maxHeartbeats 4000000
/-! Defs as values, and what the head gives of defs that make lambdas. -/
namespace MP
open PySem PySem.Spec PyProof.Rows L2 MX LamX

theorem Room.u200 {k : Nat} {A : Around} (r : Room k A) : A.units + 200 < cLine := by have := r.un; omega

/-! ### defs as values -/
structure KnV (P : Program) (w : World) (mg : Str → Option Value) (base : Heap) (M : Md) (c k n : Nat) (F : FN) : Prop where
  ex : ∃ (fd : FuncData) (ps : List Str), FnOk P w M.K mg base (L2.CX P w) k (M.fa c) fd ps (spF M n F) ∧ PySem.W.keepIn M.K (.ref (M.fa c)) = true ∧ Binds M.K fd ps []
theorem Kn.val {P : Program} {w : World} {mg : Str → Option Value} {base : Heap} {M : Md} {x : Str} {c k n : Nat} {F : FN} (K : Kn P w mg base M x k n F) (h : mg x = some (.ref (M.fa c))) : KnV P w mg base M c k n F := by
  obtain ⟨f, fd, ps, h1, h2, h3, h4⟩ := K.ex
  rw [h] at h2
  cases h2
  exact ⟨fd, ps, h1, h3, h4⟩
theorem KnV.mono {P : Program} {w : World} {mg : Str → Option Value} {base : Heap} {M : Md} {c k j n : Nat} {F : FN} (K : KnV P w mg base M c k n F) (h : k ≤ j) : ∃ (fd : FuncData) (ps : List Str), FnOk P w M.K mg base (L2.CX P w) k (M.fa c) fd ps (spF M n F) ∧ PySem.W.keepIn M.K (.ref (M.fa c)) = true ∧ Binds M.K fd ps [] := K.ex
section
variable {M : Md} {X : Cx} {W : WX}
theorem me_fn {x : Str} {c : Nat} {pos : Pos} (hm : X.mg x = some (.ref (M.fa c))) (hg : Gl X x := by rfl) (hdb : (x == ("__debug__" : Str)) = false := by decide) : ME M X W (.Name x pos) (dC (.fn c)) := me_glob (v := .ref (M.fa c)) hg hm rfl (fun _ => .fn c) hdb
/-- x(..), x a name of the def that holds one of these defs -/
def dCallV (tab : List (FN × Nat)) (i : Nat) (a : Fs) : Fe := fun ρ S => match ρ[i]? with
  | some (some (.fn c)) => match tab[c]? with
    | some (F, n) => (a ρ S).bind fun ds S1 => if ds.length = n then F ds S1 else .stuck
    | none => .stuck
  | _ => .stuck
theorem me_callV {x : Str} {p pos : Pos} {e : Expr} {es : List Expr} {i j : Nat} {tab : List (FN × Nat)} {a : Fs} (hK : X.K = M.K) (tk : Takes X W) (K : ∀ c F n, tab[c]? = some (F, n) → ∃ k, k ≤ j ∧ KnV X.prog X.w X.mg X.base M c k n F) (hr : Room j X.A) (ha : MA M X W (e :: es) a)
    (hN : X.N[i]? = some x := by rfl) (hv : Vis X.env.scope x := by first | exact Or.inl rfl | exact Or.inr (Or.inl rfl) | exact Or.inr (Or.inr rfl)) (hdb : (x == ("__debug__" : Str)) = false := by decide) (hcd : (x == ("__classdict__" : Str)) = false := by decide)
    (he : starEach (e :: es) X.env = (false, eval e X.env) :: starEach es X.env := by rfl) (hpl : (backTo pos (starEach es X.env)).any (·.1) = false := by rfl) : ME M X W (.Call (.Name x p) (e :: es) [] pos) (dCallV tab i a) := by
  refine ⟨fun pins s σ H Q I q => ?_⟩
  obtain ⟨g, ρ, rfl, rp, en, q⟩ := q
  unfold dCallV at q
  split at q
  · rename_i c hc
    split at q
    · rename_i F n ht
      obtain ⟨k, hkj, KV⟩ := K c F n ht
      obtain ⟨fd, ps, FK, hkp, hb⟩ := KV.ex
      rw [← hK] at FK hkp hb
      obtain ⟨v, h1, h2⟩ := en.at_ i _ hc
      cases h2
      have q := Aft.bind (α := List D) (k := fun ds S1 => if ds.length = n then F ds S1 else .stuck) q
      refine wpAny_Call_Name_kw (thn ((pe_var (pos := p) (i := i) hN hv hdb hcd).run pins s σ g.H (fun v H1 => v = .ref (M.fa c) ∧ H1 = g.H) I ⟨.ref (M.fa c), h1, rfl, rfl⟩) fun u s1 ⟨v, H1, I1, r1, q1⟩ => ?_)
      obtain ⟨ev, eH⟩ := q1
      subst ev
      rw [eH] at I1
      obtain rfl : u = Value.ref (M.fa c) := r1
      refine PySem.W.callWith_K (h₀ := X.base) I1.ok.mod.kin hkp (thn (ha.run pos pins s1 σ g.H (fun vs H1 => spF M n F vs H1 Q (WE W σ)) I1 (tA.go rp en (q.mono (fun ds g1 k1 r1 q1 vs hvs => ?_) fun _ _ _ _ z => z))) fun us s2 ⟨vs, H2, I2, r2, z⟩ => ⟨I2.kIn, run_fnS FK (hr.mono hkj) hb (passAt tk σ) I2 r2 z⟩) he hpl
      split at q1
      · rename_i hl
        exact ⟨by rw [← hvs.length]; exact hl, g1, ds, rfl, r1, hvs, q1⟩
      · exact q1.elim
    · exact q.elim
  · exact q.elim
end

/-! ### the __init__ of a class of the text -/
def cinit : Stmt → Stmt
  | .ClassDef _ _ _ body _ _ _ _ _ _ _ => (body.find? fun st => match st with
    | .FunctionDef n _ _ _ _ _ _ _ _ _ => decide (n = ("__init__" : Str))
    | _ => false).getD (.Pass ⟨0, 0, 0, 0⟩)
  | st => st

/-! ### defs that make lambdas -/
abbrev lamQ (x : Str) : Str := (x ++ ".<locals>.") ++ "<lambda>"
def csOf (K : PySem.W.Frag) (tf : List He.Defn) : List (Addr × Addr) := tf.map (He.cT K)
def tsOf (K : PySem.W.Frag) (tf : List He.Defn) : List (Addr × Str) := tf.map fun p => ((He.cT K p).2, lamQ p.1)
def uqB (K : PySem.W.Frag) (tf : List He.Defn) : Bool := tf.all fun p => tf.all fun q => !decide ((He.cT K p).2 = (He.cT K q).2) || decide (p.1 = q.1)
theorem uqB_ok {K : PySem.W.Frag} {tf : List He.Defn} (e : uqB K tf = true) {p : He.Defn} (hp : p ∈ tf) : ∀ q ∈ tsOf K tf, q.1 = (He.cT K p).2 → q.2 = lamQ p.1 := by
  intro q hq e2
  obtain ⟨r, hr, rfl⟩ := List.mem_map.mp hq
  have z := List.all_eq_true.mp (List.all_eq_true.mp e r hr) p hp
  have e2 : (He.cT K r).2 = (He.cT K p).2 := e2
  simp only [e2, decide_true, Bool.not_true, Bool.false_or, decide_eq_true_eq] at z
  show lamQ r.1 = lamQ p.1
  rw [z]
theorem csOf_mem {K : PySem.W.Frag} {tf : List He.Defn} {p : He.Defn} (hp : p ∈ tf) : He.cT K p ∈ csOf K tf := List.mem_map.mpr ⟨p, hp, rfl⟩
theorem tsOf_mem {K : PySem.W.Frag} {tf : List He.Defn} {p : He.Defn} (hp : p ∈ tf) : ((He.cT K p).2, lamQ p.1) ∈ tsOf K tf := List.mem_map.mpr ⟨p, hp, rfl⟩
theorem tabs_nil {K : PySem.W.Frag} {tf : List He.Defn} {H : Hp} (h : ∀ p ∈ csOf K tf, H p.2 = some (.tbl #[])) : Tabs (tsOf K tf) H := fun q hq => by
  obtain ⟨p, hp, rfl⟩ := List.mem_map.mp hq
  exact TabS.nil (h _ (csOf_mem hp))
/-- a def that makes lambdas: its code object c, its table Pt -/
structure DefG (mg : Str → Option Value) (M : Md) (x : Str) (params : Arguments) (body : List Stmt) (scope : Scope) : Prop where
  ex : ∃ (f : Addr) (fd : FuncData) (c Pt : Addr), FunD M.K x x params body scope [] [] f fd ∧ fd.code = .ref c ∧ mg x = some (.ref f) ∧ (c, Pt) ∈ M.cs ∧ (Pt, lamQ x) ∈ M.T ∧ ∀ p ∈ M.T, p.1 = Pt → p.2 = lamQ x
theorem defG_of {K : PySem.W.Frag} {tf : List He.Defn} {mg : Str → Option Value} {M : Md} {x : Str} {params : Arguments} {body : List Stmt} {scope : Scope} {fd : FuncData} (hK : M.K = K) (hT : M.T = tsOf K tf) (hc : M.cs = csOf K tf) (F : FunD K x x params body scope [] [] (He.fAd K (x, none)) fd) (hm : mg x = some (.ref (He.fAd K (x, none)))) (hp : (x, none) ∈ tf) (u : uqB K tf = true) : DefG mg M x params body scope := by
  subst hK
  obtain ⟨oc, od, dV, kV, doc, pm, an, cdv, ct, osl, e, lk, hcd, _, _⟩ := id F.ex
  obtain ⟨c, rfl⟩ := He.codeIn_ref hcd
  have e2 : fd.code = .ref c := by rw [e]
  have e3 : He.codeOf M.K (x, none) = c := He.codeOf_eq (p := (x, none)) lk e2
  refine ⟨_, fd, c, (He.cT M.K (x, none)).2, F, e2, hm, ?_, ?_, ?_⟩
  · rw [hc]
    have z := csOf_mem (K := M.K) hp
    have z2 : (He.cT M.K (x, none)) = (c, (He.cT M.K (x, none)).2) := Prod.ext (show He.codeOf M.K (x, none) = c from e3) rfl
    rw [z2] at z
    exact z
  · rw [hT]; exact tsOf_mem hp
  · rw [hT]; exact uqB_ok u hp
end MP
set_option Elab.async false
set_option linter.all false
set_option maxRecDepth 100000
set_option maxHeartbeats 4000000
/-! 'x' * k -/
namespace MP
open PySem PySem.Spec PyProof.Rows L2 MX LamX
def repS (z : Str) (k : Int) : Str := ⟨(List.replicate k.toNat z.cps).foldl (· ++ ·) #[]⟩
def rRepS : R2 := fun x y H Q => ∃ z k, x = .str z ∧ y = .int k ∧ 2 ≤ k ∧ k ≤ 1000 ∧ z.length ≠ 0 ∧ z.length ≤ 1000 ∧ (repS z k).length ≤ sizeLine ∧ Q (.str (repS z k)) H
theorem op_repS {X : Cx} : OpR X (binaryOp .Mult) rRepS := by
  intro pins s σ H x y v u Q I rx ry h
  obtain ⟨z, k, rfl, rfl, h1, h2, h3, h4, h5, q⟩ := h
  obtain ⟨t, rfl⟩ := rx
  obtain ⟨t2, rfl⟩ := ry
  have hb1 : (k == 1) = false := beq_eq_false_iff_ne.mpr (by omega)
  have hb2 : (z.length == 0) = false := beq_eq_false_iff_ne.mpr h3
  refine PySem.P.mul_str (by rw [decide_eq_false (by omega), decide_eq_false (by omega)] <;> rfl) (fun _ _ => ?_) (fun _ _ => ?_) ?_
  · have : (1000 : Int) ≤ (2 ^ 63 - 1) / k := by
      refine (Int.le_ediv_iff_mul_le (by omega)).mpr ?_
      omega
    omega
  · have a1 : z.length * k.toNat ≤ 1000 * 1000 := Nat.mul_le_mul h4 (by omega)
    unfold PySem.Builtin.Str.tooLong
    rw [sizeLine_eq]
    exact decide_eq_false (by omega)
  · rw [if_neg (by omega), hb1, hb2, if_neg (by decide)]
    exact ⟨h5, .str _, H, I.tok _, ⟨_, rfl⟩, q⟩
def dRepS : F2 := fun x y S => match x, y with
  | .str z, .int k => if 2 ≤ k ∧ k ≤ 1000 ∧ z.length ≠ 0 ∧ z.length ≤ 1000 ∧ (repS z k).length ≤ sizeLine then .ok (.str (repS z k)) S else .stuck
  | _, _ => .stuck
theorem o2_repS {M : Md} : Op2 M rRepS dRepS := by
  intro g x y v u Q E r hx hy h
  unfold dRepS at h
  split at h
  · split at h
    · rename_i hz
      cases hx
      rw [hy.intI]
      exact ⟨_, _, rfl, rfl, hz.1, hz.2.1, hz.2.2.1, hz.2.2.2.1, hz.2.2.2.2, h.here r _ (.str _)⟩
    · exact h.elim
  · exact h.elim
end MP
set_option Elab.async false
set_option linter.all false
set_option maxRecDepth 100000
set_option maxHeartbeats 4000000
/-! min of a pair of ints -/
namespace MP
open PySem PySem.Spec PyProof.Rows L2 MX LamX
theorem call_minT {X : Cx} (hc : X.calm = true) (un : X.A.units + 200 < cLine) : CallR X (.builtin "min") (fun xs H Q => ∃ a i j, xs = [.ref a] ∧ SqT X.K H a [.int i, .int j] ∧ Q (.int (if j < i then j else i)) H) := by
  intro pins s σ H xs us Q I r h
  obtain ⟨a, i, j, rfl, hT, q⟩ := h
  obtain ⟨its, rv, hl, _⟩ := I.tuple hT
  obtain ⟨t, u, rfl⟩ := Vals.int2 rv
  rw [Vals.ref1 r]
  refine PySem.W.min_tuple_datum (α := Int) (x := i) (xs := [j]) (I.ok.hd hc) hl ⟨_, .cons (.int i t) (.cons (.int j u) .nil)⟩ ?_ fun k v h' tk _ hv kk => ?_
  · have : PySem.W.Datum.depth Int ≤ 100 := by decide
    omega
  · obtain ⟨bs, hr⟩ := hv
    have e : PySem.W.minOf i [j] = if j < i then j else i := by
      show (if decide (j < i) = true then j else i) = _
      simp
    rw [e] at hr
    cases hr with
    | int _ t2 => exact ⟨.int _, H, I.kept kk, ⟨_, rfl⟩, q⟩
def nMinT : FN := fun ds S => match ds with
  | [.tup [.int i, .int j]] => .ok (.int (if j < i then j else i)) S
  | _ => .stuck
theorem on_minT {M : Md} : OpN M (fun xs H Q => ∃ a i j, xs = [.ref a] ∧ SqT M.K H a [.int i, .int j] ∧ Q (.int (if j < i then j else i)) H) nMinT := by
  intro g ds vs Q E r hv h
  unfold nMinT at h
  split at h
  · rename_i i j
    obtain ⟨v, rfl, h1⟩ := hv.one
    obtain ⟨a, xs, rfl, ha, hxs⟩ := h1.tupI
    cases hxs with
    | cons x1 x2 =>
      cases x2 with
      | cons y1 y2 =>
        cases y2
        rw [x1.intI, y1.intI] at ha
        exact ⟨a, i, j, rfl, ha, h.here r _ (.int _)⟩
  · exact h.elim
end MP
set_option Elab.async false
set_option linter.all false
set_option maxRecDepth 100000
set_option maxHeartbeats 4000000
/-! Reasoning about the plain functions. -/
namespace MP
open PySem

def Wp {α : Type} (r : Rs α) (Q : α → Sto → Prop) : Prop := match r with
  | .ok a S => Q a S
  | _ => False
section
variable {α β : Type} {r : Rs α} {Q Q' : α → Sto → Prop} {R : β → Sto → Prop}
@[simp] theorem wp_ok {a : α} {S : Sto} : Wp (.ok a S) Q = Q a S := rfl
@[simp] theorem wp_stuck : Wp (α := α) .stuck Q = False := rfl
@[simp] theorem wp_exc {x : Xn} {S : Sto} : Wp (α := α) (.exc x S) Q = False := rfl
@[simp] theorem wp_bind {k : α → Sto → Rs β} : Wp (r.bind k) R = Wp r (fun a S => Wp (k a S) R) := by cases r <;> rfl
theorem Wp.mono (h : Wp r Q) (i : ∀ a S, Q a S → Q' a S) : Wp r Q' := by
  cases r with
  | ok a S => exact i a S h
  | _ => exact h.elim
theorem Wp.out (h : Wp r Q) : ∃ a S, r = .ok a S ∧ Q a S := by
  cases r with
  | ok a S => exact ⟨a, S, rfl, h⟩
  | _ => exact h.elim
theorem wp_of {a : α} {S : Sto} (e : r = .ok a S) (h : Q a S) : Wp r Q := by rw [e]; exact h
end
def WpS (r : RsS) (Q : Fl → Sto → Prop) : Prop := match r with
  | .fl f S => Q f S
  | _ => False
def sq (h : Fst) (Q : Fl → Sto → Prop) : Fl → Sto → Prop := fun fl S => match fl with
  | .nx ρ => WpS (h ρ S) Q
  | x => Q x S
def rn (Q : D → Sto → Prop) : Fl → Sto → Prop := fun fl S => match fl with
  | .nx _ => Q .non S
  | .ret d => Q d S
  | _ => False
section
variable {Q Q' : Fl → Sto → Prop} {h f : Fst} {ρ : Rho} {S : Sto} {d : D}
@[simp] theorem wps_fl {x : Fl} : WpS (.fl x S) Q = Q x S := rfl
@[simp] theorem wps_stuck : WpS .stuck Q = False := rfl
@[simp] theorem wps_exc {x : Xn} : WpS (.exc x ρ S) Q = False := rfl
@[simp] theorem sq_nx : sq h Q (.nx ρ) S = WpS (h ρ S) Q := rfl
@[simp] theorem sq_ret : sq h Q (.ret d) S = Q (.ret d) S := rfl
@[simp] theorem sq_brk : sq h Q (.brk ρ) S = Q (.brk ρ) S := rfl
@[simp] theorem sq_ct : sq h Q (.ct ρ) S = Q (.ct ρ) S := rfl
@[simp] theorem rn_nx {P : D → Sto → Prop} : rn P (.nx ρ) S = P .non S := rfl
@[simp] theorem rn_ret {P : D → Sto → Prop} : rn P (.ret d) S = P d S := rfl
@[simp] theorem wps_then {α : Type} {r : Rs α} {k : α → Sto → RsS} : WpS (thenS r ρ k) Q = Wp r (fun a S => WpS (k a S) Q) := by cases r <;> rfl
@[simp] theorem wps_seq : WpS (sSeq f h ρ S) Q = WpS (f ρ S) (sq h Q) := by
  unfold sSeq
  cases e : f ρ S with
  | fl x T => cases x <;> rfl
  | _ => rfl
@[simp] theorem wp_run {N : Nat} {b : Fst} {ds : List D} {P : D → Sto → Prop} : Wp (runF N b ds S) P = WpS (b (entry N ds) S) (rn P) := by
  unfold runF
  cases e : b (entry N ds) S with
  | fl x T => cases x <;> rfl
  | _ => rfl
theorem WpS.mono {r : RsS} (h : WpS r Q) (i : ∀ a S, Q a S → Q' a S) : WpS r Q' := by
  cases r with
  | fl a S => exact i a S h
  | _ => exact h.elim
@[simp] theorem wps_nil : WpS (sNil ρ S) Q = Q (.nx ρ) S := rfl
@[simp] theorem wps_brk : WpS (sBrk ρ S) Q = Q (.brk ρ) S := rfl
@[simp] theorem wps_ct : WpS (sCt ρ S) Q = Q (.ct ρ) S := rfl
@[simp] theorem wps_retN : WpS (sRetN ρ S) Q = Q (.ret .non) S := rfl
@[simp] theorem wps_ret {e : Fe} : WpS (sRet e ρ S) Q = Wp (e ρ S) (fun d S1 => Q (.ret d) S1) := by unfold sRet; rw [wps_then]; rfl
@[simp] theorem wps_expr {e : Fe} : WpS (sExpr e ρ S) Q = Wp (e ρ S) (fun d S1 => Q (.nx ρ) S1) := by unfold sExpr; rw [wps_then]; rfl
@[simp] theorem wps_set {i : Nat} {e : Fe} : WpS (sSet i e ρ S) Q = Wp (e ρ S) (fun d S1 => Q (.nx (ρ.set i (some d))) S1) := by unfold sSet; rw [wps_then]; rfl
@[simp] theorem wps_asg {t : Tg} {e : Fe} : WpS (sAsg t e ρ S) Q = Wp (e ρ S) (fun d S1 => match setT t d ρ with
  | some ρ1 => Q (.nx ρ1) S1
  | none => False) := by
  unfold sAsg
  rw [wps_then]
  congr 1
  funext d S1
  cases setT t d ρ <;> rfl
@[simp] theorem wps_par {i j : Nat} {e : Fs} : WpS (sPar i j e ρ S) Q = Wp (e ρ S) (fun ds S1 => match ds with
  | [a, b] => Q (.nx ((ρ.set i (some a)).set j (some b))) S1
  | _ => False) := by
  unfold sPar
  rw [wps_then]
  congr 1
  funext d S1
  exact match d with
    | [] => rfl
    | [_] => rfl
    | [_, _] => rfl
    | _ :: _ :: _ :: _ => rfl
@[simp] theorem wps_par3 {i j l : Nat} {e : Fs} : WpS (sPar3 i j l e ρ S) Q = Wp (e ρ S) (fun ds S1 => match ds with
  | [a, b, c] => Q (.nx (((ρ.set i (some a)).set j (some b)).set l (some c))) S1
  | _ => False) := by
  unfold sPar3
  rw [wps_then]
  congr 1
  funext d S1
  exact match d with
    | [] => rfl
    | [_] => rfl
    | [_, _] => rfl
    | [_, _, _] => rfl
    | _ :: _ :: _ :: _ :: _ => rfl
@[simp] theorem wps_iteR {c : Prop} [Decidable c] {a b : RsS} : WpS (if c then a else b) Q = if c then WpS a Q else WpS b Q := by split <;> rfl
@[simp] theorem wps_if {c : Ft} : WpS (sIf c f h ρ S) Q = Wp (c ρ S) (fun k S1 => if k = true then WpS (f ρ S1) Q else WpS (h ρ S1) Q) := by
  unfold sIf
  rw [wps_then]
  congr 1
  funext k S1
  rw [wps_iteR]
@[simp] theorem wps_aug {i : Nat} {op : F2} {e : Fe} : WpS (sAug i op e ρ S) Q = match ρ[i]? with
  | some (some x) => Wp (e ρ S) (fun y S1 => Wp (op x y S1) fun d S2 => Q (.nx (ρ.set i (some d))) S2)
  | _ => False := by
  unfold sAug
  cases ρ[i]? with
  | none => rfl
  | some x =>
    cases x with
    | none => rfl
    | some x =>
      show WpS (thenS _ ρ _) Q = _
      rw [wps_then, wp_bind]
      rfl
@[simp] theorem wps_put {e o i : Fe} : WpS (sPut e o i ρ S) Q = Wp (e ρ S) (fun d S1 => Wp (o ρ S1) fun x S2 => Wp (i ρ S2) fun y S3 => Wp (putD x y d S3) fun _ S4 => Q (.nx ρ) S4) := by
  unfold sPut
  simp only [wps_then]
  rfl
end

/-! ### expressions -/
section
variable {Q : D → Sto → Prop} {ρ : Rho} {S : Sto}
@[simp] theorem wp_ite {α : Type} {c : Prop} [Decidable c] {a b : Rs α} {P : α → Sto → Prop} : Wp (if c then a else b) P = if c then Wp a P else Wp b P := by split <;> rfl
@[simp] theorem wp_var {i : Nat} : Wp (dVar i ρ S) Q = match ρ[i]? with
  | some (some d) => Q d S
  | _ => False := by
  unfold dVar
  cases ρ[i]? with
  | none => rfl
  | some x => cases x <;> rfl
@[simp] theorem wp_c {d : D} : Wp (dC d ρ S) Q = Q d S := rfl
@[simp] theorem wp_d2 {op : F2} {a b : Fe} : Wp (d2 op a b ρ S) Q = Wp (a ρ S) (fun x S1 => Wp (b ρ S1) fun y S2 => Wp (op x y S2) Q) := by unfold d2; simp only [wp_bind]
@[simp] theorem wp_if {c : Ft} {a b : Fe} : Wp (dIf c a b ρ S) Q = Wp (c ρ S) (fun k S1 => if k = true then Wp (a ρ S1) Q else Wp (b ρ S1) Q) := by
  unfold dIf; rw [wp_bind]
  congr 1
  funext k S1
  rw [wp_ite]
@[simp] theorem wp_neg {a : Fe} : Wp (dNeg a ρ S) Q = Wp (a ρ S) (fun d S1 => match d with
  | .int i => Q (.int (-i)) S1
  | _ => False) := by
  unfold dNeg; rw [wp_bind]
  congr 1
  funext d S1
  cases d <;> rfl
@[simp] theorem wp_isn {n : Bool} {a : Fe} : Wp (dIsN n a ρ S) Q = Wp (a ρ S) (fun d S1 => Q (.bl (if n then !isNonD d else isNonD d)) S1) := by unfold dIsN; rw [wp_bind]; rfl
@[simp] theorem wp_and {a b : Fe} : Wp (dAnd a b ρ S) Q = Wp (a ρ S) (fun d S1 => match d with
  | .bl true => Wp (b ρ S1) Q
  | .bl false => Q (.bl false) S1
  | _ => False) := by
  unfold dAnd; rw [wp_bind]
  congr 1
  funext d S1
  cases d with
  | bl k => cases k <;> rfl
  | _ => rfl
@[simp] theorem wp_or {a b : Fe} : Wp (dOr a b ρ S) Q = Wp (a ρ S) (fun d S1 => match d with
  | .bl true => Q (.bl true) S1
  | .bl false => Wp (b ρ S1) Q
  | _ => False) := by
  unfold dOr; rw [wp_bind]
  congr 1
  funext d S1
  cases d with
  | bl k => cases k <;> rfl
  | _ => rfl
@[simp] theorem wp_not {a : Fe} : Wp (dNot a ρ S) Q = Wp (a ρ S) (fun d S1 => match d with
  | .bl k => Q (.bl (!k)) S1
  | _ => False) := by
  unfold dNot; rw [wp_bind]
  congr 1
  funext d S1
  cases d <;> rfl
@[simp] theorem wp_chain {op op' : F2} {a b c : Fe} : Wp (dChain op op' a b c ρ S) Q = Wp (a ρ S) (fun x S1 => Wp (b ρ S1) fun y S2 => Wp (op x y S2) fun z S3 => match z with
  | .bl true => Wp (c ρ S3) (fun w S4 => Wp (op' y w S4) Q)
  | .bl false => Q (.bl false) S3
  | _ => False) := by
  unfold dChain; simp only [wp_bind]
  congr 1; funext x S1; congr 1; funext y S2; congr 1; funext z S3
  cases z with
  | bl k => cases k <;> simp
  | _ => rfl
@[simp] theorem wp_tup {f : Fs} : Wp (mkTup f ρ S) Q = Wp (f ρ S) (fun ds S1 => if ds.length ≤ sizeLine then Q (.tup ds) S1 else False) := by
  unfold mkTup; rw [wp_bind]
  congr 1; funext ds S1
  rw [wp_ite]; rfl
@[simp] theorem wp_lst {f : Fs} : Wp (mkLst f ρ S) Q = Wp (f ρ S) (fun ds S1 => if ds.length ≤ sizeLine then Q (.ref S1.length) (S1 ++ [.lst ds]) else False) := by
  unfold mkLst; rw [wp_bind]
  congr 1; funext ds S1
  rw [wp_ite]; rfl
@[simp] theorem wp_dN {f : FN} {a : Fs} : Wp (dN f a ρ S) Q = Wp (a ρ S) (fun ds S1 => Wp (f ds S1) Q) := by unfold dN; rw [wp_bind]
@[simp] theorem wp_call {f : FN} {n : Nat} {a : Fs} : Wp (dCall f n a ρ S) Q = Wp (a ρ S) (fun ds S1 => if ds.length = n then Wp (f ds S1) Q else False) := by
  unfold dCall; rw [wp_bind]
  congr 1; funext ds S1
  rw [wp_ite]; rfl
@[simp] theorem wp_isi {b : Ty} {f : Fe} : Wp (dIsi b f ρ S) Q = Wp (f ρ S) (fun d S1 => match tyD d S1 with
  | some a => Q (.bl (Ty.sub a b)) S1
  | Option.none => False) := by
  unfold dIsi; rw [wp_bind]
  congr 1; funext d S1
  cases tyD d S1 <;> rfl
@[simp] theorem wp_sl {a : Fe} {lo hi : Fo} : Wp (dSlice a lo hi ρ S) Q = Wp (a ρ S) (fun d S1 => Wp (lo ρ S1) fun l S2 => Wp (hi ρ S2) fun h S3 => Wp (sliceD d l h S3) Q) := by unfold dSlice; simp only [wp_bind]
@[simp] theorem wp_oN {P : Option Int → Sto → Prop} : Wp (oNone ρ S) P = P none S := rfl
@[simp] theorem wp_oS {a : Fe} {P : Option Int → Sto → Prop} : Wp (oSome a ρ S) P = Wp (a ρ S) (fun d S1 => match d with
  | .int i => P (some i) S1
  | _ => False) := by
  unfold oSome; rw [wp_bind]
  congr 1; funext d S1
  cases d <;> rfl
@[simp] theorem wp_rev {f : Fe} : Wp (dRev f ρ S) Q = Wp (f ρ S) (fun d S1 => Wp (revD d S1) Q) := by unfold dRev; rw [wp_bind]
@[simp] theorem wp_empty : Wp (dEmpty ρ S) Q = Q (.ref S.length) (S ++ [.dk []]) := rfl
@[simp] theorem wp_ml {f : FM} {o : Fe} {a : Fs} : Wp (dML f o a ρ S) Q = Wp (o ρ S) (fun d S1 => if isLstD d S1 = true then Wp (a ρ S1) (fun ds S2 => Wp (f d ds S2) Q) else False) := by
  unfold dML; rw [wp_bind]
  congr 1; funext d S1
  rw [wp_ite]; simp
@[simp] theorem wp_ml0 {f : FM} {o : Fe} : Wp (dML0 f o ρ S) Q = Wp (o ρ S) (fun d S1 => if isLstD d S1 = true then Wp (f d [] S1) Q else False) := by
  unfold dML0; rw [wp_bind]
  congr 1; funext d S1
  rw [wp_ite]; rfl
end
section
variable {P : List D → Sto → Prop} {ρ : Rho} {S : Sto}
@[simp] theorem wp_nil : Wp (aNil ρ S) P = P [] S := rfl
@[simp] theorem wp_cons {a : Fe} {r : Fs} : Wp (aCons a r ρ S) P = Wp (a ρ S) (fun d S1 => Wp (r ρ S1) fun ds S2 => P (d :: ds) S2) := by unfold aCons; simp only [wp_bind, wp_ok]
@[simp] theorem wp_star {a : Fe} {r : Fs} : Wp (aStar a r ρ S) P = Wp (a ρ S) (fun d S1 => match itemsD d S1 with
  | some es => Wp (r ρ S1) (fun ds S2 => P (es ++ ds) S2)
  | none => False) := by
  unfold aStar; rw [wp_bind]
  congr 1; funext d S1
  cases itemsD d S1 with
  | none => rfl
  | some es =>
    show Wp ((r ρ S1).bind _) P = _
    rw [wp_bind]
    rfl
end
section
variable {P : Bool → Sto → Prop} {ρ : Rho} {S : Sto}
@[simp] theorem wp_fB {f : Fe} : Wp (fB f ρ S) P = Wp (f ρ S) (fun d S1 => match d with
  | .bl k => P k S1
  | _ => False) := by
  unfold fB; rw [wp_bind]
  congr 1; funext d S1
  cases d <;> rfl
@[simp] theorem wp_fT {f : Fe} : Wp (fTru f ρ S) P = Wp (f ρ S) (fun d S1 => Wp (truD d S1) P) := by unfold fTru; rw [wp_bind]
@[simp] theorem wp_fAnd {a b : Ft} : Wp (fAnd a b ρ S) P = Wp (a ρ S) (fun k S1 => if k = true then Wp (b ρ S1) P else P false S1) := by
  unfold fAnd; rw [wp_bind]
  congr 1; funext d S1
  rw [wp_ite]; rfl
@[simp] theorem wp_fOr {a b : Ft} : Wp (fOr a b ρ S) P = Wp (a ρ S) (fun k S1 => if k = true then P true S1 else Wp (b ρ S1) P) := by
  unfold fOr; rw [wp_bind]
  congr 1; funext d S1
  rw [wp_ite]; rfl
@[simp] theorem wp_fNot {a : Ft} : Wp (fNot a ρ S) P = Wp (a ρ S) (fun k S1 => P (!k) S1) := by unfold fNot; rw [wp_bind]; rfl
@[simp] theorem wp_yes : Wp (fYes ρ S) P = P true S := rfl
end

/-! ### operators on plain values -/
section
variable {S : Sto} {i j : Int}
@[simp] theorem dAdd_int : dAdd (.int i) (.int j) S = .ok (.int (i + j)) S := rfl
@[simp] theorem dAdd_tup {a b : List D} : dAdd (.tup a) (.tup b) S = if a.length + b.length ≤ sizeLine then .ok (.tup (a ++ b)) S else .stuck := rfl
@[simp] theorem dSub_int : dSub (.int i) (.int j) S = .ok (.int (i - j)) S := rfl
@[simp] theorem dMul_int : dMul (.int i) (.int j) S = if szMul i j = true then .ok (.int (i * j)) S else .stuck := rfl
@[simp] theorem dIMul_int : dIMul (.int i) (.int j) S = if szMul i j = true then .ok (.int (i * j)) S else .stuck := rfl
@[simp] theorem dIAdd_int : dIAdd (.int i) (.int j) S = .ok (.int (i + j)) S := rfl
@[simp] theorem dFdiv_int : dFdiv (.int i) (.int j) S = if szDiv j = true then .ok (.int (i.fdiv j)) S else .stuck := rfl
@[simp] theorem dMod_int : dMod (.int i) (.int j) S = if j = 0 then .stuck else .ok (.int (i.fmod j)) S := rfl
@[simp] theorem dPow_int : dPow (.int i) (.int j) S = if 0 ≤ j ∧ j ≤ 1000000 ∧ i.natAbs < 2 ^ 64 then .ok (.int (i ^ j.toNat)) S else .stuck := rfl
@[simp] theorem dIB_int {p : Int → Int → Bool} : dIB p (.int i) (.int j) S = .ok (.bl (p i j)) S := rfl
@[simp] theorem truD_bl {b : Bool} : truD (.bl b) S = .ok b S := rfl
@[simp] theorem truD_int : truD (.int i) S = .ok (i != 0) S := rfl
@[simp] theorem isNon_int : isNonD (.int i) = false := rfl
@[simp] theorem isNon_tup {a : List D} : isNonD (.tup a) = false := rfl
@[simp] theorem isNon_non : isNonD .non = true := rfl
@[simp] theorem nLen_tup {a : List D} : nLen [.tup a] S = .ok (.int (a.length : Nat)) S := rfl
@[simp] theorem nLen_fl {a : List D} : nLen [.fl a] S = .ok (.int (a.length : Nat)) S := rfl
theorem nLen_ref {n : Nat} {a : List D} (h : S[n]? = some (.lst a)) : nLen [.ref n] S = .ok (.int (a.length : Nat)) S := by
  unfold nLen itemsD; simp [h]
@[simp] theorem nAbs_int : nAbs [.int i] S = .ok (.int (if i < 0 then -i else i)) S := rfl
@[simp] theorem nMax_int : nMax2 [.int i, .int j] S = .ok (.int (if j > i then j else i)) S := rfl
@[simp] theorem nMin_int : nMin2 [.int i, .int j] S = .ok (.int (if j < i then j else i)) S := rfl
@[simp] theorem nInt_int : nInt [.int i] S = .ok (.int i) S := rfl
@[simp] theorem nInt_bl {k : Bool} : nInt [.bl k] S = .ok (.int (if k then 1 else 0)) S := rfl
@[simp] theorem nGcd_int : nGcd [.int i, .int j] S = .ok (.int ((Nat.gcd i.natAbs j.natAbs : Nat) : Int)) S := rfl
@[simp] theorem nTuple_tup {a : List D} : nTuple [.tup a] S = .ok (.tup a) S := rfl
theorem nTuple_ref {n : Nat} {a : List D} (h : S[n]? = some (.lst a)) : nTuple [.ref n] S = .ok (.tup a) S := by
  unfold nTuple lstD; simp [h]
@[simp] theorem nList_tup {a : List D} : nList [.tup a] S = .ok (.ref S.length) (S ++ [.lst a]) := rfl
theorem nList_ref {n : Nat} {a : List D} (h : S[n]? = some (.lst a)) : nList [.ref n] S = .ok (.ref S.length) (S ++ [.lst a]) := by
  unfold nList itemsD; simp [h]
@[simp] theorem items_tup {a : List D} : itemsD (.tup a) S = some a := rfl
theorem items_ref {n : Nat} {a : List D} (h : S[n]? = some (.lst a)) : itemsD (.ref n) S = some a := by
  unfold itemsD; simp [h]
@[simp] theorem dAt_tup {a : List D} : dAt (.tup a) (.int i) S = match L2.atI a i with
  | some d => .ok d S
  | none => .stuck := rfl
@[simp] theorem dAt_fl {a : List D} : dAt (.fl a) (.int i) S = match L2.atI a i with
  | some d => .ok d S
  | none => .stuck := rfl
theorem dAt_ref {n : Nat} {a : List D} (h : S[n]? = some (.lst a)) : dAt (.ref n) (.int i) S = match L2.atI a i with
  | some d => .ok d S
  | none => .stuck := by
  unfold dAt
  simp only [h]
  try rfl
@[simp] theorem ty_int : tyD (.int i) S = some .int := rfl
@[simp] theorem ty_tup {a : List D} : tyD (.tup a) S = some .tuple := rfl
@[simp] theorem ty_bl {b : Bool} : tyD (.bl b) S = some .bool := rfl
@[simp] theorem ty_str {b : Str} : tyD (.str b) S = some .str := rfl
@[simp] theorem ty_non : tyD .non S = some .none := rfl
@[simp] theorem ty_fl {a : List D} : tyD (.fl a) S = some .list := rfl
theorem ty_ref {n : Nat} {a : List D} (h : S[n]? = some (.lst a)) : tyD (.ref n) S = some .list := by unfold tyD; simp [h]
theorem ty_dk {n : Nat} {a : List (L2.Key × D)} (h : S[n]? = some (.dk a)) : tyD (.ref n) S = some .dict := by unfold tyD; simp [h]
theorem isLst_ref {n : Nat} {a : List D} (h : S[n]? = some (.lst a)) : isLstD (.ref n) S = true := by unfold isLstD lstD; simp [h]
end
/-! ### items of literal lists -/
theorem atI_nat {α : Type} {xs : List α} {k : Nat} : L2.atI xs (k : Int) = xs[k]? := by
  unfold L2.atI L2.ixN
  by_cases h : k < xs.length
  · simp [h]
  · simp [h]
theorem atI_last {α : Type} {xs : List α} {k : Nat} (h : k < xs.length) : L2.atI xs (-((k : Int) + 1)) = xs[xs.length - 1 - k]? := by
  unfold L2.atI L2.ixN
  have h1 : ¬ (0 ≤ -((k : Int) + 1)) := by omega
  have h2 : -(xs.length : Int) ≤ -((k : Int) + 1) := by omega
  rw [if_neg h1, if_pos h2]
  have e : (-((k : Int) + 1) + (xs.length : Int)).toNat = xs.length - 1 - k := by omega
  simp [e]

/-! ### stores that only grow -/
structure Ex (S T : Sto) : Prop where
  len : S.length ≤ T.length
  at_ : ∀ n, n < S.length → T[n]? = S[n]?
theorem Ex.refl {S : Sto} : Ex S S := ⟨Nat.le_refl _, fun _ _ => rfl⟩
theorem Ex.trans {S T U : Sto} (a : Ex S T) (b : Ex T U) : Ex S U := ⟨Nat.le_trans a.len b.len, fun n h => (b.at_ n (Nat.lt_of_lt_of_le h a.len)).trans (a.at_ n h)⟩
theorem Ex.app {S T : Sto} (R : Sto) (a : Ex S T) : Ex S (T ++ R) := ⟨by rw [List.length_append]; have := a.len; omega, fun n h => by rw [List.getElem?_append_left (Nat.lt_of_lt_of_le h a.len)]; exact a.at_ n h⟩
theorem Ex.set {S T : Sto} {n : Nat} {o : SO} (a : Ex S T) (h : S.length ≤ n) : Ex S (T.set n o) := ⟨by rw [List.length_set]; exact a.len, fun m hm => by rw [List.getElem?_set_ne (by omega)]; exact a.at_ m hm⟩
theorem Ex.get {S T : Sto} (a : Ex S T) {n : Nat} {o : SO} (h : S[n]? = some o) : T[n]? = some o := by
  rw [a.at_ n (List.getElem?_eq_some_iff.mp h).1]; exact h

/-! ### comprehensions -/
/-- every item's element is there, by f, the store only growing -/
theorem lc_map {α : Type} {ok : Sto → Bool} {t : Tg} {e : Fe} {ρ : Rho} {enc : α → D} {f : α → D} {Q : List D → Sto → Prop} : ∀ {xs : List α} {S0 S : Sto}, Ex S0 S →
    (∀ x, x ∈ xs → ∀ T, Ex S0 T → ∃ ρ1, setT t (enc x) ρ = some ρ1 ∧ Wp (e ρ1 T) fun y U => y = f x ∧ Ex T U) → (∀ T, Ex S0 T → ok T = true) →
    (∀ T, Ex S T → Q (xs.map f) T) → Wp (lcL ok t fYes e ρ (xs.map enc) S) Q
  | [], S0, S, h0, he, hok, hq => by exact hq S Ex.refl
  | x :: xs, S0, S, h0, he, hok, hq => by
    obtain ⟨ρ1, h1, h2⟩ := he x (List.mem_cons_self) S h0
    obtain ⟨y, U, h3, rfl, h5⟩ := h2.out
    show Wp (lcL ok t fYes e ρ (enc x :: xs.map enc) S) Q
    unfold lcL
    rw [h1]
    show Wp (match e ρ1 S with
      | .ok y S2 => if ok S2 = true then (lcL ok t fYes e ρ (xs.map enc) S2).bind fun ys S3 => .ok (y :: ys) S3 else .stuck
      | _ => .stuck) Q
    rw [h3]
    show Wp (if ok U = true then _ else _) Q
    rw [if_pos (hok U (h0.trans h5)), wp_bind]
    exact lc_map (h0.trans h5) (fun z hz => he z (List.mem_cons_of_mem _ hz)) hok fun T hT => hq T (h5.trans hT)
/-- with a condition -/
theorem lc_filter {α : Type} {ok : Sto → Bool} {t : Tg} {c : Ft} {e : Fe} {ρ : Rho} {enc : α → D} {p : α → Bool} {f : α → D} {Q : List D → Sto → Prop} : ∀ {xs : List α} {S0 S : Sto}, Ex S0 S →
    (∀ x, x ∈ xs → ∀ T, Ex S0 T → ∃ ρ1, setT t (enc x) ρ = some ρ1 ∧ Wp (c ρ1 T) fun k U => k = p x ∧ Ex T U ∧ (k = true → Wp (e ρ1 U) fun y V => y = f x ∧ Ex U V)) → (∀ T, Ex S0 T → ok T = true) →
    (∀ T, Ex S T → Q ((xs.filter p).map f) T) → Wp (lcL ok t c e ρ (xs.map enc) S) Q
  | [], S0, S, h0, he, hok, hq => by exact hq S Ex.refl
  | x :: xs, S0, S, h0, he, hok, hq => by
    obtain ⟨ρ1, h1, h2⟩ := he x (List.mem_cons_self) S h0
    obtain ⟨k, U, h3, rfl, h5, h6⟩ := h2.out
    show Wp (lcL ok t c e ρ (enc x :: xs.map enc) S) Q
    unfold lcL
    rw [h1]
    show Wp (match c ρ1 S with
      | .ok true S1 => (match e ρ1 S1 with
        | .ok y S2 => if ok S2 = true then (lcL ok t c e ρ (xs.map enc) S2).bind fun ys S3 => .ok (y :: ys) S3 else .stuck
        | _ => .stuck)
      | .ok false S1 => if ok S1 = true then lcL ok t c e ρ (xs.map enc) S1 else .stuck
      | _ => .stuck) Q
    rw [h3]
    cases hp : p x with
    | false =>
      show Wp (if ok U = true then _ else _) Q
      rw [if_pos (hok U (h0.trans h5))]
      refine lc_filter (h0.trans h5) (fun z hz => he z (List.mem_cons_of_mem _ hz)) hok fun T hT => ?_
      have := hq T (h5.trans hT)
      rwa [List.filter_cons_of_neg (by simp [hp])] at this
    | true =>
      obtain ⟨y, V, h7, rfl, h8⟩ := (h6 hp).out
      show Wp (match e ρ1 U with
        | .ok y S2 => if ok S2 = true then (lcL ok t c e ρ (xs.map enc) S2).bind fun ys S3 => .ok (y :: ys) S3 else .stuck
        | _ => .stuck) Q
      rw [h7]
      show Wp (if ok V = true then _ else _) Q
      have h9 := h5.trans h8
      rw [if_pos (hok V (h0.trans h9)), wp_bind]
      refine lc_filter (h0.trans h9) (fun z hz => he z (List.mem_cons_of_mem _ hz)) hok fun T hT => ?_
      have := hq T (h9.trans hT)
      rwa [List.filter_cons_of_pos (by simp [hp])] at this
theorem wp_lc {f : Fi} {t : Tg} {c : Ft} {e : Fe} {vs : List Nat} {ρ : Rho} {S : Sto} {Q : D → Sto → Prop} : Wp (dLc f t c e vs ρ S) Q = Wp (f ρ S) (fun src S1 => Wp (lcL src.ok t c e (wipeR ρ vs) src.its S1) fun ys T => if ys.length ≤ sizeLine then Q (.ref T.length) (T ++ [.lst ys]) else False) := by
  unfold dLc
  rw [wp_bind]
  congr 1; funext src S1
  rw [wp_bind]
  congr 1; funext ys T
  unfold lcFin
  rw [wp_ite]; rfl
/-- one turn of a loop at a time -/
theorem for_inv {ok : Sto → Bool} {t : Tg} {b : Fst} {Q : Fl → Sto → Prop} (I : List D → Rho → Sto → Prop) (hs : ∀ d ds ρ S, I (d :: ds) ρ S → ∃ ρ1, setT t d ρ = some ρ1 ∧ WpS (b ρ1 S) fun fl T => match fl with
      | .nx ρ2 => ok T = true ∧ I ds ρ2 T
      | .ct ρ2 => ok T = true ∧ I ds ρ2 T
      | .brk ρ2 => Q (.nx ρ2) T
      | .ret d => Q (.ret d) T) (hq : ∀ ρ S, I [] ρ S → Q (.nx ρ) S) : ∀ {ds : List D} {ρ : Rho} {S : Sto}, I ds ρ S → WpS (forL ok t b ds ρ S) Q
  | [], ρ, S, h => hq ρ S h
  | d :: ds, ρ, S, h => by
    obtain ⟨ρ1, h1, h2⟩ := hs d ds ρ S h
    unfold forL
    rw [h1]
    show WpS (match b ρ1 S with
      | .fl (.nx ρ2) S2 => if ok S2 = true then forL ok t b ds ρ2 S2 else .stuck
      | .fl (.ct ρ2) S2 => if ok S2 = true then forL ok t b ds ρ2 S2 else .stuck
      | .fl (.brk ρ2) S2 => .fl (.nx ρ2) S2
      | r => r) Q
    cases hb : b ρ1 S with
    | stuck => rw [hb] at h2; exact h2.elim
    | exc x ρ S => rw [hb] at h2; exact h2.elim
    | fl fl T =>
      rw [hb] at h2
      cases fl with
      | nx ρ2 =>
        show WpS (if ok T = true then _ else _) Q
        obtain ⟨h3, h4⟩ := h2
        rw [if_pos h3]
        exact for_inv I hs hq h4
      | ct ρ2 =>
        show WpS (if ok T = true then _ else _) Q
        obtain ⟨h3, h4⟩ := h2
        rw [if_pos h3]
        exact for_inv I hs hq h4
      | brk ρ2 => exact h2
      | ret d => exact h2
theorem wps_for {f : Fi} {t : Tg} {b : Fst} {ρ : Rho} {S : Sto} {Q : Fl → Sto → Prop} : WpS (sFor f t b ρ S) Q = Wp (f ρ S) (fun src S1 => WpS (forL src.ok t b src.its ρ S1) Q) := by unfold sFor; rw [wps_then]
/-- a loop with a measure -/
theorem while_inv {c : Ft} {b : Fst} {Q : Fl → Sto → Prop} (I : Nat → Rho → Sto → Prop) (hs : ∀ m ρ S, I m ρ S → Wp (c ρ S) fun k T => if k = true then ∃ m', m = m' + 1 ∧ WpS (b ρ T) (fun fl U => match fl with
      | .nx ρ2 => I m' ρ2 U
      | .ct ρ2 => I m' ρ2 U
      | .brk ρ2 => Q (.nx ρ2) U
      | .ret d => Q (.ret d) U) else Q (.nx ρ) T) : ∀ {n m : Nat} {ρ : Rho} {S : Sto}, m < n → I m ρ S → WpS (whL c b n ρ S) Q
  | 0, m, ρ, S, hm, h => absurd hm (Nat.not_lt_zero _)
  | n + 1, m, ρ, S, hm, h => by
    obtain ⟨k, T, h1, h2⟩ := (hs m ρ S h).out
    unfold whL
    rw [h1]
    show WpS (if k = true then _ else _) Q
    cases k with
    | false => exact h2
    | true =>
      obtain ⟨m', rfl, h3⟩ := h2
      show WpS (match b ρ T with
        | .fl (.nx ρ2) S2 => whL c b n ρ2 S2
        | .fl (.ct ρ2) S2 => whL c b n ρ2 S2
        | .fl (.brk ρ2) S2 => .fl (.nx ρ2) S2
        | r => r) Q
      cases hb : b ρ T with
      | stuck => rw [hb] at h3; exact h3.elim
      | exc x ρ S => rw [hb] at h3; exact h3.elim
      | fl fl U =>
        rw [hb] at h3
        cases fl with
        | nx ρ2 => exact while_inv I hs (by omega) h3
        | ct ρ2 => exact while_inv I hs (by omega) h3
        | brk ρ2 => exact h3
        | ret d => exact h3
theorem wps_while {c : Ft} {b : Fst} {ρ : Rho} {S : Sto} {Q : Fl → Sto → Prop} : WpS (sWhile c b ρ S) Q = WpS (whL c b whMost ρ S) Q := rfl

/-! ### encodings, equality -/
class En (α : Type) where
  d : α → D
  p : α → PyData
  dep : Nat
  hp : ∀ a n S, toPy (dep + n) S (d a) = some (p a)
  lay : ∀ a, (p a).canLay0 = true
  hd : ∀ a, (p a).depth ≤ dep
  eq : ∀ a b, PyData.eqv (p a) (p b) = true ↔ a = b
theorem toPy_up {n : Nat} {S : Sto} {d : D} {m : Nat} (h : m + 1 = n) : toPy n S d = toPy (m + 1) S d := by rw [h]
theorem en_py {α : Type} [En α] (a : α) {n : Nat} {S : Sto} (h : En.dep α ≤ n) : toPy n S (En.d a) = some (En.p a) := by
  obtain ⟨m, rfl⟩ : ∃ m, n = En.dep α + m := ⟨n - En.dep α, by omega⟩
  exact En.hp a m S
theorem en_pys {α : Type} [En α] (l : List α) {n : Nat} {S : Sto} (h : En.dep α ≤ n) : toPyL (toPy n S) (l.map En.d) = some (l.map En.p) := by
  induction l with
  | nil => rfl
  | cons a l ih =>
    show (match toPy n S (En.d a), toPyL (toPy n S) (l.map En.d) with
      | some a, some as => some (a :: as)
      | _, _ => none) = _
    rw [en_py a h, ih]
    rfl
theorem en_lay {α : Type} [En α] (l : List α) : PyData.canLayAll0 (l.map En.p) = true := by
  induction l with
  | nil => simp [PyData.canLayAll0]
  | cons a l ih => simp [PyData.canLayAll0, En.lay a, ih]
theorem en_eqs {α : Type} [En α] (l m : List α) : PyData.eqvAll (l.map En.p) (m.map En.p) = true ↔ l = m := by
  induction l generalizing m with
  | nil => cases m <;> simp [PyData.eqvAll]
  | cons a l ih =>
    cases m with
    | nil => simp [PyData.eqvAll]
    | cons b m => simp [PyData.eqvAll, En.eq a b, ih m]
theorem en_dep {α : Type} [En α] (l : List α) : PyData.depthAll (l.map En.p) ≤ En.dep α := by
  induction l with
  | nil => simp [PyData.depthAll]
  | cons a l ih =>
    have := En.hd a
    simp [PyData.depthAll]; omega
instance : En Int where
  d := .int
  p := .int
  dep := 1
  hp := fun a n S => by rw [toPy_up (Nat.add_comm n 1)]; rfl
  lay := fun a => by simp [PyData.canLay0]
  hd := fun a => by simp [PyData.depth]
  eq := fun a b => by simp [PyData.eqv]
instance {α : Type} [En α] : En (List α) where
  d := fun l => .tup (l.map En.d)
  p := fun l => .tuple (l.map En.p)
  dep := En.dep α + 1
  hp := fun l n S => by
    rw [toPy_up (m := En.dep α + n) (by omega)]
    show (toPyL (toPy (En.dep α + n) S) (l.map En.d)).map PyData.tuple = _
    rw [en_pys l (Nat.le_add_right _ _)]
    rfl
  lay := fun l => by simp [PyData.canLay0, en_lay]
  hd := fun l => by have := en_dep l; simp [PyData.depth]; omega
  eq := fun l m => by simp [PyData.eqv, en_eqs]
def fr (q : Rat) : D := .tup [.int q.num, .int q.den]
instance : En Rat where
  d := fr
  p := fun q => .tuple [.int q.num, .int q.den]
  dep := 2
  hp := fun q n S => by
    rw [toPy_up (m := 1 + n) (by omega)]
    show (toPyL (toPy (1 + n) S) [.int q.num, .int q.den]).map PyData.tuple = _
    have := en_pys (α := Int) [q.num, (q.den : Int)] (S := S) (n := 1 + n) (Nat.le_add_right _ _)
    simp only [List.map] at this
    exact congrArg _ this
  lay := fun q => by simp [PyData.canLay0, PyData.canLayAll0]
  hd := fun q => by simp [PyData.depth, PyData.depthAll]
  eq := fun a b => by
    simp [PyData.eqv, PyData.eqvAll]
    constructor
    · rintro ⟨h1, h2⟩
      exact Rat.ext h1 (by omega)
    · rintro rfl
      exact ⟨rfl, rfl⟩
theorem shaped_en {α : Type} [En α] (a : α) (h : En.dep α ≤ 60) : SeqAt.shaped (En.p a) = true := by
  have := En.hd a
  unfold SeqAt.shaped
  rw [En.lay a, Bool.true_and, decide_eq_true_eq]
  omega
theorem shaped_ens {α : Type} [En α] (l : List α) (h : En.dep α ≤ 60) : SeqAt.shaped (.list (l.map En.p)) = true := by
  have := en_dep l
  unfold SeqAt.shaped
  simp [PyData.canLay0, en_lay, PyData.depth]
  omega
theorem dEqB_en {α : Type} [En α] [DecidableEq α] {n : Bool} (a b : α) {S : Sto} (h : En.dep α ≤ 60) : dEqB n (En.d a) (En.d b) S = .ok (.bl (if n then !decide (a = b) else decide (a = b))) S := by
  unfold dEqB
  rw [en_py a h, en_py b h]
  show (if (SeqAt.shaped (En.p a) && SeqAt.shaped (En.p b)) = true then _ else _) = _
  rw [shaped_en a h, shaped_en b h, Bool.and_self, if_pos rfl]
  have e : PyData.eqv (En.p a) (En.p b) = decide (a = b) := by
    rw [Bool.eq_iff_iff, En.eq, decide_eq_true_eq]
  rw [e]
/-- lists of the store -/
theorem dEqB_ens {α : Type} [En α] [DecidableEq α] {n : Bool} (l m : List α) {S : Sto} {i j : Nat} (hi : S[i]? = some (.lst (l.map En.d))) (hj : S[j]? = some (.lst (m.map En.d))) (h : En.dep α ≤ 59) : dEqB n (.ref i) (.ref j) S = .ok (.bl (if n then !decide (l = m) else decide (l = m))) S := by
  have key : ∀ (l : List α) (i : Nat), S[i]? = some (.lst (l.map En.d)) → toPy 60 S (.ref i) = some (.list (l.map En.p)) := fun l i hi => by
    show (match S[i]? with
      | some (.lst ds) => (toPyL (toPy 59 S) ds).map PyData.list
      | _ => none) = _
    rw [hi]
    show (toPyL (toPy 59 S) (l.map En.d)).map PyData.list = _
    rw [en_pys l h]
    rfl
  unfold dEqB
  rw [key l i hi, key m j hj]
  show (if (SeqAt.shaped (.list (l.map En.p)) && SeqAt.shaped (.list (m.map En.p))) = true then _ else _) = _
  rw [shaped_ens l (by omega), shaped_ens m (by omega), Bool.and_self, if_pos rfl]
  have e : PyData.eqv (.list (l.map En.p)) (.list (m.map En.p)) = decide (l = m) := by
    rw [Bool.eq_iff_iff, decide_eq_true_eq]
    simp [PyData.eqv, en_eqs]
  rw [e]
@[simp] theorem dEqB_int {n : Bool} {i j : Int} {S : Sto} : dEqB n (.int i) (.int j) S = .ok (.bl (if n then !decide (i = j) else decide (i = j))) S := dEqB_en (α := Int) i j (by decide)
end MP
set_option Elab.async false
set_option linter.all false
set_option maxRecDepth 100000
set_option maxHeartbeats 4000000
/-! Fractions: the arithmetic behind them. -/
namespace MP
open PySem

/-- the divisor by which a fraction is shortened -/
def shar (t b : Int) : Int := if 0 < b then ((Nat.gcd t.natAbs b.natAbs : Nat) : Int) else -((Nat.gcd t.natAbs b.natAbs : Nat) : Int)
theorem gcd_pos {t b : Int} (hb : b ≠ 0) : 0 < Nat.gcd t.natAbs b.natAbs := Nat.gcd_pos_of_pos_right _ (by omega)
theorem shar_ne {t b : Int} (hb : b ≠ 0) : shar t b ≠ 0 := by
  have := gcd_pos (t := t) hb
  unfold shar
  split <;> omega
theorem shar_num {t b : Int} (hb : b ≠ 0) : t.fdiv (shar t b) = (Rat.divInt t b).num := by
  have hg := gcd_pos (t := t) hb
  have hd : ((Nat.gcd t.natAbs b.natAbs : Nat) : Int) ∣ t := Int.ofNat_dvd_left.mpr (Nat.gcd_dvd_left ..)
  rw [Rat.num_divInt]
  have eg : b.gcd t = Nat.gcd t.natAbs b.natAbs := by rw [Int.gcd, Nat.gcd_comm]
  rw [eg]
  unfold shar
  by_cases h : 0 < b
  · rw [if_pos h, Int.sign_eq_one_of_pos h, Int.one_mul, Int.fdiv_eq_ediv_of_nonneg _ (by omega)]
  · rw [if_neg h, Int.sign_eq_neg_one_of_neg (by omega)]
    obtain ⟨c, hc⟩ := hd
    generalize hgg : ((Nat.gcd t.natAbs b.natAbs : Nat) : Int) = g at *
    have hg0 : g ≠ 0 := by omega
    rw [hc]
    have e1 : g * c = (-g) * (-c) := by rw [Int.neg_mul_neg]
    rw [e1, Int.mul_fdiv_cancel_left _ (by omega : (-g) ≠ 0)]
    rw [Int.neg_mul_neg, show (-1 : Int) * (g * c) = g * (-c) by rw [Int.neg_one_mul, Int.mul_neg], Int.mul_ediv_cancel_left _ hg0]
theorem shar_den {t b : Int} (hb : b ≠ 0) : b.fdiv (shar t b) = ((Rat.divInt t b).den : Int) := by
  have hg := gcd_pos (t := t) hb
  have hd : ((Nat.gcd t.natAbs b.natAbs : Nat) : Int) ∣ b := Int.ofNat_dvd_left.mpr (Nat.gcd_dvd_right ..)
  rw [Rat.den_divInt, if_neg hb]
  have eg : b.gcd t = Nat.gcd t.natAbs b.natAbs := by rw [Int.gcd, Nat.gcd_comm]
  rw [eg]
  unfold shar
  by_cases h : 0 < b
  · rw [if_pos h, Int.fdiv_eq_ediv_of_nonneg _ (by omega), Int.natCast_ediv]
    congr 1
    omega
  · rw [if_neg h]
    have e : b = -((b.natAbs : Nat) : Int) := by omega
    obtain ⟨c, hc⟩ := Nat.gcd_dvd_right t.natAbs b.natAbs
    generalize Nat.gcd t.natAbs b.natAbs = g at *
    rw [hc] at e
    have e2 : b = (-(g : Int)) * (c : Int) := by rw [e, Int.natCast_mul, Int.neg_mul]
    rw [hc]
    conv => lhs; rw [e2]
    rw [Int.mul_fdiv_cancel_left _ (by omega), Nat.mul_div_cancel_left _ hg]
theorem shar_log {t b : Int} (hb : b ≠ 0) : (shar t b).natAbs.log2 ≤ b.natAbs.log2 := by
  have h : (shar t b).natAbs ≤ b.natAbs := by
    have := Nat.le_of_dvd (by omega : 0 < b.natAbs) (Nat.gcd_dvd_right t.natAbs b.natAbs)
    unfold shar
    split <;> omega
  rw [Nat.le_log2 (by omega)]
  exact Nat.le_trans (Nat.log2_self_le (by have := shar_ne (t := t) hb; omega)) h
theorem szDiv_of {j : Int} {k : Nat} (h0 : j ≠ 0) (h : j.natAbs < 2 ^ k) (hk : k ≤ 9000) : szDiv j = true := by
  unfold szDiv
  rw [Bool.and_eq_true, decide_eq_true_eq, decide_eq_true_eq]
  refine ⟨h0, ?_⟩
  have := (Nat.log2_lt (by omega)).mpr h
  omega
theorem szMul_of {i j : Int} {k l : Nat} (h1 : i.natAbs < 2 ^ k) (h2 : j.natAbs < 2 ^ l) (hk : k + l ≤ 100000000) : szMul i j = true := by
  unfold szMul
  rw [decide_eq_true_eq]
  have lg : ∀ (n m : Nat), n < 2 ^ m → n.log2 ≤ m := fun n m h => by
    by_cases h0 : n = 0
    · subst h0; rw [Nat.log2_zero]; omega
    · have := (Nat.log2_lt h0).mpr h; omega
  have lg2 : ∀ (n m : Nat), n < 2 ^ m → 0 < m → n.log2 < m := fun n m h hm => by
    by_cases h0 : n = 0
    · subst h0; rw [Nat.log2_zero]; omega
    · exact (Nat.log2_lt h0).mpr h
  have a := lg _ _ h1
  have b := lg _ _ h2
  by_cases hk0 : 0 < k
  · have := lg2 _ _ h1 hk0; omega
  · by_cases hl0 : 0 < l
    · have := lg2 _ _ h2 hl0; omega
    · omega

/-! ### the weight of a fraction -/
/-- q's numerator has at most 110 k bits, its denominator at most 4 k bits -/
structure Sz (k : Nat) (q : Rat) : Prop where
  n : q.num.natAbs < 2 ^ (110 * k)
  d : q.den < 2 ^ (4 * k)
theorem Sz.up {k l : Nat} {q : Rat} (h : Sz k q) (hkl : k ≤ l) : Sz l q :=
  ⟨Nat.lt_of_lt_of_le h.n (Nat.pow_le_pow_right (by decide) (by omega)), Nat.lt_of_lt_of_le h.d (Nat.pow_le_pow_right (by decide) (by omega))⟩
theorem Sz.zero : Sz 1 0 := ⟨by decide, by decide⟩
theorem Sz.neg {k : Nat} {q : Rat} (h : Sz k q) : Sz k (-q) := ⟨by rw [Rat.neg_num, Int.natAbs_neg]; exact h.n, h.d⟩
theorem divInt_num_le (a b : Int) : (Rat.divInt a b).num.natAbs ≤ a.natAbs := by
  rw [Rat.num_divInt]
  refine Nat.le_trans (Int.natAbs_ediv_le_natAbs ..) ?_
  rw [Int.natAbs_mul]
  have : b.sign.natAbs ≤ 1 := by rw [Int.natAbs_sign]; split <;> omega
  exact Nat.le_trans (Nat.mul_le_mul_right _ this) (by omega)
theorem divInt_den_le (a b : Int) (hb : b ≠ 0) : (Rat.divInt a b).den ≤ b.natAbs := by
  rw [Rat.den_divInt, if_neg hb]
  exact Nat.div_le_self ..
theorem add_eq (a b : Rat) : a + b = Rat.divInt (a.num * b.den + b.num * a.den) (a.den * b.den : Int) := by
  rw [Rat.add_def', ← Rat.divInt_ofNat]; simp
theorem mul_eq (a b : Rat) : a * b = Rat.divInt (a.num * b.num) (a.den * b.den : Int) := by
  rw [Rat.mul_def', ← Rat.divInt_ofNat]; simp
theorem den0 (a b : Rat) : (a.den * b.den : Int) ≠ 0 := by
  have h1 := a.den_pos
  have h2 := b.den_pos
  have := Nat.mul_pos h1 h2
  have e : ((a.den * b.den : Nat) : Int) = (a.den * b.den : Int) := by simp
  omega
theorem den_abs (a b : Rat) : ((a.den : Int) * (b.den : Int)).natAbs = a.den * b.den := by rw [Int.natAbs_mul]; simp
theorem den_sz {k l : Nat} {a b : Rat} (ha : Sz k a) (hb : Sz l b) : ((a.den : Int) * (b.den : Int)).natAbs < 2 ^ (4 * (k + l)) := by
  rw [den_abs, Nat.mul_add, Nat.pow_add]
  exact Nat.mul_lt_mul'' ha.d hb.d
theorem mulnum_sz {k l : Nat} {a b : Rat} (ha : Sz k a) (hb : Sz l b) : (a.num * b.num).natAbs < 2 ^ (110 * (k + l)) := by
  rw [Int.natAbs_mul, Nat.mul_add, Nat.pow_add]
  exact Nat.mul_lt_mul'' ha.n hb.n
theorem addnum_sz {k l : Nat} {a b : Rat} (ha : Sz k a) (hb : Sz l b) (hk : 1 ≤ k) (hl : 1 ≤ l) : (a.num * b.den + b.num * a.den).natAbs < 2 ^ (110 * (k + l)) := by
  have h1 : (a.num * b.den).natAbs < 2 ^ (110 * k + 4 * l) := by
    rw [Int.natAbs_mul, Nat.pow_add]
    exact Nat.mul_lt_mul'' ha.n (by simpa using hb.d)
  have h2 : (b.num * a.den).natAbs < 2 ^ (110 * l + 4 * k) := by
    rw [Int.natAbs_mul, Nat.pow_add]
    exact Nat.mul_lt_mul'' hb.n (by simpa using ha.d)
  have p1 : 2 ^ (110 * k + 4 * l) ≤ 2 ^ (110 * (k + l) - 1) := Nat.pow_le_pow_right (by decide) (by omega)
  have p2 : 2 ^ (110 * l + 4 * k) ≤ 2 ^ (110 * (k + l) - 1) := Nat.pow_le_pow_right (by decide) (by omega)
  have p3 : 2 ^ (110 * (k + l)) = 2 * 2 ^ (110 * (k + l) - 1) := by rw [← Nat.pow_succ']; congr 1; omega
  have := Int.natAbs_add_le (a.num * b.den) (b.num * a.den)
  omega
theorem Sz.mul {k l : Nat} {a b : Rat} (ha : Sz k a) (hb : Sz l b) : Sz (k + l) (a * b) := by
  rw [mul_eq]
  exact ⟨Nat.lt_of_le_of_lt (divInt_num_le ..) (mulnum_sz ha hb), Nat.lt_of_le_of_lt (divInt_den_le _ _ (den0 a b)) (den_sz ha hb)⟩
theorem Sz.add {k l : Nat} {a b : Rat} (ha : Sz k a) (hb : Sz l b) (hk : 1 ≤ k) (hl : 1 ≤ l) : Sz (k + l) (a + b) := by
  rw [add_eq]
  exact ⟨Nat.lt_of_le_of_lt (divInt_num_le ..) (addnum_sz ha hb hk hl), Nat.lt_of_le_of_lt (divInt_den_le _ _ (den0 a b)) (den_sz ha hb)⟩
theorem Sz.int {i : Int} (h : i.natAbs < 2 ^ 110) : Sz 1 (i : Rat) := ⟨by simpa using h, by simp⟩

/-! ### Euclid's turns -/
/-- one turn of a, b = b, a mod b -/
theorem eu_half {a b : Nat} (hb : 0 < b) (h : b ≤ a) : a % b ≤ a / 2 := by
  have h1 := Nat.mod_lt a hb
  have h2 := Nat.div_add_mod a b
  have h3 : 1 ≤ a / b := (Nat.one_le_div_iff hb).mpr h
  have h4 : b * 1 ≤ b * (a / b) := Nat.mul_le_mul_left b h3
  omega
end MP
set_option Elab.async false
set_option linter.all false
set_option maxRecDepth 100000
set_option maxHeartbeats 4000000
/-! The dice. -/
namespace MP
open PySem

/-- all but the place nd is as it was -/
structure Ed (nd : Nat) (S T : Sto) : Prop where
  len : S.length ≤ T.length
  at_ : ∀ n, n < S.length → n ≠ nd → T[n]? = S[n]?
theorem Ed.refl {nd : Nat} {S : Sto} : Ed nd S S := ⟨Nat.le_refl _, fun _ _ _ => rfl⟩
theorem Ed.trans {nd : Nat} {S T U : Sto} (a : Ed nd S T) (b : Ed nd T U) : Ed nd S U := ⟨Nat.le_trans a.len b.len, fun n h e => (b.at_ n (Nat.lt_of_lt_of_le h a.len) e).trans (a.at_ n h e)⟩
theorem Ex.ed {nd : Nat} {S T : Sto} (a : Ex S T) : Ed nd S T := ⟨a.len, fun n h _ => a.at_ n h⟩
theorem Ed.app {nd : Nat} {S T : Sto} (R : Sto) (a : Ed nd S T) : Ed nd S (T ++ R) := a.trans (Ex.refl.app R).ed
theorem Ed.put {nd : Nat} {S T : Sto} {o : SO} (a : Ed nd S T) : Ed nd S (T.set nd o) := ⟨by rw [List.length_set]; exact a.len, fun n h e => by rw [List.getElem?_set_ne (Ne.symm e)]; exact a.at_ n h e⟩
theorem Ed.get {nd : Nat} {S T : Sto} (a : Ed nd S T) {n : Nat} {o : SO} (h : S[n]? = some o) (e : n ≠ nd) : T[n]? = some o := by
  rw [a.at_ n (List.getElem?_eq_some_iff.mp h).1 e]; exact h
structure Dice (S : Sto) (nd : Nat) (c : Nat) : Prop where
  ex : ∃ (a b : Int) (k : Nat), S[nd]? = some (.lst [.int a, .int b, .int (k : Int)]) ∧ k ≤ c
theorem Dice.lt {S : Sto} {nd c : Nat} (h : Dice S nd c) : nd < S.length := by
  obtain ⟨a, b, k, h, _⟩ := h.ex
  exact (List.getElem?_eq_some_iff.mp h).1
theorem Dice.up {S T : Sto} {nd c c' : Nat} (h : Dice S nd c) (e : Ex S T) (hc : c ≤ c') : Dice T nd c' := by
  obtain ⟨a, b, k, h, hk⟩ := h.ex
  exact ⟨a, b, k, e.get h, by omega⟩
theorem set_get {S : Sto} {n : Nat} {o o' : SO} (h : S[n]? = some o) : (S.set n o')[n]? = some o' := by
  rw [List.getElem?_set_self (List.getElem?_eq_some_iff.mp h).1]
theorem putD_ref {S : Sto} {n : Nat} {ds : List D} {k : Int} {d : D} (h : S[n]? = some (.lst ds)) : putD (.ref n) (.int k) d S = match L2.ixN ds.length k with
  | some j => .ok () (S.set n (.lst (ds.set j d)))
  | none => .stuck := by
  unfold putD
  simp only [h]
  try rfl
theorem szMul_small {i j : Int} (hi : i.natAbs < 2 ^ 200) (hj : j.natAbs < 2 ^ 200) : szMul i j = true := szMul_of hi hj (by decide)

/-! ### membership in a tuple -/
theorem dInB_en {α : Type} [En α] [DecidableEq α] {n : Bool} (a : α) (l : List α) {S : Sto} (h : En.dep α ≤ 59) : dInB n (En.d a) (.tup (l.map En.d)) S = .ok (.bl (if n then !decide (a ∈ l) else decide (a ∈ l))) S := by
  have e1 : toPy 60 S (.tup (l.map En.d)) = some (.tuple (l.map En.p)) := en_py (α := List α) l (by show En.dep α + 1 ≤ 60; omega)
  have e2 : SeqAt.shaped (.tuple (l.map En.p)) = true := shaped_en (α := List α) l (by show En.dep α + 1 ≤ 60; omega)
  unfold dInB
  rw [en_py a (by omega), e1]
  show (if (SeqAt.shaped (En.p a) && SeqAt.shaped (.tuple (l.map En.p))) = true then _ else _) = _
  rw [shaped_en a (by omega), e2, Bool.and_self, if_pos rfl]
  have e : ((l.map En.p).any fun z => PyData.eqv z (En.p a)) = decide (a ∈ l) := by
    rw [Bool.eq_iff_iff, decide_eq_true_eq, List.any_eq_true]
    constructor
    · rintro ⟨z, hz, e⟩
      obtain ⟨b, hb, rfl⟩ := List.mem_map.mp hz
      rw [En.eq] at e
      exact e ▸ hb
    · intro hm
      exact ⟨_, List.mem_map_of_mem hm, (En.eq _ _).mpr rfl⟩
  rw [e]
/-! ### comprehensions, in general -/
theorem lc_gen {ok : Sto → Bool} {t : Tg} {c : Ft} {e : Fe} {ρ : Rho} (I : List D → List D → Sto → Prop)
    (hs : ∀ d ds acc S, I (d :: ds) acc S → ∃ ρ1, setT t d ρ = some ρ1 ∧ Wp (c ρ1 S) fun k U => if k = true then Wp (e ρ1 U) (fun y V => ok V = true ∧ I ds (acc ++ [y]) V) else ok U = true ∧ I ds acc U) :
    ∀ {ds acc : List D} {S : Sto}, I ds acc S → Wp (lcL ok t c e ρ ds S) fun ys T => I [] (acc ++ ys) T
  | [], acc, S, h => by
    show I [] (acc ++ []) S
    rw [List.append_nil]; exact h
  | d :: ds, acc, S, h => by
    obtain ⟨ρ1, h1, h2⟩ := hs d ds acc S h
    obtain ⟨k, U, h3, h4⟩ := h2.out
    unfold lcL
    rw [h1]
    show Wp (match c ρ1 S with
      | .ok true S1 => (match e ρ1 S1 with
        | .ok y S2 => if ok S2 = true then (lcL ok t c e ρ ds S2).bind fun ys S3 => .ok (y :: ys) S3 else .stuck
        | _ => .stuck)
      | .ok false S1 => if ok S1 = true then lcL ok t c e ρ ds S1 else .stuck
      | _ => .stuck) _
    rw [h3]
    cases k with
    | false =>
      show Wp (if ok U = true then _ else _) _
      obtain ⟨h5, h6⟩ := h4
      rw [if_pos h5]
      exact lc_gen I hs h6
    | true =>
      obtain ⟨y, V, h7, h8, h9⟩ := (show Wp (e ρ1 U) (fun y V => ok V = true ∧ I ds (acc ++ [y]) V) from h4).out
      show Wp (match e ρ1 U with
        | .ok y S2 => if ok S2 = true then (lcL ok t c e ρ ds S2).bind fun ys S3 => .ok (y :: ys) S3 else .stuck
        | _ => .stuck) _
      rw [h7]
      show Wp (if ok V = true then _ else _) _
      rw [if_pos h8, wp_bind]
      refine (lc_gen I hs h9).mono fun ys T hT => ?_
      show I [] (acc ++ y :: ys) T
      rw [show acc ++ y :: ys = (acc ++ [y]) ++ ys by simp]
      exact hT

/-! ### a number as the package takes it: whole, or a fraction -/
inductive Num where
  | i (n : Int)
  | f (q : Rat)
  deriving DecidableEq
def Num.q : Num → Rat
  | .i n => (n : Rat)
  | .f q => q
def Num.d : Num → D
  | .i n => .int n
  | .f q => fr q
def Num.p : Num → PyData
  | .i n => .int n
  | .f q => .tuple [.int q.num, .int q.den]
instance : En Num where
  d := Num.d
  p := Num.p
  dep := 2
  hp := fun a n S => by
    cases a with
    | i k => exact en_py (α := Int) k (show 1 ≤ 2 + n by omega)
    | f q => exact en_py (α := Rat) q (show 2 ≤ 2 + n by omega)
  lay := fun a => by
    cases a with
    | i k => exact En.lay (α := Int) k
    | f q => exact En.lay (α := Rat) q
  hd := fun a => by
    cases a with
    | i k => exact Nat.le_trans (En.hd (α := Int) k) (by decide)
    | f q => exact En.hd (α := Rat) q
  eq := fun a b => by
    cases a with
    | i k =>
      cases b with
      | i j => simp [Num.p, PyData.eqv]
      | f q => simp [Num.p, PyData.eqv]
    | f q =>
      cases b with
      | i j => simp [Num.p, PyData.eqv]
      | f r =>
        have := En.eq (α := Rat) q r
        simp only [Num.f.injEq]
        exact this
/-- accepted by is_number; of weight 1 -/
structure Num.Ok (x : Num) : Prop where
  sz : Sz 1 x.q
  lt : ∀ n, x = .i n → n.natAbs < 10 ^ 60
def Num.z (x : Num) : Bool := decide (x.q = 0)

theorem get_app {T R : Sto} {n : Nat} {o : SO} (h : T[n]? = some o) : (T ++ R)[n]? = some o := by
  rw [List.getElem?_append_left (List.getElem?_eq_some_iff.mp h).1]; exact h
@[simp] theorem get_new {T : Sto} {o : SO} : (T ++ [o])[T.length]? = some o := by simp
theorem Ed.set {nd : Nat} {S T : Sto} {n : Nat} {o : SO} (a : Ed nd S T) (h : S.length ≤ n) : Ed nd S (T.set n o) := ⟨by rw [List.length_set]; exact a.len, fun m hm e => by rw [List.getElem?_set_ne (by omega)]; exact a.at_ m hm e⟩
theorem Dice.set {T : Sto} {nd c n : Nat} {o : SO} (h : Dice T nd c) (e : n ≠ nd) : Dice (T.set n o) nd c := by
  obtain ⟨a, b, k, h, hk⟩ := h.ex
  exact ⟨a, b, k, by rw [List.getElem?_set_ne e]; exact h, hk⟩
theorem Dice.app {T R : Sto} {nd c : Nat} (h : Dice T nd c) : Dice (T ++ R) nd c := h.up (Ex.refl.app R) (Nat.le_refl _)
theorem mPop_ref {T : Sto} {n : Nat} {ds : List D} (h : T[n]? = some (.lst ds)) : mPop (.ref n) [] T = match ds[ds.length - 1]? with
  | some y => .ok y (T.set n (.lst ds.dropLast))
  | none => .stuck := by
  unfold mPop
  simp only [h]
  try rfl
/-! ### what loops walk -/
section
variable {ρ : Rho} {S : Sto} {Q : Src → Sto → Prop}
@[simp] theorem src_ok0 {l : List D} : (Src.mk l []).ok S = true := rfl
theorem fitI_no {j : Int} (h : ¬ j.natAbs ≤ 4000000000000000000) : fitI j = false := by
  cases e : fitI j with
  | false => rfl
  | true => exact absurd (Nat.le_of_ble_eq_true e) h
@[simp] theorem wp_iR1 {f : Fs} : Wp (iR1 f ρ S) Q = Wp (f ρ S) (fun ds S1 => match ds with
  | [.int j] => if j.natAbs ≤ 4000000000000000000 then Q ⟨rngD 0 j.toNat, []⟩ S1 else False
  | _ => False) := by
  unfold iR1
  rw [wp_bind]
  congr 1; funext ds S1
  exact match ds with
    | [] => rfl
    | [.int j] => by
      by_cases h : j.natAbs ≤ 4000000000000000000
      · have e := fitI_ok h
        simp [e, h]
      · have e : fitI j = false := fitI_no h
        simp [e, h]
    | [.non] => rfl
    | [.bl _] => rfl
    | [.str _] => rfl
    | [.tup _] => rfl
    | [.fl _] => rfl
    | [.ref _] => rfl
    | [.fn _] => rfl
    | _ :: _ :: _ => by simp
@[simp] theorem wp_iR2 {f : Fs} : Wp (iR2 f ρ S) Q = Wp (f ρ S) (fun ds S1 => match ds with
  | [.int i, .int j] => if i.natAbs ≤ 4000000000000000000 ∧ j.natAbs ≤ 4000000000000000000 then Q ⟨rngD i (j - i).toNat, []⟩ S1 else False
  | _ => False) := by
  unfold iR2
  rw [wp_bind]
  congr 1; funext ds S1
  exact match ds with
    | [] => rfl
    | [x] => by cases x <;> rfl
    | [.int i, .int j] => by
      by_cases h : i.natAbs ≤ 4000000000000000000
      · by_cases h' : j.natAbs ≤ 4000000000000000000
        · have e := fitI_ok h
          have e' := fitI_ok h'
          simp [e, e', h, h']
        · have e' : fitI j = false := fitI_no h'
          simp [e', h']
      · have e : fitI i = false := fitI_no h
        simp [e, h]
    | [.non, _] => rfl
    | [.bl _, _] => rfl
    | [.str _, _] => rfl
    | [.tup _, _] => rfl
    | [.fl _, _] => rfl
    | [.ref _, _] => rfl
    | [.fn _, _] => rfl
    | [.int _, .non] => rfl
    | [.int _, .bl _] => rfl
    | [.int _, .str _] => rfl
    | [.int _, .tup _] => rfl
    | [.int _, .fl _] => rfl
    | [.int _, .ref _] => rfl
    | [.int _, .fn _] => rfl
    | x :: y :: z :: l => by cases x <;> first | rfl | (cases y <;> rfl)
@[simp] theorem wp_iD {f : Fe} : Wp (iD f ρ S) Q = Wp (f ρ S) (fun d S1 => Wp (srcD d S1) Q) := by unfold iD; rw [wp_bind]
@[simp] theorem wp_iEn {f : Fs} : Wp (iEn f ρ S) Q = Wp (f ρ S) (fun d S1 => Wp (enumS d S1) Q) := by unfold iEn; rw [wp_bind]
@[simp] theorem wp_iZp {f : Fs} : Wp (iZp f ρ S) Q = Wp (f ρ S) (fun d S1 => Wp (zipS d S1) Q) := by unfold iZp; rw [wp_bind]
@[simp] theorem srcD_tup {l : List D} : srcD (.tup l) S = .ok ⟨l, []⟩ S := rfl
@[simp] theorem srcD_fl {l : List D} : srcD (.fl l) S = .ok ⟨l, []⟩ S := rfl
theorem srcD_ref {n : Nat} {l : List D} (h : S[n]? = some (.lst l)) : srcD (.ref n) S = .ok ⟨l, [(n, l)]⟩ S := by unfold srcD; simp only [h]
@[simp] theorem enumS_tup {l : List D} : enumS [.tup l] S = .ok ⟨enumD l, []⟩ S := rfl
@[simp] theorem zipS_tup {l m : List D} : zipS [.tup l, .tup m] S = .ok ⟨zipD l m, []⟩ S := rfl
theorem zipS_ref {n k : Nat} {l m : List D} (h : S[n]? = some (.lst l)) (h' : S[k]? = some (.lst m)) : zipS [.ref n, .ref k] S = .ok ⟨zipD l m, [(n, l), (k, m)]⟩ S := by
  unfold zipS lstG
  simp [h, h']
theorem rngD_cons {lo : Int} {n : Nat} : rngD lo (n + 1) = .int lo :: rngD (lo + 1) n := by
  unfold rngD
  rw [List.range_succ_eq_map, List.map_cons, List.map_map]
  simp only [List.cons.injEq, D.int.injEq]
  refine ⟨by simp, List.map_congr_left fun i _ => ?_⟩
  show D.int (lo + ((i + 1 : Nat) : Int)) = D.int (lo + 1 + i)
  congr 1; omega
@[simp] theorem rngD_zero {lo : Int} : rngD lo 0 = [] := rfl
@[simp] theorem rngD_length {lo : Int} {n : Nat} : (rngD lo n).length = n := by unfold rngD; simp
end
theorem Num.z_in {x : Num} : decide (x ∈ [Num.i 0, Num.f 0]) = decide (x.q = 0) := by
  cases x with
  | i n =>
    rw [Bool.eq_iff_iff, decide_eq_true_eq, decide_eq_true_eq]
    simp only [List.mem_cons, Num.i.injEq, List.not_mem_nil, or_false, reduceCtorEq]
    show n = 0 ↔ (n : Rat) = 0
    exact Rat.intCast_eq_zero_iff.symm
  | f q =>
    rw [Bool.eq_iff_iff, decide_eq_true_eq, decide_eq_true_eq]
    simp only [List.mem_cons, Num.f.injEq, List.not_mem_nil, or_false, reduceCtorEq, false_or]
    exact Iff.rfl
end MP
set_option Elab.async false
set_option linter.all false
set_option maxRecDepth 100000
set_option maxHeartbeats 4000000
/-! The whole root. -/
namespace MP
open PySem
theorem sq_lt {a b : Nat} (h : a * a < b * b) : a < b := by
  by_cases hc : b ≤ a
  · have := Nat.mul_le_mul hc hc
    omega
  · omega
theorem amgm (a b : Nat) : 4 * (a * b) ≤ (a + b) * (a + b) := by
  rcases Nat.le_total a b with h | h
  · obtain ⟨d, rfl⟩ : ∃ d, b = a + d := ⟨b - a, by omega⟩
    have e1 := Nat.mul_comm a d
    simp only [Nat.add_mul, Nat.mul_add]
    have := Nat.zero_le (d * d)
    omega
  · obtain ⟨d, rfl⟩ : ∃ d, a = b + d := ⟨a - b, by omega⟩
    have e1 := Nat.mul_comm b d
    simp only [Nat.add_mul, Nat.mul_add]
    have := Nat.zero_le (d * d)
    omega
theorem root8 : ∀ n : Nat, n < 8 → Float64.rootBelow8 n * Float64.rootBelow8 n ≤ n ∧ n < (Float64.rootBelow8 n + 1) * (Float64.rootBelow8 n + 1) := by decide
theorem newton {n k r : Nat} (h1 : r * r * 4 ^ k ≤ n) (h2 : n < (r + 1) * (r + 1) * 4 ^ k) (h3 : 2 ^ k ≤ 2 * (r + 1)) : ∀ x y, x = (r + 1) * 2 ^ k → y = (x + n / x) / 2 → (y - 1) * (y - 1) ≤ n ∧ n < (y + 1) * (y + 1) := by
  intro x y hx hy
  have e4 : (4 : Nat) ^ k = 2 ^ k * 2 ^ k := by rw [show (4 : Nat) = 2 * 2 by rfl, Nat.mul_pow]
  generalize hp : 2 ^ k = p at *
  have p1 : 1 ≤ p := by rw [← hp]; exact Nat.one_le_two_pow
  rw [e4] at h1 h2
  have x1 : 1 ≤ x := by
    rw [hx]
    exact Nat.mul_pos (Nat.succ_pos r) p1
  have xx : n < x * x := by
    rw [hx]
    have : (r + 1) * (r + 1) * (p * p) = (r + 1) * p * ((r + 1) * p) := by
      rw [Nat.mul_mul_mul_comm]
    omega
  have q1 : x * (n / x) ≤ n := Nat.mul_div_le n x
  have q2 : n < x * (n / x + 1) := by
    have := Nat.lt_mul_div_succ n x1
    exact this
  have q3 : n / x < x := by
    apply Nat.div_lt_of_lt_mul
    exact xx
  generalize n / x = q at *
  have y1 : 2 * y ≤ x + q := by omega
  have y2 : x + q ≤ 2 * y + 1 := by omega
  refine ⟨?_, ?_⟩
  · -- upper
    rcases Nat.lt_or_ge n ((y - 1) * (y - 1)) with hlt | hge
    · exfalso
      generalize ht : y - 1 = t at hlt
      have ty : y = t + 1 := by
        rcases Nat.eq_zero_or_pos y with h0 | h0
        · subst h0
          have : t = 0 := by omega
          subst this
          omega
        · omega
      subst ty
      have tx : t < x := by omega
      have rt : r * p < t := by
        apply sq_lt
        have : r * p * (r * p) = r * r * (p * p) := by rw [Nat.mul_mul_mul_comm]
        omega
      have ex : x = r * p + p := by rw [hx, Nat.add_mul, Nat.one_mul]
      obtain ⟨d, hd⟩ : ∃ d, x = t + d := ⟨x - t, by omega⟩
      have dp : d < p := by omega
      have dd : d * d ≤ p * p := Nat.mul_le_mul (Nat.le_of_lt dp) (Nat.le_of_lt dp)
      have pp : p * p ≤ 2 * x := by
        rw [hx]
        have := Nat.mul_le_mul_right p h3
        rw [Nat.mul_assoc] at this
        exact this
      -- 2 (t+1) x ≤ x x + n
      have k1 : 2 * (t + 1) * x ≤ (x + q) * x := Nat.mul_le_mul_right x y1
      have k2 : (x + q) * x = x * x + x * q := by rw [Nat.add_mul, Nat.mul_comm q x]
      have k3 : 2 * (t + 1) * x = 2 * (t * x) + 2 * x := by rw [Nat.mul_assoc, Nat.add_mul, Nat.one_mul, Nat.mul_add]
      have k4 : x * x = t * t + 2 * (t * d) + d * d := by
        rw [hd, Nat.add_mul, Nat.mul_add, Nat.mul_add, Nat.mul_comm d t]
        omega
      have k5 : t * x = t * t + t * d := by rw [hd, Nat.mul_add]
      omega
    · exact hge
  · -- lower
    have s1 := amgm x (q + 1)
    have s2 : (x + (q + 1)) * (x + (q + 1)) ≤ (2 * (y + 1)) * (2 * (y + 1)) := Nat.mul_le_mul (by omega) (by omega)
    have s3 : (2 * (y + 1)) * (2 * (y + 1)) = 4 * ((y + 1) * (y + 1)) := by rw [Nat.mul_mul_mul_comm]
    omega
theorem root_ok : ∀ (l n : Nat), n.log2 ≤ l → Float64.rootByHalves l n * Float64.rootByHalves l n ≤ n ∧ n < (Float64.rootByHalves l n + 1) * (Float64.rootByHalves l n + 1)
  | 0, n, h => by
    have : n < 8 := by
      by_cases h0 : n = 0
      · omega
      · have h1 := (Nat.log2_lt (k := 1) h0).mp (by omega)
        omega
    exact root8 n this
  | l + 1, n, h => by
    unfold Float64.rootByHalves
    by_cases h8 : n < 8
    · rw [if_pos h8]; exact root8 n h8
    · rw [if_neg h8]
      dsimp only
      have n0 : n ≠ 0 := by omega
      have hL : 3 ≤ n.log2 := (Nat.le_log2 n0).mpr (by omega)
      have lo : 2 ^ n.log2 ≤ n := Nat.log2_self_le n0
      generalize hk : (n.log2 + 1) / 4 = k
      have k1 : 1 ≤ k := by omega
      have k2 : 4 * k ≤ n.log2 + 1 := by omega
      have p4 : 0 < 4 ^ k := Nat.pow_pos (by decide)
      have hm : (n / 4 ^ k).log2 ≤ l := by
        by_cases hz : n / 4 ^ k = 0
        · rw [hz, Nat.log2_zero]; omega
        · have : (n / 4 ^ k).log2 < n.log2 := by
            rw [Nat.log2_lt hz]
            apply Nat.div_lt_of_lt_mul
            have h1 : n < 2 ^ (n.log2 + 1) := Nat.lt_log2_self
            have h2 : 2 ^ (n.log2 + 1) = 2 * 2 ^ n.log2 := by rw [Nat.pow_succ, Nat.mul_comm]
            have h3 : 4 ≤ 4 ^ k := by
              have := Nat.pow_le_pow_right (n := 4) (by decide) k1
              simpa using this
            have h4 := Nat.mul_le_mul_right (2 ^ n.log2) h3
            have : 0 < 2 ^ n.log2 := Nat.two_pow_pos _
            omega
          omega
      obtain ⟨g1, g2⟩ := root_ok l (n / 4 ^ k) hm
      generalize Float64.rootByHalves l (n / 4 ^ k) = r at g1 g2
      have h1 : r * r * 4 ^ k ≤ n := Nat.le_trans (Nat.mul_le_mul_right _ g1) (Nat.div_mul_le_self ..)
      have h2 : n < (r + 1) * (r + 1) * 4 ^ k := by
        have := Nat.lt_mul_div_succ n p4
        have e := Nat.mul_le_mul_right (4 ^ k) (show n / 4 ^ k + 1 ≤ (r + 1) * (r + 1) by omega)
        rw [Nat.mul_comm] at this
        omega
      have h3 : 2 ^ k ≤ 2 * (r + 1) := by
        rcases Nat.lt_or_ge (2 * (r + 1)) (2 ^ k) with hl | hg
        · exfalso
          have a1 : 2 * (r + 1) * (2 * (r + 1)) < 2 ^ k * 2 ^ k := Nat.mul_lt_mul'' hl hl
          have a2 : 2 * (r + 1) * (2 * (r + 1)) = 4 * ((r + 1) * (r + 1)) := by rw [Nat.mul_mul_mul_comm]
          have a3 : 2 ^ k * 2 ^ k = 4 ^ k := by rw [← Nat.mul_pow]
          -- 4 n < 4 (r+1)^2 4^k < 4^k 4^k
          have a4 : 4 * ((r + 1) * (r + 1)) * 4 ^ k < 4 ^ k * 4 ^ k := Nat.mul_lt_mul_of_pos_right (by omega) p4
          have a5 : (4 : Nat) ^ k * 4 ^ k = 2 ^ (4 * k) := by
            rw [show (4 : Nat) = 2 ^ 2 by rfl, ← Nat.pow_mul, ← Nat.pow_add]
            congr 1; omega
          have a6 : 2 ^ (4 * k) ≤ 2 ^ (n.log2 + 1) := Nat.pow_le_pow_right (by decide) k2
          have a7 : 2 ^ (n.log2 + 1) = 2 * 2 ^ n.log2 := by rw [Nat.pow_succ, Nat.mul_comm]
          have a8 : 4 * ((r + 1) * (r + 1)) * 4 ^ k = 4 * ((r + 1) * (r + 1) * 4 ^ k) := Nat.mul_assoc ..
          omega
        · exact hg
      obtain ⟨w1, w2⟩ := newton h1 h2 h3 _ _ rfl rfl
      generalize ((r + 1) * 2 ^ k + n / ((r + 1) * 2 ^ k)) / 2 = y at w1 w2
      show (if y * y > n then y - 1 else y) * (if y * y > n then y - 1 else y) ≤ n ∧ n < ((if y * y > n then y - 1 else y) + 1) * ((if y * y > n then y - 1 else y) + 1)
      by_cases hy : y * y > n
      · rw [if_pos hy]
        refine ⟨w1, ?_⟩
        have y0 : y ≠ 0 := fun z => by rw [z] at hy; omega
        rw [show y - 1 + 1 = y by omega]
        exact hy
      · rw [if_neg hy]
        exact ⟨by omega, w2⟩
theorem isqrt_sq (m : Nat) : Float64.isqrt (m * m) = m := by
  obtain ⟨h1, h2⟩ := root_ok (m * m).log2 (m * m) (Nat.le_refl _)
  have a := sq_lt (a := m) (b := Float64.isqrt (m * m) + 1) h2
  have b : Float64.isqrt (m * m) ≤ m := by
    rcases Nat.lt_or_ge m (Float64.isqrt (m * m)) with h | h
    · have := Nat.mul_lt_mul'' h h
      have h1' : Float64.isqrt (m * m) * Float64.isqrt (m * m) ≤ m * m := h1
      omega
    · exact h
  omega
end MP
set_option Elab.async false
set_option linter.all false
set_option maxRecDepth 100000
set_option maxHeartbeats 4000000
/-! What is a number, a polynomial. -/
namespace MP
open PySem

/-! ### more -/
theorem lc_mapD {ok : Sto → Bool} {t : Tg} {e : Fe} {ρ : Rho} {f : D → D} {Q : List D → Sto → Prop} {ds : List D} {S : Sto}
    (he : ∀ x, x ∈ ds → ∀ T, Ex S T → ∃ ρ1, setT t x ρ = some ρ1 ∧ Wp (e ρ1 T) fun y U => y = f x ∧ Ex T U) (hok : ∀ T, Ex S T → ok T = true)
    (hq : ∀ T, Ex S T → Q (ds.map f) T) : Wp (lcL ok t fYes e ρ ds S) Q := by
  have := lc_map (α := D) (enc := fun d => d) (xs := ds) (S0 := S) (S := S) (ok := ok) (t := t) (e := e) (ρ := ρ) (f := f) (Q := Q) Ex.refl he hok hq
  simpa using this
theorem asBls_map {bs : List Bool} : asBls (bs.map D.bl) = some bs := by
  induction bs with
  | nil => rfl
  | cons b bs ih =>
    show (asBls (bs.map D.bl)).map (b :: ·) = _
    rw [ih]; rfl
theorem nAll_ref {n : Nat} {bs : List Bool} {S : Sto} (h : S[n]? = some (.lst (bs.map D.bl))) : nAll [.ref n] S = .ok (.bl (bs.all id)) S := by
  unfold nAll lstD
  simp only [h]
  rw [asBls_map]
/-! ### what is_number, is_poly tell -/
/-- d's type is known, and its items' -/
structure Td (S : Sto) (d : D) : Prop where
  ty : ∃ a, tyD d S = some a
  its : ∀ ds, d = .tup ds → ∀ e ∈ ds, ∃ a, tyD e S = some a
theorem ty_ex {S T : Sto} {d : D} {a : Ty} (h : tyD d S = some a) (e : Ex S T) : tyD d T = some a := by
  cases d with
  | ref n =>
    unfold tyD at h ⊢
    simp only at h ⊢
    split at h
    · rename_i ds q
      rw [e.get q]; exact h
    · rename_i ds q
      rw [e.get q]; exact h
    · cases h
  | _ => exact h
theorem Td.up {S T : Sto} {d : D} (h : Td S d) (e : Ex S T) : Td T d :=
  ⟨let ⟨a, q⟩ := h.ty; ⟨a, ty_ex q e⟩, fun ds hd x hx => let ⟨a, q⟩ := h.its ds hd x hx; ⟨a, ty_ex q e⟩⟩
theorem Td.num {S : Sto} (x : Num) : Td S x.d := by
  cases x with
  | i n => exact ⟨⟨_, rfl⟩, fun ds h => by cases h⟩
  | f q =>
    refine ⟨⟨_, rfl⟩, fun ds h e he => ?_⟩
    cases (show D.tup [.int q.num, .int q.den] = .tup ds from h)
    simp at he
    rcases he with rfl | rfl
    · exact ⟨_, rfl⟩
    · exact ⟨_, rfl⟩
def wholeB : D → Bool
  | .int _ => true
  | _ => false
def integerB : D → Bool
  | .int i => decide (-1000000000000000000000000000000000000000000000000000000000000 < i) && decide (i < 1000000000000000000000000000000000000000000000000000000000000)
  | _ => false
def fractionB : D → Bool
  | .tup [.int t, .int u] => decide (1 ≤ u) && decide (((Nat.gcd t.natAbs u.natAbs : Nat) : Int) = 1)
  | _ => false
def numberB (d : D) : Bool := integerB d || fractionB d
def topD : D → Int
  | .int i => i
  | .tup (.int t :: _) => t
  | _ => 0
def polyB (ds : List D) : Bool := decide (ds.length ≤ 41) && (ds.all numberB && (match ds.getLast? with
  | none => true
  | some d => decide (topD d ≠ 0)))
theorem whole_ty {d : D} {S : Sto} {a : Ty} (h : tyD d S = some a) : wholeB d = decide (a = .int) := by
  unfold tyD at h
  cases d with
  | ref n =>
    simp only at h
    split at h
    · cases h; rfl
    · cases h; rfl
    · cases h
  | fn i => cases h
  | _ => cases h; rfl
theorem numberB_num {x : Num} (h : x.Ok) : numberB x.d = true := by
  cases x with
  | i n =>
    have := h.lt n rfl
    unfold numberB integerB
    rw [Bool.or_eq_true]
    left
    show (decide _ && decide _) = true
    rw [Bool.and_eq_true, decide_eq_true_eq, decide_eq_true_eq]
    omega
  | f q =>
    unfold numberB
    rw [Bool.or_eq_true]
    right
    show (decide (1 ≤ (q.den : Int)) && decide (((Nat.gcd q.num.natAbs (q.den : Int).natAbs : Nat) : Int) = 1)) = true
    have h1 := q.den_pos
    have h2 := q.reduced
    rw [Bool.and_eq_true, decide_eq_true_eq, decide_eq_true_eq, Int.natAbs_natCast]
    exact ⟨by omega, by rw [show Nat.gcd q.num.natAbs q.den = 1 from h2]; rfl⟩
theorem topD_num {x : Num} : topD x.d ≠ 0 ↔ x.q ≠ 0 := by
  cases x with
  | i n =>
    show n ≠ 0 ↔ (n : Rat) ≠ 0
    exact not_congr Rat.intCast_eq_zero_iff.symm
  | f q =>
    show q.num ≠ 0 ↔ q ≠ 0
    exact not_congr Rat.num_eq_zero

theorem number_num {d : D} (h : numberB d = true) : ∃ x : Num, d = x.d ∧ ∀ n, x = .i n → n.natAbs < 10 ^ 60 := by
  unfold numberB at h
  rw [Bool.or_eq_true] at h
  rcases h with h | h
  · unfold integerB at h
    split at h
    · rename_i i
      rw [Bool.and_eq_true, decide_eq_true_eq, decide_eq_true_eq] at h
      refine ⟨.i i, rfl, fun n e => ?_⟩
      cases e
      omega
    · cases h
  · unfold fractionB at h
    split at h
    · rename_i t u
      rw [Bool.and_eq_true, decide_eq_true_eq, decide_eq_true_eq] at h
      obtain ⟨h1, h2⟩ := h
      refine ⟨.f ⟨t, u.natAbs, by omega, by show Nat.gcd t.natAbs u.natAbs = 1; omega⟩, ?_, fun n e => by cases e⟩
      show D.tup [.int t, .int u] = D.tup [.int t, .int (u.natAbs : Int)]
      have e : (u.natAbs : Int) = u := by omega
      rw [e]
    · cases h
theorem numbers_nums : ∀ {ds : List D}, (∀ d ∈ ds, numberB d = true) → ∃ xs : List Num, ds = xs.map Num.d
  | [], _ => ⟨[], rfl⟩
  | d :: ds, h => by
    obtain ⟨x, rfl, _⟩ := number_num (h d List.mem_cons_self)
    obtain ⟨xs, rfl⟩ := numbers_nums fun e he => h e (List.mem_cons_of_mem _ he)
    exact ⟨x :: xs, rfl⟩
theorem atI_getLast {α : Type} {xs : List α} {x : α} (h : xs.getLast? = some x) : L2.atI xs (-1) = some x := by
  cases xs with
  | nil => cases h
  | cons a l =>
    have := atI_last (xs := a :: l) (k := 0) (by simp)
    rw [List.getLast?_eq_getElem?] at h
    have e : L2.atI (a :: l) (-1) = (a :: l)[(a :: l).length - 1 - 0]? := this
    rw [e]
    exact h
end MP
set_option Elab.async false
set_option linter.all false
set_option maxRecDepth 100000
set_option maxHeartbeats 4000000
/-! The algebra of tuples of webs of two kinds. -/
namespace MQ
def spr (k l m : Int) : Int := (l - m) * (l - m) + 4 * (k - m)
def tlt (n k l m : Int) : Int := 2 * k + (n - 1) * (l - m)
theorem spr_left (n k l m : Int) : spr (n - k - 1) (n - 2 - 2 * k + m) (n - 2 * k + l) = spr k l m := by unfold spr; grind
theorem tlt_left (n k l m : Int) : tlt n (n - k - 1) (n - 2 - 2 * k + m) (n - 2 * k + l) = -tlt n k l m := by unfold tlt; grind
def cntE (n k l m : Int) : Prop := k * (k - l - 1) = (n - k - 1) * m
theorem cnt_left {n k l m : Int} (h : cntE n k l m) : cntE n (n - k - 1) (n - 2 - 2 * k + m) (n - 2 * k + l) := by unfold cntE at *; grind
theorem cnt_left' {n k l m : Int} (h : cntE n (n - k - 1) (n - 2 - 2 * k + m) (n - 2 * k + l)) : cntE n k l m := by unfold cntE at *; grind
theorem tri {n k l m : Int} (h : cntE n k l m) : n * (n - k - 1) * (n - 2 - 2 * k + m) + n * k * l = n * (n - 1) * (n - 2) - 3 * (n * k * (n - 1 - k)) := by unfold cntE at h; grind
/-- the eigenvalues of both -/
theorem eig {k l m r s : Int} (h1 : r + s = l - m) (h2 : (r - s) * (r - s) = spr k l m) : m = k + r * s ∧ l = k + r * s + r + s := by
  unfold spr at h2
  have h3 : 4 * (m - k - r * s) = 0 := by grind
  constructor
  · omega
  · omega
def kE (k t u : Int) : Int := (k + t) * (u + 1) * (u + 1) - (t + 1) * (k + t + 2 * t * u)
theorem krein_key {n k r s : Int} (h : cntE n k (k + r * s + r + s) (k + r * s)) : (k + r * s) * kE (n - k - 1) (-1 - s) (-1 - r) = -(r * (s + 1)) * kE k s r := by
  unfold cntE at h
  unfold kE
  grind
end MQ
set_option Elab.async false
set_option linter.all false
set_option maxRecDepth 100000
set_option maxHeartbeats 4000000
/-! The fault of a tuple, and that of the tuple of the other ties. -/
namespace MQ
open PySem MP
def isq (i : Int) : Int := ((Float64.isqrt i.toNat : Nat) : Int)
theorem isq_nn (i : Int) : 0 ≤ isq i := Int.natCast_nonneg _
def isSq (i : Int) : Bool := decide (0 ≤ i ∧ isq i * isq i = i)
inductive Ft8 where
  | range | count | ties | squares | values | krein | absolute | half | none
  deriving DecidableEq
def rng (n k l m : Int) : Bool := decide (1 ≤ k ∧ k ≤ n - 2 ∧ l < k ∧ m ≤ k ∧ 0 ≤ n - 2 - 2 * k + m ∧ 0 ≤ n - 2 * k + l)
def cnt (n k l m : Int) : Bool := decide (k * (k - l - 1) = (n - k - 1) * m)
def tie (n k l : Int) : Bool := decide ((n * k).fmod 2 = 0 ∧ (n * k * l).fmod 6 = 0)
def hlf (n k l m : Int) : Bool := decide (tlt n k l m = 0) && !isSq (spr k l m)
def two (n : Int) : Bool := (List.range (Float64.isqrt n.toNat + 1)).any fun p => isSq (n - (p : Int) * (p : Int))
def qv (n k l m : Int) : Int := (tlt n k l m).fdiv (isq (spr k l m))
def f1v (n k l m : Int) : Int := (n - 1 - qv n k l m).fdiv 2
def f2v (n k l m : Int) : Int := (n - 1 + qv n k l m).fdiv 2
def okv (n k l m : Int) : Bool := isSq (spr k l m) && decide (isq (spr k l m) ≠ 0 ∧ (tlt n k l m).fmod (isq (spr k l m)) = 0 ∧ (n - 1 - qv n k l m).fmod 2 = 0 ∧ 1 ≤ f1v n k l m ∧ 1 ≤ f2v n k l m)
def onev (k l m : Int) : Int := (l - m + isq (spr k l m)).fdiv 2
def othv (k l m : Int) : Int := (l - m - isq (spr k l m)).fdiv 2
def kk (k t u : Int) : Bool := decide ((t + 1) * (k + t + 2 * t * u) ≤ (k + t) * (u + 1) * (u + 1))
def kre (k l m : Int) : Bool := !kk k (onev k l m) (othv k l m) || !kk k (othv k l m) (onev k l m)
def abf (n k l m : Int) : Bool := decide (m ≠ 0 ∧ m ≠ k) && (decide (2 * n > f1v n k l m * (f1v n k l m + 3)) || decide (2 * n > f2v n k l m * (f2v n k l m + 3)))
def fault (n k l m : Int) : Ft8 := if rng n k l m = false then .range else if cnt n k l m = false then .count else if tie n k l = false then .ties else if hlf n k l m = true then (if two n = true then .half else .squares)
  else if okv n k l m = false then .values else if kre k l m = true then .krein else if abf n k l m = true then .absolute else .none

theorem par {r d x : Int} (h : r * r = d * d + 4 * x) : (d + r) % 2 = 0 := by
  obtain ⟨a, ha⟩ : ∃ a, r = 2 * a ∨ r = 2 * a + 1 := ⟨r / 2, by omega⟩
  obtain ⟨c, hc⟩ : ∃ c, d = 2 * c ∨ d = 2 * c + 1 := ⟨d / 2, by omega⟩
  rcases ha with rfl | rfl <;> rcases hc with rfl | rfl
  · omega
  · exfalso
    have e : 4 * (a * a) = 4 * (c * c) + 4 * c + 1 + 4 * x := by grind
    generalize a * a = A at e
    generalize c * c = C at e
    omega
  · exfalso
    have e : 4 * (a * a) + 4 * a + 1 = 4 * (c * c) + 4 * x := by grind
    generalize a * a = A at e
    generalize c * c = C at e
    omega
  · omega
/-- what stands behind the values -/
structure Nv (n k l m r q f g t u : Int) : Prop where
  r0 : 0 < r
  rr : r * r = spr k l m
  tq : r * q = tlt n k l m
  ff : 2 * f = n - 1 - q
  gg : 2 * g = n - 1 + q
  f1 : 1 ≤ f
  g1 : 1 ≤ g
  s : t + u = l - m
  d : t - u = r
theorem nv_of {n k l m : Int} (h : okv n k l m = true) : Nv n k l m (isq (spr k l m)) (qv n k l m) (f1v n k l m) (f2v n k l m) (onev k l m) (othv k l m) := by
  unfold okv at h
  simp only [Bool.and_eq_true, decide_eq_true_eq] at h
  obtain ⟨h1, h2, h3, h4, h5, h6⟩ := h
  unfold isSq at h1
  simp only [decide_eq_true_eq] at h1
  have hn := isq_nn (spr k l m)
  have hr : 0 < isq (spr k l m) := by omega
  have hp := par (r := isq (spr k l m)) (d := l - m) (x := k - m) (by rw [h1.2]; rfl)
  have e1 : onev k l m = (l - m + isq (spr k l m)) / 2 := Int.fdiv_eq_ediv_of_nonneg _ (by decide)
  have e2 : othv k l m = (l - m - isq (spr k l m)) / 2 := Int.fdiv_eq_ediv_of_nonneg _ (by decide)
  have e3 : f1v n k l m = (n - 1 - qv n k l m) / 2 := Int.fdiv_eq_ediv_of_nonneg _ (by decide)
  have e4 : f2v n k l m = (n - 1 + qv n k l m) / 2 := Int.fdiv_eq_ediv_of_nonneg _ (by decide)
  have e5 : (n - 1 - qv n k l m).fmod 2 = (n - 1 - qv n k l m) % 2 := Int.fmod_eq_emod_of_nonneg _ (by decide)
  have e6 : isq (spr k l m) * qv n k l m = tlt n k l m := by
    have z := Int.mul_fdiv_add_fmod (tlt n k l m) (isq (spr k l m))
    rw [h3, Int.add_zero] at z
    exact z
  rw [e5] at h4
  refine ⟨hr, h1.2, e6, ?_, ?_, h5, h6, ?_, ?_⟩ <;> omega
section
variable {n k l m r q f g t u : Int}
theorem Nv.sums (h : Nv n k l m r q f g t u) : f + g = n - 1 ∧ k + f * t + g * u = 0 := by
  obtain ⟨h1, h2, h3, h4, h5, h6, h7, h8, h9⟩ := h
  refine ⟨by omega, ?_⟩
  unfold tlt at h3
  have e : 2 * (k + f * t + g * u) = 0 := by grind
  omega
theorem Nv.eig (h : Nv n k l m r q f g t u) : m = k + t * u ∧ l = k + t * u + t + u := MQ.eig h.s (by rw [h.d]; exact h.rr)
theorem Nv.sq (h : Nv n k l m r q f g t u) (hc : cntE n k l m) : k * k + f * t * t + g * u * u = n * k := by
  obtain ⟨e1, e2⟩ := h.sums
  obtain ⟨e3, e4⟩ := h.eig
  unfold cntE at hc
  have e5 : f * t + g * u = -k := by omega
  have e6 : (f * t + g * u) * (t + u) = f * t * t + g * u * u + (f + g) * (t * u) := by grind
  rw [e5, e1] at e6
  grind
theorem sign_mul {a b : Int} (ha : 0 < a) : 0 ≤ a * b ↔ 0 ≤ b := by
  constructor
  · intro h
    rcases Int.lt_or_le b 0 with hb | hb
    · have := Int.mul_neg_of_pos_of_neg ha hb
      omega
    · exact hb
  · exact fun h => Int.mul_nonneg (Int.le_of_lt ha) h
theorem sg {a b c d : Int} (ha : 0 < a) (hc : 0 < c) (h : a * b = c * d) : 0 ≤ b ↔ 0 ≤ d := by rw [← sign_mul ha, h, sign_mul hc]
theorem kk_kE {k t u : Int} : kk k t u = decide (0 ≤ kE k t u) := by
  unfold kk kE
  congr 1
  apply propext
  omega
/-- the krein conditions of both -/
theorem krein_both (h : Nv n k l m r q f g t u) (hr : rng n k l m = true) (hm : 0 ≤ m) (hc : cntE n k l m) :
    (!kk (n - k - 1) (-1 - u) (-1 - t) || !kk (n - k - 1) (-1 - t) (-1 - u)) = (!kk k t u || !kk k u t) := by
  obtain ⟨s1, s2⟩ := h.sums
  obtain ⟨e1, e2⟩ := h.eig
  have hd := h.d
  have r0 := h.r0
  have f1 := h.f1
  have g1 := h.g1
  unfold rng at hr
  simp only [decide_eq_true_eq] at hr
  obtain ⟨b1, b2, b3, b4, b5, b6⟩ := hr
  have tu : t * u ≤ 0 := by omega
  have t0 : 0 ≤ t := by
    rcases Int.lt_or_le t 0 with ht | ht
    · have := Int.mul_pos_of_neg_of_neg ht (show u < 0 by omega)
      omega
    · exact ht
  have tu1 : (t + 1) * (u + 1) ≤ 0 := by
    have : (t + 1) * (u + 1) = t * u + t + u + 1 := by grind
    omega
  have u1 : u ≤ -1 := by
    rcases Int.lt_or_le u 0 with hu | hu
    · omega
    · have := Int.mul_pos (show 0 < t + 1 by omega) (show 0 < u + 1 by omega)
      omega
  have hc2 : (n - k - 1) * m = -(k * ((t + 1) * (u + 1))) := by
    unfold cntE at hc
    grind
  have key1 : m * kE (n - k - 1) (-1 - u) (-1 - t) = -(t * (u + 1)) * kE k u t := by
    have := krein_key (n := n) (k := k) (r := t) (s := u) (by rw [← e2, ← e1]; exact hc)
    rw [← e1] at this
    exact this
  have key2 : m * kE (n - k - 1) (-1 - t) (-1 - u) = -(u * (t + 1)) * kE k t u := by
    have := krein_key (n := n) (k := k) (r := u) (s := t) (by
      have q1 : k + u * t = m := by rw [Int.mul_comm]; omega
      have q2 : k + u * t + u + t = l := by rw [Int.mul_comm u t]; omega
      rw [q2, q1]; exact hc)
    rw [show k + u * t = m by rw [Int.mul_comm]; omega] at this
    exact this
  rw [kk_kE, kk_kE, kk_kE, kk_kE]
  by_cases hm0 : m = 0
  · -- cliques
    subst hm0
    have hu : u = -1 := by
      have z : k * ((t + 1) * (u + 1)) = 0 := by omega
      rcases Int.mul_eq_zero.mp z with z | z
      · omega
      · rcases Int.mul_eq_zero.mp z with z | z <;> omega
    subst hu
    have ht : t = k := by omega
    subst ht
    have s3 : g = t * (1 + f) := by grind
    have s4 : n - t - 1 = f * (1 + t) := by grind
    have q1 : kE t t (-1) = 0 := by unfold kE; grind
    have q2 : kE t (-1) t = (t + 1) * (t + 1) * (t - 1) := by unfold kE; grind
    have q3 : kE (n - t - 1) (-1 - -1) (-1 - t) = (n - t - 1) * ((t + 1) * (t - 1)) := by unfold kE; grind
    have q4 : kE (n - t - 1) (-1 - t) (-1 - -1) = (1 + t) * ((f - 1) * (1 + t)) := by
      unfold kE
      rw [s4]
      grind
    have p1 : 0 ≤ kE t t (-1) := by omega
    have p2 : 0 ≤ kE t (-1) t := by
      rw [q2]
      exact Int.mul_nonneg (Int.mul_nonneg (by omega) (by omega)) (by omega)
    have p3 : 0 ≤ kE (n - t - 1) (-1 - -1) (-1 - t) := by
      rw [q3]
      exact Int.mul_nonneg (by omega) (Int.mul_nonneg (by omega) (by omega))
    have p4 : 0 ≤ kE (n - t - 1) (-1 - t) (-1 - -1) := by
      rw [q4]
      exact Int.mul_nonneg (by omega) (Int.mul_nonneg (by omega) (by omega))
    rw [decide_eq_true p1, decide_eq_true p2, decide_eq_true p3, decide_eq_true p4]
  · have hmp : 0 < m := by omega
    have hu : u ≤ -2 := by
      rcases Int.lt_or_le u (-1) with z | z
      · omega
      · have z1 : u = -1 := by omega
        subst z1
        have z2 : (n - k - 1) * m = 0 := by rw [hc2]; simp
        rcases Int.mul_eq_zero.mp z2 with z | z <;> omega
    have c2 : 0 < -(u * (t + 1)) := by
      have := Int.mul_pos (show 0 < -u by omega) (show 0 < t + 1 by omega)
      rw [Int.neg_mul] at this
      exact this
    have w2 := sg hmp c2 key2
    by_cases ht0 : t = 0
    · subst ht0
      have hmk : m = k := by omega
      have q0 : kE (n - k - 1) (-1 - u) (-1 - 0) = 0 := by
        have z : m * kE (n - k - 1) (-1 - u) (-1 - 0) = 0 := by rw [key1]; simp
        rcases Int.mul_eq_zero.mp z with z | z
        · omega
        · exact z
      have q1 : kE k 0 u = k * ((-u) * (-2 - u)) := by unfold kE; grind
      have p1 : 0 ≤ kE k 0 u := by
        rw [q1]
        exact Int.mul_nonneg (by omega) (Int.mul_nonneg (by omega) (by omega))
      have q2 : kE k u 0 = -u * (k + u) := by unfold kE; grind
      have s3 : k = g * -u := by grind
      have p2 : 0 ≤ kE k u 0 := by
        rw [q2]
        refine Int.mul_nonneg (by omega) ?_
        have : 1 * -u ≤ g * -u := Int.mul_le_mul_of_nonneg_right g1 (by omega)
        omega
      have p3 := w2.mpr p1
      rw [decide_eq_true p1, decide_eq_true p2, decide_eq_true p3, decide_eq_true (show 0 ≤ kE (n - k - 1) (-1 - u) (-1 - 0) by omega)]
    · have c1 : 0 < -(t * (u + 1)) := by
        have := Int.mul_pos (show 0 < t by omega) (show 0 < -(u + 1) by omega)
        rw [Int.mul_neg] at this
        exact this
      have w1 := sg hmp c1 key1
      rw [decide_eq_decide.mpr w1, decide_eq_decide.mpr w2, Bool.or_comm]
/-- the values of both -/
theorem fmod_neg {a r : Int} (hr : 0 < r) : (-a).fmod r = 0 ↔ a.fmod r = 0 := by
  rw [Int.fmod_eq_emod_of_nonneg _ (Int.le_of_lt hr), Int.fmod_eq_emod_of_nonneg _ (Int.le_of_lt hr)]
  rw [← Int.dvd_iff_emod_eq_zero, ← Int.dvd_iff_emod_eq_zero, Int.dvd_neg]
theorem fm2 (a : Int) : a.fmod 2 = a % 2 := Int.fmod_eq_emod_of_nonneg _ (by decide)
theorem fd2 (a : Int) : a.fdiv 2 = a / 2 := Int.fdiv_eq_ediv_of_nonneg _ (by decide)
theorem okv_left (hr : 0 < isq (spr k l m)) : okv n (n - k - 1) (n - 2 - 2 * k + m) (n - 2 * k + l) = okv n k l m ∧ (okv n k l m = true → qv n (n - k - 1) (n - 2 - 2 * k + m) (n - 2 * k + l) = -qv n k l m) := by
  have hq : (tlt n k l m).fmod (isq (spr k l m)) = 0 → qv n (n - k - 1) (n - 2 - 2 * k + m) (n - 2 * k + l) = -qv n k l m := fun hz => by
    unfold qv
    rw [spr_left, tlt_left, Int.fdiv_eq_ediv_of_nonneg _ (Int.le_of_lt hr), Int.fdiv_eq_ediv_of_nonneg _ (Int.le_of_lt hr)]
    rw [Int.fmod_eq_emod_of_nonneg _ (Int.le_of_lt hr)] at hz
    exact Int.neg_ediv_of_dvd (Int.dvd_of_emod_eq_zero hz)
  refine ⟨?_, fun h => ?_⟩
  · unfold okv
    rw [spr_left, tlt_left]
    congr 1
    apply decide_eq_decide.mpr
    constructor
    · rintro ⟨h1, h2, h3, h4, h5⟩
      have hz := (fmod_neg hr).mp h2
      have e := hq hz
      unfold f1v at h4
      unfold f2v at h5
      unfold f1v f2v
      rw [e] at h3 h4 h5
      rw [fm2] at h3 ⊢
      rw [fd2] at h4 h5 ⊢
      rw [fd2]
      exact ⟨h1, hz, by omega, by omega, by omega⟩
    · rintro ⟨h1, hz, h3, h4, h5⟩
      have e := hq hz
      unfold f1v at h4
      unfold f2v at h5
      unfold f1v f2v
      rw [e]
      rw [fm2] at h3 ⊢
      rw [fd2] at h4 h5 ⊢
      rw [fd2]
      exact ⟨h1, (fmod_neg hr).mpr hz, by omega, by omega, by omega⟩
  · unfold okv at h
    simp only [Bool.and_eq_true, decide_eq_true_eq] at h
    exact hq h.2.2.1
theorem tie_left (hc : cntE n k l m) : tie n (n - k - 1) (n - 2 - 2 * k + m) = tie n k l := by
  unfold tie
  apply decide_eq_decide.mpr
  have t := tri hc
  have h2 : n * (n - k - 1) = n * (n - 1) - n * k := by grind
  have e2 : ∃ a, n * (n - 1) = 2 * a := by
    obtain ⟨a, ha⟩ : ∃ a, n = 2 * a ∨ n = 2 * a + 1 := ⟨n / 2, by omega⟩
    rcases ha with rfl | rfl
    · exact ⟨a * (2 * a - 1), by grind⟩
    · exact ⟨(2 * a + 1) * a, by grind⟩
  have e3 : ∃ a, n * (n - 1) * (n - 2) = 3 * a := by
    obtain ⟨a, ha⟩ : ∃ a, n = 3 * a ∨ n = 3 * a + 1 ∨ n = 3 * a + 2 := ⟨n / 3, by omega⟩
    rcases ha with rfl | rfl | rfl
    · exact ⟨a * (3 * a - 1) * (3 * a - 2), by grind⟩
    · exact ⟨(3 * a + 1) * a * (3 * a - 1), by grind⟩
    · exact ⟨(3 * a + 2) * (3 * a + 1) * a, by grind⟩
  have e5 : ∀ x y : Int, x % 2 = 0 → (x * y) % 2 = 0 := fun x y hx => by
    rw [Int.mul_emod, hx]; simp
  obtain ⟨a, ha⟩ := e2
  obtain ⟨b, hb⟩ := e3
  rw [Int.fmod_eq_emod_of_nonneg _ (by decide), Int.fmod_eq_emod_of_nonneg _ (by decide), Int.fmod_eq_emod_of_nonneg _ (by decide), Int.fmod_eq_emod_of_nonneg _ (by decide)]
  have p1 := e5 (n * k) l
  have p2 := e5 (n * (n - k - 1)) (n - 2 - 2 * k + m)
  rw [hb] at t
  generalize n * (n - k - 1) * (n - 2 - 2 * k + m) = X at *
  generalize n * k * l = Y at *
  generalize n * k * (n - 1 - k) = Z at *
  rw [h2, ha] at p2 ⊢
  generalize n * k = W at *
  omega
theorem abf_left (hr : rng n k l m = true) (hc : cntE n k l m) (hq : qv n (n - k - 1) (n - 2 - 2 * k + m) (n - 2 * k + l) = -qv n k l m) : abf n (n - k - 1) (n - 2 - 2 * k + m) (n - 2 * k + l) = abf n k l m := by
  unfold rng at hr
  simp only [decide_eq_true_eq] at hr
  obtain ⟨b1, b2, b3, b4, b5, b6⟩ := hr
  unfold abf
  have e1 : f1v n (n - k - 1) (n - 2 - 2 * k + m) (n - 2 * k + l) = f2v n k l m := by
    unfold f1v f2v
    rw [hq]
    congr 1
    omega
  have e2 : f2v n (n - k - 1) (n - 2 - 2 * k + m) (n - 2 * k + l) = f1v n k l m := by
    unfold f1v f2v
    rw [hq]
    congr 1
  rw [e1, e2, Bool.or_comm]
  congr 1
  apply decide_eq_decide.mpr
  have key : k * (n - 2 * k + l) = (n - k - 1) * (k - m) := by unfold cntE at hc; grind
  have q1 : n - 2 * k + l = 0 ↔ m = k := by
    constructor
    · intro z
      rw [z, Int.mul_zero] at key
      rcases Int.mul_eq_zero.mp key.symm with y | y <;> omega
    · intro z
      rw [z, Int.sub_self, Int.mul_zero] at key
      rcases Int.mul_eq_zero.mp key with y | y <;> omega
  have q2 : n - 2 * k + l = n - k - 1 ↔ m = 0 := by
    unfold cntE at hc
    constructor
    · intro z
      rw [show k - l - 1 = 0 by omega, Int.mul_zero] at hc
      rcases Int.mul_eq_zero.mp hc.symm with y | y <;> omega
    · intro z
      rw [z, Int.mul_zero] at hc
      rcases Int.mul_eq_zero.mp hc with y | y <;> omega
  omega
end
/-- the fault of the tuple of the other ties -/
theorem fault_left {n k l m : Int} (hr : rng n k l m = true) (hl : 0 ≤ l) (hm : 0 ≤ m) : fault n (n - k - 1) (n - 2 - 2 * k + m) (n - 2 * k + l) = fault n k l m := by
  have hr2 : rng n (n - k - 1) (n - 2 - 2 * k + m) (n - 2 * k + l) = true := by
    unfold rng at hr ⊢
    simp only [decide_eq_true_eq] at hr ⊢
    omega
  have hc : cnt n (n - k - 1) (n - 2 - 2 * k + m) (n - 2 * k + l) = cnt n k l m := by
    unfold cnt
    apply decide_eq_decide.mpr
    exact ⟨fun z => cnt_left' z, fun z => cnt_left z⟩
  unfold fault
  rw [hr, hr2, hc]
  by_cases h1 : cnt n k l m = false
  · rw [h1]; rfl
  have h1 : cnt n k l m = true := by simpa using h1
  have hcE : cntE n k l m := by
    unfold cnt at h1
    simp only [decide_eq_true_eq] at h1
    exact h1
  have hh : hlf n (n - k - 1) (n - 2 - 2 * k + m) (n - 2 * k + l) = hlf n k l m := by
    unfold hlf
    rw [spr_left, tlt_left]
    congr 1
    exact decide_eq_decide.mpr (by omega)
  rw [tie_left hcE, hh]
  rcases Int.lt_or_le 0 (isq (spr k l m)) with h0 | h0
  · obtain ⟨o1, o2⟩ := okv_left (n := n) h0
    rw [o1]
    by_cases h2 : okv n k l m = true
    · have nv := nv_of h2
      have hab := abf_left hr hcE (o2 h2)
      have hkr : kre (n - k - 1) (n - 2 - 2 * k + m) (n - 2 * k + l) = kre k l m := by
        have z := krein_both nv hr hm hcE
        unfold kre
        rw [← z]
        have s := nv.s
        have d := nv.d
        have x1 : onev (n - k - 1) (n - 2 - 2 * k + m) (n - 2 * k + l) = -1 - othv k l m := by
          unfold onev
          rw [spr_left, Int.fdiv_eq_ediv_of_nonneg _ (by decide)]
          omega
        have x2 : othv (n - k - 1) (n - 2 - 2 * k + m) (n - 2 * k + l) = -1 - onev k l m := by
          rw [othv, spr_left, Int.fdiv_eq_ediv_of_nonneg _ (by decide)]
          omega
        rw [x1, x2]
      rw [hab, hkr]
    · have h2 : okv n k l m = false := by simpa using h2
      rw [h2]
      rfl
  · have h0 : isq (spr k l m) = 0 := by have := isq_nn (spr k l m); omega
    have n1 : okv n k l m = false := by unfold okv; simp [h0]
    have n2 : okv n (n - k - 1) (n - 2 - 2 * k + m) (n - 2 * k + l) = false := by unfold okv; rw [spr_left]; simp [h0]
    rw [n1, n2]
    rfl
end MQ
set_option Elab.async false
set_option linter.all false
set_option maxRecDepth 100000
set_option maxHeartbeats 4000000
namespace K48
open PySem PySem.Spec PyProof.Rows L2 MP MX LamX
def top (i : Nat) : Stmt := PySem.Challenge.pw_thirdcounts_k48_whole_faults_of_tuples.main.body.getD i (.Pass ⟨0, 0, 0, 0⟩)
def c_ABSOLUTE : D := (.str "absolute")
def c_BOUND : D := (.int 1000000000000000000000000000000000000000000000000000000000000)
def c_COUNT : D := (.str "count")
def c_HALF : D := (.str "half")
def c_KREIN : D := (.str "krein")
def c_MOST_TUPLE : D := (.int 200)
def c_RANGE : D := (.str "range")
def c_SQUARES : D := (.str "squares")
def c_TIES : D := (.str "ties")
def c_VALUES : D := (.str "values")
abbrev st_is_whole : Stmt := top 8
abbrev st_is_integer : Stmt := top 9
abbrev st_is_within : Stmt := top 10
abbrev st_require_within : Stmt := top 11
abbrev st_whole_root : Stmt := top 12
abbrev st_left_in : Stmt := top 23
abbrev st_is_in_range : Stmt := top 24
abbrev st_spread_of : Stmt := top 25
abbrev st_tilt_of : Stmt := top 26
abbrev st_has_half_shape : Stmt := top 27
abbrev st_is_two_squares : Stmt := top 28
abbrev st_numbers_in : Stmt := top 29
abbrev st_eigenvalues_in : Stmt := top 30
abbrev st_keeps_krein : Stmt := top 31
abbrev st_has_krein_fault : Stmt := top 32
abbrev st_has_absolute_fault : Stmt := top 33
abbrev st_fault_in : Stmt := top 34
abbrev st_require_tuple : Stmt := top 35
abbrev st_tuple_fault : Stmt := top 36
abbrev st_is_half : Stmt := top 37
abbrev st_left_tuple : Stmt := top 38
abbrev st_tuple_values : Stmt := top 39
abbrev st__law_dice : Stmt := top 41
abbrev st__law_roll : Stmt := top 42
abbrev st__law_pick : Stmt := top 43
abbrev st__law_tw_root : Stmt := top 45
abbrev st__law_tw_is_square : Stmt := top 44
abbrev st__law_tw_left : Stmt := top 46
abbrev st__law_tw_two_squares : Stmt := top 47
abbrev st__law_tw_is_over : Stmt := top 49
abbrev st__law_tw_fault : Stmt := top 48
abbrev st__law_tw_values : Stmt := top 50
abbrev st__law_tuple_drawn : Stmt := top 51
abbrev st__law_met : Stmt := top 52
abbrev st__law_right : Stmt := top 53
abbrev st_law : Stmt := top 54
/-- which class is below which -/
def subX (i j : Nat) : Bool := [(0, 0), (1, 0), (1, 1), (2, 2), (3, 3)].contains (i, j)
/-- what the head told of the module -/
structure Mo (P : Program) (mg : Str → Option Value) (M : Md) : Prop where
  f_abs : mg "abs" = none
  f_any : mg "any" = none
  f_bool : mg "bool" = none
  f_int : mg "int" = none
  f_isinstance : mg "isinstance" = none
  f_len : mg "len" = none
  f_max : mg "max" = none
  f_min : mg "min" = none
  f_range : mg "range" = none
  g_ABSOLUTE : KonG M mg "ABSOLUTE" c_ABSOLUTE
  g_BOUND : KonG M mg "BOUND" c_BOUND
  g_COUNT : KonG M mg "COUNT" c_COUNT
  g_HALF : KonG M mg "HALF" c_HALF
  g_KREIN : KonG M mg "KREIN" c_KREIN
  g_MOST_TUPLE : KonG M mg "MOST_TUPLE" c_MOST_TUPLE
  g_RANGE : KonG M mg "RANGE" c_RANGE
  g_SQUARES : KonG M mg "SQUARES" c_SQUARES
  g_TIES : KonG M mg "TIES" c_TIES
  g_VALUES : KonG M mg "VALUES" c_VALUES
  g_isqrt : mg "isqrt" = some (.builtin "math.isqrt")
  k_InvalidOperation : Kc0 mg M "InvalidOperation" 1
  k_InvalidNumber : Kc1 P mg M "InvalidNumber" 2 "given"
  k_Refused : Kc1 P mg M "Refused" 3 "reason"
  c_InvalidOperation : mg "InvalidOperation" = some (.ref (M.ca 1))
  c_Refused : mg "Refused" = some (.ref (M.ca 3))
  kf_Refused : Kf M 3 "reason"
  kx : Kx M 4 subX
  d_is_whole : ∃ f fd, FunD M.K "is_whole" "is_whole" (defArgs st_is_whole) (defBody st_is_whole) (defScope st_is_whole) [] [] f fd ∧ mg "is_whole" = some (.ref f)
  d_is_integer : ∃ f fd, FunD M.K "is_integer" "is_integer" (defArgs st_is_integer) (defBody st_is_integer) (defScope st_is_integer) [] [] f fd ∧ mg "is_integer" = some (.ref f)
  d_is_within : ∃ f fd, FunD M.K "is_within" "is_within" (defArgs st_is_within) (defBody st_is_within) (defScope st_is_within) [] [] f fd ∧ mg "is_within" = some (.ref f)
  d_require_within : ∃ f fd, FunD M.K "require_within" "require_within" (defArgs st_require_within) (defBody st_require_within) (defScope st_require_within) [] [] f fd ∧ mg "require_within" = some (.ref f)
  d_whole_root : ∃ f fd, FunD M.K "whole_root" "whole_root" (defArgs st_whole_root) (defBody st_whole_root) (defScope st_whole_root) [] [] f fd ∧ mg "whole_root" = some (.ref f)
  d_left_in : ∃ f fd, FunD M.K "left_in" "left_in" (defArgs st_left_in) (defBody st_left_in) (defScope st_left_in) [] [] f fd ∧ mg "left_in" = some (.ref f)
  d_is_in_range : ∃ f fd, FunD M.K "is_in_range" "is_in_range" (defArgs st_is_in_range) (defBody st_is_in_range) (defScope st_is_in_range) [] [] f fd ∧ mg "is_in_range" = some (.ref f)
  d_spread_of : ∃ f fd, FunD M.K "spread_of" "spread_of" (defArgs st_spread_of) (defBody st_spread_of) (defScope st_spread_of) [] [] f fd ∧ mg "spread_of" = some (.ref f)
  d_tilt_of : ∃ f fd, FunD M.K "tilt_of" "tilt_of" (defArgs st_tilt_of) (defBody st_tilt_of) (defScope st_tilt_of) [] [] f fd ∧ mg "tilt_of" = some (.ref f)
  d_has_half_shape : ∃ f fd, FunD M.K "has_half_shape" "has_half_shape" (defArgs st_has_half_shape) (defBody st_has_half_shape) (defScope st_has_half_shape) [] [] f fd ∧ mg "has_half_shape" = some (.ref f)
  d_is_two_squares : ∃ f fd, FunD M.K "is_two_squares" "is_two_squares" (defArgs st_is_two_squares) (defBody st_is_two_squares) (defScope st_is_two_squares) [] [] f fd ∧ mg "is_two_squares" = some (.ref f)
  d_numbers_in : ∃ f fd, FunD M.K "numbers_in" "numbers_in" (defArgs st_numbers_in) (defBody st_numbers_in) (defScope st_numbers_in) [] [] f fd ∧ mg "numbers_in" = some (.ref f)
  d_eigenvalues_in : ∃ f fd, FunD M.K "eigenvalues_in" "eigenvalues_in" (defArgs st_eigenvalues_in) (defBody st_eigenvalues_in) (defScope st_eigenvalues_in) [] [] f fd ∧ mg "eigenvalues_in" = some (.ref f)
  d_keeps_krein : ∃ f fd, FunD M.K "keeps_krein" "keeps_krein" (defArgs st_keeps_krein) (defBody st_keeps_krein) (defScope st_keeps_krein) [] [] f fd ∧ mg "keeps_krein" = some (.ref f)
  d_has_krein_fault : ∃ f fd, FunD M.K "has_krein_fault" "has_krein_fault" (defArgs st_has_krein_fault) (defBody st_has_krein_fault) (defScope st_has_krein_fault) [] [] f fd ∧ mg "has_krein_fault" = some (.ref f)
  d_has_absolute_fault : ∃ f fd, FunD M.K "has_absolute_fault" "has_absolute_fault" (defArgs st_has_absolute_fault) (defBody st_has_absolute_fault) (defScope st_has_absolute_fault) [] [] f fd ∧ mg "has_absolute_fault" = some (.ref f)
  d_fault_in : ∃ f fd, FunD M.K "fault_in" "fault_in" (defArgs st_fault_in) (defBody st_fault_in) (defScope st_fault_in) [] [] f fd ∧ mg "fault_in" = some (.ref f)
  d_require_tuple : ∃ f fd, FunD M.K "require_tuple" "require_tuple" (defArgs st_require_tuple) (defBody st_require_tuple) (defScope st_require_tuple) [] [] f fd ∧ mg "require_tuple" = some (.ref f)
  d_tuple_fault : ∃ f fd, FunD M.K "tuple_fault" "tuple_fault" (defArgs st_tuple_fault) (defBody st_tuple_fault) (defScope st_tuple_fault) [] [] f fd ∧ mg "tuple_fault" = some (.ref f)
  d_is_half : ∃ f fd, FunD M.K "is_half" "is_half" (defArgs st_is_half) (defBody st_is_half) (defScope st_is_half) [] [] f fd ∧ mg "is_half" = some (.ref f)
  d_left_tuple : ∃ f fd, FunD M.K "left_tuple" "left_tuple" (defArgs st_left_tuple) (defBody st_left_tuple) (defScope st_left_tuple) [] [] f fd ∧ mg "left_tuple" = some (.ref f)
  d_tuple_values : ∃ f fd, FunD M.K "tuple_values" "tuple_values" (defArgs st_tuple_values) (defBody st_tuple_values) (defScope st_tuple_values) [] [] f fd ∧ mg "tuple_values" = some (.ref f)
  d__law_dice : ∃ f fd, FunD M.K "_law_dice" "_law_dice" (defArgs st__law_dice) (defBody st__law_dice) (defScope st__law_dice) [] [] f fd ∧ mg "_law_dice" = some (.ref f)
  d__law_roll : ∃ f fd, FunD M.K "_law_roll" "_law_roll" (defArgs st__law_roll) (defBody st__law_roll) (defScope st__law_roll) [] [] f fd ∧ mg "_law_roll" = some (.ref f)
  d__law_pick : ∃ f fd, FunD M.K "_law_pick" "_law_pick" (defArgs st__law_pick) (defBody st__law_pick) (defScope st__law_pick) [] [] f fd ∧ mg "_law_pick" = some (.ref f)
  d__law_tw_root : ∃ f fd, FunD M.K "_law_tw_root" "_law_tw_root" (defArgs st__law_tw_root) (defBody st__law_tw_root) (defScope st__law_tw_root) [] [] f fd ∧ mg "_law_tw_root" = some (.ref f)
  d__law_tw_is_square : ∃ f fd, FunD M.K "_law_tw_is_square" "_law_tw_is_square" (defArgs st__law_tw_is_square) (defBody st__law_tw_is_square) (defScope st__law_tw_is_square) [] [] f fd ∧ mg "_law_tw_is_square" = some (.ref f)
  d__law_tw_left : ∃ f fd, FunD M.K "_law_tw_left" "_law_tw_left" (defArgs st__law_tw_left) (defBody st__law_tw_left) (defScope st__law_tw_left) [] [] f fd ∧ mg "_law_tw_left" = some (.ref f)
  d__law_tw_two_squares : ∃ f fd, FunD M.K "_law_tw_two_squares" "_law_tw_two_squares" (defArgs st__law_tw_two_squares) (defBody st__law_tw_two_squares) (defScope st__law_tw_two_squares) [] [] f fd ∧ mg "_law_tw_two_squares" = some (.ref f)
  d__law_tw_is_over : ∃ f fd, FunD M.K "_law_tw_is_over" "_law_tw_is_over" (defArgs st__law_tw_is_over) (defBody st__law_tw_is_over) (defScope st__law_tw_is_over) [] [] f fd ∧ mg "_law_tw_is_over" = some (.ref f)
  d__law_tw_fault : ∃ f fd, FunD M.K "_law_tw_fault" "_law_tw_fault" (defArgs st__law_tw_fault) (defBody st__law_tw_fault) (defScope st__law_tw_fault) [] [] f fd ∧ mg "_law_tw_fault" = some (.ref f)
  d__law_tw_values : ∃ f fd, FunD M.K "_law_tw_values" "_law_tw_values" (defArgs st__law_tw_values) (defBody st__law_tw_values) (defScope st__law_tw_values) [] [] f fd ∧ mg "_law_tw_values" = some (.ref f)
  d__law_tuple_drawn : ∃ f fd, FunD M.K "_law_tuple_drawn" "_law_tuple_drawn" (defArgs st__law_tuple_drawn) (defBody st__law_tuple_drawn) (defScope st__law_tuple_drawn) [] [] f fd ∧ mg "_law_tuple_drawn" = some (.ref f)
  d__law_met : ∃ f fd, FunD M.K "_law_met" "_law_met" (defArgs st__law_met) (defBody st__law_met) (defScope st__law_met) [] [] f fd ∧ mg "_law_met" = some (.ref f)
  d__law_right : DefG mg M "_law_right" (defArgs st__law_right) (defBody st__law_right) (defScope st__law_right)
  d_law : DefG mg M "law" (defArgs st_law) (defBody st_law) (defScope st_law)
/-! ### what they do, and that they do it -/
def b_is_whole : Fst := (sRet (dAnd (dIsi .int (dVar 0)) (dNot (dIsi .bool (dVar 0)))))
def F_is_whole : FN := runF 1 b_is_whole
theorem sc_is_whole : FnScope ["value"] ["value"] (defScope st_is_whole) := ⟨rfl, rfl, rfl, by decide +kernel, rfl, by decide +kernel, by decide +kernel⟩
theorem kn_is_whole {P : Program} {w : World} {mg : Str → Option Value} {base : Heap} {M : Md} (m : Mo P mg M) : Kn P w mg base M "is_whole" 1 1 F_is_whole := by
  obtain ⟨f, fd, F, hm⟩ := m.d_is_whole
  exact kn_of (k := 0) F sc_is_whole hm (F.bindsN fun _ _ _ _ _ _ us hl => match us, hl with | [_], _ => rfl) fun cdv A outer s H E hr => (mss_one (ms_ret (me_and (me_isi rfl m.f_isinstance m.f_int rfl (by decide) me_var) (me_one (me_not (me_isi rfl m.f_isinstance m.f_bool rfl (by decide) me_var))))))
def b_is_integer : Fst := (sRet (dAnd (dCall F_is_whole 1 (aCons (dVar 0) aNil)) (dChain dLt dLt (dNeg (dC c_BOUND)) (dVar 0) (dC c_BOUND))))
def F_is_integer : FN := runF 1 b_is_integer
theorem sc_is_integer : FnScope ["value"] ["value"] (defScope st_is_integer) := ⟨rfl, rfl, rfl, by decide +kernel, rfl, by decide +kernel, by decide +kernel⟩
theorem kn_is_integer {P : Program} {w : World} {mg : Str → Option Value} {base : Heap} {M : Md} (m : Mo P mg M) : Kn P w mg base M "is_integer" 2 1 F_is_integer := by
  obtain ⟨f, fd, F, hm⟩ := m.d_is_integer
  exact kn_of (k := 1) F sc_is_integer hm (F.bindsN fun _ _ _ _ _ _ us hl => match us, hl with | [_], _ => rfl) fun cdv A outer s H E hr => (mss_one (ms_ret (me_and (me_call rfl (takes_of rfl rfl rfl rfl) (kn_is_whole m) hr (ma_cons me_var ma_nil)) (me_one (me_chain op_lt o2_lt op_lt o2_lt (me_neg (me_con m.g_BOUND (by rfl))) me_var (me_con m.g_BOUND (by rfl)))))))
def b_is_within : Fst := (sRet (dAnd (dCall F_is_integer 1 (aCons (dVar 0) aNil)) (dChain dLe dLe (dVar 1) (dVar 0) (dVar 2))))
def F_is_within : FN := runF 3 b_is_within
theorem sc_is_within : FnScope ["value", "least", "most"] ["value", "least", "most"] (defScope st_is_within) := ⟨rfl, rfl, rfl, by decide +kernel, rfl, by decide +kernel, by decide +kernel⟩
theorem kn_is_within {P : Program} {w : World} {mg : Str → Option Value} {base : Heap} {M : Md} (m : Mo P mg M) : Kn P w mg base M "is_within" 3 3 F_is_within := by
  obtain ⟨f, fd, F, hm⟩ := m.d_is_within
  exact kn_of (k := 2) F sc_is_within hm (F.bindsN fun _ _ _ _ _ _ us hl => match us, hl with | [_, _, _], _ => rfl) fun cdv A outer s H E hr => (mss_one (ms_ret (me_and (me_call rfl (takes_of rfl rfl rfl rfl) (kn_is_integer m) hr (ma_cons me_var ma_nil)) (me_one (me_chain op_le o2_le op_le o2_le me_var me_var me_var)))))
def b_require_within : Fst := (sIf (fNot (fTru (dCall F_is_within 3 (aCons (dVar 0) (aCons (dVar 1) (aCons (dVar 2) aNil)))))) (sRaise1 2 "given" (dVar 0)) sNil)
def F_require_within : FN := runF 3 b_require_within
theorem sc_require_within : FnScope ["value", "least", "most"] ["value", "least", "most"] (defScope st_require_within) := ⟨rfl, rfl, rfl, by decide +kernel, rfl, by decide +kernel, by decide +kernel⟩
theorem kn_require_within {P : Program} {w : World} {mg : Str → Option Value} {base : Heap} {M : Md} (m : Mo P mg M) : Kn P w mg base M "require_within" 4 3 F_require_within := by
  obtain ⟨f, fd, F, hm⟩ := m.d_require_within
  exact kn_of (k := 3) F sc_require_within hm (F.bindsN fun _ _ _ _ _ _ us hl => match us, hl with | [_, _, _], _ => rfl) fun cdv A outer s H E hr => (mss_one (ms_if (mt_not (mt_tru rfl (me_call rfl (takes_of rfl rfl rfl rfl) (kn_is_within m) hr (ma_cons me_var (ma_cons me_var (ma_cons me_var ma_nil)))))) (mss_one (ms_raise1 rfl rfl (takes_of rfl rfl rfl rfl) m.k_InvalidNumber hr me_var)) mss_nil))
def b_whole_root : Fst := (sSeq (sIf (fB (d2 dLt (dVar 0) (dC (.int 0)))) (sRet (dC .non)) sNil) (sSeq (sSet 1 (dN nIsqrt (aCons (dVar 0) aNil))) (sRet (dIf (fB (d2 dEq (d2 dMul (dVar 1) (dVar 1)) (dVar 0))) (dVar 1) (dC .non)))))
def F_whole_root : FN := runF 2 b_whole_root
theorem sc_whole_root : FnScope ["number", "found"] ["number"] (defScope st_whole_root) := ⟨rfl, rfl, rfl, by decide +kernel, rfl, by decide +kernel, by decide +kernel⟩
theorem kn_whole_root {P : Program} {w : World} {mg : Str → Option Value} {base : Heap} {M : Md} (m : Mo P mg M) : Kn P w mg base M "whole_root" 1 1 F_whole_root := by
  obtain ⟨f, fd, F, hm⟩ := m.d_whole_root
  exact kn_of (k := 0) F sc_whole_root hm (F.bindsN fun _ _ _ _ _ _ us hl => match us, hl with | [_], _ => rfl) fun cdv A outer s H E hr => (mss_cons (ms_if (mt_cmp op_lt o2_lt me_var me_int (nobehind _ (by decide) (by decide))) (mss_one (ms_ret me_non)) mss_nil) (mss_cons (ms_set sc_whole_root.nd (me_callBfun cr_isqrt on_isqrt m.g_isqrt (ma_cons me_var ma_nil))) (mss_one (ms_ret (me_if (mt_cmp (op_eqD hr.units) o2_eq (me_bin op_mulA o2_mul me_var me_var) me_var (nobehind _ (by decide) (by decide))) me_var me_non)))))
def b_left_in : Fst := (sRet (mkTup (aCons (dVar 0) (aCons (d2 dSub (d2 dSub (dVar 0) (dVar 1)) (dC (.int 1))) (aCons (d2 dAdd (d2 dSub (d2 dSub (dVar 0) (dC (.int 2))) (d2 dMul (dC (.int 2)) (dVar 1))) (dVar 3)) (aCons (d2 dAdd (d2 dSub (dVar 0) (d2 dMul (dC (.int 2)) (dVar 1))) (dVar 2)) aNil))))))
def F_left_in : FN := runF 4 b_left_in
theorem sc_left_in : FnScope ["size", "ties", "near", "far"] ["size", "ties", "near", "far"] (defScope st_left_in) := ⟨rfl, rfl, rfl, by decide +kernel, rfl, by decide +kernel, by decide +kernel⟩
theorem kn_left_in {P : Program} {w : World} {mg : Str → Option Value} {base : Heap} {M : Md} (m : Mo P mg M) : Kn P w mg base M "left_in" 1 4 F_left_in := by
  obtain ⟨f, fd, F, hm⟩ := m.d_left_in
  exact kn_of (k := 0) F sc_left_in hm (F.bindsN fun _ _ _ _ _ _ us hl => match us, hl with | [_, _, _, _], _ => rfl) fun cdv A outer s H E hr => (mss_one (ms_ret (me_tup (ma_cons me_var (ma_cons (me_bin op_sub o2_sub (me_bin op_sub o2_sub me_var me_var) me_int) (ma_cons (me_bin op_addA o2_add (me_bin op_sub o2_sub (me_bin op_sub o2_sub me_var me_int) (me_bin op_mulA o2_mul me_int me_var)) me_var) (ma_cons (me_bin op_addA o2_add (me_bin op_sub o2_sub me_var (me_bin op_mulA o2_mul me_int me_var)) me_var) ma_nil)))))))
def b_is_in_range : Fst := (sSeq (sSet 4 (dCall F_left_in 4 (aCons (dVar 0) (aCons (dVar 1) (aCons (dVar 2) (aCons (dVar 3) aNil)))))) (sRet (dAnd (dChain dLe dLe (dC (.int 1)) (dVar 1) (d2 dSub (dVar 0) (dC (.int 2)))) (dAnd (d2 dLt (dVar 2) (dVar 1)) (dAnd (d2 dLe (dVar 3) (dVar 1)) (dAnd (d2 dGe (d2 dAt (dVar 4) (dC (.int 2))) (dC (.int 0))) (d2 dGe (d2 dAt (dVar 4) (dC (.int 3))) (dC (.int 0)))))))))
def F_is_in_range : FN := runF 5 b_is_in_range
theorem sc_is_in_range : FnScope ["size", "ties", "near", "far", "left"] ["size", "ties", "near", "far"] (defScope st_is_in_range) := ⟨rfl, rfl, rfl, by decide +kernel, rfl, by decide +kernel, by decide +kernel⟩
theorem kn_is_in_range {P : Program} {w : World} {mg : Str → Option Value} {base : Heap} {M : Md} (m : Mo P mg M) : Kn P w mg base M "is_in_range" 2 4 F_is_in_range := by
  obtain ⟨f, fd, F, hm⟩ := m.d_is_in_range
  exact kn_of (k := 1) F sc_is_in_range hm (F.bindsN fun _ _ _ _ _ _ us hl => match us, hl with | [_, _, _, _], _ => rfl) fun cdv A outer s H E hr => (mss_cons (ms_set sc_is_in_range.nd (me_call rfl (takes_of rfl rfl rfl rfl) (kn_left_in m) hr (ma_cons me_var (ma_cons me_var (ma_cons me_var (ma_cons me_var ma_nil)))))) (mss_one (ms_ret (me_and (me_chain op_le o2_le op_le o2_le me_int me_var (me_bin op_sub o2_sub me_var me_int)) (me_and (me_cmp op_lt o2_lt me_var me_var (nobehind _ (by decide) (by decide))) (me_and (me_cmp op_le o2_le me_var me_var (nobehind _ (by decide) (by decide))) (me_and (me_cmp op_ge o2_ge (me_ix ix_seq o2_at me_var me_int (fun _ _ => rfl)) me_int (nobehind _ (by decide) (by decide))) (me_one (me_cmp op_ge o2_ge (me_ix ix_seq o2_at me_var me_int (fun _ _ => rfl)) me_int (nobehind _ (by decide) (by decide)))))))))))
def b_spread_of : Fst := (sRet (d2 dAdd (d2 dMul (d2 dSub (dVar 1) (dVar 2)) (d2 dSub (dVar 1) (dVar 2))) (d2 dMul (dC (.int 4)) (d2 dSub (dVar 0) (dVar 2)))))
def F_spread_of : FN := runF 3 b_spread_of
theorem sc_spread_of : FnScope ["ties", "near", "far"] ["ties", "near", "far"] (defScope st_spread_of) := ⟨rfl, rfl, rfl, by decide +kernel, rfl, by decide +kernel, by decide +kernel⟩
theorem kn_spread_of {P : Program} {w : World} {mg : Str → Option Value} {base : Heap} {M : Md} (m : Mo P mg M) : Kn P w mg base M "spread_of" 1 3 F_spread_of := by
  obtain ⟨f, fd, F, hm⟩ := m.d_spread_of
  exact kn_of (k := 0) F sc_spread_of hm (F.bindsN fun _ _ _ _ _ _ us hl => match us, hl with | [_, _, _], _ => rfl) fun cdv A outer s H E hr => (mss_one (ms_ret (me_bin op_addA o2_add (me_bin op_mulA o2_mul (me_bin op_sub o2_sub me_var me_var) (me_bin op_sub o2_sub me_var me_var)) (me_bin op_mulA o2_mul me_int (me_bin op_sub o2_sub me_var me_var)))))
def b_tilt_of : Fst := (sRet (d2 dAdd (d2 dMul (dC (.int 2)) (dVar 1)) (d2 dMul (d2 dSub (dVar 0) (dC (.int 1))) (d2 dSub (dVar 2) (dVar 3)))))
def F_tilt_of : FN := runF 4 b_tilt_of
theorem sc_tilt_of : FnScope ["size", "ties", "near", "far"] ["size", "ties", "near", "far"] (defScope st_tilt_of) := ⟨rfl, rfl, rfl, by decide +kernel, rfl, by decide +kernel, by decide +kernel⟩
theorem kn_tilt_of {P : Program} {w : World} {mg : Str → Option Value} {base : Heap} {M : Md} (m : Mo P mg M) : Kn P w mg base M "tilt_of" 1 4 F_tilt_of := by
  obtain ⟨f, fd, F, hm⟩ := m.d_tilt_of
  exact kn_of (k := 0) F sc_tilt_of hm (F.bindsN fun _ _ _ _ _ _ us hl => match us, hl with | [_, _, _, _], _ => rfl) fun cdv A outer s H E hr => (mss_one (ms_ret (me_bin op_addA o2_add (me_bin op_mulA o2_mul me_int me_var) (me_bin op_mulA o2_mul (me_bin op_sub o2_sub me_var me_int) (me_bin op_sub o2_sub me_var me_var)))))
def b_has_half_shape : Fst := (sRet (dAnd (d2 dEq (dCall F_tilt_of 4 (aCons (dVar 0) (aCons (dVar 1) (aCons (dVar 2) (aCons (dVar 3) aNil))))) (dC (.int 0))) (dIsN false (dCall F_whole_root 1 (aCons (dCall F_spread_of 3 (aCons (dVar 1) (aCons (dVar 2) (aCons (dVar 3) aNil)))) aNil)))))
def F_has_half_shape : FN := runF 4 b_has_half_shape
theorem sc_has_half_shape : FnScope ["size", "ties", "near", "far"] ["size", "ties", "near", "far"] (defScope st_has_half_shape) := ⟨rfl, rfl, rfl, by decide +kernel, rfl, by decide +kernel, by decide +kernel⟩
theorem kn_has_half_shape {P : Program} {w : World} {mg : Str → Option Value} {base : Heap} {M : Md} (m : Mo P mg M) : Kn P w mg base M "has_half_shape" 2 4 F_has_half_shape := by
  obtain ⟨f, fd, F, hm⟩ := m.d_has_half_shape
  exact kn_of (k := 1) F sc_has_half_shape hm (F.bindsN fun _ _ _ _ _ _ us hl => match us, hl with | [_, _, _, _], _ => rfl) fun cdv A outer s H E hr => (mss_one (ms_ret (me_and (me_cmp (op_eqD hr.units) o2_eq (me_call rfl (takes_of rfl rfl rfl rfl) (kn_tilt_of m) hr (ma_cons me_var (ma_cons me_var (ma_cons me_var (ma_cons me_var ma_nil))))) me_int (nobehind _ (by decide) (by decide))) (me_one (me_isn (me_call rfl (takes_of rfl rfl rfl rfl) (kn_whole_root m) hr (ma_cons (me_call rfl (takes_of rfl rfl rfl rfl) (kn_spread_of m) hr (ma_cons me_var (ma_cons me_var (ma_cons me_var ma_nil)))) ma_nil)))))))
def b_is_two_squares : Fst := (sSeq (sSet 1 (dC (.int 0))) (sSeq (sWhile (fB (d2 dLe (d2 dMul (dVar 1) (dVar 1)) (dVar 0))) (sSeq (sIf (fB (dIsN true (dCall F_whole_root 1 (aCons (d2 dSub (dVar 0) (d2 dMul (dVar 1) (dVar 1))) aNil)))) (sRet (dC (.bl true))) sNil) (sAug 1 dIAdd (dC (.int 1))))) (sRet (dC (.bl false)))))
def F_is_two_squares : FN := runF 2 b_is_two_squares
theorem sc_is_two_squares : FnScope ["number", "part"] ["number"] (defScope st_is_two_squares) := ⟨rfl, rfl, rfl, by decide +kernel, rfl, by decide +kernel, by decide +kernel⟩
theorem kn_is_two_squares {P : Program} {w : World} {mg : Str → Option Value} {base : Heap} {M : Md} (m : Mo P mg M) : Kn P w mg base M "is_two_squares" 2 1 F_is_two_squares := by
  obtain ⟨f, fd, F, hm⟩ := m.d_is_two_squares
  exact kn_of (k := 1) F sc_is_two_squares hm (F.bindsN fun _ _ _ _ _ _ us hl => match us, hl with | [_], _ => rfl) fun cdv A outer s H E hr => (mss_cons (ms_set sc_is_two_squares.nd me_int) (mss_cons (ms_while (passes_of rfl) (mt_cmp op_le o2_le (me_bin op_mulA o2_mul me_var me_var) me_var (nobehind _ (by decide) (by decide))) (mss_cons (ms_if (mt_isnt (me_call rfl (takes_of rfl rfl rfl rfl) (kn_whole_root m) hr (ma_cons (me_bin op_sub o2_sub me_var (me_bin op_mulA o2_mul me_var me_var)) ma_nil))) (mss_one (ms_ret me_bl)) mss_nil) (mss_one (ms_aug sc_is_two_squares.nd iop_addD o2_iadd me_int)))) (mss_one (ms_ret me_bl))))
def b_numbers_in : Fst := (sSeq (sPar 4 5 (aCons (dCall F_whole_root 1 (aCons (dCall F_spread_of 3 (aCons (dVar 1) (aCons (dVar 2) (aCons (dVar 3) aNil)))) aNil)) (aCons (dCall F_tilt_of 4 (aCons (dVar 0) (aCons (dVar 1) (aCons (dVar 2) (aCons (dVar 3) aNil))))) aNil))) (sSeq (sIf (fOr (fB (dIsN false (dVar 4))) (fOr (fB (d2 dEq (dVar 4) (dC (.int 0)))) (fOr (fB (d2 dNe (d2 dMod (dVar 5) (dVar 4)) (dC (.int 0)))) (fB (d2 dNe (d2 dMod (d2 dSub (d2 dSub (dVar 0) (dC (.int 1))) (d2 dFdiv (dVar 5) (dVar 4))) (dC (.int 2))) (dC (.int 0))))))) (sRet (dC .non)) sNil) (sSeq (sPar 6 7 (aCons (d2 dFdiv (d2 dSub (d2 dSub (dVar 0) (dC (.int 1))) (d2 dFdiv (dVar 5) (dVar 4))) (dC (.int 2))) (aCons (d2 dFdiv (d2 dAdd (d2 dSub (dVar 0) (dC (.int 1))) (d2 dFdiv (dVar 5) (dVar 4))) (dC (.int 2))) aNil))) (sRet (dIf (fAnd (fB (d2 dGe (dVar 6) (dC (.int 1)))) (fB (d2 dGe (dVar 7) (dC (.int 1))))) (mkTup (aCons (dVar 4) (aCons (dVar 6) (aCons (dVar 7) aNil)))) (dC .non))))))
def F_numbers_in : FN := runF 8 b_numbers_in
theorem sc_numbers_in : FnScope ["size", "ties", "near", "far", "root", "tilt", "first", "second"] ["size", "ties", "near", "far"] (defScope st_numbers_in) := ⟨rfl, rfl, rfl, by decide +kernel, rfl, by decide +kernel, by decide +kernel⟩
theorem kn_numbers_in {P : Program} {w : World} {mg : Str → Option Value} {base : Heap} {M : Md} (m : Mo P mg M) : Kn P w mg base M "numbers_in" 2 4 F_numbers_in := by
  obtain ⟨f, fd, F, hm⟩ := m.d_numbers_in
  exact kn_of (k := 1) F sc_numbers_in hm (F.bindsN fun _ _ _ _ _ _ us hl => match us, hl with | [_, _, _, _], _ => rfl) fun cdv A outer s H E hr => (mss_cons (ms_par rfl sc_numbers_in.nd (ma_cons (me_call rfl (takes_of rfl rfl rfl rfl) (kn_whole_root m) hr (ma_cons (me_call rfl (takes_of rfl rfl rfl rfl) (kn_spread_of m) hr (ma_cons me_var (ma_cons me_var (ma_cons me_var ma_nil)))) ma_nil)) (ma_cons (me_call rfl (takes_of rfl rfl rfl rfl) (kn_tilt_of m) hr (ma_cons me_var (ma_cons me_var (ma_cons me_var (ma_cons me_var ma_nil))))) ma_nil))) (mss_cons (ms_if (PW.pt (mw_or (mt_isn me_var) (mw_or (mt_cmp (op_eqD hr.units) o2_eq me_var me_int (nobehind _ (by decide) (by decide))) (mw_or (mt_cmp (op_neD hr.units) o2_ne (me_bin op_modN o2_mod me_var me_var) me_int (nobehind _ (by decide) (by decide))) (mw_or1 (mt_cmp (op_neD hr.units) o2_ne (me_bin op_modN o2_mod (me_bin op_sub o2_sub (me_bin op_sub o2_sub me_var me_int) (me_bin op_fdivD o2_fdiv me_var me_var)) me_int) me_int (nobehind _ (by decide) (by decide)))))))) (mss_one (ms_ret me_non)) mss_nil) (mss_cons (ms_par rfl sc_numbers_in.nd (ma_cons (me_bin op_fdivD o2_fdiv (me_bin op_sub o2_sub (me_bin op_sub o2_sub me_var me_int) (me_bin op_fdivD o2_fdiv me_var me_var)) me_int) (ma_cons (me_bin op_fdivD o2_fdiv (me_bin op_addA o2_add (me_bin op_sub o2_sub me_var me_int) (me_bin op_fdivD o2_fdiv me_var me_var)) me_int) ma_nil))) (mss_one (ms_ret (me_if (PW.pt (mw_and (mt_cmp op_ge o2_ge me_var me_int (nobehind _ (by decide) (by decide))) (mw_and1 (mt_cmp op_ge o2_ge me_var me_int (nobehind _ (by decide) (by decide)))))) (me_tup (ma_cons me_var (ma_cons me_var (ma_cons me_var ma_nil)))) me_non))))))
def b_eigenvalues_in : Fst := (sRet (mkTup (aCons (d2 dFdiv (d2 dAdd (d2 dSub (dVar 0) (dVar 1)) (dVar 2)) (dC (.int 2))) (aCons (d2 dFdiv (d2 dSub (d2 dSub (dVar 0) (dVar 1)) (dVar 2)) (dC (.int 2))) aNil))))
def F_eigenvalues_in : FN := runF 3 b_eigenvalues_in
theorem sc_eigenvalues_in : FnScope ["near", "far", "root"] ["near", "far", "root"] (defScope st_eigenvalues_in) := ⟨rfl, rfl, rfl, by decide +kernel, rfl, by decide +kernel, by decide +kernel⟩
theorem kn_eigenvalues_in {P : Program} {w : World} {mg : Str → Option Value} {base : Heap} {M : Md} (m : Mo P mg M) : Kn P w mg base M "eigenvalues_in" 1 3 F_eigenvalues_in := by
  obtain ⟨f, fd, F, hm⟩ := m.d_eigenvalues_in
  exact kn_of (k := 0) F sc_eigenvalues_in hm (F.bindsN fun _ _ _ _ _ _ us hl => match us, hl with | [_, _, _], _ => rfl) fun cdv A outer s H E hr => (mss_one (ms_ret (me_tup (ma_cons (me_bin op_fdivD o2_fdiv (me_bin op_addA o2_add (me_bin op_sub o2_sub me_var me_var) me_var) me_int) (ma_cons (me_bin op_fdivD o2_fdiv (me_bin op_sub o2_sub (me_bin op_sub o2_sub me_var me_var) me_var) me_int) ma_nil)))))
def b_keeps_krein : Fst := (sRet (d2 dLe (d2 dMul (d2 dAdd (dVar 1) (dC (.int 1))) (d2 dAdd (d2 dAdd (dVar 0) (dVar 1)) (d2 dMul (d2 dMul (dC (.int 2)) (dVar 1)) (dVar 2)))) (d2 dMul (d2 dMul (d2 dAdd (dVar 0) (dVar 1)) (d2 dAdd (dVar 2) (dC (.int 1)))) (d2 dAdd (dVar 2) (dC (.int 1))))))
def F_keeps_krein : FN := runF 3 b_keeps_krein
theorem sc_keeps_krein : FnScope ["ties", "one", "other"] ["ties", "one", "other"] (defScope st_keeps_krein) := ⟨rfl, rfl, rfl, by decide +kernel, rfl, by decide +kernel, by decide +kernel⟩
theorem kn_keeps_krein {P : Program} {w : World} {mg : Str → Option Value} {base : Heap} {M : Md} (m : Mo P mg M) : Kn P w mg base M "keeps_krein" 1 3 F_keeps_krein := by
  obtain ⟨f, fd, F, hm⟩ := m.d_keeps_krein
  exact kn_of (k := 0) F sc_keeps_krein hm (F.bindsN fun _ _ _ _ _ _ us hl => match us, hl with | [_, _, _], _ => rfl) fun cdv A outer s H E hr => (mss_one (ms_ret (me_cmp op_le o2_le (me_bin op_mulA o2_mul (me_bin op_addA o2_add me_var me_int) (me_bin op_addA o2_add (me_bin op_addA o2_add me_var me_var) (me_bin op_mulA o2_mul (me_bin op_mulA o2_mul me_int me_var) me_var))) (me_bin op_mulA o2_mul (me_bin op_mulA o2_mul (me_bin op_addA o2_add me_var me_var) (me_bin op_addA o2_add me_var me_int)) (me_bin op_addA o2_add me_var me_int)) (nobehind _ (by decide) (by decide)))))
def b_has_krein_fault : Fst := (sSeq (sAsg (.tp (.cons (.nm 4) (.cons (.nm 5) .nil))) (dCall F_eigenvalues_in 3 (aCons (dVar 1) (aCons (dVar 2) (aCons (dVar 3) aNil))))) (sRet (dOr (dNot (dCall F_keeps_krein 3 (aCons (dVar 0) (aCons (dVar 4) (aCons (dVar 5) aNil))))) (dNot (dCall F_keeps_krein 3 (aCons (dVar 0) (aCons (dVar 5) (aCons (dVar 4) aNil))))))))
def F_has_krein_fault : FN := runF 6 b_has_krein_fault
theorem sc_has_krein_fault : FnScope ["ties", "near", "far", "root", "one", "other"] ["ties", "near", "far", "root"] (defScope st_has_krein_fault) := ⟨rfl, rfl, rfl, by decide +kernel, rfl, by decide +kernel, by decide +kernel⟩
theorem kn_has_krein_fault {P : Program} {w : World} {mg : Str → Option Value} {base : Heap} {M : Md} (m : Mo P mg M) : Kn P w mg base M "has_krein_fault" 2 4 F_has_krein_fault := by
  obtain ⟨f, fd, F, hm⟩ := m.d_has_krein_fault
  exact kn_of (k := 1) F sc_has_krein_fault hm (F.bindsN fun _ _ _ _ _ _ us hl => match us, hl with | [_, _, _, _], _ => rfl) fun cdv A outer s H E hr => (mss_cons (ms_asg rfl (me_call rfl (takes_of rfl rfl rfl rfl) (kn_eigenvalues_in m) hr (ma_cons me_var (ma_cons me_var (ma_cons me_var ma_nil)))) (mg_tp rfl (mgs_cons (mg_nm sc_has_krein_fault.nd) (mgs_cons (mg_nm sc_has_krein_fault.nd) mgs_nil)))) (mss_one (ms_ret (me_or (me_not (me_call rfl (takes_of rfl rfl rfl rfl) (kn_keeps_krein m) hr (ma_cons me_var (ma_cons me_var (ma_cons me_var ma_nil))))) (me_one (me_not (me_call rfl (takes_of rfl rfl rfl rfl) (kn_keeps_krein m) hr (ma_cons me_var (ma_cons me_var (ma_cons me_var ma_nil))))))))))
def b_has_absolute_fault : Fst := (sRet (dAnd (d2 dNotIn (dVar 2) (mkTup (aCons (dC (.int 0)) (aCons (dVar 1) aNil)))) (dN nAny (aCons (dLc (iD (dVar 3)) (.nm 4) fYes (d2 dGt (d2 dMul (dC (.int 2)) (dVar 0)) (d2 dMul (dVar 4) (d2 dAdd (dVar 4) (dC (.int 3))))) [4]) aNil))))
def F_has_absolute_fault : FN := runF 5 b_has_absolute_fault
theorem sc_has_absolute_fault : FnScope ["size", "ties", "far", "many", "number"] ["size", "ties", "far", "many"] (defScope st_has_absolute_fault) := ⟨rfl, rfl, rfl, by decide +kernel, rfl, by decide +kernel, by decide +kernel⟩
theorem kn_has_absolute_fault {P : Program} {w : World} {mg : Str → Option Value} {base : Heap} {M : Md} (m : Mo P mg M) : Kn P w mg base M "has_absolute_fault" 1 4 F_has_absolute_fault := by
  obtain ⟨f, fd, F, hm⟩ := m.d_has_absolute_fault
  exact kn_of (k := 0) F sc_has_absolute_fault hm (F.bindsN fun _ _ _ _ _ _ us hl => match us, hl with | [_, _, _, _], _ => rfl) fun cdv A outer s H E hr => (mss_one (ms_ret (me_and (me_cmp (op_notInA hr.u65) o2_notIn me_var (me_tup (ma_cons me_int (ma_cons me_var ma_nil))) rfl) (me_one (me_callB (cr_any rfl) on_any (by rfl) m.f_any boot_any (ma_cons (me_lc (own := [("number", 4)]) rfl rfl sc_has_absolute_fault.nd (mi_d rfl me_var) (by first | rfl | decide +kernel) (fun _ _ _ _ _ => (mg_nm sc_has_absolute_fault.nd)) (fun _ _ _ _ _ => mts_nil) (fun _ _ _ _ _ => (me_cmp op_gt o2_gt (me_bin op_mulA o2_mul me_int me_var) (me_bin op_mulA o2_mul me_var (me_bin op_addA o2_add me_var me_int)) (nobehind _ (by decide) (by decide))))) ma_nil))))))
def b_fault_in : Fst := (sSeq (sIf (fNot (fTru (dCall F_is_in_range 4 (aCons (dVar 0) (aCons (dVar 1) (aCons (dVar 2) (aCons (dVar 3) aNil))))))) (sRet (dC c_RANGE)) sNil) (sSeq (sIf (fB (d2 dNe (d2 dMul (dVar 1) (d2 dSub (d2 dSub (dVar 1) (dVar 2)) (dC (.int 1)))) (d2 dMul (d2 dSub (d2 dSub (dVar 0) (dVar 1)) (dC (.int 1))) (dVar 3)))) (sRet (dC c_COUNT)) sNil) (sSeq (sIf (fOr (fB (d2 dNe (d2 dMod (d2 dMul (dVar 0) (dVar 1)) (dC (.int 2))) (dC (.int 0)))) (fB (d2 dNe (d2 dMod (d2 dMul (d2 dMul (dVar 0) (dVar 1)) (dVar 2)) (dC (.int 6))) (dC (.int 0))))) (sRet (dC c_TIES)) sNil) (sSeq (sIf (fTru (dCall F_has_half_shape 4 (aCons (dVar 0) (aCons (dVar 1) (aCons (dVar 2) (aCons (dVar 3) aNil)))))) (sRet (dIf (fTru (dCall F_is_two_squares 1 (aCons (dVar 0) aNil))) (dC .non) (dC c_SQUARES))) sNil) (sSeq (sSet 4 (dCall F_numbers_in 4 (aCons (dVar 0) (aCons (dVar 1) (aCons (dVar 2) (aCons (dVar 3) aNil)))))) (sSeq (sIf (fB (dIsN false (dVar 4))) (sRet (dC c_VALUES)) sNil) (sSeq (sIf (fTru (dCall F_has_krein_fault 4 (aCons (dVar 1) (aCons (dVar 2) (aCons (dVar 3) (aCons (d2 dAt (dVar 4) (dC (.int 0))) aNil)))))) (sRet (dC c_KREIN)) sNil) (sRet (dIf (fTru (dCall F_has_absolute_fault 4 (aCons (dVar 0) (aCons (dVar 1) (aCons (dVar 3) (aCons (dSlice (dVar 4) (oSome (dC (.int 1))) oNone) aNil)))))) (dC c_ABSOLUTE) (dC .non))))))))))
def F_fault_in : FN := runF 5 b_fault_in
theorem sc_fault_in : FnScope ["size", "ties", "near", "far", "numbers"] ["size", "ties", "near", "far"] (defScope st_fault_in) := ⟨rfl, rfl, rfl, by decide +kernel, rfl, by decide +kernel, by decide +kernel⟩
theorem kn_fault_in {P : Program} {w : World} {mg : Str → Option Value} {base : Heap} {M : Md} (m : Mo P mg M) : Kn P w mg base M "fault_in" 3 4 F_fault_in := by
  obtain ⟨f, fd, F, hm⟩ := m.d_fault_in
  exact kn_of (k := 2) F sc_fault_in hm (F.bindsN fun _ _ _ _ _ _ us hl => match us, hl with | [_, _, _, _], _ => rfl) fun cdv A outer s H E hr => (mss_cons (ms_if (mt_not (mt_tru rfl (me_call rfl (takes_of rfl rfl rfl rfl) (kn_is_in_range m) hr (ma_cons me_var (ma_cons me_var (ma_cons me_var (ma_cons me_var ma_nil))))))) (mss_one (ms_ret (me_con m.g_RANGE (by rfl)))) mss_nil) (mss_cons (ms_if (mt_cmp (op_neD hr.units) o2_ne (me_bin op_mulA o2_mul me_var (me_bin op_sub o2_sub (me_bin op_sub o2_sub me_var me_var) me_int)) (me_bin op_mulA o2_mul (me_bin op_sub o2_sub (me_bin op_sub o2_sub me_var me_var) me_int) me_var) (nobehind _ (by decide) (by decide))) (mss_one (ms_ret (me_con m.g_COUNT (by rfl)))) mss_nil) (mss_cons (ms_if (PW.pt (mw_or (mt_cmp (op_neD hr.units) o2_ne (me_bin op_modN o2_mod (me_bin op_mulA o2_mul me_var me_var) me_int) me_int (nobehind _ (by decide) (by decide))) (mw_or1 (mt_cmp (op_neD hr.units) o2_ne (me_bin op_modN o2_mod (me_bin op_mulA o2_mul (me_bin op_mulA o2_mul me_var me_var) me_var) me_int) me_int (nobehind _ (by decide) (by decide)))))) (mss_one (ms_ret (me_con m.g_TIES (by rfl)))) mss_nil) (mss_cons (ms_if (mt_tru rfl (me_call rfl (takes_of rfl rfl rfl rfl) (kn_has_half_shape m) hr (ma_cons me_var (ma_cons me_var (ma_cons me_var (ma_cons me_var ma_nil)))))) (mss_one (ms_ret (me_if (mt_tru rfl (me_call rfl (takes_of rfl rfl rfl rfl) (kn_is_two_squares m) hr (ma_cons me_var ma_nil))) me_non (me_con m.g_SQUARES (by rfl))))) mss_nil) (mss_cons (ms_set sc_fault_in.nd (me_call rfl (takes_of rfl rfl rfl rfl) (kn_numbers_in m) hr (ma_cons me_var (ma_cons me_var (ma_cons me_var (ma_cons me_var ma_nil)))))) (mss_cons (ms_if (mt_isn me_var) (mss_one (ms_ret (me_con m.g_VALUES (by rfl)))) mss_nil) (mss_cons (ms_if (mt_tru rfl (me_call rfl (takes_of rfl rfl rfl rfl) (kn_has_krein_fault m) hr (ma_cons me_var (ma_cons me_var (ma_cons me_var (ma_cons (me_ix ix_seq o2_at me_var me_int (fun _ _ => rfl)) ma_nil)))))) (mss_one (ms_ret (me_con m.g_KREIN (by rfl)))) mss_nil) (mss_one (ms_ret (me_if (mt_tru rfl (me_call rfl (takes_of rfl rfl rfl rfl) (kn_has_absolute_fault m) hr (ma_cons me_var (ma_cons me_var (ma_cons me_var (ma_cons (me_slice rfl me_var (mo_some me_int) mo_none) ma_nil)))))) (me_con m.g_ABSOLUTE (by rfl)) me_non))))))))))
def b_require_tuple : Fst := (sFor (iD (mkTup (aCons (dVar 0) (aCons (dVar 1) (aCons (dVar 2) (aCons (dVar 3) aNil)))))) (.nm 4) (sExpr (dCall F_require_within 3 (aCons (dVar 4) (aCons (dC (.int 0)) (aCons (dC c_MOST_TUPLE) aNil))))))
def F_require_tuple : FN := runF 5 b_require_tuple
theorem sc_require_tuple : FnScope ["size", "ties", "near", "far", "value"] ["size", "ties", "near", "far"] (defScope st_require_tuple) := ⟨rfl, rfl, rfl, by decide +kernel, rfl, by decide +kernel, by decide +kernel⟩
theorem kn_require_tuple {P : Program} {w : World} {mg : Str → Option Value} {base : Heap} {M : Md} (m : Mo P mg M) : Kn P w mg base M "require_tuple" 5 4 F_require_tuple := by
  obtain ⟨f, fd, F, hm⟩ := m.d_require_tuple
  exact kn_of (k := 4) F sc_require_tuple hm (F.bindsN fun _ _ _ _ _ _ us hl => match us, hl with | [_, _, _, _], _ => rfl) fun cdv A outer s H E hr => (mss_one (ms_for rfl (passes_of rfl) rfl (mi_d rfl (me_tup (ma_cons me_var (ma_cons me_var (ma_cons me_var (ma_cons me_var ma_nil)))))) (mg_nm sc_require_tuple.nd) (mss_one (ms_expr (me_call rfl (takes_of rfl rfl rfl rfl) (kn_require_within m) hr (ma_cons me_var (ma_cons me_int (ma_cons (me_con m.g_MOST_TUPLE (by rfl)) ma_nil))))))))
def b_tuple_fault : Fst := (sSeq (sExpr (dCall F_require_tuple 4 (aCons (dVar 0) (aCons (dVar 1) (aCons (dVar 2) (aCons (dVar 3) aNil)))))) (sRet (dCall F_fault_in 4 (aCons (dVar 0) (aCons (dVar 1) (aCons (dVar 2) (aCons (dVar 3) aNil)))))))
def F_tuple_fault : FN := runF 4 b_tuple_fault
theorem sc_tuple_fault : FnScope ["size", "ties", "near", "far"] ["size", "ties", "near", "far"] (defScope st_tuple_fault) := ⟨rfl, rfl, rfl, by decide +kernel, rfl, by decide +kernel, by decide +kernel⟩
theorem kn_tuple_fault {P : Program} {w : World} {mg : Str → Option Value} {base : Heap} {M : Md} (m : Mo P mg M) : Kn P w mg base M "tuple_fault" 6 4 F_tuple_fault := by
  obtain ⟨f, fd, F, hm⟩ := m.d_tuple_fault
  exact kn_of (k := 5) F sc_tuple_fault hm (F.bindsN fun _ _ _ _ _ _ us hl => match us, hl with | [_, _, _, _], _ => rfl) fun cdv A outer s H E hr => (mss_cons (ms_expr (me_call rfl (takes_of rfl rfl rfl rfl) (kn_require_tuple m) hr (ma_cons me_var (ma_cons me_var (ma_cons me_var (ma_cons me_var ma_nil)))))) (mss_one (ms_ret (me_call rfl (takes_of rfl rfl rfl rfl) (kn_fault_in m) hr (ma_cons me_var (ma_cons me_var (ma_cons me_var (ma_cons me_var ma_nil))))))))
def b_is_half : Fst := (sSeq (sExpr (dCall F_require_tuple 4 (aCons (dVar 0) (aCons (dVar 1) (aCons (dVar 2) (aCons (dVar 3) aNil)))))) (sRet (dAnd (dIsN false (dCall F_fault_in 4 (aCons (dVar 0) (aCons (dVar 1) (aCons (dVar 2) (aCons (dVar 3) aNil)))))) (dCall F_has_half_shape 4 (aCons (dVar 0) (aCons (dVar 1) (aCons (dVar 2) (aCons (dVar 3) aNil))))))))
def F_is_half : FN := runF 4 b_is_half
theorem sc_is_half : FnScope ["size", "ties", "near", "far"] ["size", "ties", "near", "far"] (defScope st_is_half) := ⟨rfl, rfl, rfl, by decide +kernel, rfl, by decide +kernel, by decide +kernel⟩
theorem kn_is_half {P : Program} {w : World} {mg : Str → Option Value} {base : Heap} {M : Md} (m : Mo P mg M) : Kn P w mg base M "is_half" 6 4 F_is_half := by
  obtain ⟨f, fd, F, hm⟩ := m.d_is_half
  exact kn_of (k := 5) F sc_is_half hm (F.bindsN fun _ _ _ _ _ _ us hl => match us, hl with | [_, _, _, _], _ => rfl) fun cdv A outer s H E hr => (mss_cons (ms_expr (me_call rfl (takes_of rfl rfl rfl rfl) (kn_require_tuple m) hr (ma_cons me_var (ma_cons me_var (ma_cons me_var (ma_cons me_var ma_nil)))))) (mss_one (ms_ret (me_and (me_isn (me_call rfl (takes_of rfl rfl rfl rfl) (kn_fault_in m) hr (ma_cons me_var (ma_cons me_var (ma_cons me_var (ma_cons me_var ma_nil)))))) (me_one (me_call rfl (takes_of rfl rfl rfl rfl) (kn_has_half_shape m) hr (ma_cons me_var (ma_cons me_var (ma_cons me_var (ma_cons me_var ma_nil))))))))))
def b_left_tuple : Fst := (sSeq (sExpr (dCall F_require_tuple 4 (aCons (dVar 0) (aCons (dVar 1) (aCons (dVar 2) (aCons (dVar 3) aNil)))))) (sSeq (sIf (fNot (fTru (dCall F_is_in_range 4 (aCons (dVar 0) (aCons (dVar 1) (aCons (dVar 2) (aCons (dVar 3) aNil))))))) (sRaise0 1) sNil) (sRet (dCall F_left_in 4 (aCons (dVar 0) (aCons (dVar 1) (aCons (dVar 2) (aCons (dVar 3) aNil))))))))
def F_left_tuple : FN := runF 4 b_left_tuple
theorem sc_left_tuple : FnScope ["size", "ties", "near", "far"] ["size", "ties", "near", "far"] (defScope st_left_tuple) := ⟨rfl, rfl, rfl, by decide +kernel, rfl, by decide +kernel, by decide +kernel⟩
theorem kn_left_tuple {P : Program} {w : World} {mg : Str → Option Value} {base : Heap} {M : Md} (m : Mo P mg M) : Kn P w mg base M "left_tuple" 6 4 F_left_tuple := by
  obtain ⟨f, fd, F, hm⟩ := m.d_left_tuple
  exact kn_of (k := 5) F sc_left_tuple hm (F.bindsN fun _ _ _ _ _ _ us hl => match us, hl with | [_, _, _, _], _ => rfl) fun cdv A outer s H E hr => (mss_cons (ms_expr (me_call rfl (takes_of rfl rfl rfl rfl) (kn_require_tuple m) hr (ma_cons me_var (ma_cons me_var (ma_cons me_var (ma_cons me_var ma_nil)))))) (mss_cons (ms_if (mt_not (mt_tru rfl (me_call rfl (takes_of rfl rfl rfl rfl) (kn_is_in_range m) hr (ma_cons me_var (ma_cons me_var (ma_cons me_var (ma_cons me_var ma_nil))))))) (mss_one (ms_raise0 rfl rfl (takes_of rfl rfl rfl rfl) m.k_InvalidOperation)) mss_nil) (mss_one (ms_ret (me_call rfl (takes_of rfl rfl rfl rfl) (kn_left_in m) hr (ma_cons me_var (ma_cons me_var (ma_cons me_var (ma_cons me_var ma_nil)))))))))
def b_tuple_values : Fst := (sSeq (sExpr (dCall F_require_tuple 4 (aCons (dVar 0) (aCons (dVar 1) (aCons (dVar 2) (aCons (dVar 3) aNil)))))) (sSeq (sSet 4 (dCall F_fault_in 4 (aCons (dVar 0) (aCons (dVar 1) (aCons (dVar 2) (aCons (dVar 3) aNil)))))) (sSeq (sIf (fB (dIsN true (dVar 4))) (sRaise1 3 "reason" (mkTup (aCons (dVar 4) aNil))) sNil) (sSeq (sIf (fTru (dCall F_has_half_shape 4 (aCons (dVar 0) (aCons (dVar 1) (aCons (dVar 2) (aCons (dVar 3) aNil)))))) (sRaise1 3 "reason" (mkTup (aCons (dC c_HALF) aNil))) sNil) (sSeq (sAsg (.tp (.cons (.nm 5) (.cons (.nm 6) (.cons (.nm 7) .nil)))) (dCall F_numbers_in 4 (aCons (dVar 0) (aCons (dVar 1) (aCons (dVar 2) (aCons (dVar 3) aNil)))))) (sSeq (sAsg (.tp (.cons (.nm 8) (.cons (.nm 9) .nil))) (dCall F_eigenvalues_in 3 (aCons (dVar 2) (aCons (dVar 3) (aCons (dVar 5) aNil))))) (sRet (mkTup (aCons (mkTup (aCons (dVar 8) (aCons (dVar 6) aNil))) (aCons (mkTup (aCons (dVar 9) (aCons (dVar 7) aNil))) aNil))))))))))
def F_tuple_values : FN := runF 10 b_tuple_values
theorem sc_tuple_values : FnScope ["size", "ties", "near", "far", "fault", "root", "first", "second", "one", "other"] ["size", "ties", "near", "far"] (defScope st_tuple_values) := ⟨rfl, rfl, rfl, by decide +kernel, rfl, by decide +kernel, by decide +kernel⟩
theorem kn_tuple_values {P : Program} {w : World} {mg : Str → Option Value} {base : Heap} {M : Md} (m : Mo P mg M) : Kn P w mg base M "tuple_values" 6 4 F_tuple_values := by
  obtain ⟨f, fd, F, hm⟩ := m.d_tuple_values
  exact kn_of (k := 5) F sc_tuple_values hm (F.bindsN fun _ _ _ _ _ _ us hl => match us, hl with | [_, _, _, _], _ => rfl) fun cdv A outer s H E hr => (mss_cons (ms_expr (me_call rfl (takes_of rfl rfl rfl rfl) (kn_require_tuple m) hr (ma_cons me_var (ma_cons me_var (ma_cons me_var (ma_cons me_var ma_nil)))))) (mss_cons (ms_set sc_tuple_values.nd (me_call rfl (takes_of rfl rfl rfl rfl) (kn_fault_in m) hr (ma_cons me_var (ma_cons me_var (ma_cons me_var (ma_cons me_var ma_nil)))))) (mss_cons (ms_if (mt_isnt me_var) (mss_one (ms_raise1 rfl rfl (takes_of rfl rfl rfl rfl) m.k_Refused hr (me_tup (ma_cons me_var ma_nil)))) mss_nil) (mss_cons (ms_if (mt_tru rfl (me_call rfl (takes_of rfl rfl rfl rfl) (kn_has_half_shape m) hr (ma_cons me_var (ma_cons me_var (ma_cons me_var (ma_cons me_var ma_nil)))))) (mss_one (ms_raise1 rfl rfl (takes_of rfl rfl rfl rfl) m.k_Refused hr (me_tup (ma_cons (me_con m.g_HALF (by rfl)) ma_nil)))) mss_nil) (mss_cons (ms_asg rfl (me_call rfl (takes_of rfl rfl rfl rfl) (kn_numbers_in m) hr (ma_cons me_var (ma_cons me_var (ma_cons me_var (ma_cons me_var ma_nil))))) (mg_tp rfl (mgs_cons (mg_nm sc_tuple_values.nd) (mgs_cons (mg_nm sc_tuple_values.nd) (mgs_cons (mg_nm sc_tuple_values.nd) mgs_nil))))) (mss_cons (ms_asg rfl (me_call rfl (takes_of rfl rfl rfl rfl) (kn_eigenvalues_in m) hr (ma_cons me_var (ma_cons me_var (ma_cons me_var ma_nil)))) (mg_tp rfl (mgs_cons (mg_nm sc_tuple_values.nd) (mgs_cons (mg_nm sc_tuple_values.nd) mgs_nil)))) (mss_one (ms_ret (me_tup (ma_cons (me_tup (ma_cons me_var (ma_cons me_var ma_nil))) (ma_cons (me_tup (ma_cons me_var (ma_cons me_var ma_nil))) ma_nil)))))))))))
def b__law_dice : Fst := (sSeq (sSet 2 (dIf (fB (d2 dLt (dVar 1) (dN nLen (aCons (dVar 0) aNil)))) (dN nInt (aCons (d2 dAt (dVar 0) (dVar 1)) aNil)) (d2 dAdd (d2 dMul (dC (.int 89)) (dVar 1)) (dC (.int 53))))) (sSeq (sSet 3 (d2 dMod (dN nMax2 (aCons (dC (.int 0)) (aCons (d2 dSub (dN nAbs (aCons (dVar 2) aNil)) (d2 dPow (dC (.int 10)) (dC (.int 16)))) aNil))) (d2 dMul (d2 dPow (dC (.int 10)) (dC (.int 56))) (d2 dPow (dC (.int 10)) (dC (.int 60)))))) (sRet (mkLst (aCons (dVar 3) (aCons (d2 dAdd (d2 dAdd (d2 dAdd (d2 dMul (d2 dMod (dN nAbs (aCons (dVar 2) aNil)) (dC (.int 1152921504606846869))) (dC (.int 61))) (d2 dMul (dC (.int 1009)) (dVar 1))) (d2 dMul (dC (.int 43)) (dN nInt (aCons (d2 dLt (dVar 2) (dC (.int 0))) aNil)))) (dC (.int 17))) (aCons (dC (.int 0)) aNil)))))))
def F__law_dice : FN := runF 4 b__law_dice
theorem sc__law_dice : FnScope ["_law_script", "_law_spot", "_law_cell", "_law_left"] ["_law_script", "_law_spot"] (defScope st__law_dice) := ⟨rfl, rfl, rfl, by decide +kernel, rfl, by decide +kernel, by decide +kernel⟩
theorem kn__law_dice {P : Program} {w : World} {mg : Str → Option Value} {base : Heap} {M : Md} (m : Mo P mg M) : Kn P w mg base M "_law_dice" 1 2 F__law_dice := by
  obtain ⟨f, fd, F, hm⟩ := m.d__law_dice
  exact kn_of (k := 0) F sc__law_dice hm (F.bindsN fun _ _ _ _ _ _ us hl => match us, hl with | [_, _], _ => rfl) fun cdv A outer s H E hr => (mss_cons (ms_set sc__law_dice.nd (me_if (mt_cmp op_lt o2_lt me_var (me_callB call_len on_len (by rfl) m.f_len boot_len (ma_cons me_var ma_nil)) (nobehind _ (by decide) (by decide))) (me_callTy call_int1 on_int (by rfl) m.f_int PyProof.Rows.boot_int (ma_cons (me_ix ix_seq o2_at me_var me_var (fun _ _ => rfl)) ma_nil)) (me_bin op_addA o2_add (me_bin op_mulA o2_mul me_int me_var) me_int))) (mss_cons (ms_set sc__law_dice.nd (me_bin op_modN o2_mod (me_callB (call_max2 rfl) on_max2 (by rfl) m.f_max boot_max (ma_cons me_int (ma_cons (me_bin op_sub o2_sub (me_callB call_abs on_abs (by rfl) m.f_abs PyProof.Rows.boot_abs (ma_cons me_var ma_nil)) (me_bin op_pow o2_pow me_int me_int)) ma_nil))) (me_bin op_mulA o2_mul (me_bin op_pow o2_pow me_int me_int) (me_bin op_pow o2_pow me_int me_int)))) (mss_one (ms_ret (me_lst (ma_cons me_var (ma_cons (me_bin op_addA o2_add (me_bin op_addA o2_add (me_bin op_addA o2_add (me_bin op_mulA o2_mul (me_bin op_modN o2_mod (me_callB call_abs on_abs (by rfl) m.f_abs PyProof.Rows.boot_abs (ma_cons me_var ma_nil)) me_int) me_int) (me_bin op_mulA o2_mul me_int me_var)) (me_bin op_mulA o2_mul me_int (me_callTy call_int1 on_int (by rfl) m.f_int PyProof.Rows.boot_int (ma_cons (me_cmp op_lt o2_lt me_var me_int (nobehind _ (by decide) (by decide))) ma_nil)))) me_int) (ma_cons me_int ma_nil))))))))
def b__law_roll : Fst := (sSeq (sIf (fB (d2 dGt (d2 dAt (dVar 0) (dC (.int 0))) (dC (.int 0)))) (sSeq (sSet 2 (d2 dMod (dN nInt (aCons (d2 dAt (dVar 0) (dC (.int 0))) aNil)) (dVar 1))) (sSeq (sPut (d2 dFdiv (d2 dAt (dVar 0) (dC (.int 0))) (dVar 1)) (dVar 0) (dC (.int 0))) (sRet (dVar 2)))) sNil) (sSeq (sPut (d2 dAdd (d2 dAt (dVar 0) (dC (.int 2))) (dC (.int 1))) (dVar 0) (dC (.int 2))) (sSeq (sSet 3 (d2 dMod (dN nInt (aCons (d2 dAdd (d2 dAt (dVar 0) (dC (.int 1))) (d2 dMul (dC (.int 99990067)) (d2 dAt (dVar 0) (dC (.int 2))))) aNil)) (dC (.int 2305843009213693381)))) (sSeq (sSet 4 (d2 dAdd (d2 dMul (d2 dMod (dN nInt (aCons (d2 dAdd (d2 dMul (dVar 3) (dVar 3)) (d2 dMul (dC (.int 89)) (d2 dAt (dVar 0) (dC (.int 2))))) aNil)) (dC (.int 2305843009213693343))) (dC (.int 8675309))) (dVar 3))) (sRet (d2 dMod (dN nInt (aCons (d2 dFdiv (dVar 4) (dC (.int 65551))) aNil)) (dVar 1)))))))
def F__law_roll : FN := runF 5 b__law_roll
theorem sc__law_roll : FnScope ["_law_dice_here", "_law_total", "_law_found", "_law_one", "_law_two"] ["_law_dice_here", "_law_total"] (defScope st__law_roll) := ⟨rfl, rfl, rfl, by decide +kernel, rfl, by decide +kernel, by decide +kernel⟩
theorem kn__law_roll {P : Program} {w : World} {mg : Str → Option Value} {base : Heap} {M : Md} (m : Mo P mg M) : Kn P w mg base M "_law_roll" 1 2 F__law_roll := by
  obtain ⟨f, fd, F, hm⟩ := m.d__law_roll
  exact kn_of (k := 0) F sc__law_roll hm (F.bindsN fun _ _ _ _ _ _ us hl => match us, hl with | [_, _], _ => rfl) fun cdv A outer s H E hr => (mss_cons (ms_if (mt_cmp op_gt o2_gt (me_ix ix_seq o2_at me_var me_int (fun _ _ => rfl)) me_int (nobehind _ (by decide) (by decide))) (mss_cons (ms_set sc__law_roll.nd (me_bin op_modN o2_mod (me_callTy call_int1 on_int (by rfl) m.f_int PyProof.Rows.boot_int (ma_cons (me_ix ix_seq o2_at me_var me_int (fun _ _ => rfl)) ma_nil)) me_var)) (mss_cons (ms_put (me_bin op_fdivD o2_fdiv (me_ix ix_seq o2_at me_var me_int (fun _ _ => rfl)) me_var) me_var me_int) (mss_one (ms_ret me_var)))) mss_nil) (mss_cons (ms_put (me_bin op_addA o2_add (me_ix ix_seq o2_at me_var me_int (fun _ _ => rfl)) me_int) me_var me_int) (mss_cons (ms_set sc__law_roll.nd (me_bin op_modN o2_mod (me_callTy call_int1 on_int (by rfl) m.f_int PyProof.Rows.boot_int (ma_cons (me_bin op_addA o2_add (me_ix ix_seq o2_at me_var me_int (fun _ _ => rfl)) (me_bin op_mulA o2_mul me_int (me_ix ix_seq o2_at me_var me_int (fun _ _ => rfl)))) ma_nil)) me_int)) (mss_cons (ms_set sc__law_roll.nd (me_bin op_addA o2_add (me_bin op_mulA o2_mul (me_bin op_modN o2_mod (me_callTy call_int1 on_int (by rfl) m.f_int PyProof.Rows.boot_int (ma_cons (me_bin op_addA o2_add (me_bin op_mulA o2_mul me_var me_var) (me_bin op_mulA o2_mul me_int (me_ix ix_seq o2_at me_var me_int (fun _ _ => rfl)))) ma_nil)) me_int) me_int) me_var)) (mss_one (ms_ret (me_bin op_modN o2_mod (me_callTy call_int1 on_int (by rfl) m.f_int PyProof.Rows.boot_int (ma_cons (me_bin op_fdivD o2_fdiv me_var me_int) ma_nil)) me_var)))))))
def b__law_pick : Fst := (sRet (d2 dAt (dVar 1) (dCall F__law_roll 2 (aCons (dVar 0) (aCons (dN nLen (aCons (dVar 1) aNil)) aNil)))))
def F__law_pick : FN := runF 2 b__law_pick
theorem sc__law_pick : FnScope ["_law_dice_here", "_law_items"] ["_law_dice_here", "_law_items"] (defScope st__law_pick) := ⟨rfl, rfl, rfl, by decide +kernel, rfl, by decide +kernel, by decide +kernel⟩
theorem kn__law_pick {P : Program} {w : World} {mg : Str → Option Value} {base : Heap} {M : Md} (m : Mo P mg M) : Kn P w mg base M "_law_pick" 2 2 F__law_pick := by
  obtain ⟨f, fd, F, hm⟩ := m.d__law_pick
  exact kn_of (k := 1) F sc__law_pick hm (F.bindsN fun _ _ _ _ _ _ us hl => match us, hl with | [_, _], _ => rfl) fun cdv A outer s H E hr => (mss_one (ms_ret (me_ix ix_seq o2_at me_var (me_call rfl (takes_of rfl rfl rfl rfl) (kn__law_roll m) hr (ma_cons me_var (ma_cons (me_callB call_len on_len (by rfl) m.f_len boot_len (ma_cons me_var ma_nil)) ma_nil))) (fun _ _ => rfl))))
def b__law_tw_root : Fst := (sSeq (sPar 1 2 (aCons (dC (.int 0)) (aCons (d2 dAdd (dVar 0) (dC (.int 1))) aNil))) (sSeq (sWhile (fB (d2 dGt (d2 dSub (dVar 2) (dVar 1)) (dC (.int 1)))) (sSeq (sSet 3 (d2 dFdiv (d2 dAdd (dVar 1) (dVar 2)) (dC (.int 2)))) (sIf (fB (d2 dLe (d2 dMul (dVar 3) (dVar 3)) (dVar 0))) (sSet 1 (dVar 3)) (sSet 2 (dVar 3))))) (sRet (dVar 1))))
def F__law_tw_root : FN := runF 4 b__law_tw_root
theorem sc__law_tw_root : FnScope ["_law_number", "_law_low", "_law_high", "_law_middle"] ["_law_number"] (defScope st__law_tw_root) := ⟨rfl, rfl, rfl, by decide +kernel, rfl, by decide +kernel, by decide +kernel⟩
theorem kn__law_tw_root {P : Program} {w : World} {mg : Str → Option Value} {base : Heap} {M : Md} (m : Mo P mg M) : Kn P w mg base M "_law_tw_root" 1 1 F__law_tw_root := by
  obtain ⟨f, fd, F, hm⟩ := m.d__law_tw_root
  exact kn_of (k := 0) F sc__law_tw_root hm (F.bindsN fun _ _ _ _ _ _ us hl => match us, hl with | [_], _ => rfl) fun cdv A outer s H E hr => (mss_cons (ms_par rfl sc__law_tw_root.nd (ma_cons me_int (ma_cons (me_bin op_addA o2_add me_var me_int) ma_nil))) (mss_cons (ms_while (passes_of rfl) (mt_cmp op_gt o2_gt (me_bin op_sub o2_sub me_var me_var) me_int (nobehind _ (by decide) (by decide))) (mss_cons (ms_set sc__law_tw_root.nd (me_bin op_fdivD o2_fdiv (me_bin op_addA o2_add me_var me_var) me_int)) (mss_one (ms_if (mt_cmp op_le o2_le (me_bin op_mulA o2_mul me_var me_var) me_var (nobehind _ (by decide) (by decide))) (mss_one (ms_set sc__law_tw_root.nd me_var)) (mss_one (ms_set sc__law_tw_root.nd me_var)))))) (mss_one (ms_ret me_var))))
def b__law_tw_is_square : Fst := (sSeq (sIf (fB (d2 dLt (dVar 0) (dC (.int 0)))) (sRet (dC (.bl false))) sNil) (sRet (d2 dEq (d2 dMul (dCall F__law_tw_root 1 (aCons (dVar 0) aNil)) (dCall F__law_tw_root 1 (aCons (dVar 0) aNil))) (dVar 0))))
def F__law_tw_is_square : FN := runF 1 b__law_tw_is_square
theorem sc__law_tw_is_square : FnScope ["_law_number"] ["_law_number"] (defScope st__law_tw_is_square) := ⟨rfl, rfl, rfl, by decide +kernel, rfl, by decide +kernel, by decide +kernel⟩
theorem kn__law_tw_is_square {P : Program} {w : World} {mg : Str → Option Value} {base : Heap} {M : Md} (m : Mo P mg M) : Kn P w mg base M "_law_tw_is_square" 2 1 F__law_tw_is_square := by
  obtain ⟨f, fd, F, hm⟩ := m.d__law_tw_is_square
  exact kn_of (k := 1) F sc__law_tw_is_square hm (F.bindsN fun _ _ _ _ _ _ us hl => match us, hl with | [_], _ => rfl) fun cdv A outer s H E hr => (mss_cons (ms_if (mt_cmp op_lt o2_lt me_var me_int (nobehind _ (by decide) (by decide))) (mss_one (ms_ret me_bl)) mss_nil) (mss_one (ms_ret (me_cmp (op_eqD hr.units) o2_eq (me_bin op_mulA o2_mul (me_call rfl (takes_of rfl rfl rfl rfl) (kn__law_tw_root m) hr (ma_cons me_var ma_nil)) (me_call rfl (takes_of rfl rfl rfl rfl) (kn__law_tw_root m) hr (ma_cons me_var ma_nil))) me_var (nobehind _ (by decide) (by decide))))))
def b__law_tw_left : Fst := (sSeq (sAsg (.tp (.cons (.nm 1) (.cons (.nm 2) (.cons (.nm 3) (.cons (.nm 4) .nil))))) (dVar 0)) (sRet (mkTup (aCons (dVar 1) (aCons (d2 dSub (d2 dSub (dVar 1) (dVar 2)) (dC (.int 1))) (aCons (d2 dAdd (d2 dSub (d2 dSub (dVar 1) (dC (.int 2))) (d2 dMul (dC (.int 2)) (dVar 2))) (dVar 4)) (aCons (d2 dAdd (d2 dSub (dVar 1) (d2 dMul (dC (.int 2)) (dVar 2))) (dVar 3)) aNil)))))))
def F__law_tw_left : FN := runF 5 b__law_tw_left
theorem sc__law_tw_left : FnScope ["_law_told", "_law_n", "_law_k", "_law_l", "_law_m"] ["_law_told"] (defScope st__law_tw_left) := ⟨rfl, rfl, rfl, by decide +kernel, rfl, by decide +kernel, by decide +kernel⟩
theorem kn__law_tw_left {P : Program} {w : World} {mg : Str → Option Value} {base : Heap} {M : Md} (m : Mo P mg M) : Kn P w mg base M "_law_tw_left" 1 1 F__law_tw_left := by
  obtain ⟨f, fd, F, hm⟩ := m.d__law_tw_left
  exact kn_of (k := 0) F sc__law_tw_left hm (F.bindsN fun _ _ _ _ _ _ us hl => match us, hl with | [_], _ => rfl) fun cdv A outer s H E hr => (mss_cons (ms_asg rfl me_var (mg_tp rfl (mgs_cons (mg_nm sc__law_tw_left.nd) (mgs_cons (mg_nm sc__law_tw_left.nd) (mgs_cons (mg_nm sc__law_tw_left.nd) (mgs_cons (mg_nm sc__law_tw_left.nd) mgs_nil)))))) (mss_one (ms_ret (me_tup (ma_cons me_var (ma_cons (me_bin op_sub o2_sub (me_bin op_sub o2_sub me_var me_var) me_int) (ma_cons (me_bin op_addA o2_add (me_bin op_sub o2_sub (me_bin op_sub o2_sub me_var me_int) (me_bin op_mulA o2_mul me_int me_var)) me_var) (ma_cons (me_bin op_addA o2_add (me_bin op_sub o2_sub me_var (me_bin op_mulA o2_mul me_int me_var)) me_var) ma_nil))))))))
def b__law_tw_two_squares : Fst := (sRet (d2 dNe (dLc (iR1 (aCons (d2 dAdd (dCall F__law_tw_root 1 (aCons (dVar 0) aNil)) (dC (.int 1))) aNil)) (.nm 1) (fTru (dCall F__law_tw_is_square 1 (aCons (d2 dSub (dVar 0) (d2 dMul (dVar 1) (dVar 1))) aNil))) (dC (.int 1)) [1]) (mkLst aNil)))
def F__law_tw_two_squares : FN := runF 2 b__law_tw_two_squares
theorem sc__law_tw_two_squares : FnScope ["_law_number", "_law_one"] ["_law_number"] (defScope st__law_tw_two_squares) := ⟨rfl, rfl, rfl, by decide +kernel, rfl, by decide +kernel, by decide +kernel⟩
theorem kn__law_tw_two_squares {P : Program} {w : World} {mg : Str → Option Value} {base : Heap} {M : Md} (m : Mo P mg M) : Kn P w mg base M "_law_tw_two_squares" 3 1 F__law_tw_two_squares := by
  obtain ⟨f, fd, F, hm⟩ := m.d__law_tw_two_squares
  exact kn_of (k := 2) F sc__law_tw_two_squares hm (F.bindsN fun _ _ _ _ _ _ us hl => match us, hl with | [_], _ => rfl) fun cdv A outer s H E hr => (mss_one (ms_ret (me_cmp (op_neD hr.units) o2_ne (me_lc (own := [("_law_one", 1)]) rfl rfl sc__law_tw_two_squares.nd (mi_range1 m.f_range (ma_cons (me_bin op_addA o2_add (me_call rfl (takes_of rfl rfl rfl rfl) (kn__law_tw_root m) hr (ma_cons me_var ma_nil)) me_int) ma_nil)) (by first | rfl | decide +kernel) (fun _ _ _ _ _ => (mg_nm sc__law_tw_two_squares.nd)) (fun _ _ _ _ _ => (mts_one (mt_tru rfl (me_call rfl L2.takes0 (kn__law_tw_is_square m) hr (ma_cons (me_bin op_sub o2_sub me_var (me_bin op_mulA o2_mul me_var me_var)) ma_nil))))) (fun _ _ _ _ _ => me_int)) (me_lst ma_nil) (nobehind _ (by decide) (by decide)))))
def b__law_tw_is_over : Fst := (sRet (d2 dGt (d2 dMul (d2 dAdd (dVar 1) (dC (.int 1))) (d2 dAdd (d2 dAdd (dVar 0) (dVar 1)) (d2 dMul (d2 dMul (dC (.int 2)) (dVar 1)) (dVar 2)))) (d2 dMul (d2 dMul (d2 dAdd (dVar 0) (dVar 1)) (d2 dAdd (dVar 2) (dC (.int 1)))) (d2 dAdd (dVar 2) (dC (.int 1))))))
def F__law_tw_is_over : FN := runF 3 b__law_tw_is_over
theorem sc__law_tw_is_over : FnScope ["_law_k", "_law_t", "_law_u"] ["_law_k", "_law_t", "_law_u"] (defScope st__law_tw_is_over) := ⟨rfl, rfl, rfl, by decide +kernel, rfl, by decide +kernel, by decide +kernel⟩
theorem kn__law_tw_is_over {P : Program} {w : World} {mg : Str → Option Value} {base : Heap} {M : Md} (m : Mo P mg M) : Kn P w mg base M "_law_tw_is_over" 1 3 F__law_tw_is_over := by
  obtain ⟨f, fd, F, hm⟩ := m.d__law_tw_is_over
  exact kn_of (k := 0) F sc__law_tw_is_over hm (F.bindsN fun _ _ _ _ _ _ us hl => match us, hl with | [_, _, _], _ => rfl) fun cdv A outer s H E hr => (mss_one (ms_ret (me_cmp op_gt o2_gt (me_bin op_mulA o2_mul (me_bin op_addA o2_add me_var me_int) (me_bin op_addA o2_add (me_bin op_addA o2_add me_var me_var) (me_bin op_mulA o2_mul (me_bin op_mulA o2_mul me_int me_var) me_var))) (me_bin op_mulA o2_mul (me_bin op_mulA o2_mul (me_bin op_addA o2_add me_var me_var) (me_bin op_addA o2_add me_var me_int)) (me_bin op_addA o2_add me_var me_int)) (nobehind _ (by decide) (by decide)))))
def b__law_tw_fault : Fst := (sSeq (sAsg (.tp (.cons (.nm 1) (.cons (.nm 2) (.cons (.nm 3) (.cons (.nm 4) .nil))))) (dVar 0)) (sSeq (sSet 5 (dCall F__law_tw_left 1 (aCons (dVar 0) aNil))) (sSeq (sIf (fOr (fNot (fB (dChain dLe dLe (dC (.int 1)) (dVar 2) (d2 dSub (dVar 1) (dC (.int 2)))))) (fOr (fB (d2 dGt (dVar 3) (d2 dSub (dVar 2) (dC (.int 1))))) (fOr (fB (d2 dGt (dVar 4) (dVar 2))) (fB (d2 dLt (dN nMinT (aCons (dSlice (dVar 5) (oSome (dC (.int 2))) oNone) aNil)) (dC (.int 0))))))) (sRet (dC (.str "range"))) sNil) (sSeq (sIf (fB (d2 dNe (d2 dMul (dVar 2) (d2 dSub (d2 dSub (dVar 2) (dVar 3)) (dC (.int 1)))) (d2 dMul (d2 dSub (d2 dSub (dVar 1) (dVar 2)) (dC (.int 1))) (dVar 4)))) (sRet (dC (.str "count"))) sNil) (sSeq (sIf (fOr (fB (d2 dEq (d2 dMod (d2 dMul (dVar 1) (dVar 2)) (dC (.int 2))) (dC (.int 1)))) (fB (d2 dGt (d2 dMod (d2 dMul (d2 dMul (dVar 1) (dVar 2)) (dVar 3)) (dC (.int 6))) (dC (.int 0))))) (sRet (dC (.str "ties"))) sNil) (sSeq (sSet 6 (d2 dAdd (d2 dMul (d2 dSub (dVar 3) (dVar 4)) (d2 dSub (dVar 3) (dVar 4))) (d2 dMul (dC (.int 4)) (d2 dSub (dVar 2) (dVar 4))))) (sSeq (sSet 7 (d2 dAdd (d2 dMul (dC (.int 2)) (dVar 2)) (d2 dMul (d2 dSub (dVar 1) (dC (.int 1))) (d2 dSub (dVar 3) (dVar 4))))) (sSeq (sIf (fAnd (fB (d2 dEq (dVar 7) (dC (.int 0)))) (fNot (fTru (dCall F__law_tw_is_square 1 (aCons (dVar 6) aNil))))) (sRet (dIf (fTru (dCall F__law_tw_two_squares 1 (aCons (dVar 1) aNil))) (dC (.str "half")) (dC (.str "squares")))) sNil) (sSeq (sSet 8 (dCall F__law_tw_root 1 (aCons (dVar 6) aNil))) (sSeq (sIf (fOr (fB (d2 dNe (d2 dMul (dVar 8) (dVar 8)) (dVar 6))) (fOr (fB (d2 dLt (dVar 8) (dC (.int 1)))) (fB (d2 dGt (d2 dMod (dVar 7) (dVar 8)) (dC (.int 0)))))) (sRet (dC (.str "values"))) sNil) (sSeq (sPar 9 10 (aCons (d2 dSub (d2 dSub (dVar 1) (dC (.int 1))) (d2 dFdiv (dVar 7) (dVar 8))) (aCons (d2 dAdd (d2 dSub (dVar 1) (dC (.int 1))) (d2 dFdiv (dVar 7) (dVar 8))) aNil))) (sSeq (sIf (fOr (fB (d2 dEq (d2 dMod (dVar 9) (dC (.int 2))) (dC (.int 1)))) (fB (d2 dLt (dN nMin2 (aCons (dVar 9) (aCons (dVar 10) aNil))) (dC (.int 2))))) (sRet (dC (.str "values"))) sNil) (sSeq (sPar 11 12 (aCons (d2 dFdiv (d2 dAdd (d2 dSub (dVar 3) (dVar 4)) (dVar 8)) (dC (.int 2))) (aCons (d2 dFdiv (d2 dSub (d2 dSub (dVar 3) (dVar 4)) (dVar 8)) (dC (.int 2))) aNil))) (sSeq (sIf (fOr (fTru (dCall F__law_tw_is_over 3 (aCons (dVar 2) (aCons (dVar 11) (aCons (dVar 12) aNil))))) (fTru (dCall F__law_tw_is_over 3 (aCons (dVar 2) (aCons (dVar 12) (aCons (dVar 11) aNil)))))) (sRet (dC (.str "krein"))) sNil) (sSeq (sPar 9 10 (aCons (d2 dFdiv (dVar 9) (dC (.int 2))) (aCons (d2 dFdiv (dVar 10) (dC (.int 2))) aNil))) (sSeq (sIf (fAnd (fB (dChain dLt dLt (dC (.int 0)) (dVar 4) (dVar 2))) (fB (d2 dGt (d2 dMul (dC (.int 2)) (dVar 1)) (dN nMin2 (aCons (d2 dMul (dVar 9) (d2 dAdd (dVar 9) (dC (.int 3)))) (aCons (d2 dMul (dVar 10) (d2 dAdd (dVar 10) (dC (.int 3)))) aNil)))))) (sRet (dC (.str "absolute"))) sNil) (sRet (dC .non))))))))))))))))))
def F__law_tw_fault : FN := runF 13 b__law_tw_fault
theorem sc__law_tw_fault : FnScope ["_law_told", "_law_n", "_law_k", "_law_l", "_law_m", "_law_left", "_law_inner", "_law_whole", "_law_root", "_law_first", "_law_last", "_law_high", "_law_low"] ["_law_told"] (defScope st__law_tw_fault) := ⟨rfl, rfl, rfl, by decide +kernel, rfl, by decide +kernel, by decide +kernel⟩
theorem kn__law_tw_fault {P : Program} {w : World} {mg : Str → Option Value} {base : Heap} {M : Md} (m : Mo P mg M) : Kn P w mg base M "_law_tw_fault" 4 1 F__law_tw_fault := by
  obtain ⟨f, fd, F, hm⟩ := m.d__law_tw_fault
  exact kn_of (k := 3) F sc__law_tw_fault hm (F.bindsN fun _ _ _ _ _ _ us hl => match us, hl with | [_], _ => rfl) fun cdv A outer s H E hr => (mss_cons (ms_asg rfl me_var (mg_tp rfl (mgs_cons (mg_nm sc__law_tw_fault.nd) (mgs_cons (mg_nm sc__law_tw_fault.nd) (mgs_cons (mg_nm sc__law_tw_fault.nd) (mgs_cons (mg_nm sc__law_tw_fault.nd) mgs_nil)))))) (mss_cons (ms_set sc__law_tw_fault.nd (me_call rfl (takes_of rfl rfl rfl rfl) (kn__law_tw_left m) hr (ma_cons me_var ma_nil))) (mss_cons (ms_if (PW.pt (mw_or (mt_not (mt_chain op_le o2_le op_le o2_le me_int me_var (me_bin op_sub o2_sub me_var me_int))) (mw_or (mt_cmp op_gt o2_gt me_var (me_bin op_sub o2_sub me_var me_int) (nobehind _ (by decide) (by decide))) (mw_or (mt_cmp op_gt o2_gt me_var me_var (nobehind _ (by decide) (by decide))) (mw_or1 (mt_cmp op_lt o2_lt (me_callB (call_minT rfl (MP.Room.u200 hr)) on_minT (by rfl) m.f_min boot_min (ma_cons (me_slice rfl me_var (mo_some me_int) mo_none) ma_nil)) me_int (nobehind _ (by decide) (by decide)))))))) (mss_one (ms_ret me_str)) mss_nil) (mss_cons (ms_if (mt_cmp (op_neD hr.units) o2_ne (me_bin op_mulA o2_mul me_var (me_bin op_sub o2_sub (me_bin op_sub o2_sub me_var me_var) me_int)) (me_bin op_mulA o2_mul (me_bin op_sub o2_sub (me_bin op_sub o2_sub me_var me_var) me_int) me_var) (nobehind _ (by decide) (by decide))) (mss_one (ms_ret me_str)) mss_nil) (mss_cons (ms_if (PW.pt (mw_or (mt_cmp (op_eqD hr.units) o2_eq (me_bin op_modN o2_mod (me_bin op_mulA o2_mul me_var me_var) me_int) me_int (nobehind _ (by decide) (by decide))) (mw_or1 (mt_cmp op_gt o2_gt (me_bin op_modN o2_mod (me_bin op_mulA o2_mul (me_bin op_mulA o2_mul me_var me_var) me_var) me_int) me_int (nobehind _ (by decide) (by decide)))))) (mss_one (ms_ret me_str)) mss_nil) (mss_cons (ms_set sc__law_tw_fault.nd (me_bin op_addA o2_add (me_bin op_mulA o2_mul (me_bin op_sub o2_sub me_var me_var) (me_bin op_sub o2_sub me_var me_var)) (me_bin op_mulA o2_mul me_int (me_bin op_sub o2_sub me_var me_var)))) (mss_cons (ms_set sc__law_tw_fault.nd (me_bin op_addA o2_add (me_bin op_mulA o2_mul me_int me_var) (me_bin op_mulA o2_mul (me_bin op_sub o2_sub me_var me_int) (me_bin op_sub o2_sub me_var me_var)))) (mss_cons (ms_if (PW.pt (mw_and (mt_cmp (op_eqD hr.units) o2_eq me_var me_int (nobehind _ (by decide) (by decide))) (mw_and1 (mt_not (mt_tru rfl (me_call rfl (takes_of rfl rfl rfl rfl) (kn__law_tw_is_square m) hr (ma_cons me_var ma_nil))))))) (mss_one (ms_ret (me_if (mt_tru rfl (me_call rfl (takes_of rfl rfl rfl rfl) (kn__law_tw_two_squares m) hr (ma_cons me_var ma_nil))) me_str me_str))) mss_nil) (mss_cons (ms_set sc__law_tw_fault.nd (me_call rfl (takes_of rfl rfl rfl rfl) (kn__law_tw_root m) hr (ma_cons me_var ma_nil))) (mss_cons (ms_if (PW.pt (mw_or (mt_cmp (op_neD hr.units) o2_ne (me_bin op_mulA o2_mul me_var me_var) me_var (nobehind _ (by decide) (by decide))) (mw_or (mt_cmp op_lt o2_lt me_var me_int (nobehind _ (by decide) (by decide))) (mw_or1 (mt_cmp op_gt o2_gt (me_bin op_modN o2_mod me_var me_var) me_int (nobehind _ (by decide) (by decide))))))) (mss_one (ms_ret me_str)) mss_nil) (mss_cons (ms_par rfl sc__law_tw_fault.nd (ma_cons (me_bin op_sub o2_sub (me_bin op_sub o2_sub me_var me_int) (me_bin op_fdivD o2_fdiv me_var me_var)) (ma_cons (me_bin op_addA o2_add (me_bin op_sub o2_sub me_var me_int) (me_bin op_fdivD o2_fdiv me_var me_var)) ma_nil))) (mss_cons (ms_if (PW.pt (mw_or (mt_cmp (op_eqD hr.units) o2_eq (me_bin op_modN o2_mod me_var me_int) me_int (nobehind _ (by decide) (by decide))) (mw_or1 (mt_cmp op_lt o2_lt (me_callB (call_min2 rfl) on_min2 (by rfl) m.f_min boot_min (ma_cons me_var (ma_cons me_var ma_nil))) me_int (nobehind _ (by decide) (by decide)))))) (mss_one (ms_ret me_str)) mss_nil) (mss_cons (ms_par rfl sc__law_tw_fault.nd (ma_cons (me_bin op_fdivD o2_fdiv (me_bin op_addA o2_add (me_bin op_sub o2_sub me_var me_var) me_var) me_int) (ma_cons (me_bin op_fdivD o2_fdiv (me_bin op_sub o2_sub (me_bin op_sub o2_sub me_var me_var) me_var) me_int) ma_nil))) (mss_cons (ms_if (PW.pt (mw_or (mt_tru rfl (me_call rfl (takes_of rfl rfl rfl rfl) (kn__law_tw_is_over m) hr (ma_cons me_var (ma_cons me_var (ma_cons me_var ma_nil))))) (mw_or1 (mt_tru rfl (me_call rfl (takes_of rfl rfl rfl rfl) (kn__law_tw_is_over m) hr (ma_cons me_var (ma_cons me_var (ma_cons me_var ma_nil)))))))) (mss_one (ms_ret me_str)) mss_nil) (mss_cons (ms_par rfl sc__law_tw_fault.nd (ma_cons (me_bin op_fdivD o2_fdiv me_var me_int) (ma_cons (me_bin op_fdivD o2_fdiv me_var me_int) ma_nil))) (mss_cons (ms_if (PW.pt (mw_and (mt_chain op_lt o2_lt op_lt o2_lt me_int me_var me_var) (mw_and1 (mt_cmp op_gt o2_gt (me_bin op_mulA o2_mul me_int me_var) (me_callB (call_min2 rfl) on_min2 (by rfl) m.f_min boot_min (ma_cons (me_bin op_mulA o2_mul me_var (me_bin op_addA o2_add me_var me_int)) (ma_cons (me_bin op_mulA o2_mul me_var (me_bin op_addA o2_add me_var me_int)) ma_nil))) (nobehind _ (by decide) (by decide)))))) (mss_one (ms_ret me_str)) mss_nil) (mss_one (ms_ret me_non))))))))))))))))))
def b__law_tw_values : Fst := (sSeq (sAsg (.tp (.cons (.nm 1) (.cons (.nm 2) (.cons (.nm 3) (.cons (.nm 4) .nil))))) (dVar 0)) (sSeq (sSet 5 (dCall F__law_tw_root 1 (aCons (d2 dAdd (d2 dMul (d2 dSub (dVar 3) (dVar 4)) (d2 dSub (dVar 3) (dVar 4))) (d2 dMul (dC (.int 4)) (d2 dSub (dVar 2) (dVar 4)))) aNil))) (sSeq (sSet 6 (d2 dAdd (d2 dMul (dC (.int 2)) (dVar 2)) (d2 dMul (d2 dSub (dVar 1) (dC (.int 1))) (d2 dSub (dVar 3) (dVar 4))))) (sSeq (sSet 7 (mkTup (aCons (d2 dFdiv (d2 dAdd (d2 dSub (dVar 3) (dVar 4)) (dVar 5)) (dC (.int 2))) (aCons (d2 dFdiv (d2 dSub (d2 dSub (dVar 1) (dC (.int 1))) (d2 dFdiv (dVar 6) (dVar 5))) (dC (.int 2))) aNil)))) (sRet (mkTup (aCons (dVar 7) (aCons (mkTup (aCons (d2 dFdiv (d2 dSub (d2 dSub (dVar 3) (dVar 4)) (dVar 5)) (dC (.int 2))) (aCons (d2 dFdiv (d2 dAdd (d2 dSub (dVar 1) (dC (.int 1))) (d2 dFdiv (dVar 6) (dVar 5))) (dC (.int 2))) aNil))) aNil))))))))
def F__law_tw_values : FN := runF 8 b__law_tw_values
theorem sc__law_tw_values : FnScope ["_law_told", "_law_n", "_law_k", "_law_l", "_law_m", "_law_root", "_law_whole", "_law_high"] ["_law_told"] (defScope st__law_tw_values) := ⟨rfl, rfl, rfl, by decide +kernel, rfl, by decide +kernel, by decide +kernel⟩
theorem kn__law_tw_values {P : Program} {w : World} {mg : Str → Option Value} {base : Heap} {M : Md} (m : Mo P mg M) : Kn P w mg base M "_law_tw_values" 2 1 F__law_tw_values := by
  obtain ⟨f, fd, F, hm⟩ := m.d__law_tw_values
  exact kn_of (k := 1) F sc__law_tw_values hm (F.bindsN fun _ _ _ _ _ _ us hl => match us, hl with | [_], _ => rfl) fun cdv A outer s H E hr => (mss_cons (ms_asg rfl me_var (mg_tp rfl (mgs_cons (mg_nm sc__law_tw_values.nd) (mgs_cons (mg_nm sc__law_tw_values.nd) (mgs_cons (mg_nm sc__law_tw_values.nd) (mgs_cons (mg_nm sc__law_tw_values.nd) mgs_nil)))))) (mss_cons (ms_set sc__law_tw_values.nd (me_call rfl (takes_of rfl rfl rfl rfl) (kn__law_tw_root m) hr (ma_cons (me_bin op_addA o2_add (me_bin op_mulA o2_mul (me_bin op_sub o2_sub me_var me_var) (me_bin op_sub o2_sub me_var me_var)) (me_bin op_mulA o2_mul me_int (me_bin op_sub o2_sub me_var me_var))) ma_nil))) (mss_cons (ms_set sc__law_tw_values.nd (me_bin op_addA o2_add (me_bin op_mulA o2_mul me_int me_var) (me_bin op_mulA o2_mul (me_bin op_sub o2_sub me_var me_int) (me_bin op_sub o2_sub me_var me_var)))) (mss_cons (ms_set sc__law_tw_values.nd (me_tup (ma_cons (me_bin op_fdivD o2_fdiv (me_bin op_addA o2_add (me_bin op_sub o2_sub me_var me_var) me_var) me_int) (ma_cons (me_bin op_fdivD o2_fdiv (me_bin op_sub o2_sub (me_bin op_sub o2_sub me_var me_int) (me_bin op_fdivD o2_fdiv me_var me_var)) me_int) ma_nil)))) (mss_one (ms_ret (me_tup (ma_cons me_var (ma_cons (me_tup (ma_cons (me_bin op_fdivD o2_fdiv (me_bin op_sub o2_sub (me_bin op_sub o2_sub me_var me_var) me_var) me_int) (ma_cons (me_bin op_fdivD o2_fdiv (me_bin op_addA o2_add (me_bin op_sub o2_sub me_var me_int) (me_bin op_fdivD o2_fdiv me_var me_var)) me_int) ma_nil))) ma_nil)))))))))
def b__law_tuple_drawn : Fst := (sSeq (sSet 1 (d2 dAdd (dC (.int 4)) (dCall F__law_roll 2 (aCons (dVar 0) (aCons (dCall F__law_pick 2 (aCons (dVar 0) (aCons (mkLst (aCons (dC (.int 8)) (aCons (dC (.int 30)) (aCons (dC (.int 100)) (aCons (dC (.int 197)) aNil))))) aNil))) aNil))))) (sSeq (sIf (fB (d2 dEq (dCall F__law_roll 2 (aCons (dVar 0) (aCons (dC (.int 6)) aNil))) (dC (.int 0)))) (sRet (mkTup (aCons (dVar 1) (aCons (dCall F__law_roll 2 (aCons (dVar 0) (aCons (dVar 1) aNil))) (aCons (dCall F__law_roll 2 (aCons (dVar 0) (aCons (dVar 1) aNil))) (aCons (dCall F__law_roll 2 (aCons (dVar 0) (aCons (dVar 1) aNil))) aNil)))))) sNil) (sSeq (sSet 2 (d2 dAdd (dC (.int 1)) (dCall F__law_roll 2 (aCons (dVar 0) (aCons (d2 dSub (dVar 1) (dC (.int 2))) aNil))))) (sSeq (sSet 3 (dLc (iR1 (aCons (dVar 2) aNil)) (.nm 4) (fAnd (fB (d2 dEq (d2 dMod (d2 dMul (dVar 2) (d2 dSub (d2 dSub (dVar 2) (dVar 4)) (dC (.int 1)))) (d2 dSub (d2 dSub (dVar 1) (dVar 2)) (dC (.int 1)))) (dC (.int 0)))) (fB (d2 dLe (d2 dFdiv (d2 dMul (dVar 2) (d2 dSub (d2 dSub (dVar 2) (dVar 4)) (dC (.int 1)))) (d2 dSub (d2 dSub (dVar 1) (dVar 2)) (dC (.int 1)))) (dVar 2)))) (dVar 4) [4])) (sSeq (sSet 4 (dIf (fB (d2 dNe (dVar 3) (mkLst aNil))) (dCall F__law_pick 2 (aCons (dVar 0) (aCons (dVar 3) aNil))) (dCall F__law_roll 2 (aCons (dVar 0) (aCons (dVar 1) aNil))))) (sRet (mkTup (aCons (dVar 1) (aCons (dVar 2) (aCons (dVar 4) (aCons (dIf (fB (d2 dNe (dVar 3) (mkLst aNil))) (d2 dFdiv (d2 dMul (dVar 2) (d2 dSub (d2 dSub (dVar 2) (dVar 4)) (dC (.int 1)))) (d2 dSub (d2 dSub (dVar 1) (dVar 2)) (dC (.int 1)))) (dCall F__law_roll 2 (aCons (dVar 0) (aCons (dVar 1) aNil)))) aNil)))))))))))
def F__law_tuple_drawn : FN := runF 5 b__law_tuple_drawn
theorem sc__law_tuple_drawn : FnScope ["_law_dice_here", "_law_n", "_law_k", "_law_some", "_law_l"] ["_law_dice_here"] (defScope st__law_tuple_drawn) := ⟨rfl, rfl, rfl, by decide +kernel, rfl, by decide +kernel, by decide +kernel⟩
theorem kn__law_tuple_drawn {P : Program} {w : World} {mg : Str → Option Value} {base : Heap} {M : Md} (m : Mo P mg M) : Kn P w mg base M "_law_tuple_drawn" 3 1 F__law_tuple_drawn := by
  obtain ⟨f, fd, F, hm⟩ := m.d__law_tuple_drawn
  exact kn_of (k := 2) F sc__law_tuple_drawn hm (F.bindsN fun _ _ _ _ _ _ us hl => match us, hl with | [_], _ => rfl) fun cdv A outer s H E hr => (mss_cons (ms_set sc__law_tuple_drawn.nd (me_bin op_addA o2_add me_int (me_call rfl (takes_of rfl rfl rfl rfl) (kn__law_roll m) hr (ma_cons me_var (ma_cons (me_call rfl (takes_of rfl rfl rfl rfl) (kn__law_pick m) hr (ma_cons me_var (ma_cons (me_lst (ma_cons me_int (ma_cons me_int (ma_cons me_int (ma_cons me_int ma_nil))))) ma_nil))) ma_nil))))) (mss_cons (ms_if (mt_cmp (op_eqD hr.units) o2_eq (me_call rfl (takes_of rfl rfl rfl rfl) (kn__law_roll m) hr (ma_cons me_var (ma_cons me_int ma_nil))) me_int (nobehind _ (by decide) (by decide))) (mss_one (ms_ret (me_tup (ma_cons me_var (ma_cons (me_call rfl (takes_of rfl rfl rfl rfl) (kn__law_roll m) hr (ma_cons me_var (ma_cons me_var ma_nil))) (ma_cons (me_call rfl (takes_of rfl rfl rfl rfl) (kn__law_roll m) hr (ma_cons me_var (ma_cons me_var ma_nil))) (ma_cons (me_call rfl (takes_of rfl rfl rfl rfl) (kn__law_roll m) hr (ma_cons me_var (ma_cons me_var ma_nil))) ma_nil))))))) mss_nil) (mss_cons (ms_set sc__law_tuple_drawn.nd (me_bin op_addA o2_add me_int (me_call rfl (takes_of rfl rfl rfl rfl) (kn__law_roll m) hr (ma_cons me_var (ma_cons (me_bin op_sub o2_sub me_var me_int) ma_nil))))) (mss_cons (ms_setLc (own := [("_law_l", 4)]) rfl rfl sc__law_tuple_drawn.nd (mi_range1 m.f_range (ma_cons me_var ma_nil)) (by first | rfl | decide +kernel) (fun _ _ _ _ _ => (mg_nm sc__law_tuple_drawn.nd)) (fun _ _ _ _ _ => (mts_one (PW.pt (mw_and (mt_cmp (op_eqD hr.units) o2_eq (me_bin op_modN o2_mod (me_bin op_mulA o2_mul me_var (me_bin op_sub o2_sub (me_bin op_sub o2_sub me_var me_var) me_int)) (me_bin op_sub o2_sub (me_bin op_sub o2_sub me_var me_var) me_int)) me_int (nobehind _ (by decide) (by decide))) (mw_and1 (mt_cmp op_le o2_le (me_bin op_fdivD o2_fdiv (me_bin op_mulA o2_mul me_var (me_bin op_sub o2_sub (me_bin op_sub o2_sub me_var me_var) me_int)) (me_bin op_sub o2_sub (me_bin op_sub o2_sub me_var me_var) me_int)) me_var (nobehind _ (by decide) (by decide)))))))) (fun _ _ _ _ _ => me_var) (by first | rfl | decide +kernel)) (mss_cons (ms_set sc__law_tuple_drawn.nd (me_if (mt_cmp (op_neD hr.units) o2_ne me_var (me_lst ma_nil) (nobehind _ (by decide) (by decide))) (me_call rfl (takes_of rfl rfl rfl rfl) (kn__law_pick m) hr (ma_cons me_var (ma_cons me_var ma_nil))) (me_call rfl (takes_of rfl rfl rfl rfl) (kn__law_roll m) hr (ma_cons me_var (ma_cons me_var ma_nil))))) (mss_one (ms_ret (me_tup (ma_cons me_var (ma_cons me_var (ma_cons me_var (ma_cons (me_if (mt_cmp (op_neD hr.units) o2_ne me_var (me_lst ma_nil) (nobehind _ (by decide) (by decide))) (me_bin op_fdivD o2_fdiv (me_bin op_mulA o2_mul me_var (me_bin op_sub o2_sub (me_bin op_sub o2_sub me_var me_var) me_int)) (me_bin op_sub o2_sub (me_bin op_sub o2_sub me_var me_var) me_int)) (me_call rfl (takes_of rfl rfl rfl rfl) (kn__law_roll m) hr (ma_cons me_var (ma_cons me_var ma_nil)))) ma_nil))))))))))))
def met__law_met : FTh → FTh := metF 4 subX [⟨3, some 1, (fSu2 "refused" 3 "reason")⟩, ⟨1, none, fun _ S => (mkTup (aCons (dC (.str "refused")) (aCons (dC (.str "operation")) aNil))) [] S⟩] 2 (fun d S => .ok (.tup [.str "told", d]) S)
theorem sc__law_met : FnScope ["_law_call", "error"] ["_law_call"] (defScope st__law_met) := ⟨rfl, rfl, rfl, by decide +kernel, rfl, by decide +kernel, by decide +kernel⟩
theorem mt__law_met {M : Md} {X : Cx} {k : Nat} {q : Str} (m : Mo X.prog X.mg M) (hK : X.K = M.K) (hg : X.A.guards = some []) (hr : Room (k + 1) X.A) : MetOk M X "_law_met" met__law_met q := by
  obtain ⟨f, fd, F, hm⟩ := m.d__law_met
  obtain ⟨oc, od, dV, kV, doc, pm, an, cdv, ct, osl, rfl, lk, hcd, _, _⟩ := id F.ex
  have hb := F.bindsN (ps := ["_law_call"]) fun _ _ _ _ _ _ us hl => match us, hl with | [_], _ => rfl
  have kp := F.kp
  rw [← hK] at lk hcd hb kp
  refine ⟨f, "_law_call", defArgs st__law_met, defBody st__law_met, defScope st__law_met, dV, kV, doc, pm, cdv, ct, oc, an, od, osl, ["_law_call", "error"], hm, kp, lk, hcd, hb, sc__law_met, rfl, .inl rfl, by decide, by decide, ?_⟩
  exact met_told hK m.kx (fun _ => ⟨rfl, rfl⟩) (fun s H => (.named (by decide) m.c_Refused rfl (by decide) sc__law_met.nd rfl rfl (su_2 hK m.kf_Refused rfl (.inl rfl)) (.plain (by decide) m.c_InvalidOperation rfl (by decide) (su_pure (fun _ _ => (me_tup (ma_cons me_str (ma_cons me_str ma_nil)))) (fun _ _ => rfl)) Dcs.nil))) (fun _ _ => rfl) (fun _ _ => rfl)
def b__law_right : Fst := (sSeq (sPar 1 2 (aCons (dCall F__law_tw_fault 1 (aCons (dVar 0) aNil)) (aCons (dCall F__law_tw_left 1 (aCons (dVar 0) aNil)) aNil))) (sSeq (sAsg (.tp (.cons (.nm 3) (.cons (.nm 4) (.cons (.nm 5) (.cons (.nm 6) .nil))))) (dVar 0)) (sSeq (sSet 7 (dIf (fB (d2 dEq (dVar 1) (dC (.str "half")))) (dC .non) (dVar 1))) (sSeq (sIf (fOr (fB (d2 dNe (dCall F_tuple_fault 4 (aCons (dVar 3) (aCons (dVar 4) (aCons (dVar 5) (aCons (dVar 6) aNil))))) (dVar 7))) (fB (d2 dNe (dCall F_is_half 4 (aCons (dVar 3) (aCons (dVar 4) (aCons (dVar 5) (aCons (dVar 6) aNil))))) (d2 dEq (dVar 1) (dC (.str "half")))))) (sRet (dC (.bl false))) sNil) (sSeq (sSet 8 (dLam met__law_met (dCall F_left_tuple 4 (aCons (dVar 3) (aCons (dVar 4) (aCons (dVar 5) (aCons (dVar 6) aNil))))))) (sSeq (sIf (fB (d2 dNe (dVar 8) (dIf (fB (d2 dEq (dVar 1) (dC (.str "range")))) (mkTup (aCons (dC (.str "refused")) (aCons (dC (.str "operation")) aNil))) (mkTup (aCons (dC (.str "told")) (aCons (dVar 2) aNil)))))) (sRet (dC (.bl false))) sNil) (sSeq (sIf (fAnd (fB (d2 dNe (dVar 1) (dC (.str "range")))) (fB (d2 dNe (dCall F_tuple_fault 4 (aCons (d2 dAt (dVar 2) (dC (.int 0))) (aCons (d2 dAt (dVar 2) (dC (.int 1))) (aCons (d2 dAt (dVar 2) (dC (.int 2))) (aCons (d2 dAt (dVar 2) (dC (.int 3))) aNil))))) (dVar 7)))) (sRet (dC (.bl false))) sNil) (sSeq (sSet 8 (dLam met__law_met (dCall F_tuple_values 4 (aCons (dVar 3) (aCons (dVar 4) (aCons (dVar 5) (aCons (dVar 6) aNil))))))) (sSeq (sIf (fB (dIsN true (dVar 1))) (sRet (d2 dEq (dVar 8) (mkTup (aCons (dC (.str "refused")) (aCons (mkTup (aCons (dVar 1) aNil)) aNil))))) sNil) (sSeq (sAsg (.tp (.cons (.tp (.cons (.nm 9) (.cons (.nm 10) .nil))) (.cons (.tp (.cons (.nm 11) (.cons (.nm 12) .nil))) .nil))) (dCall F__law_tw_values 1 (aCons (dVar 0) aNil))) (sSeq (sIf (fOr (fB (d2 dNe (dVar 8) (mkTup (aCons (dC (.str "told")) (aCons (mkTup (aCons (mkTup (aCons (dVar 9) (aCons (dVar 10) aNil))) (aCons (mkTup (aCons (dVar 11) (aCons (dVar 12) aNil))) aNil))) aNil))))) (fB (d2 dNe (d2 dAdd (d2 dAdd (dC (.int 1)) (dVar 10)) (dVar 12)) (dVar 3)))) (sRet (dC (.bl false))) sNil) (sSeq (sIf (fB (d2 dNe (d2 dAdd (d2 dAdd (dVar 4) (d2 dMul (dVar 10) (dVar 9))) (d2 dMul (dVar 12) (dVar 11))) (dC (.int 0)))) (sRet (dC (.bl false))) sNil) (sRet (d2 dEq (d2 dAdd (d2 dAdd (d2 dMul (dVar 4) (dVar 4)) (d2 dMul (d2 dMul (dVar 10) (dVar 9)) (dVar 9))) (d2 dMul (d2 dMul (dVar 12) (dVar 11)) (dVar 11))) (d2 dMul (dVar 3) (dVar 4))))))))))))))))
def F__law_right : FN := runF 13 b__law_right
theorem sc__law_right : FnScope ["_law_told", "_law_due", "_law_left", "_law_n", "_law_k", "_law_l", "_law_m", "_law_fault", "_law_met_here", "_law_high", "_law_many", "_law_low", "_law_more"] ["_law_told"] (defScope st__law_right) := ⟨rfl, rfl, rfl, by decide +kernel, rfl, by decide +kernel, by decide +kernel⟩
theorem kg__law_right {P : Program} {w : World} {mg : Str → Option Value} {base : Heap} {M : Md} (m : Mo P mg M) (tb : ∀ p ∈ M.cs, TabB base mg p.1 p.2) : KnG P w mg base M "_law_right" 9 1 F__law_right := by
  obtain ⟨f, fd, c, Pt, F, hc, hm, hmc, hT, hu⟩ := m.d__law_right.ex
  exact kg_of (k := 8) F hc sc__law_right hm (F.bindsN fun _ _ _ _ _ _ us hl => match us, hl with | [_], _ => rfl) fun A outer s H E hg hr => (mss_cons (ms_par rfl sc__law_right.nd (ma_cons (me_call rfl (takes_of rfl rfl rfl rfl) (kn__law_tw_fault m) hr (ma_cons me_var ma_nil)) (ma_cons (me_call rfl (takes_of rfl rfl rfl rfl) (kn__law_tw_left m) hr (ma_cons me_var ma_nil)) ma_nil))) (mss_cons (ms_asg rfl me_var (mg_tp rfl (mgs_cons (mg_nm sc__law_right.nd) (mgs_cons (mg_nm sc__law_right.nd) (mgs_cons (mg_nm sc__law_right.nd) (mgs_cons (mg_nm sc__law_right.nd) mgs_nil)))))) (mss_cons (ms_set sc__law_right.nd (me_if (mt_cmp (op_eqD hr.units) o2_eq me_var me_str (nobehind _ (by decide) (by decide))) me_non me_var)) (mss_cons (ms_if (PW.pt (mw_or (mt_cmp (op_neD hr.units) o2_ne (me_call rfl (takes_of rfl rfl rfl rfl) (kn_tuple_fault m) hr (ma_cons me_var (ma_cons me_var (ma_cons me_var (ma_cons me_var ma_nil))))) me_var (nobehind _ (by decide) (by decide))) (mw_or1 (mt_cmp (op_neD hr.units) o2_ne (me_call rfl (takes_of rfl rfl rfl rfl) (kn_is_half m) hr (ma_cons me_var (ma_cons me_var (ma_cons me_var (ma_cons me_var ma_nil))))) (me_cmp (op_eqD hr.units) o2_eq me_var me_str (nobehind _ (by decide) (by decide))) (nobehind _ (by decide) (by decide)))))) (mss_one (ms_ret me_bl)) mss_nil) (mss_cons (ms_set sc__law_right.nd (me_lam (k := 6) (mt__law_met m rfl hg hr) rfl (tb _ hmc) rfl hT hu (hr.mono (by decide)) (lamS_by rfl) rfl (fun _ _ _ _ _ => rfl) (fun _ _ _ _ _ _ _ hr => (me_call rfl (takes_of rfl rfl rfl rfl) (kn_left_tuple m) hr (ma_cons me_var (ma_cons me_var (ma_cons me_var (ma_cons me_var ma_nil)))))))) (mss_cons (ms_if (mt_cmp (op_neD hr.units) o2_ne me_var (me_if (mt_cmp (op_eqD hr.units) o2_eq me_var me_str (nobehind _ (by decide) (by decide))) (me_tup (ma_cons me_str (ma_cons me_str ma_nil))) (me_tup (ma_cons me_str (ma_cons me_var ma_nil)))) (nobehind _ (by decide) (by decide))) (mss_one (ms_ret me_bl)) mss_nil) (mss_cons (ms_if (PW.pt (mw_and (mt_cmp (op_neD hr.units) o2_ne me_var me_str (nobehind _ (by decide) (by decide))) (mw_and1 (mt_cmp (op_neD hr.units) o2_ne (me_call rfl (takes_of rfl rfl rfl rfl) (kn_tuple_fault m) hr (ma_cons (me_ix ix_seq o2_at me_var me_int (fun _ _ => rfl)) (ma_cons (me_ix ix_seq o2_at me_var me_int (fun _ _ => rfl)) (ma_cons (me_ix ix_seq o2_at me_var me_int (fun _ _ => rfl)) (ma_cons (me_ix ix_seq o2_at me_var me_int (fun _ _ => rfl)) ma_nil))))) me_var (nobehind _ (by decide) (by decide)))))) (mss_one (ms_ret me_bl)) mss_nil) (mss_cons (ms_set sc__law_right.nd (me_lam (k := 6) (mt__law_met m rfl hg hr) rfl (tb _ hmc) rfl hT hu (hr.mono (by decide)) (lamS_by rfl) rfl (fun _ _ _ _ _ => rfl) (fun _ _ _ _ _ _ _ hr => (me_call rfl (takes_of rfl rfl rfl rfl) (kn_tuple_values m) hr (ma_cons me_var (ma_cons me_var (ma_cons me_var (ma_cons me_var ma_nil)))))))) (mss_cons (ms_if (mt_isnt me_var) (mss_one (ms_ret (me_cmp (op_eqD hr.units) o2_eq me_var (me_tup (ma_cons me_str (ma_cons (me_tup (ma_cons me_var ma_nil)) ma_nil))) (nobehind _ (by decide) (by decide))))) mss_nil) (mss_cons (ms_asg rfl (me_call rfl (takes_of rfl rfl rfl rfl) (kn__law_tw_values m) hr (ma_cons me_var ma_nil)) (mg_tp rfl (mgs_cons (mg_tp rfl (mgs_cons (mg_nm sc__law_right.nd) (mgs_cons (mg_nm sc__law_right.nd) mgs_nil))) (mgs_cons (mg_tp rfl (mgs_cons (mg_nm sc__law_right.nd) (mgs_cons (mg_nm sc__law_right.nd) mgs_nil))) mgs_nil)))) (mss_cons (ms_if (PW.pt (mw_or (mt_cmp (op_neD hr.units) o2_ne me_var (me_tup (ma_cons me_str (ma_cons (me_tup (ma_cons (me_tup (ma_cons me_var (ma_cons me_var ma_nil))) (ma_cons (me_tup (ma_cons me_var (ma_cons me_var ma_nil))) ma_nil))) ma_nil))) (nobehind _ (by decide) (by decide))) (mw_or1 (mt_cmp (op_neD hr.units) o2_ne (me_bin op_addA o2_add (me_bin op_addA o2_add me_int me_var) me_var) me_var (nobehind _ (by decide) (by decide)))))) (mss_one (ms_ret me_bl)) mss_nil) (mss_cons (ms_if (mt_cmp (op_neD hr.units) o2_ne (me_bin op_addA o2_add (me_bin op_addA o2_add me_var (me_bin op_mulA o2_mul me_var me_var)) (me_bin op_mulA o2_mul me_var me_var)) me_int (nobehind _ (by decide) (by decide))) (mss_one (ms_ret me_bl)) mss_nil) (mss_one (ms_ret (me_cmp (op_eqD hr.units) o2_eq (me_bin op_addA o2_add (me_bin op_addA o2_add (me_bin op_mulA o2_mul me_var me_var) (me_bin op_mulA o2_mul (me_bin op_mulA o2_mul me_var me_var) me_var)) (me_bin op_mulA o2_mul (me_bin op_mulA o2_mul me_var me_var) me_var)) (me_bin op_mulA o2_mul me_var me_var) (nobehind _ (by decide) (by decide)))))))))))))))))
def b_law : Fst := (sSeq (sSet 1 (mkLst (aCons (mkTup (aCons (dC (.int 10)) (aCons (dC (.int 3)) (aCons (dC (.int 0)) (aCons (dC (.int 1)) aNil))))) (aCons (mkTup (aCons (dC (.int 28)) (aCons (dC (.int 9)) (aCons (dC (.int 0)) (aCons (dC (.int 4)) aNil))))) (aCons (mkTup (aCons (dC (.int 50)) (aCons (dC (.int 21)) (aCons (dC (.int 4)) (aCons (dC (.int 12)) aNil))))) (aCons (mkTup (aCons (dC (.int 21)) (aCons (dC (.int 10)) (aCons (dC (.int 4)) (aCons (dC (.int 5)) aNil))))) (aCons (mkTup (aCons (dC (.int 9)) (aCons (dC (.int 4)) (aCons (dC (.int 2)) (aCons (dC (.int 1)) aNil))))) (aCons (mkTup (aCons (dC (.int 7)) (aCons (dC (.int 3)) (aCons (dC (.int 1)) (aCons (dC (.int 1)) aNil))))) (aCons (mkTup (aCons (dC (.int 5)) (aCons (dC (.int 2)) (aCons (dC (.int 0)) (aCons (dC (.int 1)) aNil))))) (aCons (mkTup (aCons (dC (.int 100)) (aCons (dC (.int 22)) (aCons (dC (.int 0)) (aCons (dC (.int 6)) aNil))))) aNil)))))))))) (sSeq (sSet 1 (d2 dAdd (dVar 1) (mkLst (aCons (mkTup (aCons (dC (.int 13)) (aCons (dC (.int 6)) (aCons (dC (.int 2)) (aCons (dC (.int 3)) aNil))))) (aCons (mkTup (aCons (dC (.int 33)) (aCons (dC (.int 16)) (aCons (dC (.int 7)) (aCons (dC (.int 8)) aNil))))) (aCons (mkTup (aCons (dC (.int 4)) (aCons (dC (.int 2)) (aCons (dC (.int 0)) (aCons (dC (.int 2)) aNil))))) (aCons (mkTup (aCons (dC (.int 16)) (aCons (dC (.int 6)) (aCons (dC (.int 2)) (aCons (dC (.int 2)) aNil))))) (aCons (mkTup (aCons (dC (.int 27)) (aCons (dC (.int 10)) (aCons (dC (.int 1)) (aCons (dC (.int 5)) aNil))))) (aCons (mkTup (aCons (dC (.int 6)) (aCons (dC (.int 1)) (aCons (dC (.int 0)) (aCons (dC (.int 0)) aNil))))) (aCons (mkTup (aCons (dC (.int 162)) (aCons (dC (.int 56)) (aCons (dC (.int 10)) (aCons (dC (.int 24)) aNil))))) aNil)))))))))) (sSeq (sFor (iR1 (aCons (dN nMax2 (aCons (dC (.int 1)) (aCons (dN nMin2 (aCons (dC (.int 3)) (aCons (dN nLen (aCons (dVar 0) aNil)) aNil))) aNil))) aNil)) (.nm 2) (sSeq (sSet 3 (dCall F__law_dice 2 (aCons (dVar 0) (aCons (dVar 2) aNil)))) (sSeq (sIf (fNot (fTru (dCall F__law_right 1 (aCons (dCall F__law_pick 2 (aCons (dVar 3) (aCons (dVar 1) aNil))) aNil)))) (sRet (dC (.bl false))) sNil) (sFor (iR1 (aCons (dC (.int 6)) aNil)) (.nm 4) (sIf (fNot (fTru (dCall F__law_right 1 (aCons (dCall F__law_tuple_drawn 1 (aCons (dVar 3) aNil)) aNil)))) (sRet (dC (.bl false))) sNil))))) (sSeq (sSet 5 (mkLst (aCons (dCall F_tuple_fault 4 (aCons (dC (.int 10)) (aCons (dC (.int 3)) (aCons (dC (.int 0)) (aCons (dC (.int 1)) aNil))))) (aCons (dCall F_tuple_fault 4 (aCons (dC (.int 28)) (aCons (dC (.int 9)) (aCons (dC (.int 0)) (aCons (dC (.int 4)) aNil))))) (aCons (dCall F_tuple_fault 4 (aCons (dC (.int 50)) (aCons (dC (.int 21)) (aCons (dC (.int 4)) (aCons (dC (.int 12)) aNil))))) (aCons (dCall F_tuple_fault 4 (aCons (dC (.int 21)) (aCons (dC (.int 10)) (aCons (dC (.int 4)) (aCons (dC (.int 5)) aNil))))) aNil)))))) (sSeq (sIf (fB (d2 dNe (d2 dAdd (dVar 5) (mkLst (aCons (dCall F_tuple_fault 4 (aCons (dC (.int 9)) (aCons (dC (.int 4)) (aCons (dC (.int 2)) (aCons (dC (.int 1)) aNil))))) (aCons (dCall F_tuple_fault 4 (aCons (dC (.int 7)) (aCons (dC (.int 3)) (aCons (dC (.int 1)) (aCons (dC (.int 1)) aNil))))) aNil)))) (mkLst (aCons (dC .non) (aCons (dC (.str "krein")) (aCons (dC (.str "absolute")) (aCons (dC (.str "squares")) (aCons (dC (.str "values")) (aCons (dC (.str "ties")) aNil))))))))) (sRet (dC (.bl false))) sNil) (sRet (dAnd (d2 dEq (dCall F_tuple_values 4 (aCons (dC (.int 10)) (aCons (dC (.int 3)) (aCons (dC (.int 0)) (aCons (dC (.int 1)) aNil))))) (mkTup (aCons (mkTup (aCons (dC (.int 1)) (aCons (dC (.int 5)) aNil))) (aCons (mkTup (aCons (dNeg (dC (.int 2))) (aCons (dC (.int 4)) aNil))) aNil)))) (dAnd (dCall F_is_half 4 (aCons (dC (.int 13)) (aCons (dC (.int 6)) (aCons (dC (.int 2)) (aCons (dC (.int 3)) aNil))))) (d2 dEq (dCall F_left_tuple 4 (aCons (dC (.int 10)) (aCons (dC (.int 3)) (aCons (dC (.int 0)) (aCons (dC (.int 1)) aNil))))) (mkTup (aCons (dC (.int 10)) (aCons (dC (.int 6)) (aCons (dC (.int 3)) (aCons (dC (.int 4)) aNil))))))))))))))
def F_law : FN := runF 6 b_law
theorem sc_law : FnScope ["_law_script", "_law_known", "_law_spot", "_law_dice_here", "_law_turn", "_law_told"] ["_law_script"] (defScope st_law) := ⟨rfl, rfl, rfl, by decide +kernel, rfl, by decide +kernel, by decide +kernel⟩
theorem fo_law {P : Program} {w : World} {mg : Str → Option Value} {base : Heap} {M : Md} (m : Mo P mg M) (tb : ∀ p ∈ M.cs, TabB base mg p.1 p.2) {f : Addr} {fd : FuncData} {c Pt : Addr} (F : FunD M.K "law" "law" (defArgs st_law) (defBody st_law) (defScope st_law) [] [] f fd) (hc : fd.code = .ref c) (hmc : (c, Pt) ∈ M.cs) (hT : (Pt, lamQ "law") ∈ M.T) (hu : ∀ p ∈ M.T, p.1 = Pt → p.2 = lamQ "law") : FnG P w M.K mg base 10 f fd ["_law_script"] (spF M 1 F_law) :=
  fg_of (k := 9) F hc sc_law fun A outer s H E hg hr => (mss_cons (ms_set sc_law.nd (me_lst (ma_cons (me_tup (ma_cons me_int (ma_cons me_int (ma_cons me_int (ma_cons me_int ma_nil))))) (ma_cons (me_tup (ma_cons me_int (ma_cons me_int (ma_cons me_int (ma_cons me_int ma_nil))))) (ma_cons (me_tup (ma_cons me_int (ma_cons me_int (ma_cons me_int (ma_cons me_int ma_nil))))) (ma_cons (me_tup (ma_cons me_int (ma_cons me_int (ma_cons me_int (ma_cons me_int ma_nil))))) (ma_cons (me_tup (ma_cons me_int (ma_cons me_int (ma_cons me_int (ma_cons me_int ma_nil))))) (ma_cons (me_tup (ma_cons me_int (ma_cons me_int (ma_cons me_int (ma_cons me_int ma_nil))))) (ma_cons (me_tup (ma_cons me_int (ma_cons me_int (ma_cons me_int (ma_cons me_int ma_nil))))) (ma_cons (me_tup (ma_cons me_int (ma_cons me_int (ma_cons me_int (ma_cons me_int ma_nil))))) ma_nil)))))))))) (mss_cons (ms_set sc_law.nd (me_bin op_addA o2_add me_var (me_lst (ma_cons (me_tup (ma_cons me_int (ma_cons me_int (ma_cons me_int (ma_cons me_int ma_nil))))) (ma_cons (me_tup (ma_cons me_int (ma_cons me_int (ma_cons me_int (ma_cons me_int ma_nil))))) (ma_cons (me_tup (ma_cons me_int (ma_cons me_int (ma_cons me_int (ma_cons me_int ma_nil))))) (ma_cons (me_tup (ma_cons me_int (ma_cons me_int (ma_cons me_int (ma_cons me_int ma_nil))))) (ma_cons (me_tup (ma_cons me_int (ma_cons me_int (ma_cons me_int (ma_cons me_int ma_nil))))) (ma_cons (me_tup (ma_cons me_int (ma_cons me_int (ma_cons me_int (ma_cons me_int ma_nil))))) (ma_cons (me_tup (ma_cons me_int (ma_cons me_int (ma_cons me_int (ma_cons me_int ma_nil))))) ma_nil)))))))))) (mss_cons (ms_for rfl (passes_of rfl) rfl (mi_range1 m.f_range (ma_cons (me_callB (call_max2 rfl) on_max2 (by rfl) m.f_max boot_max (ma_cons me_int (ma_cons (me_callB (call_min2 rfl) on_min2 (by rfl) m.f_min boot_min (ma_cons me_int (ma_cons (me_callB call_len on_len (by rfl) m.f_len boot_len (ma_cons me_var ma_nil)) ma_nil))) ma_nil))) ma_nil)) (mg_nm sc_law.nd) (mss_cons (ms_set sc_law.nd (me_call rfl (takes_of rfl rfl rfl rfl) (kn__law_dice m) hr (ma_cons me_var (ma_cons me_var ma_nil)))) (mss_cons (ms_if (mt_not (mt_tru rfl (me_callG rfl (takes_of rfl rfl rfl rfl) (kg__law_right m tb) hg hr (ma_cons (me_call rfl (takes_of rfl rfl rfl rfl) (kn__law_pick m) hr (ma_cons me_var (ma_cons me_var ma_nil))) ma_nil)))) (mss_one (ms_ret me_bl)) mss_nil) (mss_one (ms_for rfl (passes_of rfl) rfl (mi_range1 m.f_range (ma_cons me_int ma_nil)) (mg_nm sc_law.nd) (mss_one (ms_if (mt_not (mt_tru rfl (me_callG rfl (takes_of rfl rfl rfl rfl) (kg__law_right m tb) hg hr (ma_cons (me_call rfl (takes_of rfl rfl rfl rfl) (kn__law_tuple_drawn m) hr (ma_cons me_var ma_nil)) ma_nil)))) (mss_one (ms_ret me_bl)) mss_nil))))))) (mss_cons (ms_set sc_law.nd (me_lst (ma_cons (me_call rfl (takes_of rfl rfl rfl rfl) (kn_tuple_fault m) hr (ma_cons me_int (ma_cons me_int (ma_cons me_int (ma_cons me_int ma_nil))))) (ma_cons (me_call rfl (takes_of rfl rfl rfl rfl) (kn_tuple_fault m) hr (ma_cons me_int (ma_cons me_int (ma_cons me_int (ma_cons me_int ma_nil))))) (ma_cons (me_call rfl (takes_of rfl rfl rfl rfl) (kn_tuple_fault m) hr (ma_cons me_int (ma_cons me_int (ma_cons me_int (ma_cons me_int ma_nil))))) (ma_cons (me_call rfl (takes_of rfl rfl rfl rfl) (kn_tuple_fault m) hr (ma_cons me_int (ma_cons me_int (ma_cons me_int (ma_cons me_int ma_nil))))) ma_nil)))))) (mss_cons (ms_if (mt_cmp (op_neD hr.units) o2_ne (me_bin op_addA o2_add me_var (me_lst (ma_cons (me_call rfl (takes_of rfl rfl rfl rfl) (kn_tuple_fault m) hr (ma_cons me_int (ma_cons me_int (ma_cons me_int (ma_cons me_int ma_nil))))) (ma_cons (me_call rfl (takes_of rfl rfl rfl rfl) (kn_tuple_fault m) hr (ma_cons me_int (ma_cons me_int (ma_cons me_int (ma_cons me_int ma_nil))))) ma_nil)))) (me_lst (ma_cons me_non (ma_cons me_str (ma_cons me_str (ma_cons me_str (ma_cons me_str (ma_cons me_str ma_nil))))))) (nobehind _ (by decide) (by decide))) (mss_one (ms_ret me_bl)) mss_nil) (mss_one (ms_ret (me_and (me_cmp (op_eqD hr.units) o2_eq (me_call rfl (takes_of rfl rfl rfl rfl) (kn_tuple_values m) hr (ma_cons me_int (ma_cons me_int (ma_cons me_int (ma_cons me_int ma_nil))))) (me_tup (ma_cons (me_tup (ma_cons me_int (ma_cons me_int ma_nil))) (ma_cons (me_tup (ma_cons (me_neg me_int) (ma_cons me_int ma_nil))) ma_nil))) (nobehind _ (by decide) (by decide))) (me_and (me_call rfl (takes_of rfl rfl rfl rfl) (kn_is_half m) hr (ma_cons me_int (ma_cons me_int (ma_cons me_int (ma_cons me_int ma_nil))))) (me_one (me_cmp (op_eqD hr.units) o2_eq (me_call rfl (takes_of rfl rfl rfl rfl) (kn_left_tuple m) hr (ma_cons me_int (ma_cons me_int (ma_cons me_int (ma_cons me_int ma_nil))))) (me_tup (ma_cons me_int (ma_cons me_int (ma_cons me_int (ma_cons me_int ma_nil))))) (nobehind _ (by decide) (by decide)))))))))))))
end K48
set_option Elab.async false
set_option linter.all false
set_option maxRecDepth 100000
set_option maxHeartbeats 4000000
namespace K48
open PySem MP
/-! ### what is a number, a polynomial -/
theorem is_whole_ok {d : D} {S : Sto} (h : ∃ a, tyD d S = some a) : F_is_whole [d] S = .ok (.bl (wholeB d)) S := by
  obtain ⟨a, h⟩ := h
  have key : Wp (F_is_whole [d] S) fun r T => r = .bl (wholeB d) ∧ T = S := by
    unfold F_is_whole b_is_whole
    rw [whole_ty h]
    simp [entry, h]
    cases a <;> simp [Ty.sub, h]
  obtain ⟨d, T, e, rfl, rfl⟩ := key.out
  exact e
theorem is_integer_ok {d : D} {S : Sto} (h : ∃ a, tyD d S = some a) : F_is_integer [d] S = .ok (.bl (integerB d)) S := by
  have key : Wp (F_is_integer [d] S) fun r T => r = .bl (integerB d) ∧ T = S := by
    unfold F_is_integer b_is_integer
    simp [entry, is_whole_ok h]
    cases d with
    | int i =>
      simp [wholeB, integerB, c_BOUND]
      by_cases h1 : -1000000000000000000000000000000000000000000000000000000000000 < i <;> simp [h1]
    | _ => simp [wholeB, integerB]
  obtain ⟨d, T, e, rfl, rfl⟩ := key.out
  exact e
/-! ### the dice -/
theorem roll_ok {nd c : Nat} {t : Int} {S : Sto} {Q : D → Sto → Prop} (h : Dice S nd c) (ht : 0 < t) (hs : t.natAbs < 2 ^ 200) (hc : c ≤ 1000000)
    (hq : ∀ (r : Int) (T : Sto), 0 ≤ r → r < t → Dice T nd (c + 1) → Ed nd S T → T.length = S.length → Q (.int r) T) : Wp (F__law_roll [.ref nd, .int t] S) Q := by
  obtain ⟨a, b, k, hS, hk⟩ := h.ex
  have sd : szDiv t = true := szDiv_of (k := 200) (by omega) hs (by decide)
  have t0 : t ≠ 0 := by omega
  unfold F__law_roll b__law_roll
  simp [entry, dAt_ref hS, L2.atI, L2.ixN]
  by_cases ha : 0 < a
  · simp [ha, dAt_ref hS, L2.atI, L2.ixN, t0, sd, putD_ref hS]
    refine hq _ _ (Int.fmod_nonneg_of_pos _ ht) (Int.fmod_lt_of_pos _ ht) ?_ Ed.refl.put (by simp)
    exact ⟨_, b, k, set_get hS, by omega⟩
  · have hS2 := set_get (o' := .lst [.int a, .int b, .int ((k : Int) + 1)]) hS
    have k1 : szMul 99990067 ((k : Int) + 1) = true := szMul_small (by decide) (by
      have : ((k : Int) + 1).natAbs < 2 ^ 30 := by omega
      exact Nat.lt_of_lt_of_le this (Nat.pow_le_pow_right (by decide) (by decide)))
    have k2 : szMul 89 ((k : Int) + 1) = true := szMul_small (by decide) (by
      have : ((k : Int) + 1).natAbs < 2 ^ 30 := by omega
      exact Nat.lt_of_lt_of_le this (Nat.pow_le_pow_right (by decide) (by decide)))
    simp [ha, dAt_ref hS, L2.atI, L2.ixN, putD_ref hS]
    simp [dAt_ref hS2, L2.atI, L2.ixN, k1]
    generalize ho : (b + 99990067 * ((k : Int) + 1)).fmod 2305843009213693381 = one
    have o1 : 0 ≤ one := by rw [← ho]; exact Int.fmod_nonneg_of_pos _ (by decide)
    have o2 : one < 2305843009213693381 := by rw [← ho]; exact Int.fmod_lt_of_pos _ (by decide)
    have k3 : szMul one one = true := szMul_small (by
      have : one.natAbs < 2 ^ 64 := by omega
      exact Nat.lt_of_lt_of_le this (Nat.pow_le_pow_right (by decide) (by decide))) (by
      have : one.natAbs < 2 ^ 64 := by omega
      exact Nat.lt_of_lt_of_le this (Nat.pow_le_pow_right (by decide) (by decide)))
    simp [dAt_ref hS2, L2.atI, L2.ixN, k2, k3]
    generalize hw : (one * one + 89 * ((k : Int) + 1)).fmod 2305843009213693343 = two
    have w1 : 0 ≤ two := by rw [← hw]; exact Int.fmod_nonneg_of_pos _ (by decide)
    have w2 : two < 2305843009213693343 := by rw [← hw]; exact Int.fmod_lt_of_pos _ (by decide)
    have k4 : szMul two 8675309 = true := szMul_small (by
      have : two.natAbs < 2 ^ 64 := by omega
      exact Nat.lt_of_lt_of_le this (Nat.pow_le_pow_right (by decide) (by decide))) (by decide)
    have k5 : szDiv 65551 = true := by decide +kernel
    simp [k4, k5, t0]
    refine hq _ _ (Int.fmod_nonneg_of_pos _ ht) (Int.fmod_lt_of_pos _ ht) ?_ Ed.refl.put (by simp)
    exact ⟨a, b, k + 1, by rw [hS2]; rfl, by omega⟩

theorem dice_ok {ns : List Int} {spot : Nat} {S : Sto} {Q : D → Sto → Prop} (hsp : spot ≤ 1000) (hq : ∀ a b : Int, Q (.ref S.length) (S ++ [.lst [.int a, .int b, .int 0]])) : Wp (F__law_dice [law_D ns, .int (spot : Int)] S) Q := by
  unfold F__law_dice b__law_dice
  rw [wp_run, wps_seq]
  have c4 : ∀ k : Int, k.natAbs < 2 ^ 20 → szMul k (spot : Int) = true := fun k hk => szMul_of hk (show (spot : Int).natAbs < 2 ^ 20 by omega) (by decide)
  refine WpS.mono (Q := fun fl T => ∃ cell : Int, fl = .nx [some (law_D ns), some (.int (spot : Int)), some (.int cell), none] ∧ T = S) ?_ ?_
  · simp [entry, law_D, c4]
    by_cases h : spot < ns.length
    · simp [h, atI_nat]
    · simp [h, c4]
  · rintro fl T ⟨cell, rfl, rfl⟩
    have c1 : (10 : Int).natAbs < 2 ^ 64 := by decide
    have c2 : szMul (10 ^ 56) (10 ^ 60) = true := by decide +kernel
    have m0 : ¬ ((10 : Int) ^ 56 * 10 ^ 60 = 0) := by decide +kernel
    have c5 : ∀ k : Bool, szMul 43 (if k = true then 1 else 0) = true := by decide +kernel
    have c3 : ∀ x : Int, szMul (x.fmod 1152921504606846869) 61 = true := fun x => by
      have r1 : 0 ≤ x.fmod 1152921504606846869 := Int.fmod_nonneg_of_pos _ (by decide)
      have r2 : x.fmod 1152921504606846869 < 1152921504606846869 := Int.fmod_lt_of_pos _ (by decide)
      exact szMul_of (k := 64) (l := 20) (by omega) (by decide) (by decide)
    have c6 : szMul 1009 (spot : Int) = true := c4 _ (by decide)
    simp only [sq_nx, wps_seq, wps_set, wp_d2, wp_dN, wp_cons, wp_nil, wp_c, wp_var, List.getElem?_cons_zero, List.getElem?_cons_succ, nAbs_int, wp_ok, dPow_int, dSub_int, nMax_int, wps_ret, wp_lst, dMod_int, dMul_int, dAdd_int, dIB_int, nInt_bl, wp_ite, wp_stuck, List.set_cons_succ, List.set_cons_zero, c1, c2, c3, c5, c6, m0, rn_ret]
    simp [c1, c2, c3, c5, c6, m0, sizeLine]
    exact ⟨by decide +kernel, hq _ _⟩

theorem pick_ok {nd c n : Nat} {ys : List D} {S : Sto} {Q : D → Sto → Prop} (h : Dice S nd c) (hn : S[n]? = some (.lst ys)) (hne : n ≠ nd) (h0 : 1 ≤ ys.length) (hl : ys.length ≤ 1000) (hc : c ≤ 1000000)
    (hq : ∀ y T, y ∈ ys → Dice T nd (c + 1) → Ed nd S T → T.length = S.length → Q y T) : Wp (F__law_pick [.ref nd, .ref n] S) Q := by
  unfold F__law_pick b__law_pick
  rw [wp_run, wps_ret, wp_d2, wp_var]
  simp only [entry, wp_call, wp_cons, wp_nil, wp_var, wp_c, wp_ok, List.map_cons, List.map_nil, List.cons_append, List.nil_append, List.getElem?_cons_zero, List.getElem?_cons_succ, List.length_cons, List.length_nil, if_true, wp_dN, nLen_ref hn]
  refine roll_ok h (by omega) (Nat.lt_of_lt_of_le (show ((ys.length : Nat) : Int).natAbs < 2 ^ 20 by omega) (Nat.pow_le_pow_right (by decide) (by decide))) hc fun r T r0 r1 hT eT lT => ?_
  have hr : r = ((r.toNat : Nat) : Int) := by omega
  have hlt : r.toNat < ys.length := by omega
  rw [hr, dAt_ref (eT.get hn hne), atI_nat, List.getElem?_eq_getElem hlt]
  simp only [wp_ok]
  exact hq _ T (List.getElem_mem _) hT eT lT

/-- a whole root -/
def rootD (i : Int) : D := if 0 ≤ i ∧ ((Float64.isqrt i.toNat : Nat) : Int) * ((Float64.isqrt i.toNat : Nat) : Int) = i then .int ((Float64.isqrt i.toNat : Nat) : Int) else .non
theorem whole_root_ok {i : Int} {S : Sto} (h : i.natAbs < 2 ^ 12000) : F_whole_root [.int i] S = .ok (rootD i) S := by
  have key : Wp (F_whole_root [.int i] S) fun d T => d = rootD i ∧ T = S := by
    unfold F_whole_root b_whole_root rootD
    rw [wp_run, wps_seq, wps_if, wp_fB, wp_d2]
    simp only [entry, wp_call, wp_cons, wp_nil, wp_var, wp_c, wp_ok, List.map_cons, List.map_nil, List.cons_append, List.nil_append, List.getElem?_cons_zero, List.getElem?_cons_succ, List.length_cons, List.length_nil, if_true, dIB_int]
    by_cases h0 : i < 0
    · rw [if_pos (by simpa using h0), wps_ret]
      simp only [entry, wp_call, wp_cons, wp_nil, wp_var, wp_c, wp_ok, List.map_cons, List.map_nil, List.cons_append, List.nil_append, List.getElem?_cons_zero, List.getElem?_cons_succ, List.length_cons, List.length_nil, if_true, sq_ret, rn_ret]
      rw [if_neg (fun z => by omega)]
      first | exact ⟨rfl, rfl⟩ | simp
    · rw [if_neg (by simpa using h0), wps_nil, sq_nx, wps_seq, wps_set]
      have hlog : i.toNat.log2 ≤ 13000 := by
        by_cases hz : i.toNat = 0
        · rw [hz, Nat.log2_zero]; omega
        · have := (Nat.log2_lt hz (k := 12000)).mpr (by rw [show i.toNat = i.natAbs by omega]; exact h)
          omega
      have hs : nIsqrt [.int i] S = .ok (.int ((Float64.isqrt i.toNat : Nat) : Int)) S := by
        show (if 0 ≤ i ∧ i.toNat.log2 ≤ 13000 then _ else _) = _
        rw [if_pos ⟨by omega, hlog⟩]
      simp only [wp_dN, entry, wp_call, wp_cons, wp_nil, wp_var, wp_c, wp_ok, List.map_cons, List.map_nil, List.cons_append, List.nil_append, List.getElem?_cons_zero, List.getElem?_cons_succ, List.length_cons, List.length_nil, if_true, hs, List.replicate, Nat.reduceAdd, Nat.reduceSub, List.set_cons_succ, List.set_cons_zero]
      have hr : Float64.isqrt i.toNat < 2 ^ 12000 := by
        have h1 := (root_ok i.toNat.log2 i.toNat (Nat.le_refl _)).1
        have h2 : Float64.isqrt i.toNat * Float64.isqrt i.toNat ≤ i.toNat := h1
        have h3 : Float64.isqrt i.toNat ≤ Float64.isqrt i.toNat * Float64.isqrt i.toNat := by
          rcases Nat.eq_zero_or_pos (Float64.isqrt i.toNat) with hz | hz
          · rw [hz]; exact Nat.zero_le _
          · exact Nat.le_mul_of_pos_left _ hz
        have h4 : i.toNat = i.natAbs := by omega
        exact Nat.lt_of_le_of_lt (Nat.le_trans h3 h2) (by rw [h4]; exact h)
      generalize Float64.isqrt i.toNat = r at hr ⊢
      have m1 : szMul (r : Int) (r : Int) = true := szMul_of (k := 12000) (l := 12000) (by simpa using hr) (by simpa using hr) (by decide)
      rw [sq_nx, wps_ret, wp_if, wp_fB, wp_d2, wp_d2]
      simp only [entry, wp_call, wp_cons, wp_nil, wp_var, wp_c, wp_ok, List.map_cons, List.map_nil, List.cons_append, List.nil_append, List.getElem?_cons_zero, List.getElem?_cons_succ, List.length_cons, List.length_nil, if_true, dMul_int, m1, dEqB_int, Bool.false_eq_true, if_false]
      by_cases he : (r : Int) * (r : Int) = i
      · rw [if_pos (by simpa using he), if_pos ⟨by omega, he⟩]
        simp only [entry, wp_call, wp_cons, wp_nil, wp_var, wp_c, wp_ok, List.map_cons, List.map_nil, List.cons_append, List.nil_append, List.getElem?_cons_zero, List.getElem?_cons_succ, List.length_cons, List.length_nil, if_true, rn_ret, and_self]
      · rw [if_neg (by simpa using he), if_neg (fun z => he z.2)]
        simp only [entry, wp_call, wp_cons, wp_nil, wp_var, wp_c, wp_ok, List.map_cons, List.map_nil, List.cons_append, List.nil_append, List.getElem?_cons_zero, List.getElem?_cons_succ, List.length_cons, List.length_nil, if_true, rn_ret, and_self]
  obtain ⟨d, T, e, rfl, rfl⟩ := key.out
  exact e
theorem rootD_sq (m : Nat) : rootD ((m : Int) * (m : Int)) = .int (m : Int) := by
  unfold rootD
  have e : ((m : Int) * (m : Int)).toNat = m * m := by rw [← Int.natCast_mul, Int.toNat_natCast]
  rw [e, isqrt_sq, if_pos ⟨by rw [← Int.natCast_mul]; exact Int.natCast_nonneg _, rfl⟩]
theorem rootD_neg {i : Int} (h : i < 0) : rootD i = .non := by
  unfold rootD
  rw [if_neg fun z => by omega]
end K48
set_option Elab.async false
set_option linter.all false
set_option maxRecDepth 100000
set_option maxHeartbeats 4000000
namespace K48
open PySem MP
/-! ### the package's functions, told -/
open MQ
theorem eq_of {α : Type} {r : Rs α} {a : α} {S : Sto} (h : Wp r fun x T => x = a ∧ T = S) : r = .ok a S := by
  obtain ⟨x, T, e, rfl, rfl⟩ := h.out
  exact e
theorem szm {i j : Int} (hi : i.natAbs ≤ 1000000000000) (hj : j.natAbs ≤ 1000000000000) : szMul i j = true := szMul_small (Nat.lt_of_le_of_lt hi (by decide)) (Nat.lt_of_le_of_lt hj (by decide))
theorem mulB {i j : Int} {a b : Nat} (hi : i.natAbs ≤ a) (hj : j.natAbs ≤ b) : (i * j).natAbs ≤ a * b := by
  rw [Int.natAbs_mul]
  exact Nat.mul_le_mul hi hj
theorem szd {j : Int} (h0 : j ≠ 0) (hj : j.natAbs ≤ 1000000000000) : szDiv j = true := szDiv_of (k := 200) h0 (Nat.lt_of_le_of_lt hj (by decide)) (by decide)
def withinB (a b : Int) : D → Bool
  | .int i => integerB (.int i) && (decide (a ≤ i) && decide (i ≤ b))
  | _ => false
theorem is_within_ok {d : D} {a b : Int} {S : Sto} (h : ∃ a, tyD d S = some a) : F_is_within [d, .int a, .int b] S = .ok (.bl (withinB a b d)) S := by
  refine eq_of ?_
  unfold F_is_within b_is_within
  simp [entry, is_integer_ok h]
  cases d with
  | int i =>
    unfold withinB
    by_cases h1 : integerB (.int i) = true
    · by_cases h2 : a ≤ i
      · by_cases h3 : i ≤ b
        · simp [h1, h2, h3]
        · simp [h1, h2, h3]
      · simp [h1, h2]
    · simp [h1]
  | _ => simp [integerB, withinB]
theorem reqw_good {d : D} {a b : Int} {T : Sto} (h : ∃ a, tyD d T = some a) (hb : withinB a b d = true) : F_require_within [d, .int a, .int b] T = .ok .non T := by
  unfold F_require_within b_require_within runF sIf
  simp [entry, fNot, fTru, dCall, aCons, aNil, dVar, is_within_ok h, hb, Rs.bind, thenS, sNil]
/-- all between 0 and 200 -/
structure Pm (n k l m : Int) : Prop where
  n0 : 0 ≤ n
  n1 : n ≤ 200
  k0 : 0 ≤ k
  k1 : k ≤ 200
  l0 : 0 ≤ l
  l1 : l ≤ 200
  m0 : 0 ≤ m
  m1 : m ≤ 200
theorem in_200 {i : Int} (h0 : 0 ≤ i) (h1 : i ≤ 200) : withinB 0 200 (.int i) = true := by
  unfold withinB integerB
  simp
  omega
theorem require_tuple_ok {n k l m : Int} {S : Sto} (h : Pm n k l m) : F_require_tuple [.int n, .int k, .int l, .int m] S = .ok .non S := by
  have s4 : (4 ≤ sizeLine) = True := eq_true (by decide)
  refine eq_of ?_
  unfold F_require_tuple b_require_tuple
  rw [wp_run, wps_for, wp_iD, wp_tup]
  simp only [entry, wp_call, wp_cons, wp_nil, wp_var, wp_c, wp_ok, List.map_cons, List.map_nil, List.cons_append, List.nil_append, List.getElem?_cons_zero, List.getElem?_cons_succ, List.length_cons, List.length_nil, if_true, Nat.zero_add, Nat.reduceAdd, s4, srcD_tup, List.replicate, Nat.reduceSub]
  refine for_inv (fun ds ρ T => (∀ d ∈ ds, ∃ i : Int, d = .int i ∧ 0 ≤ i ∧ i ≤ 200) ∧ (∃ X, ρ = [some (.int n), some (.int k), some (.int l), some (.int m), X]) ∧ T = S) ?_ ?_ ⟨?_, ⟨_, rfl⟩, rfl⟩
  · rintro d ds ρ T ⟨hd, ⟨X, rfl⟩, rfl⟩
    obtain ⟨i, rfl, h0, h1⟩ := hd d List.mem_cons_self
    refine ⟨_, rfl, ?_⟩
    have e := reqw_good (T := T) (d := .int i) (a := 0) (b := 200) ⟨_, rfl⟩ (in_200 h0 h1)
    simp only [List.set_cons_succ, List.set_cons_zero]
    rw [wps_expr, wp_call]
    simp only [entry, wp_call, wp_cons, wp_nil, wp_var, wp_c, wp_ok, List.map_cons, List.map_nil, List.cons_append, List.nil_append, List.getElem?_cons_zero, List.getElem?_cons_succ, List.length_cons, List.length_nil, if_true, c_MOST_TUPLE, e]
    exact ⟨rfl, fun d hd' => hd d (List.mem_cons_of_mem _ hd'), ⟨_, rfl⟩, trivial⟩
  · rintro ρ T ⟨_, ⟨X, rfl⟩, rfl⟩
    exact ⟨rfl, rfl⟩
  · intro d hd
    simp only [List.mem_cons, List.not_mem_nil, or_false] at hd
    rcases hd with rfl | rfl | rfl | rfl
    · exact ⟨n, rfl, h.n0, h.n1⟩
    · exact ⟨k, rfl, h.k0, h.k1⟩
    · exact ⟨l, rfl, h.l0, h.l1⟩
    · exact ⟨m, rfl, h.m0, h.m1⟩
theorem left_in_ok {n k l m : Int} {S : Sto} (h : Pm n k l m) : F_left_in [.int n, .int k, .int l, .int m] S = .ok (.tup [.int n, .int (n - k - 1), .int (n - 2 - 2 * k + m), .int (n - 2 * k + l)]) S := by
  have k0 := h.k0
  have k1 := h.k1
  have z : szMul 2 k = true := szm (by decide) (by omega)
  have s4 : 4 ≤ sizeLine := by decide
  refine eq_of ?_
  unfold F_left_in b_left_in
  simp [entry, z, s4]
theorem in_range_ok {n k l m : Int} {S : Sto} (h : Pm n k l m) : F_is_in_range [.int n, .int k, .int l, .int m] S = .ok (.bl (rng n k l m)) S := by
  have e := left_in_ok (S := S) h
  refine eq_of ?_
  unfold F_is_in_range b_is_in_range rng
  simp [entry, e, L2.atI, L2.ixN]
  by_cases h1 : 1 ≤ k
  · by_cases h2 : k ≤ n - 2
    · by_cases h3 : l < k
      · by_cases h4 : m ≤ k
        · by_cases h5 : 0 ≤ n - 2 - 2 * k + m
          · by_cases h6 : 0 ≤ n - 2 * k + l
            · simp [h1, h2, h3, h4, h5, h6]
            · simp [h1, h2, h3, h4, h5, h6]
          · simp [h1, h2, h3, h4, h5]
        · simp [h1, h2, h3, h4]
      · simp [h1, h2, h3]
    · simp [h1, h2]
  · simp [h1]
theorem spread_ok {n k l m : Int} {S : Sto} (h : Pm n k l m) : F_spread_of [.int k, .int l, .int m] S = .ok (.int (spr k l m)) S := by
  obtain ⟨_, _, _, _, _, _, _, _⟩ := h
  have z1 : szMul (l - m) (l - m) = true := szm (by omega) (by omega)
  have z2 : szMul 4 (k - m) = true := szm (by decide) (by omega)
  refine eq_of ?_
  unfold F_spread_of b_spread_of
  simp [entry, z1, z2, spr]
theorem tilt_ok {n k l m : Int} {S : Sto} (h : Pm n k l m) : F_tilt_of [.int n, .int k, .int l, .int m] S = .ok (.int (tlt n k l m)) S := by
  obtain ⟨_, _, _, _, _, _, _, _⟩ := h
  have z1 : szMul (n - 1) (l - m) = true := szm (by omega) (by omega)
  have z2 : szMul 2 k = true := szm (by decide) (by omega)
  refine eq_of ?_
  unfold F_tilt_of b_tilt_of
  simp [entry, z1, z2, tlt]
theorem spr_bd {n k l m : Int} (h : Pm n k l m) : (spr k l m).natAbs ≤ 50000 := by
  obtain ⟨_, _, _, _, _, _, _, _⟩ := h
  have := mulB (i := l - m) (j := l - m) (a := 200) (b := 200) (by omega) (by omega)
  unfold spr
  omega
theorem tlt_bd {n k l m : Int} (h : Pm n k l m) : (tlt n k l m).natAbs ≤ 50000 := by
  obtain ⟨_, _, _, _, _, _, _, _⟩ := h
  have := mulB (i := n - 1) (j := l - m) (a := 200) (b := 200) (by omega) (by omega)
  unfold tlt
  omega
theorem isq_bd {i : Int} {b : Nat} (h : i.natAbs ≤ b) : (isq i).natAbs ≤ b := by
  unfold isq
  have h1 := (root_ok i.toNat.log2 i.toNat (Nat.le_refl _)).1
  have h2 : Float64.isqrt i.toNat * Float64.isqrt i.toNat ≤ i.toNat := h1
  have h3 : Float64.isqrt i.toNat ≤ Float64.isqrt i.toNat * Float64.isqrt i.toNat := by
    rcases Nat.eq_zero_or_pos (Float64.isqrt i.toNat) with hz | hz
    · rw [hz]; exact Nat.zero_le _
    · exact Nat.le_mul_of_pos_left _ hz
  omega
theorem rootD_is (i : Int) : rootD i = if isSq i = true then .int (isq i) else .non := by
  unfold rootD isSq isq
  simp only [decide_eq_true_eq]
theorem root_in_ok {i : Int} {S : Sto} (h : i.natAbs ≤ 1000000) : F_whole_root [.int i] S = .ok (if isSq i = true then .int (isq i) else .non) S := by
  rw [whole_root_ok (Nat.lt_of_le_of_lt h (Nat.lt_of_lt_of_le (show 1000000 < 2 ^ 20 by decide) (Nat.pow_le_pow_right (by decide) (by decide)))), rootD_is]
theorem half_shape_ok {n k l m : Int} {S : Sto} (h : Pm n k l m) : F_has_half_shape [.int n, .int k, .int l, .int m] S = .ok (.bl (hlf n k l m)) S := by
  have e1 := tilt_ok (S := S) h
  have e2 := spread_ok (S := S) h
  have e3 := root_in_ok (S := S) (Nat.le_trans (spr_bd h) (by decide))
  refine eq_of ?_
  unfold F_has_half_shape b_has_half_shape hlf
  simp [entry, e1, e2, e3]
  by_cases h1 : tlt n k l m = 0
  · cases hq : isSq (spr k l m) <;> simp [h1, hq]
  · simp [h1]
end K48
set_option Elab.async false
set_option linter.all false
set_option maxRecDepth 100000
set_option maxHeartbeats 4000000
namespace K48
open PySem MP
open MQ
theorem numbers_ok {n k l m : Int} {S : Sto} (h : Pm n k l m) : F_numbers_in [.int n, .int k, .int l, .int m] S = .ok (if okv n k l m = true then .tup [.int (isq (spr k l m)), .int (f1v n k l m), .int (f2v n k l m)] else .non) S := by
  have e1 := tilt_ok (S := S) h
  have e2 := spread_ok (S := S) h
  have e3 := root_in_ok (S := S) (Nat.le_trans (spr_bd h) (by decide))
  have rb := isq_bd (spr_bd h)
  have s3 : 3 ≤ sizeLine := by decide
  have z2 : szDiv 2 = true := by decide +kernel
  refine eq_of ?_
  unfold F_numbers_in b_numbers_in
  rw [wp_run, wps_seq, wps_par, wp_cons, wp_call]
  simp only [entry, wp_call, wp_cons, wp_nil, wp_var, wp_c, wp_ok, List.map_cons, List.map_nil, List.cons_append, List.nil_append, List.getElem?_cons_zero, List.getElem?_cons_succ, List.length_cons, List.length_nil, if_true, e1, e2, e3, List.replicate, Nat.reduceAdd, Nat.reduceSub, List.set_cons_succ, List.set_cons_zero]
  unfold okv
  cases hq : isSq (spr k l m) with
  | false =>
    simp [hq]
  | true =>
    have r1 : szDiv (isq (spr k l m)) = true ∨ isq (spr k l m) = 0 := by
      by_cases z : isq (spr k l m) = 0
      · exact .inr z
      · exact .inl (szd z (by omega))
    simp only [if_true, Bool.true_and]
    generalize hr : isq (spr k l m) = r at *
    have eq : qv n k l m = (tlt n k l m).fdiv r := by unfold qv; rw [hr]
    rcases r1 with r1 | r1
    · have r0 : r ≠ 0 := fun z => by rw [z] at r1; exact absurd r1 (by decide +kernel)
      by_cases h2 : (tlt n k l m).fmod r = 0
      · by_cases h3 : (n - 1 - (tlt n k l m).fdiv r).fmod 2 = 0
        · by_cases h4 : 1 ≤ f1v n k l m
          · by_cases h5 : 1 ≤ f2v n k l m
            · have h4' := h4
              have h5' := h5
              unfold f1v at h4'
              unfold f2v at h5'
              rw [eq] at h4' h5'
              simp [r0, r1, h2, h3, h4, h5, eq, f1v, f2v, z2, s3, h4', h5']
            · have h4' := h4
              have h5' := h5
              unfold f1v at h4'
              unfold f2v at h5'
              rw [eq] at h4' h5'
              simp [r0, r1, h2, h3, h4, h5, eq, f1v, f2v, z2, s3, h4', h5']
          · have h4' := h4
            unfold f1v at h4'
            rw [eq] at h4'
            simp [r0, r1, h2, h3, h4, eq, f1v, f2v, z2, s3, h4']
        · simp [r0, r1, h2, h3, eq, z2]
      · simp [r0, r1, h2]
    · simp [r1]
theorem eigen_ok {l m r : Int} {S : Sto} : F_eigenvalues_in [.int l, .int m, .int r] S = .ok (.tup [.int ((l - m + r).fdiv 2), .int ((l - m - r).fdiv 2)]) S := by
  have s2 : 2 ≤ sizeLine := by decide
  have z2 : szDiv 2 = true := by decide +kernel
  refine eq_of ?_
  unfold F_eigenvalues_in b_eigenvalues_in
  simp [entry, s2, z2]
theorem keeps_ok {k t u : Int} {S : Sto} (hk : k.natAbs ≤ 1000) (ht : t.natAbs ≤ 100000) (hu : u.natAbs ≤ 100000) : F_keeps_krein [.int k, .int t, .int u] S = .ok (.bl (kk k t u)) S := by
  have a1 := mulB (i := 2) (j := t) (a := 2) (b := 100000) (by decide) ht
  have a2 := mulB (i := 2 * t) (j := u) (a := 200000) (b := 100000) (by omega) hu
  have a3 := mulB (i := k + t) (j := u + 1) (a := 101000) (b := 100001) (by omega) (by omega)
  have z1 : szMul 2 t = true := szm (by decide) (by omega)
  have z2 : szMul (2 * t) u = true := szm (by omega) (by omega)
  have z3 : szMul (t + 1) (k + t + 2 * t * u) = true := szm (by omega) (by omega)
  have z4 : szMul (k + t) (u + 1) = true := szm (by omega) (by omega)
  have z5 : szMul ((k + t) * (u + 1)) (u + 1) = true := szm (by omega) (by omega)
  refine eq_of ?_
  unfold F_keeps_krein b_keeps_krein kk
  simp [entry, z1, z2, z3, z4, z5]
theorem half_bd {a : Int} {b : Nat} (h : a.natAbs ≤ b) : (a.fdiv 2).natAbs ≤ b := by
  rw [fd2]
  omega
theorem krein_ok {n k l m : Int} {S : Sto} (h : Pm n k l m) : F_has_krein_fault [.int k, .int l, .int m, .int (isq (spr k l m))] S = .ok (.bl (kre k l m)) S := by
  have rb := isq_bd (spr_bd h)
  obtain ⟨_, _, _, _, _, _, _, _⟩ := h
  have b1 : (onev k l m).natAbs ≤ 60000 := half_bd (by omega)
  have b2 : (othv k l m).natAbs ≤ 60000 := half_bd (by omega)
  have e1 := keeps_ok (S := S) (k := k) (t := onev k l m) (u := othv k l m) (by omega) (by omega) (by omega)
  have e2 := keeps_ok (S := S) (k := k) (t := othv k l m) (u := onev k l m) (by omega) (by omega) (by omega)
  have e3 : F_eigenvalues_in [.int l, .int m, .int (isq (spr k l m))] S = .ok (.tup [.int (onev k l m), .int (othv k l m)]) S := eigen_ok
  refine eq_of ?_
  unfold F_has_krein_fault b_has_krein_fault kre
  simp [entry, e3, setT, setTs, e1, e2]
  cases kk k (onev k l m) (othv k l m) <;> simp
theorem asBls_map' {bs : List Bool} : asBls (bs.map D.bl) = some bs := MP.asBls_map
theorem nAny_ref {n : Nat} {bs : List Bool} {S : Sto} (h : S[n]? = some (.lst (bs.map D.bl))) : nAny [.ref n] S = .ok (.bl (bs.any id)) S := by
  unfold nAny lstD
  simp [h, asBls_map']
theorem f_bd {n k l m : Int} (h : Pm n k l m) : (f1v n k l m).natAbs ≤ 60000 ∧ (f2v n k l m).natAbs ≤ 60000 := by
  have tb := tlt_bd h
  have qb : (qv n k l m).natAbs ≤ 50000 := by
    unfold qv
    refine Nat.le_trans ?_ tb
    have h0 := isq_nn (spr k l m)
    rw [Int.fdiv_eq_ediv_of_nonneg _ h0]
    exact Int.natAbs_ediv_le_natAbs _ _
  obtain ⟨_, _, _, _, _, _, _, _⟩ := h
  exact ⟨half_bd (by omega), half_bd (by omega)⟩
theorem absolute_ok {n k l m : Int} {S : Sto} {Q : D → Sto → Prop} (h : Pm n k l m) (hq : ∀ T, Ex S T → Q (.bl (abf n k l m)) T) : Wp (F_has_absolute_fault [.int n, .int k, .int m, .tup [.int (f1v n k l m), .int (f2v n k l m)]] S) Q := by
  obtain ⟨b1, b2⟩ := f_bd h
  unfold abf at hq
  generalize f1v n k l m = f at *
  generalize f2v n k l m = g at *
  obtain ⟨_, _, _, _, _, _, _, _⟩ := h
  have s2 : (2 ≤ sizeLine) = True := eq_true (by decide)
  have z0 : szMul 2 n = true := szm (by decide) (by omega)
  have z1 : szMul f (f + 3) = true := szm (by omega) (by omega)
  have z2 : szMul g (g + 3) = true := szm (by omega) (by omega)
  unfold F_has_absolute_fault b_has_absolute_fault
  rw [wp_run, wps_ret, wp_and, wp_d2, wp_var]
  have e1 := dInB_en (α := Int) (n := true) m [0, k] (S := S) (by decide)
  have e1' : dNotIn (.int m) (.tup [.int 0, .int k]) S = .ok (.bl (decide (m ≠ 0 ∧ m ≠ k))) S := by
    refine e1.trans ?_
    simp
  simp only [entry, wp_call, wp_cons, wp_nil, wp_var, wp_c, wp_ok, List.map_cons, List.map_nil, List.cons_append, List.nil_append, List.getElem?_cons_zero, List.getElem?_cons_succ, List.length_cons, List.length_nil, if_true, wp_tup, Nat.zero_add, Nat.reduceAdd, s2, e1']
  by_cases hm : m ≠ 0 ∧ m ≠ k
  · rw [decide_eq_true hm] at hq ⊢
    simp only [Bool.true_and] at hq
    rw [wp_dN, wp_cons, wp_lc, wp_iD, wp_var]
    simp only [entry, wp_call, wp_cons, wp_nil, wp_var, wp_c, wp_ok, List.map_cons, List.map_nil, List.cons_append, List.nil_append, List.getElem?_cons_zero, List.getElem?_cons_succ, List.length_cons, List.length_nil, if_true, srcD_tup]
    have em : ([.int f, .int g] : List D) = [f, g].map D.int := rfl
    rw [em]
    refine lc_map (S0 := S) (f := fun x : Int => D.bl (decide (2 * n > x * (x + 3)))) Ex.refl (fun x hx T hT => ⟨_, rfl, ?_⟩) (fun _ _ => rfl) fun T hT => ?_
    · have zx : szMul x (x + 3) = true := by
        simp only [List.mem_cons, List.not_mem_nil, or_false] at hx
        rcases hx with rfl | rfl
        · exact z1
        · exact z2
      show Wp (d2 dGt (d2 dMul (dC (.int 2)) (dVar 0)) (d2 dMul (dVar 4) (d2 dAdd (dVar 4) (dC (.int 3)))) [some (.int n), some (.int k), some (.int m), some (.tup ([f, g].map D.int)), some (.int x)] T) _
      simp [z0, zx, Ex.refl]
    · have hz : ([f, g].map fun x : Int => D.bl (decide (2 * n > x * (x + 3)))).length ≤ sizeLine := show 2 ≤ sizeLine by decide
      rw [if_pos hz]
      have eb : ([f, g].map fun x : Int => D.bl (decide (2 * n > x * (x + 3)))) = [decide (2 * n > f * (f + 3)), decide (2 * n > g * (g + 3))].map D.bl := rfl
      simp only [eb, wp_cons, wp_nil, wp_ok]
      rw [nAny_ref get_new]
      simp only [wp_ok, rn_ret, List.any_cons, List.any_nil, Bool.or_false, id]
      exact hq _ (hT.app _)
  · rw [decide_eq_false hm] at hq ⊢
    exact hq S Ex.refl
end K48
set_option Elab.async false
set_option linter.all false
set_option maxRecDepth 100000
set_option maxHeartbeats 4000000
namespace K48
open PySem MP
open MQ
theorem isq_spec {n : Int} (h : 0 ≤ n) : isq n * isq n ≤ n ∧ n < (isq n + 1) * (isq n + 1) := by
  have h1 := root_ok n.toNat.log2 n.toNat (Nat.le_refl _)
  have h2 : Float64.isqrt n.toNat * Float64.isqrt n.toNat ≤ n.toNat ∧ n.toNat < (Float64.isqrt n.toNat + 1) * (Float64.isqrt n.toNat + 1) := h1
  unfold isq
  generalize Float64.isqrt n.toNat = N at h2 ⊢
  obtain ⟨a, b⟩ := h2
  have a' : ((N * N : Nat) : Int) ≤ n := by omega
  have b' : n < (((N + 1) * (N + 1) : Nat) : Int) := by omega
  rw [Int.natCast_mul] at a' b'
  exact ⟨a', by simpa using b'⟩
theorem sq_le {p N : Int} (hp : 0 ≤ p) (hN : 0 ≤ N) (h : p * p < (N + 1) * (N + 1)) : p ≤ N := by
  rcases Int.lt_or_le N p with z | z
  · have := Int.mul_le_mul (show N + 1 ≤ p by omega) (show N + 1 ≤ p by omega) (by omega) hp
    omega
  · exact z
theorem two_sq_ok {n : Int} {S : Sto} (h0 : 0 ≤ n) (h1 : n ≤ 200) : F_is_two_squares [.int n] S = .ok (.bl (two n)) S := by
  obtain ⟨q1, q2⟩ := isq_spec h0
  have q0 := isq_nn n
  have N14 : isq n ≤ 14 := sq_le (N := 14) q0 (by decide) (by omega)
  have htwo : two n = (List.range (Float64.isqrt n.toNat + 1)).any fun p => isSq (n - (p : Int) * (p : Int)) := rfl
  have hN : isq n = ((Float64.isqrt n.toNat : Nat) : Int) := rfl
  refine eq_of ?_
  unfold F_is_two_squares b_is_two_squares
  rw [wp_run, wps_seq, wps_set, wp_c, sq_nx, wps_seq, wps_while]
  simp only [entry, wp_call, wp_cons, wp_nil, wp_var, wp_c, wp_ok, List.map_cons, List.map_nil, List.cons_append, List.nil_append, List.getElem?_cons_zero, List.getElem?_cons_succ, List.length_cons, List.length_nil, if_true, List.replicate, Nat.reduceAdd, Nat.reduceSub, List.set_cons_succ, List.set_cons_zero]
  refine while_inv (fun m ρ T => T = S ∧ ∃ p : Nat, ρ = [some (.int n), some (.int (p : Int))] ∧ m + p = 100 ∧ (p : Int) ≤ isq n + 1 ∧ ∀ j : Nat, j < p → isSq (n - (j : Int) * (j : Int)) = false) ?_ (m := 100) (by decide) ⟨rfl, 0, rfl, by omega, by omega, fun j hj => by omega⟩
  rintro m ρ T ⟨rfl, p, rfl, hm, hp, hj⟩
  have zp : szMul (p : Int) (p : Int) = true := szm (by omega) (by omega)
  rw [wp_fB, wp_d2, wp_d2, wp_var]
  simp only [entry, wp_call, wp_cons, wp_nil, wp_var, wp_c, wp_ok, List.map_cons, List.map_nil, List.cons_append, List.nil_append, List.getElem?_cons_zero, List.getElem?_cons_succ, List.length_cons, List.length_nil, if_true, dMul_int, zp, dIB_int, leI_eq]
  by_cases hc : (p : Int) * (p : Int) ≤ n
  · rw [decide_eq_true hc, if_pos rfl]
    have hpN : (p : Int) ≤ isq n := sq_le (by omega) q0 (by omega)
    refine ⟨m - 1, by omega, ?_⟩
    have pp := mulB (i := (p : Int)) (j := (p : Int)) (a := 15) (b := 15) (by omega) (by omega)
    have e := root_in_ok (S := T) (i := n - (p : Int) * (p : Int)) (by omega)
    rw [wps_seq, wps_if, wp_fB, wp_isn, wp_call, wp_cons, wp_d2]
    simp only [entry, wp_call, wp_cons, wp_nil, wp_var, wp_c, wp_ok, List.map_cons, List.map_nil, List.cons_append, List.nil_append, List.getElem?_cons_zero, List.getElem?_cons_succ, List.length_cons, List.length_nil, if_true, wp_d2, dMul_int, zp, dSub_int, e]
    cases hs : isSq (n - (p : Int) * (p : Int)) with
    | true =>
      have ht : two n = true := by
        rw [htwo]
        exact List.any_eq_true.mpr ⟨p, List.mem_range.mpr (by omega), hs⟩
      simp [ht]
    | false =>
      simp
      refine ⟨p + 1, by simp, by omega, by omega, fun j hj2 => ?_⟩
      by_cases z : j = p
      · rw [z]; exact hs
      · exact hj j (by omega)
  · rw [decide_eq_false hc]
    simp only [Bool.false_eq_true, if_false]
    have hpN : (p : Int) = isq n + 1 := by
      rcases Int.lt_or_le (isq n) (p : Int) with z | z
      · omega
      · exfalso
        have := Int.mul_le_mul z z (by omega) q0
        omega
    have ht : two n = false := by
      rw [htwo]
      refine List.any_eq_false.mpr fun j hj2 => ?_
      have := List.mem_range.mp hj2
      simp [hj j (by omega)]
    rw [ht]
    simp
def wdP : Ft8 → D
  | .range => .str "range"
  | .count => .str "count"
  | .ties => .str "ties"
  | .squares => .str "squares"
  | .values => .str "values"
  | .krein => .str "krein"
  | .absolute => .str "absolute"
  | .half => .non
  | .none => .non
end K48
set_option Elab.async false
set_option linter.all false
set_option maxRecDepth 100000
set_option maxHeartbeats 4000000
namespace K48
open PySem MP
def Ts0 : Fst := (sIf (fNot (fTru (dCall F_is_in_range 4 (aCons (dVar 0) (aCons (dVar 1) (aCons (dVar 2) (aCons (dVar 3) aNil))))))) (sRet (dC c_RANGE)) sNil)
def Ts1 : Fst := (sIf (fB (d2 dNe (d2 dMul (dVar 1) (d2 dSub (d2 dSub (dVar 1) (dVar 2)) (dC (.int 1)))) (d2 dMul (d2 dSub (d2 dSub (dVar 0) (dVar 1)) (dC (.int 1))) (dVar 3)))) (sRet (dC c_COUNT)) sNil)
def Ts2 : Fst := (sIf (fOr (fB (d2 dNe (d2 dMod (d2 dMul (dVar 0) (dVar 1)) (dC (.int 2))) (dC (.int 0)))) (fB (d2 dNe (d2 dMod (d2 dMul (d2 dMul (dVar 0) (dVar 1)) (dVar 2)) (dC (.int 6))) (dC (.int 0))))) (sRet (dC c_TIES)) sNil)
def Ts3 : Fst := (sIf (fTru (dCall F_has_half_shape 4 (aCons (dVar 0) (aCons (dVar 1) (aCons (dVar 2) (aCons (dVar 3) aNil)))))) (sRet (dIf (fTru (dCall F_is_two_squares 1 (aCons (dVar 0) aNil))) (dC .non) (dC c_SQUARES))) sNil)
def Ts4 : Fst := (sSet 4 (dCall F_numbers_in 4 (aCons (dVar 0) (aCons (dVar 1) (aCons (dVar 2) (aCons (dVar 3) aNil))))))
def Ts5 : Fst := (sIf (fB (dIsN false (dVar 4))) (sRet (dC c_VALUES)) sNil)
def Ts6 : Fst := (sIf (fTru (dCall F_has_krein_fault 4 (aCons (dVar 1) (aCons (dVar 2) (aCons (dVar 3) (aCons (d2 dAt (dVar 4) (dC (.int 0))) aNil)))))) (sRet (dC c_KREIN)) sNil)
def Ts7 : Fst := (sRet (dIf (fTru (dCall F_has_absolute_fault 4 (aCons (dVar 0) (aCons (dVar 1) (aCons (dVar 3) (aCons (dSlice (dVar 4) (oSome (dC (.int 1))) oNone) aNil)))))) (dC c_ABSOLUTE) (dC .non)))
def Tr7 : Fst := Ts7
def Tr6 : Fst := sSeq Ts6 Tr7
def Tr5 : Fst := sSeq Ts5 Tr6
def Tr4 : Fst := sSeq Ts4 Tr5
def Tr3 : Fst := sSeq Ts3 Tr4
def Tr2 : Fst := sSeq Ts2 Tr3
def Tr1 : Fst := sSeq Ts1 Tr2
def Tr0 : Fst := sSeq Ts0 Tr1
theorem Tb_eq : b_fault_in = Tr0 := rfl
def Vs0 : Fst := (sExpr (dCall F_require_tuple 4 (aCons (dVar 0) (aCons (dVar 1) (aCons (dVar 2) (aCons (dVar 3) aNil))))))
def Vs1 : Fst := (sSet 4 (dCall F_fault_in 4 (aCons (dVar 0) (aCons (dVar 1) (aCons (dVar 2) (aCons (dVar 3) aNil))))))
def Vs2 : Fst := (sIf (fB (dIsN true (dVar 4))) (sRaise1 3 "reason" (mkTup (aCons (dVar 4) aNil))) sNil)
def Vs3 : Fst := (sIf (fTru (dCall F_has_half_shape 4 (aCons (dVar 0) (aCons (dVar 1) (aCons (dVar 2) (aCons (dVar 3) aNil)))))) (sRaise1 3 "reason" (mkTup (aCons (dC c_HALF) aNil))) sNil)
def Vs4 : Fst := (sAsg (.tp (.cons (.nm 5) (.cons (.nm 6) (.cons (.nm 7) .nil)))) (dCall F_numbers_in 4 (aCons (dVar 0) (aCons (dVar 1) (aCons (dVar 2) (aCons (dVar 3) aNil))))))
def Vs5 : Fst := (sAsg (.tp (.cons (.nm 8) (.cons (.nm 9) .nil))) (dCall F_eigenvalues_in 3 (aCons (dVar 2) (aCons (dVar 3) (aCons (dVar 5) aNil)))))
def Vs6 : Fst := (sRet (mkTup (aCons (mkTup (aCons (dVar 8) (aCons (dVar 6) aNil))) (aCons (mkTup (aCons (dVar 9) (aCons (dVar 7) aNil))) aNil))))
def Vr6 : Fst := Vs6
def Vr5 : Fst := sSeq Vs5 Vr6
def Vr4 : Fst := sSeq Vs4 Vr5
def Vr3 : Fst := sSeq Vs3 Vr4
def Vr2 : Fst := sSeq Vs2 Vr3
def Vr1 : Fst := sSeq Vs1 Vr2
def Vr0 : Fst := sSeq Vs0 Vr1
theorem Vb_eq : b_tuple_values = Vr0 := rfl
open MQ
theorem fault_ok {n k l m : Int} {S : Sto} {Q : D → Sto → Prop} (h : Pm n k l m) (hq : ∀ T, Ex S T → Q (wdP (fault n k l m)) T) : Wp (F_fault_in [.int n, .int k, .int l, .int m] S) Q := by
  have eR := in_range_ok (S := S) h
  have eH := half_shape_ok (S := S) h
  have eN := numbers_ok (S := S) h
  have eT := two_sq_ok (S := S) h.n0 h.n1
  have eK := krein_ok (S := S) h
  have hP := h
  obtain ⟨_, _, _, _, _, _, _, _⟩ := h
  have p1 := mulB (i := n) (j := k) (a := 200) (b := 200) (by omega) (by omega)
  have z1 : szMul k (k - l - 1) = true := szm (by omega) (by omega)
  have z2 : szMul (n - k - 1) m = true := szm (by omega) (by omega)
  have z3 : szMul n k = true := szm (by omega) (by omega)
  have z4 : szMul (n * k) l = true := szm (by omega) (by omega)
  unfold F_fault_in
  rw [Tb_eq, wp_run]
  unfold Tr0 Ts0
  rw [wps_seq, wps_if, wp_fNot, wp_fT, wp_call]
  simp only [entry, wp_call, wp_cons, wp_nil, wp_var, wp_c, wp_ok, List.map_cons, List.map_nil, List.cons_append, List.nil_append, List.getElem?_cons_zero, List.getElem?_cons_succ, List.length_cons, List.length_nil, if_true, eR, truD_bl, List.replicate, Nat.reduceAdd, Nat.reduceSub]
  cases h1 : rng n k l m with
  | false =>
    have ef : fault n k l m = .range := by unfold fault; simp [h1]
    rw [ef] at hq
    exact hq S Ex.refl
  | true =>
  simp only [Bool.not_true, Bool.false_eq_true, if_false, wps_nil]
  rw [sq_nx]; unfold Tr1 Ts1
  rw [wps_seq, wps_if, wp_fB, wp_d2, wp_d2, wp_var]
  simp only [entry, wp_call, wp_cons, wp_nil, wp_var, wp_c, wp_ok, List.map_cons, List.map_nil, List.cons_append, List.nil_append, List.getElem?_cons_zero, List.getElem?_cons_succ, List.length_cons, List.length_nil, if_true, wp_d2, dSub_int, dMul_int, z1, z2]
  have eC : dNe (.int (k * (k - l - 1))) (.int ((n - k - 1) * m)) S = .ok (.bl (!cnt n k l m)) S := by
    show dEqB true _ _ _ = _
    rw [dEqB_int]
    rfl
  simp only [eC, wp_ok]
  cases h2 : cnt n k l m with
  | false =>
    have ef : fault n k l m = .count := by unfold fault; simp [h1, h2]
    rw [ef] at hq
    exact hq S Ex.refl
  | true =>
  simp only [Bool.not_true, Bool.false_eq_true, if_false, wps_nil]
  rw [sq_nx]; unfold Tr2 Ts2
  rw [wps_seq, wps_if]
  refine (show ∀ {P : Bool → Sto → Prop}, P (!tie n k l) S → Wp ((fOr (fB (d2 dNe (d2 dMod (d2 dMul (dVar 0) (dVar 1)) (dC (.int 2))) (dC (.int 0)))) (fB (d2 dNe (d2 dMod (d2 dMul (d2 dMul (dVar 0) (dVar 1)) (dVar 2)) (dC (.int 6))) (dC (.int 0))))) [some (.int n), some (.int k), some (.int l), some (.int m), none] S) P from fun {P} hP => by
    unfold tie at hP
    rw [wp_fOr, wp_fB, wp_d2, wp_d2, wp_d2, wp_var]
    by_cases a1 : (n * k).fmod 2 = 0
    · by_cases a2 : (n * k * l).fmod 6 = 0
      · simp [z3, z4, a1, a2] at hP ⊢
        exact hP
      · simp [z3, z4, a1, a2] at hP ⊢
        exact hP
    · simp [z3, z4, a1] at hP ⊢
      exact hP) ?_
  cases h3 : tie n k l with
  | false =>
    have ef : fault n k l m = .ties := by unfold fault; simp [h1, h2, h3]
    rw [ef] at hq
    exact hq S Ex.refl
  | true =>
  simp only [Bool.not_true, Bool.false_eq_true, if_false, wps_nil]
  rw [sq_nx]; unfold Tr3 Ts3
  rw [wps_seq, wps_if, wp_fT, wp_call]
  simp only [entry, wp_call, wp_cons, wp_nil, wp_var, wp_c, wp_ok, List.map_cons, List.map_nil, List.cons_append, List.nil_append, List.getElem?_cons_zero, List.getElem?_cons_succ, List.length_cons, List.length_nil, if_true, eH, truD_bl]
  cases h4 : hlf n k l m with
  | true =>
    simp only [if_true]
    rw [wps_ret, wp_if, wp_fT, wp_call]
    simp only [entry, wp_call, wp_cons, wp_nil, wp_var, wp_c, wp_ok, List.map_cons, List.map_nil, List.cons_append, List.nil_append, List.getElem?_cons_zero, List.getElem?_cons_succ, List.length_cons, List.length_nil, if_true, eT, truD_bl]
    cases h5 : two n with
    | true =>
      have ef : fault n k l m = .half := by unfold fault; simp [h1, h2, h3, h4, h5]
      rw [ef] at hq
      exact hq S Ex.refl
    | false =>
      have ef : fault n k l m = .squares := by unfold fault; simp [h1, h2, h3, h4, h5]
      rw [ef] at hq
      exact hq S Ex.refl
  | false =>
  simp only [Bool.false_eq_true, if_false, wps_nil]
  rw [sq_nx]; unfold Tr4 Ts4
  rw [wps_seq, wps_set, wp_call]
  simp only [entry, wp_call, wp_cons, wp_nil, wp_var, wp_c, wp_ok, List.map_cons, List.map_nil, List.cons_append, List.nil_append, List.getElem?_cons_zero, List.getElem?_cons_succ, List.length_cons, List.length_nil, if_true, eN, List.set_cons_succ, List.set_cons_zero]
  rw [sq_nx]; unfold Tr5 Ts5
  rw [wps_seq, wps_if, wp_fB, wp_isn, wp_var]
  cases h5 : okv n k l m with
  | false =>
    have ef : fault n k l m = .values := by unfold fault; simp [h1, h2, h3, h4, h5]
    rw [ef] at hq
    exact hq S Ex.refl
  | true =>
  simp only [entry, wp_call, wp_cons, wp_nil, wp_var, wp_c, wp_ok, List.map_cons, List.map_nil, List.cons_append, List.nil_append, List.getElem?_cons_zero, List.getElem?_cons_succ, List.length_cons, List.length_nil, if_true, isNonD, Bool.false_eq_true, if_false, wps_nil]
  rw [sq_nx]; unfold Tr6 Ts6
  rw [wps_seq, wps_if, wp_fT, wp_call]
  have eA : ∀ r f g : Int, dAt (.tup [.int r, .int f, .int g]) (.int 0) S = .ok (.int r) S := fun r f g => rfl
  simp only [entry, wp_call, wp_cons, wp_nil, wp_var, wp_c, wp_ok, List.map_cons, List.map_nil, List.cons_append, List.nil_append, List.getElem?_cons_zero, List.getElem?_cons_succ, List.length_cons, List.length_nil, if_true, wp_d2, eA, eK, truD_bl]
  cases h6 : kre k l m with
  | true =>
    have ef : fault n k l m = .krein := by unfold fault; simp [h1, h2, h3, h4, h5, h6]
    rw [ef] at hq
    exact hq S Ex.refl
  | false =>
  simp only [Bool.false_eq_true, if_false, wps_nil]
  rw [sq_nx]; unfold Tr7 Ts7
  rw [wps_ret, wp_if, wp_fT, wp_call]
  have eS : ∀ r f g : Int, sliceD (.tup [.int r, .int f, .int g]) (some 1) none S = .ok (.tup [.int f, .int g]) S := fun r f g => rfl
  simp only [entry, wp_call, wp_cons, wp_nil, wp_var, wp_c, wp_ok, List.map_cons, List.map_nil, List.cons_append, List.nil_append, List.getElem?_cons_zero, List.getElem?_cons_succ, List.length_cons, List.length_nil, if_true, wp_sl, wp_oS, wp_oN, eS]
  refine absolute_ok hP fun T hT => ?_
  simp only [truD_bl, wp_ok]
  cases h7 : abf n k l m with
  | true =>
    have ef : fault n k l m = .absolute := by unfold fault; simp [h1, h2, h3, h4, h5, h6, h7]
    rw [ef] at hq
    exact hq T hT
  | false =>
    have ef : fault n k l m = .none := by unfold fault; simp [h1, h2, h3, h4, h5, h6, h7]
    rw [ef] at hq
    exact hq T hT
theorem tuple_fault_ok {n k l m : Int} {S : Sto} {Q : D → Sto → Prop} (h : Pm n k l m) (hq : ∀ T, Ex S T → Q (wdP (fault n k l m)) T) : Wp (F_tuple_fault [.int n, .int k, .int l, .int m] S) Q := by
  unfold F_tuple_fault b_tuple_fault
  rw [wp_run, wps_seq, wps_expr, wp_call]
  simp only [entry, wp_call, wp_cons, wp_nil, wp_var, wp_c, wp_ok, List.map_cons, List.map_nil, List.cons_append, List.nil_append, List.getElem?_cons_zero, List.getElem?_cons_succ, List.length_cons, List.length_nil, if_true, require_tuple_ok (S := S) h]
  rw [sq_nx, wps_ret, wp_call]
  simp only [entry, wp_call, wp_cons, wp_nil, wp_var, wp_c, wp_ok, List.map_cons, List.map_nil, List.cons_append, List.nil_append, List.getElem?_cons_zero, List.getElem?_cons_succ, List.length_cons, List.length_nil, if_true]
  refine fault_ok h fun T hT => ?_
  simp only [rn_ret]
  exact hq T hT
theorem half_iff {n k l m : Int} : isNonD (wdP (fault n k l m)) = true → hlf n k l m = decide (fault n k l m = .half) := by
  unfold fault
  intro h
  cases h1 : rng n k l m <;> simp [h1, wdP, isNonD] at h ⊢
  cases h2 : cnt n k l m <;> simp [h2, wdP, isNonD] at h ⊢
  cases h3 : tie n k l <;> simp [h3, wdP, isNonD] at h ⊢
  cases h4 : hlf n k l m <;> simp [h4, wdP, isNonD] at h ⊢
  · cases h5 : okv n k l m <;> simp [h5, wdP, isNonD] at h ⊢
    cases h6 : kre k l m <;> simp [h6, wdP, isNonD] at h ⊢
    cases h7 : abf n k l m <;> simp [h7, wdP, isNonD] at h ⊢
  · cases h5 : two n <;> simp [h5, wdP, isNonD] at h ⊢
theorem is_half_ok {n k l m : Int} {S : Sto} {Q : D → Sto → Prop} (h : Pm n k l m) (hq : ∀ T, Ex S T → Q (.bl (decide (fault n k l m = .half))) T) : Wp (F_is_half [.int n, .int k, .int l, .int m] S) Q := by
  unfold F_is_half b_is_half
  rw [wp_run, wps_seq, wps_expr, wp_call]
  simp only [entry, wp_call, wp_cons, wp_nil, wp_var, wp_c, wp_ok, List.map_cons, List.map_nil, List.cons_append, List.nil_append, List.getElem?_cons_zero, List.getElem?_cons_succ, List.length_cons, List.length_nil, if_true, require_tuple_ok (S := S) h]
  rw [sq_nx, wps_ret, wp_and, wp_isn, wp_call]
  simp only [entry, wp_call, wp_cons, wp_nil, wp_var, wp_c, wp_ok, List.map_cons, List.map_nil, List.cons_append, List.nil_append, List.getElem?_cons_zero, List.getElem?_cons_succ, List.length_cons, List.length_nil, if_true]
  refine fault_ok h fun T hT => ?_
  cases hn : isNonD (wdP (fault n k l m)) with
  | false =>
    have e : decide (fault n k l m = .half) = false := by
      refine decide_eq_false fun z => ?_
      rw [z] at hn
      cases hn
    have := hq T hT
    rw [e] at this
    simpa [hn] using this
  | true =>
    have := hq T hT
    rw [← half_iff hn] at this
    simp only [Bool.false_eq_true, if_false]
    rw [half_shape_ok (S := T) h]
    exact this
theorem left_tuple_exc {n k l m : Int} {S : Sto} (h : Pm n k l m) (hr : rng n k l m = false) : F_left_tuple [.int n, .int k, .int l, .int m] S = .exc ⟨1, none⟩ S := by
  have e1 := require_tuple_ok (S := S) h
  have e2 := in_range_ok (S := S) h
  rw [hr] at e2
  unfold F_left_tuple b_left_tuple runF sSeq sExpr
  simp [entry, dCall, aCons, aNil, dVar, e1, e2, Rs.bind, thenS, sSeq, sIf, fNot, fTru, sRaise0]
theorem left_tuple_ok {n k l m : Int} {S : Sto} (h : Pm n k l m) (hr : rng n k l m = true) : F_left_tuple [.int n, .int k, .int l, .int m] S = .ok (.tup [.int n, .int (n - k - 1), .int (n - 2 - 2 * k + m), .int (n - 2 * k + l)]) S := by
  have e1 := require_tuple_ok (S := S) h
  have e2 := in_range_ok (S := S) h
  have e3 := left_in_ok (S := S) h
  rw [hr] at e2
  unfold F_left_tuple b_left_tuple runF sSeq sExpr
  simp [entry, dCall, aCons, aNil, dVar, e1, e2, e3, Rs.bind, thenS, sSeq, sIf, fNot, fTru, sNil, sRet]
def wdL : Ft8 → D
  | .half => .str "half"
  | x => wdP x
theorem fault_out {n k l m : Int} (S : Sto) (h : Pm n k l m) : ∃ T, Ex S T ∧ F_fault_in [.int n, .int k, .int l, .int m] S = .ok (wdP (fault n k l m)) T := by
  obtain ⟨x, T, e, rfl, hT⟩ := (fault_ok (S := S) h (Q := fun x T => x = wdP (fault n k l m) ∧ Ex S T) fun T hT => ⟨rfl, hT⟩).out
  exact ⟨T, hT, e⟩
theorem values_exc {n k l m : Int} (S : Sto) (h : Pm n k l m) (hf : fault n k l m ≠ .none) : ∃ T, Ex S T ∧ F_tuple_values [.int n, .int k, .int l, .int m] S = .exc ⟨3, some ("reason", .tup [wdL (fault n k l m)])⟩ T := by
  have e1 := require_tuple_ok (S := S) h
  obtain ⟨T, hT, e2⟩ := fault_out S h
  have e3 := half_shape_ok (S := T) h
  have s1 : 1 ≤ sizeLine := by decide
  refine ⟨T, hT, ?_⟩
  unfold F_tuple_values
  rw [Vb_eq]
  unfold Vr0 Vr1 Vr2 Vr3 Vs0 Vs1 Vs2 Vs3 runF sSeq sExpr
  cases hn : isNonD (wdP (fault n k l m)) with
  | false =>
    have ew : wdL (fault n k l m) = wdP (fault n k l m) := by
      cases hz : fault n k l m <;> first | rfl | (rw [hz] at hn; cases hn)
    rw [ew]
    simp [entry, dCall, aCons, aNil, dVar, e1, e2, Rs.bind, thenS, sSeq, sSet, sIf, fB, dIsN, hn, asB, sRaise1, mkTup, s1]
  | true =>
    have hh : fault n k l m = .half := by
      cases hz : fault n k l m <;> first | rfl | exact absurd hz hf | (rw [hz] at hn; cases hn)
    have hl : hlf n k l m = true := by rw [half_iff hn, hh]; rfl
    rw [hl] at e3
    have ew : wdL (fault n k l m) = .str "half" := by rw [hh]; rfl
    rw [ew]
    simp [entry, dCall, aCons, aNil, dVar, e1, e2, e3, Rs.bind, thenS, sSeq, sSet, sIf, fB, fTru, dIsN, hn, asB, sRaise1, mkTup, s1, sNil, dC, c_HALF]
theorem none_facts {n k l m : Int} (hf : fault n k l m = .none) : rng n k l m = true ∧ cnt n k l m = true ∧ hlf n k l m = false ∧ okv n k l m = true := by
  unfold fault at hf
  cases h1 : rng n k l m <;> simp [h1] at hf ⊢
  cases h2 : cnt n k l m <;> simp [h2] at hf ⊢
  cases h3 : tie n k l <;> simp [h3] at hf ⊢
  cases h4 : hlf n k l m <;> simp [h4] at hf ⊢
  · cases h5 : okv n k l m <;> simp [h5] at hf ⊢
  · cases h5 : two n <;> simp [h5] at hf ⊢
theorem values_ok {n k l m : Int} (S : Sto) (h : Pm n k l m) (hf : fault n k l m = .none) : ∃ T, Ex S T ∧ F_tuple_values [.int n, .int k, .int l, .int m] S = .ok (.tup [.tup [.int (onev k l m), .int (f1v n k l m)], .tup [.int (othv k l m), .int (f2v n k l m)]]) T := by
  have e1 := require_tuple_ok (S := S) h
  obtain ⟨T, hT, e2⟩ := fault_out S h
  obtain ⟨_, _, n3, n4⟩ := none_facts hf
  have e3 := half_shape_ok (S := T) h
  rw [n3] at e3
  have e4 := numbers_ok (S := T) h
  rw [n4, if_pos rfl] at e4
  have e5 : F_eigenvalues_in [.int l, .int m, .int (isq (spr k l m))] T = .ok (.tup [.int (onev k l m), .int (othv k l m)]) T := eigen_ok
  have s2 : 2 ≤ sizeLine := by decide
  refine ⟨T, hT, ?_⟩
  rw [hf] at e2
  unfold F_tuple_values
  rw [Vb_eq]
  unfold Vr0 Vr1 Vr2 Vr3 Vr4 Vr5 Vr6 Vs0 Vs1 Vs2 Vs3 Vs4 Vs5 Vs6 runF sSeq sExpr
  simp [entry, dCall, aCons, aNil, dVar, e1, e2, e3, e4, e5, Rs.bind, thenS, sSeq, sSet, sIf, fB, fTru, dIsN, isNonD, wdP, asB, mkTup, s2, sNil, sAsg, setT, setTs, sRet]
end K48
set_option Elab.async false
set_option linter.all false
set_option maxRecDepth 100000
set_option maxHeartbeats 4000000
namespace K48
open PySem MP
def Us0 : Fst := (sAsg (.tp (.cons (.nm 1) (.cons (.nm 2) (.cons (.nm 3) (.cons (.nm 4) .nil))))) (dVar 0))
def Us1 : Fst := (sSet 5 (dCall F__law_tw_left 1 (aCons (dVar 0) aNil)))
def Us2 : Fst := (sIf (fOr (fNot (fB (dChain dLe dLe (dC (.int 1)) (dVar 2) (d2 dSub (dVar 1) (dC (.int 2)))))) (fOr (fB (d2 dGt (dVar 3) (d2 dSub (dVar 2) (dC (.int 1))))) (fOr (fB (d2 dGt (dVar 4) (dVar 2))) (fB (d2 dLt (dN nMinT (aCons (dSlice (dVar 5) (oSome (dC (.int 2))) oNone) aNil)) (dC (.int 0))))))) (sRet (dC (.str "range"))) sNil)
def Us3 : Fst := (sIf (fB (d2 dNe (d2 dMul (dVar 2) (d2 dSub (d2 dSub (dVar 2) (dVar 3)) (dC (.int 1)))) (d2 dMul (d2 dSub (d2 dSub (dVar 1) (dVar 2)) (dC (.int 1))) (dVar 4)))) (sRet (dC (.str "count"))) sNil)
def Us4 : Fst := (sIf (fOr (fB (d2 dEq (d2 dMod (d2 dMul (dVar 1) (dVar 2)) (dC (.int 2))) (dC (.int 1)))) (fB (d2 dGt (d2 dMod (d2 dMul (d2 dMul (dVar 1) (dVar 2)) (dVar 3)) (dC (.int 6))) (dC (.int 0))))) (sRet (dC (.str "ties"))) sNil)
def Us5 : Fst := (sSet 6 (d2 dAdd (d2 dMul (d2 dSub (dVar 3) (dVar 4)) (d2 dSub (dVar 3) (dVar 4))) (d2 dMul (dC (.int 4)) (d2 dSub (dVar 2) (dVar 4)))))
def Us6 : Fst := (sSet 7 (d2 dAdd (d2 dMul (dC (.int 2)) (dVar 2)) (d2 dMul (d2 dSub (dVar 1) (dC (.int 1))) (d2 dSub (dVar 3) (dVar 4)))))
def Us7 : Fst := (sIf (fAnd (fB (d2 dEq (dVar 7) (dC (.int 0)))) (fNot (fTru (dCall F__law_tw_is_square 1 (aCons (dVar 6) aNil))))) (sRet (dIf (fTru (dCall F__law_tw_two_squares 1 (aCons (dVar 1) aNil))) (dC (.str "half")) (dC (.str "squares")))) sNil)
def Us8 : Fst := (sSet 8 (dCall F__law_tw_root 1 (aCons (dVar 6) aNil)))
def Us9 : Fst := (sIf (fOr (fB (d2 dNe (d2 dMul (dVar 8) (dVar 8)) (dVar 6))) (fOr (fB (d2 dLt (dVar 8) (dC (.int 1)))) (fB (d2 dGt (d2 dMod (dVar 7) (dVar 8)) (dC (.int 0)))))) (sRet (dC (.str "values"))) sNil)
def Us10 : Fst := (sPar 9 10 (aCons (d2 dSub (d2 dSub (dVar 1) (dC (.int 1))) (d2 dFdiv (dVar 7) (dVar 8))) (aCons (d2 dAdd (d2 dSub (dVar 1) (dC (.int 1))) (d2 dFdiv (dVar 7) (dVar 8))) aNil)))
def Us11 : Fst := (sIf (fOr (fB (d2 dEq (d2 dMod (dVar 9) (dC (.int 2))) (dC (.int 1)))) (fB (d2 dLt (dN nMin2 (aCons (dVar 9) (aCons (dVar 10) aNil))) (dC (.int 2))))) (sRet (dC (.str "values"))) sNil)
def Us12 : Fst := (sPar 11 12 (aCons (d2 dFdiv (d2 dAdd (d2 dSub (dVar 3) (dVar 4)) (dVar 8)) (dC (.int 2))) (aCons (d2 dFdiv (d2 dSub (d2 dSub (dVar 3) (dVar 4)) (dVar 8)) (dC (.int 2))) aNil)))
def Us13 : Fst := (sIf (fOr (fTru (dCall F__law_tw_is_over 3 (aCons (dVar 2) (aCons (dVar 11) (aCons (dVar 12) aNil))))) (fTru (dCall F__law_tw_is_over 3 (aCons (dVar 2) (aCons (dVar 12) (aCons (dVar 11) aNil)))))) (sRet (dC (.str "krein"))) sNil)
def Us14 : Fst := (sPar 9 10 (aCons (d2 dFdiv (dVar 9) (dC (.int 2))) (aCons (d2 dFdiv (dVar 10) (dC (.int 2))) aNil)))
def Us15 : Fst := (sIf (fAnd (fB (dChain dLt dLt (dC (.int 0)) (dVar 4) (dVar 2))) (fB (d2 dGt (d2 dMul (dC (.int 2)) (dVar 1)) (dN nMin2 (aCons (d2 dMul (dVar 9) (d2 dAdd (dVar 9) (dC (.int 3)))) (aCons (d2 dMul (dVar 10) (d2 dAdd (dVar 10) (dC (.int 3)))) aNil)))))) (sRet (dC (.str "absolute"))) sNil)
def Us16 : Fst := (sRet (dC .non))
def Ur16 : Fst := Us16
def Ur15 : Fst := sSeq Us15 Ur16
def Ur14 : Fst := sSeq Us14 Ur15
def Ur13 : Fst := sSeq Us13 Ur14
def Ur12 : Fst := sSeq Us12 Ur13
def Ur11 : Fst := sSeq Us11 Ur12
def Ur10 : Fst := sSeq Us10 Ur11
def Ur9 : Fst := sSeq Us9 Ur10
def Ur8 : Fst := sSeq Us8 Ur9
def Ur7 : Fst := sSeq Us7 Ur8
def Ur6 : Fst := sSeq Us6 Ur7
def Ur5 : Fst := sSeq Us5 Ur6
def Ur4 : Fst := sSeq Us4 Ur5
def Ur3 : Fst := sSeq Us3 Ur4
def Ur2 : Fst := sSeq Us2 Ur3
def Ur1 : Fst := sSeq Us1 Ur2
def Ur0 : Fst := sSeq Us0 Ur1
theorem Ub_eq : b__law_tw_fault = Ur0 := rfl
open MQ
theorem isq_unique {x p : Int} (h0 : 0 ≤ x) (hp : 0 ≤ p) (h1 : p * p ≤ x) (h2 : x < (p + 1) * (p + 1)) : p = isq x := by
  obtain ⟨q1, q2⟩ := isq_spec h0
  have q0 := isq_nn x
  have a := sq_le (p := p) (N := isq x) hp q0 (by omega)
  have b := sq_le (p := isq x) (N := p) q0 hp (by omega)
  omega
theorem tw_root_ok {x : Int} {S : Sto} (h0 : 0 ≤ x) (h1 : x ≤ 100000) : F__law_tw_root [.int x] S = .ok (.int (isq x)) S := by
  have z2 : szDiv 2 = true := by decide +kernel
  refine eq_of ?_
  unfold F__law_tw_root b__law_tw_root
  rw [wp_run, wps_seq, wps_par, wp_cons, wp_c]
  simp only [entry, wp_call, wp_cons, wp_nil, wp_var, wp_c, wp_ok, List.map_cons, List.map_nil, List.cons_append, List.nil_append, List.getElem?_cons_zero, List.getElem?_cons_succ, List.length_cons, List.length_nil, if_true, wp_d2, dAdd_int, List.replicate, Nat.reduceAdd, Nat.reduceSub, List.set_cons_succ, List.set_cons_zero]
  rw [sq_nx, wps_seq, wps_while]
  refine while_inv (fun m ρ T => T = S ∧ ∃ (lo hi : Int) (X : Option D), ρ = [some (.int x), some (.int lo), some (.int hi), X] ∧ 0 ≤ lo ∧ lo < hi ∧ hi ≤ x + 1 ∧ lo * lo ≤ x ∧ x < hi * hi ∧ hi - lo ≤ m) ?_ (m := 200000) (by decide) ⟨rfl, 0, x + 1, none, rfl, by omega, by omega, by omega, by omega, ?_, by omega⟩
  · rintro m ρ T ⟨rfl, lo, hi, X, rfl, b1, b2, b3, b4, b5, b6⟩
    rw [wp_fB, wp_d2, wp_d2, wp_var]
    simp only [entry, wp_call, wp_cons, wp_nil, wp_var, wp_c, wp_ok, List.map_cons, List.map_nil, List.cons_append, List.nil_append, List.getElem?_cons_zero, List.getElem?_cons_succ, List.length_cons, List.length_nil, if_true, dSub_int, dIB_int, ltI_eq]
    by_cases hc : 1 < hi - lo
    · rw [decide_eq_true hc, if_pos rfl]
      refine ⟨m - 1, by omega, ?_⟩
      rw [wps_seq, wps_set, wp_d2, wp_d2, wp_var]
      simp only [entry, wp_call, wp_cons, wp_nil, wp_var, wp_c, wp_ok, List.map_cons, List.map_nil, List.cons_append, List.nil_append, List.getElem?_cons_zero, List.getElem?_cons_succ, List.length_cons, List.length_nil, if_true, dAdd_int, dFdiv_int, z2, List.set_cons_succ, List.set_cons_zero]
      rw [fd2]
      generalize hmid : (lo + hi) / 2 = mid
      have c1 : lo < mid ∧ mid < hi := by omega
      have zm : szMul mid mid = true := szm (by omega) (by omega)
      rw [sq_nx, wps_if, wp_fB, wp_d2, wp_d2, wp_var]
      simp only [entry, wp_call, wp_cons, wp_nil, wp_var, wp_c, wp_ok, List.map_cons, List.map_nil, List.cons_append, List.nil_append, List.getElem?_cons_zero, List.getElem?_cons_succ, List.length_cons, List.length_nil, if_true, dMul_int, zm, dIB_int, leI_eq]
      by_cases hm : mid * mid ≤ x
      · rw [decide_eq_true hm, if_pos rfl, wps_set, wp_var]
        simp only [entry, wp_call, wp_cons, wp_nil, wp_var, wp_c, wp_ok, List.map_cons, List.map_nil, List.cons_append, List.nil_append, List.getElem?_cons_zero, List.getElem?_cons_succ, List.length_cons, List.length_nil, if_true, List.set_cons_succ, List.set_cons_zero]
        exact ⟨trivial, mid, hi, _, rfl, by omega, by omega, b3, hm, b5, by omega⟩
      · rw [decide_eq_false hm]
        simp only [Bool.false_eq_true, if_false]
        rw [wps_set, wp_var]
        simp only [entry, wp_call, wp_cons, wp_nil, wp_var, wp_c, wp_ok, List.map_cons, List.map_nil, List.cons_append, List.nil_append, List.getElem?_cons_zero, List.getElem?_cons_succ, List.length_cons, List.length_nil, if_true, List.set_cons_succ, List.set_cons_zero]
        exact ⟨trivial, lo, mid, _, rfl, by omega, by omega, by omega, b4, by omega, by omega⟩
    · rw [decide_eq_false hc]
      simp only [Bool.false_eq_true, if_false]
      have e : hi = lo + 1 := by omega
      subst e
      have := isq_unique h0 b1 b4 b5
      rw [sq_nx, wps_ret, wp_var]
      simp only [entry, wp_call, wp_cons, wp_nil, wp_var, wp_c, wp_ok, List.map_cons, List.map_nil, List.cons_append, List.nil_append, List.getElem?_cons_zero, List.getElem?_cons_succ, List.length_cons, List.length_nil, if_true, rn_ret]
      exact ⟨by rw [this], trivial⟩
  · have := Int.mul_le_mul (show (1 : Int) ≤ x + 1 by omega) (show x + 1 ≤ x + 1 by omega) (by omega) (by omega)
    omega
theorem tw_sq_ok {x : Int} {S : Sto} (h1 : x ≤ 100000) : F__law_tw_is_square [.int x] S = .ok (.bl (isSq x)) S := by
  refine eq_of ?_
  unfold F__law_tw_is_square b__law_tw_is_square isSq
  by_cases h0 : x < 0
  · have h0' : ¬ 0 ≤ x := by omega
    simp [entry, h0, h0']
  · have h0' : 0 ≤ x := by omega
    have e := tw_root_ok (S := S) h0' h1
    have rb := isq_bd (i := x) (b := 100000) (by omega)
    have z : szMul (isq x) (isq x) = true := szm (by omega) (by omega)
    simp [entry, h0, h0', e, z]
theorem tw_left_ok {n k l m : Int} {S : Sto} (h : Pm n k l m) : F__law_tw_left [.tup [.int n, .int k, .int l, .int m]] S = .ok (.tup [.int n, .int (n - k - 1), .int (n - 2 - 2 * k + m), .int (n - 2 * k + l)]) S := by
  have k0 := h.k0
  have k1 := h.k1
  have z : szMul 2 k = true := szm (by decide) (by omega)
  have s4 : 4 ≤ sizeLine := by decide
  refine eq_of ?_
  unfold F__law_tw_left b__law_tw_left
  simp [entry, z, s4, setT, setTs]
theorem tw_two_ok {n : Int} {S : Sto} {Q : D → Sto → Prop} (h0 : 0 ≤ n) (h1 : n ≤ 200) (hq : ∀ T, Ex S T → Q (.bl (two n)) T) : Wp (F__law_tw_two_squares [.int n] S) Q := by
  obtain ⟨q1, q2⟩ := isq_spec h0
  have q0 := isq_nn n
  have N14 : isq n ≤ 14 := sq_le (N := 14) q0 (by decide) (by omega)
  have e := tw_root_ok (S := S) h0 (by omega)
  have s0 : (0 ≤ sizeLine) = True := eq_true (by decide)
  unfold F__law_tw_two_squares b__law_tw_two_squares
  rw [wp_run, wps_ret, wp_d2, wp_lc, wp_iR1, wp_cons, wp_d2, wp_call]
  simp only [entry, wp_call, wp_cons, wp_nil, wp_var, wp_c, wp_ok, List.map_cons, List.map_nil, List.cons_append, List.nil_append, List.getElem?_cons_zero, List.getElem?_cons_succ, List.length_cons, List.length_nil, if_true, e, dAdd_int]
  rw [if_pos (by omega)]
  have hN : (isq n + 1).toNat = Float64.isqrt n.toNat + 1 := by unfold isq; omega
  have hr : rngD 0 (isq n + 1).toNat = (List.range (Float64.isqrt n.toNat + 1)).map fun p : Nat => D.int (p : Int) := by
    rw [hN]
    unfold rngD
    simp
  simp only [hr]
  refine lc_filter (S0 := S) (enc := fun p : Nat => D.int (p : Int)) (p := fun p : Nat => isSq (n - (p : Int) * (p : Int))) (f := fun _ : Nat => D.int 1) Ex.refl (fun p hp T hT => ⟨_, rfl, ?_⟩) (fun _ _ => rfl) fun T hT => ?_
  · have hp := List.mem_range.mp hp
    have hpN : (p : Int) ≤ 14 := by unfold isq at N14; omega
    have pp := mulB (i := (p : Int)) (j := (p : Int)) (a := 15) (b := 15) (by omega) (by omega)
    have zp : szMul (p : Int) (p : Int) = true := szm (by omega) (by omega)
    have es := tw_sq_ok (S := T) (x := n - (p : Int) * (p : Int)) (by omega)
    show Wp (fTru (dCall F__law_tw_is_square 1 (aCons (d2 dSub (dVar 0) (d2 dMul (dVar 1) (dVar 1))) aNil)) [some (.int n), some (.int (p : Int))] T) _
    rw [wp_fT, wp_call, wp_cons, wp_d2]
    simp only [entry, wp_call, wp_cons, wp_nil, wp_var, wp_c, wp_ok, List.map_cons, List.map_nil, List.cons_append, List.nil_append, List.getElem?_cons_zero, List.getElem?_cons_succ, List.length_cons, List.length_nil, if_true, wp_d2, dMul_int, zp, dSub_int, es, truD_bl]
    exact ⟨trivial, Ex.refl, fun _ => ⟨trivial, Ex.refl⟩⟩
  · have hlen : (((List.range (Float64.isqrt n.toNat + 1)).filter fun p : Nat => isSq (n - (p : Int) * (p : Int))).map fun _ : Nat => D.int 1).length ≤ sizeLine := by
      rw [List.length_map]
      refine Nat.le_trans (List.length_filter_le _ _) ?_
      rw [List.length_range]
      unfold isq at N14
      unfold sizeLine
      omega
    rw [if_pos hlen]
    simp only [wp_lst, wp_nil, List.length_nil, s0, if_true]
    have e5 := dEqB_ens (α := Int) (n := true) (((List.range (Float64.isqrt n.toNat + 1)).filter fun p : Nat => isSq (n - (p : Int) * (p : Int))).map fun _ => (1 : Int)) [] (S := (T ++ [SO.lst (((List.range (Float64.isqrt n.toNat + 1)).filter fun p : Nat => isSq (n - (p : Int) * (p : Int))).map fun _ : Nat => D.int 1)]) ++ [SO.lst []]) (i := T.length) (j := (T ++ [SO.lst (((List.range (Float64.isqrt n.toNat + 1)).filter fun p : Nat => isSq (n - (p : Int) * (p : Int))).map fun _ : Nat => D.int 1)]).length) (by
      rw [List.map_map]
      exact get_app get_new) get_new (by decide)
    show Wp (dEqB true _ _ _) _
    rw [e5, wp_ok]
    have et : (if true = true then !decide ((((List.range (Float64.isqrt n.toNat + 1)).filter fun p : Nat => isSq (n - (p : Int) * (p : Int))).map fun _ => (1 : Int)) = []) else decide ((((List.range (Float64.isqrt n.toNat + 1)).filter fun p : Nat => isSq (n - (p : Int) * (p : Int))).map fun _ => (1 : Int)) = [])) = two n := by
      unfold MQ.two
      rw [if_pos rfl]
      cases ha : (List.range (Float64.isqrt n.toNat + 1)).any fun p : Nat => isSq (n - (p : Int) * (p : Int)) with
      | false =>
        have : (List.range (Float64.isqrt n.toNat + 1)).filter (fun p : Nat => isSq (n - (p : Int) * (p : Int))) = [] := by
          refine List.filter_eq_nil_iff.mpr fun a ha2 => ?_
          exact List.any_eq_false.mp ha a ha2
        rw [this]; rfl
      | true =>
        obtain ⟨a, h2, h3⟩ := List.any_eq_true.mp ha
        have : (List.range (Float64.isqrt n.toNat + 1)).filter (fun p : Nat => isSq (n - (p : Int) * (p : Int))) ≠ [] := fun z => by
          have := List.mem_filter (p := fun p : Nat => isSq (n - (p : Int) * (p : Int))) |>.mpr ⟨h2, h3⟩
          rw [z] at this
          cases this
        simp [this]
    rw [et]
    exact hq _ ((hT.app _).app _)
theorem over_ok {k t u : Int} {S : Sto} (hk : k.natAbs ≤ 1000) (ht : t.natAbs ≤ 100000) (hu : u.natAbs ≤ 100000) : F__law_tw_is_over [.int k, .int t, .int u] S = .ok (.bl (!kk k t u)) S := by
  have a1 := mulB (i := 2) (j := t) (a := 2) (b := 100000) (by decide) ht
  have a2 := mulB (i := 2 * t) (j := u) (a := 200000) (b := 100000) (by omega) hu
  have a3 := mulB (i := k + t) (j := u + 1) (a := 101000) (b := 100001) (by omega) (by omega)
  have z1 : szMul 2 t = true := szm (by decide) (by omega)
  have z2 : szMul (2 * t) u = true := szm (by omega) (by omega)
  have z3 : szMul (t + 1) (k + t + 2 * t * u) = true := szm (by omega) (by omega)
  have z4 : szMul (k + t) (u + 1) = true := szm (by omega) (by omega)
  have z5 : szMul ((k + t) * (u + 1)) (u + 1) = true := szm (by omega) (by omega)
  refine eq_of ?_
  unfold F__law_tw_is_over b__law_tw_is_over kk
  simp [entry, z1, z2, z3, z4, z5]
  generalize (k + t) * (u + 1) * (u + 1) = A
  generalize (t + 1) * (k + t + 2 * t * u) = B
  by_cases h : B ≤ A
  · simp [h, show ¬ A < B by omega]
  · simp [h, show A < B by omega]
end K48
set_option Elab.async false
set_option linter.all false
set_option maxRecDepth 100000
set_option maxHeartbeats 4000000
namespace K48
open PySem MP
open MQ
theorem spr_nn {k l m : Int} (h : m ≤ k) : 0 ≤ spr k l m := by
  unfold spr
  have : 0 ≤ (l - m) * (l - m) := by
    rcases Int.lt_or_le (l - m) 0 with z | z
    · exact Int.le_of_lt (Int.mul_pos_of_neg_of_neg z z)
    · exact Int.mul_nonneg z z
  omega
theorem wdL_eq {x : Ft8} (h : x ≠ .half) : wdL x = wdP x := by cases x <;> first | rfl | exact absurd rfl h
theorem fmod2 (a : Int) : a.fmod 2 = 0 ∨ a.fmod 2 = 1 := by rw [fm2]; omega
theorem fmod6 (a : Int) : 0 ≤ a.fmod 6 := by rw [Int.fmod_eq_emod_of_nonneg _ (by decide)]; omega
theorem minlt (A B c : Int) : decide ((if B < A then B else A) < c) = (decide (c > A) || decide (c > B)) := by
  rw [Bool.eq_iff_iff]
  simp only [decide_eq_true_eq, Bool.or_eq_true]
  split <;> omega
theorem tw_fault_ok {n k l m : Int} {S : Sto} {Q : D → Sto → Prop} (h : Pm n k l m) (hq : ∀ T, Ex S T → Q (wdL (fault n k l m)) T) : Wp (F__law_tw_fault [.tup [.int n, .int k, .int l, .int m]] S) Q := by
  have eL := tw_left_ok (S := S) h
  have hP := h
  have sb := spr_bd h
  have tb := tlt_bd h
  have rb := isq_bd sb
  obtain ⟨_, _, _, _, _, _, _, _⟩ := h
  have p1 := mulB (i := n) (j := k) (a := 200) (b := 200) (by omega) (by omega)
  have z1 : szMul k (k - l - 1) = true := szm (by omega) (by omega)
  have z2 : szMul (n - k - 1) m = true := szm (by omega) (by omega)
  have z3 : szMul n k = true := szm (by omega) (by omega)
  have z4 : szMul (n * k) l = true := szm (by omega) (by omega)
  have z5 : szMul (l - m) (l - m) = true := szm (by omega) (by omega)
  have z6 : szMul 4 (k - m) = true := szm (by decide) (by omega)
  have z7 : szMul 2 k = true := szm (by decide) (by omega)
  have z8 : szMul (n - 1) (l - m) = true := szm (by omega) (by omega)
  have z9 : szMul 2 n = true := szm (by decide) (by omega)
  have zd2 : szDiv 2 = true := by decide +kernel
  unfold F__law_tw_fault
  rw [Ub_eq, wp_run]
  unfold Ur0 Us0
  rw [wps_seq, wps_asg, wp_var]
  simp only [entry, wp_call, wp_cons, wp_nil, wp_var, wp_c, wp_ok, List.map_cons, List.map_nil, List.cons_append, List.nil_append, List.getElem?_cons_zero, List.getElem?_cons_succ, List.length_cons, List.length_nil, if_true, setT, setTs, List.replicate, Nat.reduceAdd, Nat.reduceSub, List.set_cons_succ, List.set_cons_zero]
  rw [sq_nx]; unfold Ur1 Us1
  rw [wps_seq, wps_set, wp_call]
  simp only [entry, wp_call, wp_cons, wp_nil, wp_var, wp_c, wp_ok, List.map_cons, List.map_nil, List.cons_append, List.nil_append, List.getElem?_cons_zero, List.getElem?_cons_succ, List.length_cons, List.length_nil, if_true, eL, List.set_cons_succ, List.set_cons_zero]
  rw [sq_nx]; unfold Ur2 Us2
  rw [wps_seq, wps_if]
  have eS : sliceD (.tup [.int n, .int (n - k - 1), .int (n - 2 - 2 * k + m), .int (n - 2 * k + l)]) (some 2) none S = .ok (.tup [.int (n - 2 - 2 * k + m), .int (n - 2 * k + l)]) S := rfl
  have eM : nMinT [.tup [.int (n - 2 - 2 * k + m), .int (n - 2 * k + l)]] S = .ok (.int (if n - 2 * k + l < n - 2 - 2 * k + m then n - 2 * k + l else n - 2 - 2 * k + m)) S := rfl
  refine (show ∀ {P : Bool → Sto → Prop}, P (!rng n k l m) S → Wp ((fOr (fNot (fB (dChain dLe dLe (dC (.int 1)) (dVar 2) (d2 dSub (dVar 1) (dC (.int 2)))))) (fOr (fB (d2 dGt (dVar 3) (d2 dSub (dVar 2) (dC (.int 1))))) (fOr (fB (d2 dGt (dVar 4) (dVar 2))) (fB (d2 dLt (dN nMinT (aCons (dSlice (dVar 5) (oSome (dC (.int 2))) oNone) aNil)) (dC (.int 0))))))) [some (.tup [.int n, .int k, .int l, .int m]), some (.int n), some (.int k), some (.int l), some (.int m), some (.tup [.int n, .int (n - k - 1), .int (n - 2 - 2 * k + m), .int (n - 2 * k + l)]), none, none, none, none, none, none, none] S) P from fun {P} hP => by
    unfold rng at hP
    by_cases h1 : 1 ≤ k
    · by_cases h2 : k ≤ n - 2
      · by_cases h3 : l < k
        · have h3' : ¬ k - 1 < l := by omega
          by_cases h4 : m ≤ k
          · have h4' : ¬ k < m := by omega
            generalize n - 2 - 2 * k + m = a at *
            generalize n - 2 * k + l = b at *
            have e5 : decide ((if b < a then b else a) < 0) = !decide (0 ≤ a ∧ 0 ≤ b) := by
              by_cases q : 0 ≤ a ∧ 0 ≤ b
              · rw [decide_eq_true q]
                refine decide_eq_false ?_
                split <;> omega
              · rw [decide_eq_false q]
                refine decide_eq_true ?_
                split <;> omega
            have hP : P (!decide (0 ≤ a ∧ 0 ≤ b)) S := by
              have := hP
              simp only [h1, h2, h3, h4, true_and] at this
              exact this
            rw [← e5] at hP
            simp [h1, h2, h3, h4, h3', h4', eS, eM]
            exact hP
          · have h4' : k < m := by omega
            simp [h1, h2, h3, h4] at hP
            simp [h1, h2, h3', h4', hP]
        · have h3' : k - 1 < l := by omega
          simp [h1, h2, h3] at hP
          simp [h1, h2, h3', hP]
      · simp [h1, h2] at hP
        simp [h1, h2, hP]
    · simp [h1] at hP
      simp [h1, hP]) ?_
  cases h1 : rng n k l m with
  | false =>
    have ef : fault n k l m = .range := by unfold fault; simp [h1]
    rw [ef] at hq
    exact hq S Ex.refl
  | true =>
  have hmk : m ≤ k := by
    unfold rng at h1
    simp only [decide_eq_true_eq] at h1
    exact h1.2.2.2.1
  have sn := spr_nn (l := l) hmk
  have eRt := tw_root_ok (S := S) sn (by omega)
  have eSq := tw_sq_ok (S := S) (x := spr k l m) (by omega)
  simp only [Bool.not_true, Bool.false_eq_true, if_false, wps_nil]
  rw [sq_nx]; unfold Ur3 Us3
  rw [wps_seq, wps_if, wp_fB, wp_d2, wp_d2, wp_var]
  simp only [entry, wp_call, wp_cons, wp_nil, wp_var, wp_c, wp_ok, List.map_cons, List.map_nil, List.cons_append, List.nil_append, List.getElem?_cons_zero, List.getElem?_cons_succ, List.length_cons, List.length_nil, if_true, wp_d2, dSub_int, dMul_int, z1, z2]
  have eC : dNe (.int (k * (k - l - 1))) (.int ((n - k - 1) * m)) S = .ok (.bl (!cnt n k l m)) S := by
    show dEqB true _ _ _ = _
    rw [dEqB_int]
    rfl
  simp only [eC, wp_ok]
  cases h2 : cnt n k l m with
  | false =>
    have ef : fault n k l m = .count := by unfold fault; simp [h1, h2]
    rw [ef] at hq
    exact hq S Ex.refl
  | true =>
  simp only [Bool.not_true, Bool.false_eq_true, if_false, wps_nil]
  rw [sq_nx]; unfold Ur4 Us4
  rw [wps_seq, wps_if]
  refine (show ∀ {P : Bool → Sto → Prop} {X0 X5 X6 X7 X8 X9 X10 X11 X12 : Option D}, P (!tie n k l) S → Wp ((fOr (fB (d2 dEq (d2 dMod (d2 dMul (dVar 1) (dVar 2)) (dC (.int 2))) (dC (.int 1)))) (fB (d2 dGt (d2 dMod (d2 dMul (d2 dMul (dVar 1) (dVar 2)) (dVar 3)) (dC (.int 6))) (dC (.int 0))))) [X0, some (.int n), some (.int k), some (.int l), some (.int m), X5, X6, X7, X8, X9, X10, X11, X12] S) P from fun {P} _ _ _ _ _ _ _ _ _ hP => by
    unfold tie at hP
    have f2 := fmod2 (n * k)
    have f6 := fmod6 (n * k * l)
    rw [wp_fOr, wp_fB, wp_d2, wp_d2, wp_d2, wp_var]
    by_cases a1 : (n * k).fmod 2 = 0
    · have a1' : ¬ (n * k).fmod 2 = 1 := by omega
      by_cases a2 : (n * k * l).fmod 6 = 0
      · simp [z3, z4, a1, a2] at hP ⊢
        exact hP
      · have a2' : 0 < (n * k * l).fmod 6 := by omega
        simp [z3, z4, a1, a2] at hP
        simp [z3, z4, a1, a2', hP]
    · have a1' : (n * k).fmod 2 = 1 := by omega
      simp [z3, z4, a1] at hP
      simp [z3, z4, a1', hP]) ?_
  cases h3 : tie n k l with
  | false =>
    have ef : fault n k l m = .ties := by unfold fault; simp [h1, h2, h3]
    rw [ef] at hq
    exact hq S Ex.refl
  | true =>
  simp only [Bool.not_true, Bool.false_eq_true, if_false, wps_nil]
  rw [sq_nx]; unfold Ur5 Us5
  rw [wps_seq, wps_set, wp_d2, wp_d2, wp_d2, wp_var]
  simp only [entry, wp_call, wp_cons, wp_nil, wp_var, wp_c, wp_ok, List.map_cons, List.map_nil, List.cons_append, List.nil_append, List.getElem?_cons_zero, List.getElem?_cons_succ, List.length_cons, List.length_nil, if_true, wp_d2, dSub_int, dMul_int, dAdd_int, z5, z6, List.set_cons_succ, List.set_cons_zero]
  rw [show (l - m) * (l - m) + 4 * (k - m) = spr k l m from rfl]
  rw [sq_nx]; unfold Ur6 Us6
  rw [wps_seq, wps_set, wp_d2, wp_d2, wp_c]
  simp only [entry, wp_call, wp_cons, wp_nil, wp_var, wp_c, wp_ok, List.map_cons, List.map_nil, List.cons_append, List.nil_append, List.getElem?_cons_zero, List.getElem?_cons_succ, List.length_cons, List.length_nil, if_true, wp_d2, dSub_int, dMul_int, dAdd_int, z7, z8, List.set_cons_succ, List.set_cons_zero]
  rw [show 2 * k + (n - 1) * (l - m) = tlt n k l m from rfl]
  rw [sq_nx]; unfold Ur7 Us7
  rw [wps_seq, wps_if]
  refine (show ∀ {P : Bool → Sto → Prop} {X0 X1 X2 X3 X4 X5 X8 X9 X10 X11 X12 : Option D}, P (hlf n k l m) S → Wp ((fAnd (fB (d2 dEq (dVar 7) (dC (.int 0)))) (fNot (fTru (dCall F__law_tw_is_square 1 (aCons (dVar 6) aNil))))) [X0, X1, X2, X3, X4, X5, some (.int (spr k l m)), some (.int (tlt n k l m)), X8, X9, X10, X11, X12] S) P from fun {P} _ _ _ _ _ _ _ _ _ _ _ hP => by
    unfold hlf at hP
    by_cases a1 : tlt n k l m = 0
    · simp [a1] at hP ⊢
      simp [eSq]
      exact hP
    · simp [a1] at hP ⊢
      exact hP) ?_
  cases h4 : hlf n k l m with
  | true =>
    simp only [if_true]
    rw [wps_ret, wp_if, wp_fT, wp_call]
    simp only [entry, wp_call, wp_cons, wp_nil, wp_var, wp_c, wp_ok, List.map_cons, List.map_nil, List.cons_append, List.nil_append, List.getElem?_cons_zero, List.getElem?_cons_succ, List.length_cons, List.length_nil, if_true]
    refine tw_two_ok hP.n0 hP.n1 fun T hT => ?_
    simp only [truD_bl, wp_ok]
    cases h5 : MQ.two n with
    | true =>
      have ef : fault n k l m = .half := by unfold fault; simp [h1, h2, h3, h4, h5]
      rw [ef] at hq
      exact hq T hT
    | false =>
      have ef : fault n k l m = .squares := by unfold fault; simp [h1, h2, h3, h4, h5]
      rw [ef] at hq
      exact hq T hT
  | false =>
  simp only [Bool.false_eq_true, if_false, wps_nil]
  rw [sq_nx]; unfold Ur8 Us8
  rw [wps_seq, wps_set, wp_call]
  simp only [entry, wp_call, wp_cons, wp_nil, wp_var, wp_c, wp_ok, List.map_cons, List.map_nil, List.cons_append, List.nil_append, List.getElem?_cons_zero, List.getElem?_cons_succ, List.length_cons, List.length_nil, if_true, eRt, List.set_cons_succ, List.set_cons_zero]
  rw [sq_nx]; unfold Ur9 Us9
  rw [wps_seq, wps_if]
  have r0 := isq_nn (spr k l m)
  have hsq : isSq (spr k l m) = decide (isq (spr k l m) * isq (spr k l m) = spr k l m) := by
    unfold isSq
    exact decide_eq_decide.mpr ⟨fun z => z.2, fun z => ⟨sn, z⟩⟩
  have zr : szMul (isq (spr k l m)) (isq (spr k l m)) = true := szm (by omega) (by omega)
  obtain ⟨fb1, fb2⟩ := f_bd hP
  have eq : qv n k l m = (tlt n k l m).fdiv (isq (spr k l m)) := rfl
  have bad : okv n k l m = false → Q (.str "values") S := fun hb => by
    have ef : fault n k l m = .values := by unfold fault; simp [h1, h2, h3, h4, hb]
    rw [ef] at hq
    exact hq S Ex.refl
  have ub1 : (onev k l m).natAbs ≤ 60000 := half_bd (by omega)
  have ub2 : (othv k l m).natAbs ≤ 60000 := half_bd (by omega)
  have eO1 := over_ok (S := S) (k := k) (t := onev k l m) (u := othv k l m) (by omega) (by omega) (by omega)
  have eO2 := over_ok (S := S) (k := k) (t := othv k l m) (u := onev k l m) (by omega) (by omega) (by omega)
  have e1v : onev k l m = (l - m + isq (spr k l m)).fdiv 2 := rfl
  have e2v : othv k l m = (l - m - isq (spr k l m)).fdiv 2 := rfl
  have ef1 : f1v n k l m = (n - 1 - qv n k l m).fdiv 2 := rfl
  have ef2 : f2v n k l m = (n - 1 + qv n k l m).fdiv 2 := rfl
  have ok_eq : okv n k l m = (isSq (spr k l m) && decide (isq (spr k l m) ≠ 0 ∧ (tlt n k l m).fmod (isq (spr k l m)) = 0 ∧ (n - 1 - qv n k l m).fmod 2 = 0 ∧ 1 ≤ f1v n k l m ∧ 1 ≤ f2v n k l m)) := rfl
  have kr_eq : kre k l m = (!kk k (onev k l m) (othv k l m) || !kk k (othv k l m) (onev k l m)) := rfl
  have ab_eq : abf n k l m = (decide (m ≠ 0 ∧ m ≠ k) && (decide (2 * n > f1v n k l m * (f1v n k l m + 3)) || decide (2 * n > f2v n k l m * (f2v n k l m + 3)))) := rfl
  have tail : okv n k l m = true → WpS (Ur12 [some (.tup [.int n, .int k, .int l, .int m]), some (.int n), some (.int k), some (.int l), some (.int m), some (.tup [.int n, .int (n - k - 1), .int (n - 2 - 2 * k + m), .int (n - 2 * k + l)]), some (.int (spr k l m)), some (.int (tlt n k l m)), some (.int (isq (spr k l m))), some (.int (n - 1 - qv n k l m)), some (.int (n - 1 + qv n k l m)), none, none] S) (rn Q) := fun h5 => by
    unfold Ur12 Us12
    rw [wps_seq, wps_par, wp_cons, wp_d2, wp_d2, wp_d2, wp_var]
    simp only [entry, wp_call, wp_cons, wp_nil, wp_var, wp_c, wp_ok, List.map_cons, List.map_nil, List.cons_append, List.nil_append, List.getElem?_cons_zero, List.getElem?_cons_succ, List.length_cons, List.length_nil, if_true, wp_d2, dSub_int, dAdd_int, dFdiv_int, zd2, List.set_cons_succ, List.set_cons_zero]
    rw [← e1v, ← e2v, sq_nx]
    unfold Ur13 Us13
    rw [wps_seq, wps_if, wp_fOr, wp_fT, wp_call]
    simp only [entry, wp_call, wp_cons, wp_nil, wp_var, wp_c, wp_ok, List.map_cons, List.map_nil, List.cons_append, List.nil_append, List.getElem?_cons_zero, List.getElem?_cons_succ, List.length_cons, List.length_nil, if_true, eO1, truD_bl]
    rw [wp_fT, wp_call]
    simp only [entry, wp_call, wp_cons, wp_nil, wp_var, wp_c, wp_ok, List.map_cons, List.map_nil, List.cons_append, List.nil_append, List.getElem?_cons_zero, List.getElem?_cons_succ, List.length_cons, List.length_nil, if_true, eO2, truD_bl]
    cases h6 : kre k l m with
    | true =>
      have ef : fault n k l m = .krein := by unfold fault; simp [h1, h2, h3, h4, h5, h6]
      rw [ef] at hq
      rw [kr_eq] at h6
      cases hk1 : kk k (onev k l m) (othv k l m) with
      | false => exact hq S Ex.refl
      | true =>
        rw [hk1] at h6
        simp only [Bool.not_true, Bool.false_or] at h6
        rw [h6]
        exact hq S Ex.refl
    | false =>
    have h6' := h6
    rw [kr_eq] at h6
    simp only [Bool.or_eq_false_iff] at h6
    rw [h6.1, h6.2]
    simp only [Bool.false_eq_true, if_false, wps_nil]
    rw [sq_nx]; unfold Ur14 Us14
    rw [wps_seq, wps_par, wp_cons, wp_d2, wp_var]
    simp only [entry, wp_call, wp_cons, wp_nil, wp_var, wp_c, wp_ok, List.map_cons, List.map_nil, List.cons_append, List.nil_append, List.getElem?_cons_zero, List.getElem?_cons_succ, List.length_cons, List.length_nil, if_true, wp_d2, dFdiv_int, zd2, List.set_cons_succ, List.set_cons_zero]
    rw [← ef1, ← ef2, sq_nx]
    unfold Ur15 Us15
    have zf1 : szMul (f1v n k l m) (f1v n k l m + 3) = true := szm (by omega) (by omega)
    have zf2 : szMul (f2v n k l m) (f2v n k l m + 3) = true := szm (by omega) (by omega)
    rw [wps_seq, wps_if]
    refine (show ∀ {P : Bool → Sto → Prop} {X0 X3 X5 X6 X7 X8 X11 X12 : Option D}, P (abf n k l m) S → Wp ((fAnd (fB (dChain dLt dLt (dC (.int 0)) (dVar 4) (dVar 2))) (fB (d2 dGt (d2 dMul (dC (.int 2)) (dVar 1)) (dN nMin2 (aCons (d2 dMul (dVar 9) (d2 dAdd (dVar 9) (dC (.int 3)))) (aCons (d2 dMul (dVar 10) (d2 dAdd (dVar 10) (dC (.int 3)))) aNil)))))) [X0, some (.int n), some (.int k), X3, some (.int m), X5, X6, X7, X8, some (.int (f1v n k l m)), some (.int (f2v n k l m)), X11, X12] S) P from fun {P} _ _ _ _ _ _ _ _ hX => by
      rw [ab_eq] at hX
      by_cases a1 : 0 < m
      · by_cases a2 : m < k
        · have a3 : m ≠ 0 ∧ m ≠ k := by omega
          rw [decide_eq_true a3, Bool.true_and] at hX
          rw [← minlt] at hX
          simp [a1, a2, z9, zf1, zf2]
          exact hX
        · have a3 : ¬ (m ≠ 0 ∧ m ≠ k) := by omega
          rw [decide_eq_false a3] at hX
          simp [a1, a2]
          exact hX
      · have a3 : ¬ (m ≠ 0 ∧ m ≠ k) := by omega
        rw [decide_eq_false a3] at hX
        simp [a1]
        exact hX) ?_
    cases h7 : abf n k l m with
    | true =>
      have ef : fault n k l m = .absolute := by unfold fault; simp [h1, h2, h3, h4, h5, h6', h7]
      rw [ef] at hq
      exact hq S Ex.refl
    | false =>
      have ef : fault n k l m = .none := by unfold fault; simp [h1, h2, h3, h4, h5, h6', h7]
      rw [ef] at hq
      exact hq S Ex.refl
  by_cases a1 : isq (spr k l m) * isq (spr k l m) = spr k l m
  · by_cases a2 : isq (spr k l m) < 1
    · have a2' : isq (spr k l m) = 0 := by omega
      have hb := bad (by rw [ok_eq]; simp [a2'])
      simp [zr, a1, a2]
      exact hb
    · have a2' : isq (spr k l m) ≠ 0 := by omega
      have a2p : 0 < isq (spr k l m) := by omega
      by_cases a3 : (tlt n k l m).fmod (isq (spr k l m)) = 0
      · have sd : szDiv (isq (spr k l m)) = true := szd a2' (by omega)
        rw [wp_fOr, wp_fB, wp_d2, wp_d2, wp_var]
        simp only [entry, wp_call, wp_cons, wp_nil, wp_var, wp_c, wp_ok, List.map_cons, List.map_nil, List.cons_append, List.nil_append, List.getElem?_cons_zero, List.getElem?_cons_succ, List.length_cons, List.length_nil, if_true, dMul_int, zr]
        have e8 : dNe (.int (isq (spr k l m) * isq (spr k l m))) (.int (spr k l m)) S = .ok (.bl false) S := by
          show dEqB true _ _ _ = _
          rw [dEqB_int, decide_eq_true a1]
          rfl
        simp only [e8, wp_ok, Bool.false_eq_true, if_false]
        rw [wp_fOr, wp_fB, wp_d2, wp_var]
        simp only [entry, wp_call, wp_cons, wp_nil, wp_var, wp_c, wp_ok, List.map_cons, List.map_nil, List.cons_append, List.nil_append, List.getElem?_cons_zero, List.getElem?_cons_succ, List.length_cons, List.length_nil, if_true, dIB_int, ltI_eq]
        rw [decide_eq_false a2]
        simp only [Bool.false_eq_true, if_false]
        rw [wp_fB, wp_d2, wp_d2, wp_var]
        simp only [entry, wp_call, wp_cons, wp_nil, wp_var, wp_c, wp_ok, List.map_cons, List.map_nil, List.cons_append, List.nil_append, List.getElem?_cons_zero, List.getElem?_cons_succ, List.length_cons, List.length_nil, if_true, dMod_int, a2', if_false, dIB_int, ltI_eq, a3]
        rw [decide_eq_false (show ¬ (0 : Int) < 0 by omega)]
        simp only [Bool.false_eq_true, if_false, wps_nil]
        rw [sq_nx]; unfold Ur10 Us10
        rw [wps_seq, wps_par, wp_cons, wp_d2, wp_d2, wp_var]
        simp only [entry, wp_call, wp_cons, wp_nil, wp_var, wp_c, wp_ok, List.map_cons, List.map_nil, List.cons_append, List.nil_append, List.getElem?_cons_zero, List.getElem?_cons_succ, List.length_cons, List.length_nil, if_true, wp_d2, dSub_int, dAdd_int, dFdiv_int, sd, List.set_cons_succ, List.set_cons_zero]
        rw [← eq, sq_nx]
        unfold Ur11 Us11
        rw [wps_seq, wps_if]
        have par := fmod2 (n - 1 - qv n k l m)
        by_cases a4 : (n - 1 - qv n k l m).fmod 2 = 1
        · have hb := bad (by rw [ok_eq]; simp [a4])
          simp [a4]
          exact hb
        · have a4' : (n - 1 - qv n k l m).fmod 2 = 0 := by omega
          by_cases a5 : 1 ≤ f1v n k l m ∧ 1 ≤ f2v n k l m
          · have hk := tail (by rw [ok_eq, hsq]; simp [a1, a2', a3, a4', a5])
            have a6 : ¬ ((if n - 1 + qv n k l m < n - 1 - qv n k l m then n - 1 + qv n k l m else n - 1 - qv n k l m) < 2) := by
              rw [ef1, ef2, fd2, fd2] at a5
              split <;> omega
            simp [a4', a6]
            exact hk
          · have hb := bad (by
              rw [ok_eq]
              have : ¬ (isq (spr k l m) ≠ 0 ∧ (tlt n k l m).fmod (isq (spr k l m)) = 0 ∧ (n - 1 - qv n k l m).fmod 2 = 0 ∧ 1 ≤ f1v n k l m ∧ 1 ≤ f2v n k l m) := fun z => a5 ⟨z.2.2.2.1, z.2.2.2.2⟩
              rw [decide_eq_false this, Bool.and_false])
            have a6 : (if n - 1 + qv n k l m < n - 1 - qv n k l m then n - 1 + qv n k l m else n - 1 - qv n k l m) < 2 := by
              rw [ef1, ef2, fd2, fd2] at a5
              split <;> omega
            simp [a4', a6]
            exact hb
      · have hb := bad (by rw [ok_eq]; simp [a3])
        have a3' : 0 < (tlt n k l m).fmod (isq (spr k l m)) := by
          have : 0 ≤ (tlt n k l m).fmod (isq (spr k l m)) := Int.fmod_nonneg_of_pos _ a2p
          omega
        simp [zr, a1, a2, a2', a3']
        exact hb
  · have hb := bad (by rw [ok_eq, hsq, decide_eq_false a1]; rfl)
    simp [zr, a1]
    exact hb

theorem tw_values_ok {n k l m : Int} {S : Sto} (h : Pm n k l m) (hr : m ≤ k) (h0 : isq (spr k l m) ≠ 0) : F__law_tw_values [.tup [.int n, .int k, .int l, .int m]] S = .ok (.tup [.tup [.int (onev k l m), .int (f1v n k l m)], .tup [.int (othv k l m), .int (f2v n k l m)]]) S := by
  have sb := spr_bd h
  have rb := isq_bd sb
  have sn := spr_nn (l := l) hr
  have eRt := tw_root_ok (S := S) sn (by omega)
  have sd : szDiv (isq (spr k l m)) = true := szd h0 (by omega)
  obtain ⟨_, _, _, _, _, _, _, _⟩ := h
  have z5 : szMul (l - m) (l - m) = true := szm (by omega) (by omega)
  have z6 : szMul 4 (k - m) = true := szm (by decide) (by omega)
  have z7 : szMul 2 k = true := szm (by decide) (by omega)
  have z8 : szMul (n - 1) (l - m) = true := szm (by omega) (by omega)
  have zd2 : szDiv 2 = true := by decide +kernel
  have s2 : 2 ≤ sizeLine := by decide
  have es : (l - m) * (l - m) + 4 * (k - m) = spr k l m := rfl
  have et : 2 * k + (n - 1) * (l - m) = tlt n k l m := rfl
  have eq : (tlt n k l m).fdiv (isq (spr k l m)) = qv n k l m := rfl
  have e1v : (l - m + isq (spr k l m)).fdiv 2 = onev k l m := rfl
  have e2v : (l - m - isq (spr k l m)).fdiv 2 = othv k l m := rfl
  have ef1 : (n - 1 - qv n k l m).fdiv 2 = f1v n k l m := rfl
  have ef2 : (n - 1 + qv n k l m).fdiv 2 = f2v n k l m := rfl
  refine eq_of ?_
  unfold F__law_tw_values b__law_tw_values
  simp [entry, setT, setTs, z5, z6, z7, z8, zd2, s2, es, et, eRt, sd, eq, e1v, e2v, ef1, ef2]
end K48
set_option Elab.async false
set_option linter.all false
set_option maxRecDepth 100000
set_option maxHeartbeats 4000000
namespace K48
open PySem MP
def Ds0 : Fst := (sSet 1 (d2 dAdd (dC (.int 4)) (dCall F__law_roll 2 (aCons (dVar 0) (aCons (dCall F__law_pick 2 (aCons (dVar 0) (aCons (mkLst (aCons (dC (.int 8)) (aCons (dC (.int 30)) (aCons (dC (.int 100)) (aCons (dC (.int 197)) aNil))))) aNil))) aNil)))))
def Ds1 : Fst := (sIf (fB (d2 dEq (dCall F__law_roll 2 (aCons (dVar 0) (aCons (dC (.int 6)) aNil))) (dC (.int 0)))) (sRet (mkTup (aCons (dVar 1) (aCons (dCall F__law_roll 2 (aCons (dVar 0) (aCons (dVar 1) aNil))) (aCons (dCall F__law_roll 2 (aCons (dVar 0) (aCons (dVar 1) aNil))) (aCons (dCall F__law_roll 2 (aCons (dVar 0) (aCons (dVar 1) aNil))) aNil)))))) sNil)
def Ds2 : Fst := (sSet 2 (d2 dAdd (dC (.int 1)) (dCall F__law_roll 2 (aCons (dVar 0) (aCons (d2 dSub (dVar 1) (dC (.int 2))) aNil)))))
def Ds3 : Fst := (sSet 3 (dLc (iR1 (aCons (dVar 2) aNil)) (.nm 4) (fAnd (fB (d2 dEq (d2 dMod (d2 dMul (dVar 2) (d2 dSub (d2 dSub (dVar 2) (dVar 4)) (dC (.int 1)))) (d2 dSub (d2 dSub (dVar 1) (dVar 2)) (dC (.int 1)))) (dC (.int 0)))) (fB (d2 dLe (d2 dFdiv (d2 dMul (dVar 2) (d2 dSub (d2 dSub (dVar 2) (dVar 4)) (dC (.int 1)))) (d2 dSub (d2 dSub (dVar 1) (dVar 2)) (dC (.int 1)))) (dVar 2)))) (dVar 4) [4]))
def Ds4 : Fst := (sSet 4 (dIf (fB (d2 dNe (dVar 3) (mkLst aNil))) (dCall F__law_pick 2 (aCons (dVar 0) (aCons (dVar 3) aNil))) (dCall F__law_roll 2 (aCons (dVar 0) (aCons (dVar 1) aNil)))))
def Ds5 : Fst := (sRet (mkTup (aCons (dVar 1) (aCons (dVar 2) (aCons (dVar 4) (aCons (dIf (fB (d2 dNe (dVar 3) (mkLst aNil))) (d2 dFdiv (d2 dMul (dVar 2) (d2 dSub (d2 dSub (dVar 2) (dVar 4)) (dC (.int 1)))) (d2 dSub (d2 dSub (dVar 1) (dVar 2)) (dC (.int 1)))) (dCall F__law_roll 2 (aCons (dVar 0) (aCons (dVar 1) aNil)))) aNil))))))
def Dr5 : Fst := Ds5
def Dr4 : Fst := sSeq Ds4 Dr5
def Dr3 : Fst := sSeq Ds3 Dr4
def Dr2 : Fst := sSeq Ds2 Dr3
def Dr1 : Fst := sSeq Ds1 Dr2
def Dr0 : Fst := sSeq Ds0 Dr1
theorem Db_eq : b__law_tuple_drawn = Dr0 := rfl
open MQ
theorem ne_nil_ints {a : List Int} {T : Sto} {n : Nat} (h : T[n]? = some (.lst (a.map D.int))) : dNe (.ref n) (.ref T.length) (T ++ [SO.lst []]) = .ok (.bl (!decide (a = []))) (T ++ [SO.lst []]) := by
  have e := dEqB_ens (α := Int) (n := true) a [] (S := T ++ [SO.lst []]) (i := n) (j := T.length) (get_app h) get_new (by decide)
  exact e
theorem tuple_drawn_ok {nd c : Nat} {S : Sto} {Q : D → Sto → Prop} (h : Dice S nd c) (hc : c + 20 ≤ 1000000) (hq : ∀ (n k l m : Int) (T : Sto), Pm n k l m → Dice T nd (c + 10) → Ed nd S T → Q (.tup [.int n, .int k, .int l, .int m]) T) : Wp (F__law_tuple_drawn [.ref nd] S) Q := by
  have s4 : (4 ≤ sizeLine) = True := eq_true (by decide)
  have s0 : (0 ≤ sizeLine) = True := eq_true (by decide)
  have big : ∀ t : Int, 0 ≤ t → t ≤ 1000 → t.natAbs < 2 ^ 200 := fun t h0 h1 => Nat.lt_of_le_of_lt (show t.natAbs ≤ 1000 by omega) (by decide)
  have hl := h.lt
  unfold F__law_tuple_drawn
  rw [Db_eq, wp_run]
  unfold Dr0 Ds0
  rw [wps_seq, wps_set, wp_d2, wp_c, wp_call]
  simp only [entry, wp_call, wp_cons, wp_nil, wp_var, wp_c, wp_ok, List.map_cons, List.map_nil, List.cons_append, List.nil_append, List.getElem?_cons_zero, List.getElem?_cons_succ, List.length_cons, List.length_nil, if_true, wp_lst, Nat.zero_add, Nat.reduceAdd, s4, List.replicate, Nat.reduceSub]
  refine pick_ok (S := S ++ [SO.lst [.int 8, .int 30, .int 100, .int 197]]) h.app get_new (by omega) (show 1 ≤ 4 by decide) (show 4 ≤ 1000 by decide) (by omega) fun y T1 hy d1 e1 l1 => ?_
  obtain ⟨t, rfl, t0, t1⟩ : ∃ t : Int, y = .int t ∧ 0 < t ∧ t ≤ 197 := by
    simp only [List.mem_cons, List.not_mem_nil, or_false] at hy
    rcases hy with rfl | rfl | rfl | rfl
    · exact ⟨8, rfl, by decide, by decide⟩
    · exact ⟨30, rfl, by decide, by decide⟩
    · exact ⟨100, rfl, by decide, by decide⟩
    · exact ⟨197, rfl, by decide, by decide⟩
  refine roll_ok d1 t0 (big t (by omega) (by omega)) (by omega) fun r T2 r0 r1 d2' e2 l2 => ?_
  simp only [dAdd_int, wp_ok, List.set_cons_succ, List.set_cons_zero]
  generalize hn : 4 + r = n
  have n0 : 4 ≤ n := by omega
  have n1 : n ≤ 200 := by omega
  rw [sq_nx]; unfold Dr1 Ds1
  rw [wps_seq, wps_if, wp_fB, wp_d2, wp_call]
  simp only [entry, wp_call, wp_cons, wp_nil, wp_var, wp_c, wp_ok, List.map_cons, List.map_nil, List.cons_append, List.nil_append, List.getElem?_cons_zero, List.getElem?_cons_succ, List.length_cons, List.length_nil, if_true]
  refine roll_ok d2' (by decide) (big 6 (by decide) (by decide)) (by omega) fun r3 T3 _ _ d3 e3 l3 => ?_
  have e6 : dEq (.int r3) (.int 0) T3 = .ok (.bl (decide (r3 = 0))) T3 := by
    show dEqB false _ _ _ = _
    rw [dEqB_int]
    rfl
  simp only [entry, wp_call, wp_cons, wp_nil, wp_var, wp_c, wp_ok, List.map_cons, List.map_nil, List.cons_append, List.nil_append, List.getElem?_cons_zero, List.getElem?_cons_succ, List.length_cons, List.length_nil, if_true, e6]
  by_cases z3 : r3 = 0
  · rw [decide_eq_true z3, if_pos rfl, wps_ret, wp_tup, wp_cons, wp_var]
    simp only [entry, wp_call, wp_cons, wp_nil, wp_var, wp_c, wp_ok, List.map_cons, List.map_nil, List.cons_append, List.nil_append, List.getElem?_cons_zero, List.getElem?_cons_succ, List.length_cons, List.length_nil, if_true]
    refine roll_ok d3 (by omega) (big n (by omega) (by omega)) (by omega) fun k T4 k0 k1 d4 e4 l4 => ?_
    refine roll_ok d4 (by omega) (big n (by omega) (by omega)) (by omega) fun l T5 l0 l1 d5 e5 l5 => ?_
    refine roll_ok d5 (by omega) (big n (by omega) (by omega)) (by omega) fun m T6 m0 m1 d6 e6 l6 => ?_
    simp only [Nat.zero_add, Nat.reduceAdd, s4, if_true]
    exact hq n k l m T6 ⟨by omega, by omega, by omega, by omega, by omega, by omega, by omega, by omega⟩ (d6.up Ex.refl (by omega)) ((Ex.refl.app _).ed.trans (e1.trans (e2.trans (e3.trans (e4.trans (e5.trans e6))))))
  · rw [decide_eq_false z3]
    simp only [Bool.false_eq_true, if_false, wps_nil]
    rw [sq_nx]; unfold Dr2 Ds2
    rw [wps_seq, wps_set, wp_d2, wp_c, wp_call]
    simp only [entry, wp_call, wp_cons, wp_nil, wp_var, wp_c, wp_ok, List.map_cons, List.map_nil, List.cons_append, List.nil_append, List.getElem?_cons_zero, List.getElem?_cons_succ, List.length_cons, List.length_nil, if_true, wp_d2, dSub_int]
    refine roll_ok d3 (by omega) (big (n - 2) (by omega) (by omega)) (by omega) fun r4 T4 k0 k1 d4 e4 l4 => ?_
    simp only [dAdd_int, wp_ok, List.set_cons_succ, List.set_cons_zero]
    generalize hk : 1 + r4 = k
    have b0 : 1 ≤ k := by omega
    have b1 : k ≤ n - 2 := by omega
    rw [sq_nx]; unfold Dr3 Ds3
    rw [wps_seq, wps_set, wp_lc, wp_iR1, wp_cons, wp_var]
    simp only [entry, wp_call, wp_cons, wp_nil, wp_var, wp_c, wp_ok, List.map_cons, List.map_nil, List.cons_append, List.nil_append, List.getElem?_cons_zero, List.getElem?_cons_succ, List.length_cons, List.length_nil, if_true]
    rw [if_pos (by omega)]
    have hr : rngD 0 k.toNat = (List.range k.toNat).map fun p : Nat => D.int (p : Int) := by
      unfold rngD
      simp
    simp only [hr]
    have sdv : szDiv (n - k - 1) = true := szd (by omega) (by omega)
    have nz : n - k - 1 ≠ 0 := by omega
    refine lc_filter (S0 := T4) (enc := fun p : Nat => D.int (p : Int)) (p := fun p : Nat => decide ((k * (k - (p : Int) - 1)).fmod (n - k - 1) = 0) && decide ((k * (k - (p : Int) - 1)).fdiv (n - k - 1) ≤ k)) (f := fun p : Nat => D.int (p : Int)) Ex.refl (fun p hp T hT => ⟨_, rfl, ?_⟩) (fun _ _ => rfl) fun T5 h5 => ?_
    · have hp := List.mem_range.mp hp
      have zk : szMul k (k - (p : Int) - 1) = true := szm (by omega) (by omega)
      show Wp ((fAnd (fB (d2 dEq (d2 dMod (d2 dMul (dVar 2) (d2 dSub (d2 dSub (dVar 2) (dVar 4)) (dC (.int 1)))) (d2 dSub (d2 dSub (dVar 1) (dVar 2)) (dC (.int 1)))) (dC (.int 0)))) (fB (d2 dLe (d2 dFdiv (d2 dMul (dVar 2) (d2 dSub (d2 dSub (dVar 2) (dVar 4)) (dC (.int 1)))) (d2 dSub (d2 dSub (dVar 1) (dVar 2)) (dC (.int 1)))) (dVar 2)))) [some (.ref nd), some (.int n), some (.int k), none, some (.int (p : Int))] T) _
      by_cases a1 : (k * (k - (p : Int) - 1)).fmod (n - k - 1) = 0
      · by_cases a2 : (k * (k - (p : Int) - 1)).fdiv (n - k - 1) ≤ k
        · simp [zk, nz, sdv, a1, a2, Ex.refl]
          rfl
        · simp [zk, nz, sdv, a1, a2, Ex.refl]
      · simp [zk, nz, a1, Ex.refl]
    · generalize hls : ((List.range k.toNat).filter fun p : Nat => decide ((k * (k - (p : Int) - 1)).fmod (n - k - 1) = 0) && decide ((k * (k - (p : Int) - 1)).fdiv (n - k - 1) ≤ k)) = ls
      have hmem : ∀ p ∈ ls, p < k.toNat ∧ (k * (k - (p : Int) - 1)).fdiv (n - k - 1) ≤ k := fun p hp => by
        rw [← hls] at hp
        have := List.mem_filter.mp hp
        simp only [Bool.and_eq_true, decide_eq_true_eq] at this
        exact ⟨List.mem_range.mp this.1, this.2.2⟩
      have hlen : ls.length ≤ 200 := by
        rw [← hls]
        refine Nat.le_trans (List.length_filter_le _ _) ?_
        rw [List.length_range]
        omega
      rw [if_pos (by rw [List.length_map]; exact Nat.le_trans hlen (by decide))]
      simp only [List.set_cons_succ, List.set_cons_zero]
      have em : (ls.map fun p : Nat => D.int (p : Int)) = (ls.map fun p : Nat => (p : Int)).map D.int := by rw [List.map_map]; rfl
      rw [em]
      have g5 : (T5 ++ [SO.lst ((ls.map fun p : Nat => (p : Int)).map D.int)])[T5.length]? = some (.lst ((ls.map fun p : Nat => (p : Int)).map D.int)) := get_new
      have d5 : Dice (T5 ++ [SO.lst ((ls.map fun p : Nat => (p : Int)).map D.int)]) nd (c + 4) := (d4.up h5 (Nat.le_refl _)).app
      have e56 : Ed nd T4 (T5 ++ [SO.lst ((ls.map fun p : Nat => (p : Int)).map D.int)]) := h5.ed.trans (Ex.refl.app _).ed
      have n5 : T5.length ≠ nd := by have := (d4.up h5 (Nat.le_refl _)).lt; omega
      generalize T5 ++ [SO.lst ((ls.map fun p : Nat => (p : Int)).map D.int)] = T6 at g5 d5 e56 ⊢
      generalize T5.length = i5 at g5 n5 ⊢
      have zz := ne_nil_ints g5
      rw [sq_nx]; unfold Dr4 Ds4
      rw [wps_seq, wps_set, wp_if, wp_fB, wp_d2, wp_var]
      simp only [entry, wp_call, wp_cons, wp_nil, wp_var, wp_c, wp_ok, List.map_cons, List.map_nil, List.cons_append, List.nil_append, List.getElem?_cons_zero, List.getElem?_cons_succ, List.length_cons, List.length_nil, if_true, wp_lst, s0, zz]
      by_cases hnil : (ls.map fun p : Nat => (p : Int)) = []
      · rw [decide_eq_true hnil]
        simp only [Bool.not_true, Bool.false_eq_true, if_false]
        refine roll_ok (d5.app (R := [SO.lst []])) (by omega) (big n (by omega) (by omega)) (by omega) fun l T7 l0 l1 d7 e7 l7 => ?_
        simp only [List.set_cons_succ, List.set_cons_zero]
        rw [sq_nx]; unfold Dr5 Ds5
        rw [wps_ret, wp_tup, wp_cons, wp_var]
        have g7 : T7[i5]? = some (.lst ((ls.map fun p : Nat => (p : Int)).map D.int)) := e7.get (get_app g5) n5
        simp only [entry, wp_call, wp_cons, wp_nil, wp_var, wp_c, wp_ok, List.map_cons, List.map_nil, List.cons_append, List.nil_append, List.getElem?_cons_zero, List.getElem?_cons_succ, List.length_cons, List.length_nil, if_true, wp_if, wp_fB, wp_d2, wp_lst, s0, ne_nil_ints g7, decide_eq_true hnil, Bool.not_true, Bool.false_eq_true, if_false]
        refine roll_ok (d7.app (R := [SO.lst []])) (by omega) (big n (by omega) (by omega)) (by omega) fun m T8 m0 m1 d8 e8 l8 => ?_
        simp only [Nat.zero_add, Nat.reduceAdd, s4, if_true]
        exact hq n k l m T8 ⟨by omega, by omega, by omega, by omega, by omega, by omega, by omega, by omega⟩ (d8.up Ex.refl (by omega)) ((Ex.refl.app _).ed.trans (e1.trans (e2.trans (e3.trans (e4.trans (e56.trans ((Ex.refl.app _).ed.trans (e7.trans ((Ex.refl.app _).ed.trans e8)))))))))
      · rw [decide_eq_false hnil]
        simp only [Bool.not_false, if_true]
        have hpos : 1 ≤ ((ls.map fun p : Nat => (p : Int)).map D.int).length := by
          rw [List.length_map]
          exact List.length_pos_iff.mpr hnil
        refine pick_ok (d5.app (R := [SO.lst []])) (get_app g5) n5 hpos (by rw [List.length_map, List.length_map]; omega) (by omega) fun y T7 hy d7 e7 l7 => ?_
        obtain ⟨p, hp, rfl⟩ : ∃ p ∈ ls, y = .int (p : Int) := by
          obtain ⟨i, hi, rfl⟩ := List.mem_map.mp hy
          obtain ⟨p, hp, rfl⟩ := List.mem_map.mp hi
          exact ⟨p, hp, rfl⟩
        obtain ⟨c1, c2⟩ := hmem p hp
        simp only [List.set_cons_succ, List.set_cons_zero]
        rw [sq_nx]; unfold Dr5 Ds5
        rw [wps_ret, wp_tup, wp_cons, wp_var]
        have g7 : T7[i5]? = some (.lst ((ls.map fun p : Nat => (p : Int)).map D.int)) := e7.get (get_app g5) n5
        have zk : szMul k (k - (p : Int) - 1) = true := szm (by omega) (by omega)
        simp only [entry, wp_call, wp_cons, wp_nil, wp_var, wp_c, wp_ok, List.map_cons, List.map_nil, List.cons_append, List.nil_append, List.getElem?_cons_zero, List.getElem?_cons_succ, List.length_cons, List.length_nil, if_true, wp_if, wp_fB, wp_d2, wp_lst, s0, ne_nil_ints g7, decide_eq_false hnil, Bool.not_false, dSub_int, dMul_int, zk, dFdiv_int, sdv, Nat.zero_add, Nat.reduceAdd, s4]
        have m0 : 0 ≤ (k * (k - (p : Int) - 1)).fdiv (n - k - 1) := by
          rw [Int.fdiv_eq_ediv_of_nonneg _ (by omega)]
          exact Int.ediv_nonneg (Int.mul_nonneg (by omega) (by omega)) (by omega)
        exact hq n k p _ _ ⟨by omega, by omega, by omega, by omega, by omega, by omega, m0, by omega⟩ ((d7.app (R := [SO.lst []])).up Ex.refl (by omega)) ((Ex.refl.app _).ed.trans (e1.trans (e2.trans (e3.trans (e4.trans (e56.trans ((Ex.refl.app _).ed.trans (e7.trans (Ex.refl.app _).ed))))))))
end K48
set_option Elab.async false
set_option linter.all false
set_option maxRecDepth 100000
set_option maxHeartbeats 4000000
namespace K48
open PySem MP
def Rs0 : Fst := (sPar 1 2 (aCons (dCall F__law_tw_fault 1 (aCons (dVar 0) aNil)) (aCons (dCall F__law_tw_left 1 (aCons (dVar 0) aNil)) aNil)))
def Rs1 : Fst := (sAsg (.tp (.cons (.nm 3) (.cons (.nm 4) (.cons (.nm 5) (.cons (.nm 6) .nil))))) (dVar 0))
def Rs2 : Fst := (sSet 7 (dIf (fB (d2 dEq (dVar 1) (dC (.str "half")))) (dC .non) (dVar 1)))
def Rs3 : Fst := (sIf (fOr (fB (d2 dNe (dCall F_tuple_fault 4 (aCons (dVar 3) (aCons (dVar 4) (aCons (dVar 5) (aCons (dVar 6) aNil))))) (dVar 7))) (fB (d2 dNe (dCall F_is_half 4 (aCons (dVar 3) (aCons (dVar 4) (aCons (dVar 5) (aCons (dVar 6) aNil))))) (d2 dEq (dVar 1) (dC (.str "half")))))) (sRet (dC (.bl false))) sNil)
def Rs4 : Fst := (sSet 8 (dLam met__law_met (dCall F_left_tuple 4 (aCons (dVar 3) (aCons (dVar 4) (aCons (dVar 5) (aCons (dVar 6) aNil)))))))
def Rs5 : Fst := (sIf (fB (d2 dNe (dVar 8) (dIf (fB (d2 dEq (dVar 1) (dC (.str "range")))) (mkTup (aCons (dC (.str "refused")) (aCons (dC (.str "operation")) aNil))) (mkTup (aCons (dC (.str "told")) (aCons (dVar 2) aNil)))))) (sRet (dC (.bl false))) sNil)
def Rs6 : Fst := (sIf (fAnd (fB (d2 dNe (dVar 1) (dC (.str "range")))) (fB (d2 dNe (dCall F_tuple_fault 4 (aCons (d2 dAt (dVar 2) (dC (.int 0))) (aCons (d2 dAt (dVar 2) (dC (.int 1))) (aCons (d2 dAt (dVar 2) (dC (.int 2))) (aCons (d2 dAt (dVar 2) (dC (.int 3))) aNil))))) (dVar 7)))) (sRet (dC (.bl false))) sNil)
def Rs7 : Fst := (sSet 8 (dLam met__law_met (dCall F_tuple_values 4 (aCons (dVar 3) (aCons (dVar 4) (aCons (dVar 5) (aCons (dVar 6) aNil)))))))
def Rs8 : Fst := (sIf (fB (dIsN true (dVar 1))) (sRet (d2 dEq (dVar 8) (mkTup (aCons (dC (.str "refused")) (aCons (mkTup (aCons (dVar 1) aNil)) aNil))))) sNil)
def Rs9 : Fst := (sAsg (.tp (.cons (.tp (.cons (.nm 9) (.cons (.nm 10) .nil))) (.cons (.tp (.cons (.nm 11) (.cons (.nm 12) .nil))) .nil))) (dCall F__law_tw_values 1 (aCons (dVar 0) aNil)))
def Rs10 : Fst := (sIf (fOr (fB (d2 dNe (dVar 8) (mkTup (aCons (dC (.str "told")) (aCons (mkTup (aCons (mkTup (aCons (dVar 9) (aCons (dVar 10) aNil))) (aCons (mkTup (aCons (dVar 11) (aCons (dVar 12) aNil))) aNil))) aNil))))) (fB (d2 dNe (d2 dAdd (d2 dAdd (dC (.int 1)) (dVar 10)) (dVar 12)) (dVar 3)))) (sRet (dC (.bl false))) sNil)
def Rs11 : Fst := (sIf (fB (d2 dNe (d2 dAdd (d2 dAdd (dVar 4) (d2 dMul (dVar 10) (dVar 9))) (d2 dMul (dVar 12) (dVar 11))) (dC (.int 0)))) (sRet (dC (.bl false))) sNil)
def Rs12 : Fst := (sRet (d2 dEq (d2 dAdd (d2 dAdd (d2 dMul (dVar 4) (dVar 4)) (d2 dMul (d2 dMul (dVar 10) (dVar 9)) (dVar 9))) (d2 dMul (d2 dMul (dVar 12) (dVar 11)) (dVar 11))) (d2 dMul (dVar 3) (dVar 4))))
def Rr12 : Fst := Rs12
def Rr11 : Fst := sSeq Rs11 Rr12
def Rr10 : Fst := sSeq Rs10 Rr11
def Rr9 : Fst := sSeq Rs9 Rr10
def Rr8 : Fst := sSeq Rs8 Rr9
def Rr7 : Fst := sSeq Rs7 Rr8
def Rr6 : Fst := sSeq Rs6 Rr7
def Rr5 : Fst := sSeq Rs5 Rr6
def Rr4 : Fst := sSeq Rs4 Rr5
def Rr3 : Fst := sSeq Rs3 Rr4
def Rr2 : Fst := sSeq Rs2 Rr3
def Rr1 : Fst := sSeq Rs1 Rr2
def Rr0 : Fst := sSeq Rs0 Rr1
theorem Rb_eq : b__law_right = Rr0 := rfl
open MQ
theorem same {n : Bool} {d : D} {p : PyData} {S : Sto} (h : toPy 60 S d = some p) (hs : SeqAt.shaped p = true) (he : PyData.eqv p p = true) : dEqB n d d S = .ok (.bl (!n)) S := by
  unfold dEqB
  rw [h]
  simp only [hs, he, Bool.and_self, if_true]
  cases n <;> rfl
theorem strOk_told : PyData.strOk "told" = true := by decide +kernel
theorem same_told {n : Bool} {a b c e : Int} {S : Sto} : dEqB n (.tup [.str "told", .tup [.int a, .int b, .int c, .int e]]) (.tup [.str "told", .tup [.int a, .int b, .int c, .int e]]) S = .ok (.bl (!n)) S := by
  refine same (p := .tuple [.str "told", .tuple [.int a, .int b, .int c, .int e]]) rfl ?_ ?_
  · simp [SeqAt.shaped, PyData.canLay0, PyData.canLayAll0, PyData.depth, PyData.depthAll, strOk_told]
  · simp [PyData.eqv, PyData.eqvAll]
theorem same_told2 {n : Bool} {a b c e : Int} {S : Sto} : dEqB n (.tup [.str "told", .tup [.tup [.int a, .int b], .tup [.int c, .int e]]]) (.tup [.str "told", .tup [.tup [.int a, .int b], .tup [.int c, .int e]]]) S = .ok (.bl (!n)) S := by
  refine same (p := .tuple [.str "told", .tuple [.tuple [.int a, .int b], .tuple [.int c, .int e]]]) rfl ?_ ?_
  · simp [SeqAt.shaped, PyData.canLay0, PyData.canLayAll0, PyData.depth, PyData.depthAll, strOk_told]
  · simp [PyData.eqv, PyData.eqvAll]
theorem same_ref {x : Ft8} {S : Sto} : dEq (.tup [.str "refused", .tup [wdL x]]) (.tup [.str "refused", .tup [wdL x]]) S = .ok (.bl true) S := by
  cases x <;> kernel_rfl
theorem same_op {S : Sto} : dNe (.tup [.str "refused", .str "operation"]) (.tup [.str "refused", .str "operation"]) S = .ok (.bl false) S := by kernel_rfl
theorem eq_half {x : Ft8} {S : Sto} : dEq (wdL x) (.str "half") S = .ok (.bl (decide (x = .half))) S := by cases x <;> kernel_rfl
theorem eq_range {x : Ft8} {S : Sto} : dEq (wdL x) (.str "range") S = .ok (.bl (decide (x = .range))) S := by cases x <;> kernel_rfl
theorem ne_range {x : Ft8} {S : Sto} : dNe (wdL x) (.str "range") S = .ok (.bl (!decide (x = .range))) S := by cases x <;> kernel_rfl
theorem ne_wdP {x : Ft8} {S : Sto} : dNe (wdP x) (wdP x) S = .ok (.bl false) S := by cases x <;> kernel_rfl
theorem ne_bl {b : Bool} {S : Sto} : dNe (.bl b) (.bl b) S = .ok (.bl false) S := by cases b <;> kernel_rfl
theorem lam_told {fe : Fe} {ρ : Rho} {T U : Sto} {d : D} (e : fe ρ T = .ok d U) : dLam met__law_met fe ρ T = .ok (.tup [.str "told", d]) U := by
  unfold dLam met__law_met metF
  simp only [e]
  rfl
theorem lam_op {fe : Fe} {ρ : Rho} {T U : Sto} (e : fe ρ T = .exc ⟨1, none⟩ U) : dLam met__law_met fe ρ T = .ok (.tup [.str "refused", .str "operation"]) U := by
  unfold dLam met__law_met metF
  simp only [e]
  rfl
theorem lam_reason {fe : Fe} {ρ : Rho} {T U : Sto} {d : D} (e : fe ρ T = .exc ⟨3, some ("reason", d)⟩ U) : dLam met__law_met fe ρ T = .ok (.tup [.str "refused", d]) U := by
  unfold dLam met__law_met metF
  simp only [e]
  simp [pickCl, subX, fSu2, kept, noExc]
theorem dCall4 {F : FN} {i0 i1 i2 i3 : Nat} {a b c d : D} {ρ : Rho} {T : Sto} (h0 : ρ[i0]? = some (some a)) (h1 : ρ[i1]? = some (some b)) (h2 : ρ[i2]? = some (some c)) (h3 : ρ[i3]? = some (some d)) : dCall F 4 (aCons (dVar i0) (aCons (dVar i1) (aCons (dVar i2) (aCons (dVar i3) aNil)))) ρ T = F [a, b, c, d] T := by
  simp [dCall, aCons, aNil, dVar, Rs.bind, h0, h1, h2, h3]
theorem non_iff {x : Ft8} : isNonD (wdL x) = decide (x = .none) := by cases x <;> rfl
theorem tail_fault {n k l m : Int} {T : Sto} {Q : D → Sto → Prop} {X0 X2 X7 X8 : Option D} (h : Pm n k l m) (hf : fault n k l m ≠ .none) (hq : ∀ U, Ex T U → Q (.bl true) U) :
    WpS (Rr7 [X0, some (wdL (fault n k l m)), X2, some (.int n), some (.int k), some (.int l), some (.int m), X7, X8, none, none, none, none] T) (rn Q) := by
  have s1 : (1 ≤ sizeLine) = True := eq_true (by decide)
  have s2 : (2 ≤ sizeLine) = True := eq_true (by decide)
  obtain ⟨U, hU, e⟩ := values_exc T h hf
  unfold Rr7 Rs7
  rw [wps_seq, wps_set, lam_reason ((dCall4 rfl rfl rfl rfl).trans e), wp_ok]
  simp only [List.set_cons_succ, List.set_cons_zero]
  rw [sq_nx]; unfold Rr8 Rs8
  rw [wps_seq, wps_if, wp_fB, wp_isn, wp_var]
  have hn : isNonD (wdL (fault n k l m)) = false := by rw [non_iff]; exact decide_eq_false hf
  simp only [entry, wp_call, wp_cons, wp_nil, wp_var, wp_c, wp_ok, List.map_cons, List.map_nil, List.cons_append, List.nil_append, List.getElem?_cons_zero, List.getElem?_cons_succ, List.length_cons, List.length_nil, if_true, hn, Bool.not_false]
  rw [wps_ret, wp_d2, wp_var]
  simp only [entry, wp_call, wp_cons, wp_nil, wp_var, wp_c, wp_ok, List.map_cons, List.map_nil, List.cons_append, List.nil_append, List.getElem?_cons_zero, List.getElem?_cons_succ, List.length_cons, List.length_nil, if_true, wp_tup, Nat.zero_add, Nat.reduceAdd, s1, s2, same_ref]
  exact hq U hU
theorem tail_none {n k l m : Int} {T : Sto} {Q : D → Sto → Prop} {X2 X7 X8 : Option D} (h : Pm n k l m) (hf : fault n k l m = .none) (hq : ∀ U, Ex T U → Q (.bl true) U) :
    WpS (Rr7 [some (.tup [.int n, .int k, .int l, .int m]), some (wdL (fault n k l m)), X2, some (.int n), some (.int k), some (.int l), some (.int m), X7, X8, none, none, none, none] T) (rn Q) := by
  have s2 : (2 ≤ sizeLine) = True := eq_true (by decide)
  obtain ⟨U, hU, e⟩ := values_ok T h hf
  obtain ⟨o1, o2, o3, o4⟩ := none_facts hf
  have nv := nv_of o4
  have hmk : m ≤ k := by
    unfold rng at o1
    simp only [decide_eq_true_eq] at o1
    exact o1.2.2.2.1
  have hcE : cntE n k l m := by
    unfold cnt at o2
    simp only [decide_eq_true_eq] at o2
    exact o2
  obtain ⟨q1, q2⟩ := nv.sums
  have q3 := nv.sq hcE
  have r0 := nv.r0
  have eV := tw_values_ok (S := U) h hmk (by omega)
  obtain ⟨fb1, fb2⟩ := f_bd h
  have rb := isq_bd (spr_bd h)
  have hP := h
  obtain ⟨_, _, _, _, _, _, _, _⟩ := h
  have ub1 : (onev k l m).natAbs ≤ 60000 := half_bd (by omega)
  have ub2 : (othv k l m).natAbs ≤ 60000 := half_bd (by omega)
  unfold Rr7 Rs7
  rw [wps_seq, wps_set, lam_told ((dCall4 rfl rfl rfl rfl).trans e), wp_ok]
  simp only [List.set_cons_succ, List.set_cons_zero]
  rw [sq_nx]; unfold Rr8 Rs8
  rw [wps_seq, wps_if, wp_fB, wp_isn, wp_var]
  have hn : isNonD (wdL (fault n k l m)) = true := by rw [non_iff]; exact decide_eq_true hf
  simp only [entry, wp_call, wp_cons, wp_nil, wp_var, wp_c, wp_ok, List.map_cons, List.map_nil, List.cons_append, List.nil_append, List.getElem?_cons_zero, List.getElem?_cons_succ, List.length_cons, List.length_nil, if_true, hn, Bool.not_true, Bool.false_eq_true, if_false, wps_nil]
  rw [sq_nx]; unfold Rr9 Rs9
  rw [wps_seq, wps_asg, wp_call]
  simp only [entry, wp_call, wp_cons, wp_nil, wp_var, wp_c, wp_ok, List.map_cons, List.map_nil, List.cons_append, List.nil_append, List.getElem?_cons_zero, List.getElem?_cons_succ, List.length_cons, List.length_nil, if_true, eV, setT, setTs, List.set_cons_succ, List.set_cons_zero]
  generalize onev k l m = t at *
  generalize othv k l m = u at *
  generalize f1v n k l m = f at *
  generalize f2v n k l m = g at *
  rw [sq_nx]; unfold Rr10 Rs10
  rw [wps_seq, wps_if, wp_fOr, wp_fB, wp_d2, wp_var]
  have e1 : dNe (.tup [.str "told", .tup [.tup [.int t, .int f], .tup [.int u, .int g]]]) (.tup [.str "told", .tup [.tup [.int t, .int f], .tup [.int u, .int g]]]) U = .ok (.bl false) U := same_told2 (n := true)
  simp only [entry, wp_call, wp_cons, wp_nil, wp_var, wp_c, wp_ok, List.map_cons, List.map_nil, List.cons_append, List.nil_append, List.getElem?_cons_zero, List.getElem?_cons_succ, List.length_cons, List.length_nil, if_true, wp_tup, Nat.zero_add, Nat.reduceAdd, s2, e1, Bool.false_eq_true, if_false]
  rw [wp_fB, wp_d2, wp_d2, wp_d2, wp_c]
  have e2 : dNe (.int (1 + f + g)) (.int n) U = .ok (.bl false) U := by
    show dEqB true _ _ _ = _
    rw [dEqB_int, decide_eq_true (show 1 + f + g = n by omega)]
    rfl
  simp only [entry, wp_call, wp_cons, wp_nil, wp_var, wp_c, wp_ok, List.map_cons, List.map_nil, List.cons_append, List.nil_append, List.getElem?_cons_zero, List.getElem?_cons_succ, List.length_cons, List.length_nil, if_true, dAdd_int, e2, Bool.false_eq_true, if_false, wps_nil]
  have b1 := mulB fb1 ub1
  have b2 := mulB fb2 ub2
  have z1 : szMul f t = true := szm (by omega) (by omega)
  have z2 : szMul g u = true := szm (by omega) (by omega)
  have z3 : szMul (f * t) t = true := szm (by omega) (by omega)
  have z4 : szMul (g * u) u = true := szm (by omega) (by omega)
  have z5 : szMul k k = true := szm (by omega) (by omega)
  have z6 : szMul n k = true := szm (by omega) (by omega)
  rw [sq_nx]; unfold Rr11 Rs11
  rw [wps_seq, wps_if, wp_fB, wp_d2, wp_d2, wp_d2, wp_var]
  have e3 : dNe (.int (k + f * t + g * u)) (.int 0) U = .ok (.bl false) U := by
    show dEqB true _ _ _ = _
    rw [dEqB_int, decide_eq_true q2]
    rfl
  simp only [entry, wp_call, wp_cons, wp_nil, wp_var, wp_c, wp_ok, List.map_cons, List.map_nil, List.cons_append, List.nil_append, List.getElem?_cons_zero, List.getElem?_cons_succ, List.length_cons, List.length_nil, if_true, wp_d2, dMul_int, z1, z2, dAdd_int, e3, Bool.false_eq_true, if_false, wps_nil]
  rw [sq_nx]; unfold Rr12 Rs12
  rw [wps_ret, wp_d2, wp_d2, wp_d2, wp_d2, wp_var]
  have e4 : dEq (.int (k * k + f * t * t + g * u * u)) (.int (n * k)) U = .ok (.bl true) U := by
    show dEqB false _ _ _ = _
    rw [dEqB_int, decide_eq_true q3]
    rfl
  simp only [entry, wp_call, wp_cons, wp_nil, wp_var, wp_c, wp_ok, List.map_cons, List.map_nil, List.cons_append, List.nil_append, List.getElem?_cons_zero, List.getElem?_cons_succ, List.length_cons, List.length_nil, if_true, wp_d2, dMul_int, z1, z2, z3, z4, z5, z6, dAdd_int, e4]
  exact hq U hU
theorem Pm.left {n k l m : Int} (h : Pm n k l m) (hr : rng n k l m = true) : Pm n (n - k - 1) (n - 2 - 2 * k + m) (n - 2 * k + l) := by
  obtain ⟨_, _, _, _, _, _, _, _⟩ := h
  unfold rng at hr
  simp only [decide_eq_true_eq] at hr
  obtain ⟨_, _, _, _, _, _⟩ := hr
  exact ⟨by omega, by omega, by omega, by omega, by omega, by omega, by omega, by omega⟩
theorem range_iff {n k l m : Int} : (fault n k l m = .range) ↔ rng n k l m = false := by
  unfold fault
  cases h1 : rng n k l m <;> simp
  repeat' split
  all_goals (intro z; cases z)
theorem half_or {x : Ft8} {G : D → Prop} (h : G (wdP x)) : if decide (x = .half) = true then G .non else G (wdL x) := by
  by_cases z : x = .half
  · rw [if_pos (decide_eq_true z)]
    rw [z] at h
    exact h
  · rw [if_neg (by simpa using z), wdL_eq z]
    exact h
theorem right_ok {n k l m : Int} {S : Sto} {Q : D → Sto → Prop} (h : Pm n k l m) (hq : ∀ T, Ex S T → Q (.bl true) T) : Wp (F__law_right [.tup [.int n, .int k, .int l, .int m]] S) Q := by
  have s2 : (2 ≤ sizeLine) = True := eq_true (by decide)
  unfold F__law_right
  rw [wp_run, Rb_eq]
  unfold Rr0 Rs0
  rw [wps_seq, wps_par, wp_cons, wp_call]
  simp only [entry, wp_call, wp_cons, wp_nil, wp_var, wp_c, wp_ok, List.map_cons, List.map_nil, List.cons_append, List.nil_append, List.getElem?_cons_zero, List.getElem?_cons_succ, List.length_cons, List.length_nil, if_true, List.replicate, Nat.reduceAdd, Nat.reduceSub]
  refine tw_fault_ok h fun S1 h1 => ?_
  simp only [entry, wp_call, wp_cons, wp_nil, wp_var, wp_c, wp_ok, List.map_cons, List.map_nil, List.cons_append, List.nil_append, List.getElem?_cons_zero, List.getElem?_cons_succ, List.length_cons, List.length_nil, if_true, tw_left_ok (S := S1) h, List.set_cons_succ, List.set_cons_zero]
  rw [sq_nx]; unfold Rr1 Rs1
  rw [wps_seq, wps_asg, wp_var]
  simp only [entry, wp_call, wp_cons, wp_nil, wp_var, wp_c, wp_ok, List.map_cons, List.map_nil, List.cons_append, List.nil_append, List.getElem?_cons_zero, List.getElem?_cons_succ, List.length_cons, List.length_nil, if_true, setT, setTs, List.set_cons_succ, List.set_cons_zero]
  rw [sq_nx]; unfold Rr2 Rs2
  rw [wps_seq, wps_set, wp_if, wp_fB, wp_d2, wp_var]
  simp only [entry, wp_call, wp_cons, wp_nil, wp_var, wp_c, wp_ok, List.map_cons, List.map_nil, List.cons_append, List.nil_append, List.getElem?_cons_zero, List.getElem?_cons_succ, List.length_cons, List.length_nil, if_true, eq_half]
  refine half_or (G := fun d => sq Rr3 (rn Q) (.nx ([some (.tup [.int n, .int k, .int l, .int m]), some (wdL (fault n k l m)), some (.tup [.int n, .int (n - k - 1), .int (n - 2 - 2 * k + m), .int (n - 2 * k + l)]), some (.int n), some (.int k), some (.int l), some (.int m), none, none, none, none, none, none].set 7 (some d))) S1) ?_
  simp only [List.set_cons_succ, List.set_cons_zero]
  rw [sq_nx]; unfold Rr3 Rs3
  rw [wps_seq, wps_if, wp_fOr, wp_fB, wp_d2, wp_call]
  simp only [entry, wp_call, wp_cons, wp_nil, wp_var, wp_c, wp_ok, List.map_cons, List.map_nil, List.cons_append, List.nil_append, List.getElem?_cons_zero, List.getElem?_cons_succ, List.length_cons, List.length_nil, if_true]
  refine tuple_fault_ok h fun S2 h2 => ?_
  simp only [entry, wp_call, wp_cons, wp_nil, wp_var, wp_c, wp_ok, List.map_cons, List.map_nil, List.cons_append, List.nil_append, List.getElem?_cons_zero, List.getElem?_cons_succ, List.length_cons, List.length_nil, if_true, ne_wdP, Bool.false_eq_true, if_false]
  rw [wp_fB, wp_d2, wp_call]
  simp only [entry, wp_call, wp_cons, wp_nil, wp_var, wp_c, wp_ok, List.map_cons, List.map_nil, List.cons_append, List.nil_append, List.getElem?_cons_zero, List.getElem?_cons_succ, List.length_cons, List.length_nil, if_true]
  refine is_half_ok h fun S3 h3 => ?_
  simp only [entry, wp_call, wp_cons, wp_nil, wp_var, wp_c, wp_ok, List.map_cons, List.map_nil, List.cons_append, List.nil_append, List.getElem?_cons_zero, List.getElem?_cons_succ, List.length_cons, List.length_nil, if_true, wp_d2, eq_half, ne_bl, Bool.false_eq_true, if_false, wps_nil]
  rw [sq_nx]; unfold Rr4 Rs4
  have g3 := h1.trans (h2.trans h3)
  by_cases hr : rng n k l m = false
  · have hf : fault n k l m = .range := range_iff.mpr hr
    rw [wps_seq, wps_set, lam_op ((dCall4 rfl rfl rfl rfl).trans (left_tuple_exc h hr)), wp_ok]
    simp only [List.set_cons_succ, List.set_cons_zero]
    rw [sq_nx]; unfold Rr5 Rs5
    rw [wps_seq, wps_if, wp_fB, wp_d2, wp_var]
    have d1 : decide (fault n k l m = .range) = true := decide_eq_true hf
    simp only [entry, wp_call, wp_cons, wp_nil, wp_var, wp_c, wp_ok, List.map_cons, List.map_nil, List.cons_append, List.nil_append, List.getElem?_cons_zero, List.getElem?_cons_succ, List.length_cons, List.length_nil, if_true, wp_if, wp_fB, wp_d2, eq_range, d1, wp_tup, Nat.zero_add, Nat.reduceAdd, s2, same_op, Bool.false_eq_true, if_false, wps_nil]
    rw [sq_nx]; unfold Rr6 Rs6
    rw [wps_seq, wps_if, wp_fAnd, wp_fB, wp_d2, wp_var]
    simp only [entry, wp_call, wp_cons, wp_nil, wp_var, wp_c, wp_ok, List.map_cons, List.map_nil, List.cons_append, List.nil_append, List.getElem?_cons_zero, List.getElem?_cons_succ, List.length_cons, List.length_nil, if_true, ne_range, d1, Bool.not_true, Bool.false_eq_true, if_false, wps_nil]
    rw [sq_nx]
    exact tail_fault h (by rw [hf]; decide) fun U hU => hq U (g3.trans hU)
  · have hr : rng n k l m = true := by simpa using hr
    have hf : fault n k l m ≠ .range := fun z => by rw [range_iff.mp z] at hr; cases hr
    rw [wps_seq, wps_set, lam_told ((dCall4 rfl rfl rfl rfl).trans (left_tuple_ok h hr)), wp_ok]
    simp only [List.set_cons_succ, List.set_cons_zero]
    rw [sq_nx]; unfold Rr5 Rs5
    rw [wps_seq, wps_if, wp_fB, wp_d2, wp_var]
    have d1 : decide (fault n k l m = .range) = false := decide_eq_false hf
    have e5 : dNe (.tup [.str "told", .tup [.int n, .int (n - k - 1), .int (n - 2 - 2 * k + m), .int (n - 2 * k + l)]]) (.tup [.str "told", .tup [.int n, .int (n - k - 1), .int (n - 2 - 2 * k + m), .int (n - 2 * k + l)]]) S3 = .ok (.bl false) S3 := same_told (n := true)
    simp only [entry, wp_call, wp_cons, wp_nil, wp_var, wp_c, wp_ok, List.map_cons, List.map_nil, List.cons_append, List.nil_append, List.getElem?_cons_zero, List.getElem?_cons_succ, List.length_cons, List.length_nil, if_true, wp_if, wp_fB, wp_d2, eq_range, d1, wp_tup, Nat.zero_add, Nat.reduceAdd, s2, e5, Bool.false_eq_true, if_false, wps_nil]
    rw [sq_nx]; unfold Rr6 Rs6
    rw [wps_seq, wps_if, wp_fAnd, wp_fB, wp_d2, wp_var]
    simp only [entry, wp_call, wp_cons, wp_nil, wp_var, wp_c, wp_ok, List.map_cons, List.map_nil, List.cons_append, List.nil_append, List.getElem?_cons_zero, List.getElem?_cons_succ, List.length_cons, List.length_nil, if_true, ne_range, d1, Bool.not_false]
    rw [wp_fB, wp_d2, wp_call]
    have a0 : ∀ a b c e : Int, dAt (.tup [.int a, .int b, .int c, .int e]) (.int 0) S3 = .ok (.int a) S3 := fun _ _ _ _ => rfl
    have a1 : ∀ a b c e : Int, dAt (.tup [.int a, .int b, .int c, .int e]) (.int 1) S3 = .ok (.int b) S3 := fun _ _ _ _ => rfl
    have a2 : ∀ a b c e : Int, dAt (.tup [.int a, .int b, .int c, .int e]) (.int 2) S3 = .ok (.int c) S3 := fun _ _ _ _ => rfl
    have a3 : ∀ a b c e : Int, dAt (.tup [.int a, .int b, .int c, .int e]) (.int 3) S3 = .ok (.int e) S3 := fun _ _ _ _ => rfl
    simp only [entry, wp_call, wp_cons, wp_nil, wp_var, wp_c, wp_ok, List.map_cons, List.map_nil, List.cons_append, List.nil_append, List.getElem?_cons_zero, List.getElem?_cons_succ, List.length_cons, List.length_nil, if_true, wp_d2, a0, a1, a2, a3]
    refine tuple_fault_ok (h.left hr) fun S4 h4 => ?_
    rw [fault_left hr h.l0 h.m0]
    simp only [entry, wp_call, wp_cons, wp_nil, wp_var, wp_c, wp_ok, List.map_cons, List.map_nil, List.cons_append, List.nil_append, List.getElem?_cons_zero, List.getElem?_cons_succ, List.length_cons, List.length_nil, if_true, ne_wdP, Bool.false_eq_true, if_false, wps_nil]
    rw [sq_nx]
    by_cases hn : fault n k l m = .none
    · exact tail_none h hn fun U hU => hq U (g3.trans (h4.trans hU))
    · exact tail_fault h hn fun U hU => hq U (g3.trans (h4.trans hU))
end K48
set_option Elab.async false
set_option linter.all false
set_option maxRecDepth 100000
set_option maxHeartbeats 4000000
namespace K48
open PySem MP
def Ls0 : Fst := (sSet 1 (mkLst (aCons (mkTup (aCons (dC (.int 10)) (aCons (dC (.int 3)) (aCons (dC (.int 0)) (aCons (dC (.int 1)) aNil))))) (aCons (mkTup (aCons (dC (.int 28)) (aCons (dC (.int 9)) (aCons (dC (.int 0)) (aCons (dC (.int 4)) aNil))))) (aCons (mkTup (aCons (dC (.int 50)) (aCons (dC (.int 21)) (aCons (dC (.int 4)) (aCons (dC (.int 12)) aNil))))) (aCons (mkTup (aCons (dC (.int 21)) (aCons (dC (.int 10)) (aCons (dC (.int 4)) (aCons (dC (.int 5)) aNil))))) (aCons (mkTup (aCons (dC (.int 9)) (aCons (dC (.int 4)) (aCons (dC (.int 2)) (aCons (dC (.int 1)) aNil))))) (aCons (mkTup (aCons (dC (.int 7)) (aCons (dC (.int 3)) (aCons (dC (.int 1)) (aCons (dC (.int 1)) aNil))))) (aCons (mkTup (aCons (dC (.int 5)) (aCons (dC (.int 2)) (aCons (dC (.int 0)) (aCons (dC (.int 1)) aNil))))) (aCons (mkTup (aCons (dC (.int 100)) (aCons (dC (.int 22)) (aCons (dC (.int 0)) (aCons (dC (.int 6)) aNil))))) aNil))))))))))
def Ls1 : Fst := (sSet 1 (d2 dAdd (dVar 1) (mkLst (aCons (mkTup (aCons (dC (.int 13)) (aCons (dC (.int 6)) (aCons (dC (.int 2)) (aCons (dC (.int 3)) aNil))))) (aCons (mkTup (aCons (dC (.int 33)) (aCons (dC (.int 16)) (aCons (dC (.int 7)) (aCons (dC (.int 8)) aNil))))) (aCons (mkTup (aCons (dC (.int 4)) (aCons (dC (.int 2)) (aCons (dC (.int 0)) (aCons (dC (.int 2)) aNil))))) (aCons (mkTup (aCons (dC (.int 16)) (aCons (dC (.int 6)) (aCons (dC (.int 2)) (aCons (dC (.int 2)) aNil))))) (aCons (mkTup (aCons (dC (.int 27)) (aCons (dC (.int 10)) (aCons (dC (.int 1)) (aCons (dC (.int 5)) aNil))))) (aCons (mkTup (aCons (dC (.int 6)) (aCons (dC (.int 1)) (aCons (dC (.int 0)) (aCons (dC (.int 0)) aNil))))) (aCons (mkTup (aCons (dC (.int 162)) (aCons (dC (.int 56)) (aCons (dC (.int 10)) (aCons (dC (.int 24)) aNil))))) aNil))))))))))
def Ls2 : Fst := (sFor (iR1 (aCons (dN nMax2 (aCons (dC (.int 1)) (aCons (dN nMin2 (aCons (dC (.int 3)) (aCons (dN nLen (aCons (dVar 0) aNil)) aNil))) aNil))) aNil)) (.nm 2) (sSeq (sSet 3 (dCall F__law_dice 2 (aCons (dVar 0) (aCons (dVar 2) aNil)))) (sSeq (sIf (fNot (fTru (dCall F__law_right 1 (aCons (dCall F__law_pick 2 (aCons (dVar 3) (aCons (dVar 1) aNil))) aNil)))) (sRet (dC (.bl false))) sNil) (sFor (iR1 (aCons (dC (.int 6)) aNil)) (.nm 4) (sIf (fNot (fTru (dCall F__law_right 1 (aCons (dCall F__law_tuple_drawn 1 (aCons (dVar 3) aNil)) aNil)))) (sRet (dC (.bl false))) sNil)))))
def Ls3 : Fst := (sSet 5 (mkLst (aCons (dCall F_tuple_fault 4 (aCons (dC (.int 10)) (aCons (dC (.int 3)) (aCons (dC (.int 0)) (aCons (dC (.int 1)) aNil))))) (aCons (dCall F_tuple_fault 4 (aCons (dC (.int 28)) (aCons (dC (.int 9)) (aCons (dC (.int 0)) (aCons (dC (.int 4)) aNil))))) (aCons (dCall F_tuple_fault 4 (aCons (dC (.int 50)) (aCons (dC (.int 21)) (aCons (dC (.int 4)) (aCons (dC (.int 12)) aNil))))) (aCons (dCall F_tuple_fault 4 (aCons (dC (.int 21)) (aCons (dC (.int 10)) (aCons (dC (.int 4)) (aCons (dC (.int 5)) aNil))))) aNil))))))
def Ls4 : Fst := (sIf (fB (d2 dNe (d2 dAdd (dVar 5) (mkLst (aCons (dCall F_tuple_fault 4 (aCons (dC (.int 9)) (aCons (dC (.int 4)) (aCons (dC (.int 2)) (aCons (dC (.int 1)) aNil))))) (aCons (dCall F_tuple_fault 4 (aCons (dC (.int 7)) (aCons (dC (.int 3)) (aCons (dC (.int 1)) (aCons (dC (.int 1)) aNil))))) aNil)))) (mkLst (aCons (dC .non) (aCons (dC (.str "krein")) (aCons (dC (.str "absolute")) (aCons (dC (.str "squares")) (aCons (dC (.str "values")) (aCons (dC (.str "ties")) aNil))))))))) (sRet (dC (.bl false))) sNil)
def Ls5 : Fst := (sRet (dAnd (d2 dEq (dCall F_tuple_values 4 (aCons (dC (.int 10)) (aCons (dC (.int 3)) (aCons (dC (.int 0)) (aCons (dC (.int 1)) aNil))))) (mkTup (aCons (mkTup (aCons (dC (.int 1)) (aCons (dC (.int 5)) aNil))) (aCons (mkTup (aCons (dNeg (dC (.int 2))) (aCons (dC (.int 4)) aNil))) aNil)))) (dAnd (dCall F_is_half 4 (aCons (dC (.int 13)) (aCons (dC (.int 6)) (aCons (dC (.int 2)) (aCons (dC (.int 3)) aNil))))) (d2 dEq (dCall F_left_tuple 4 (aCons (dC (.int 10)) (aCons (dC (.int 3)) (aCons (dC (.int 0)) (aCons (dC (.int 1)) aNil))))) (mkTup (aCons (dC (.int 10)) (aCons (dC (.int 6)) (aCons (dC (.int 3)) (aCons (dC (.int 4)) aNil)))))))))
def Lr5 : Fst := Ls5
def Lr4 : Fst := sSeq Ls4 Lr5
def Lr3 : Fst := sSeq Ls3 Lr4
def Lr2 : Fst := sSeq Ls2 Lr3
def Lr1 : Fst := sSeq Ls1 Lr2
def Lr0 : Fst := sSeq Ls0 Lr1
theorem Lb_eq : b_law = Lr0 := rfl
theorem toPyL_n {S : Sto} {ds : List D} {ps : List PyData} {i : Nat} (hi : S[i]? = some (.lst ds)) (h : toPyL (toPy 59 S) ds = some ps) : toPy 60 S (.ref i) = some (.list ps) := by
  show (match S[i]? with
    | some (.lst ds) => (toPyL (toPy 59 S) ds).map PyData.list
    | _ => none) = _
  rw [hi]
  show (toPyL (toPy 59 S) ds).map PyData.list = _
  rw [h]
  rfl
theorem eqB_same {n : Bool} {i j : Nat} {ds : List D} {ps : List PyData} {S : Sto} (h : toPyL (toPy 59 S) ds = some ps) (hi : S[i]? = some (.lst ds)) (hj : S[j]? = some (.lst ds)) (hs : SeqAt.shaped (.list ps) = true) (he : PyData.eqv (.list ps) (.list ps) = true) : dEqB n (.ref i) (.ref j) S = .ok (.bl (!n)) S := by
  unfold dEqB
  rw [toPyL_n hi h, toPyL_n hj h]
  show (if (SeqAt.shaped (.list ps) && SeqAt.shaped (.list ps)) = true then _ else _) = _
  rw [hs, Bool.and_self, if_pos rfl, he]
  cases n <;> rfl
/-- two equal new lists, one behind the other -/
theorem two_same {n : Bool} {ds : List D} {ps : List PyData} {S : Sto} (h : ∀ T, toPyL (toPy 59 T) ds = some ps) (hs : SeqAt.shaped (.list ps) = true) (he : PyData.eqv (.list ps) (.list ps) = true) : dEqB n (.ref S.length) (.ref (S ++ [SO.lst ds]).length) (S ++ [SO.lst ds] ++ [SO.lst ds]) = .ok (.bl (!n)) (S ++ [SO.lst ds] ++ [SO.lst ds]) :=
  eqB_same (h _) (get_app get_new) get_new hs he
open MQ
def tpl (n k l m : Int) : D := .tup [.int n, .int k, .int l, .int m]
def knA : List D := [tpl 10 3 0 1, tpl 28 9 0 4, tpl 50 21 4 12, tpl 21 10 4 5, tpl 9 4 2 1, tpl 7 3 1 1, tpl 5 2 0 1, tpl 100 22 0 6]
def knB : List D := [tpl 13 6 2 3, tpl 33 16 7 8, tpl 4 2 0 2, tpl 16 6 2 2, tpl 27 10 1 5, tpl 6 1 0 0, tpl 162 56 10 24]
theorem pm {n k l m : Int} (h : (decide (0 ≤ n ∧ n ≤ 200 ∧ 0 ≤ k ∧ k ≤ 200) && decide (0 ≤ l ∧ l ≤ 200 ∧ 0 ≤ m ∧ m ≤ 200)) = true) : Pm n k l m := by
  simp only [Bool.and_eq_true, decide_eq_true_eq] at h
  obtain ⟨⟨a, b, c, d⟩, e, f, g, i⟩ := h
  exact ⟨a, b, c, d, e, f, g, i⟩
theorem kn_mem {y : D} (h : y ∈ knA ++ knB) : ∃ n k l m, y = tpl n k l m ∧ Pm n k l m := by
  simp only [knA, knB, List.mem_append, List.mem_cons, List.not_mem_nil, or_false] at h
  rcases h with h | h <;> repeat' (rcases h with h | h)
  all_goals exact ⟨_, _, _, _, rfl, pm (by decide)⟩
theorem g1 : fault 10 3 0 1 = .none := by decide +kernel
theorem g2 : fault 28 9 0 4 = .krein := by decide +kernel
theorem g3 : fault 50 21 4 12 = .absolute := by decide +kernel
theorem g4 : fault 21 10 4 5 = .squares := by decide +kernel
theorem g5 : fault 9 4 2 1 = .values := by decide +kernel
theorem g6 : fault 7 3 1 1 = .ties := by decide +kernel
theorem g7 : fault 13 6 2 3 = .half := by decide +kernel
theorem g8 : onev 3 0 1 = 1 ∧ f1v 10 3 0 1 = 5 ∧ othv 3 0 1 = -2 ∧ f2v 10 3 0 1 = 4 := by decide +kernel
theorem end_ok {A B C E F : Option D} {T : Sto} : WpS (Lr3 [A, B, C, E, F, none] T) (rn fun d _ => d = .bl true) := by
  have s2 : (2 ≤ sizeLine) = True := eq_true (by decide)
  have s4 : (4 ≤ sizeLine) = True := eq_true (by decide)
  have s6 : (6 ≤ sizeLine) = True := eq_true (by decide)
  unfold Lr3 Ls3
  rw [wps_seq, wps_set, wp_lst, wp_cons, wp_call]
  simp only [entry, wp_call, wp_cons, wp_nil, wp_var, wp_c, wp_ok, List.map_cons, List.map_nil, List.cons_append, List.nil_append, List.getElem?_cons_zero, List.getElem?_cons_succ, List.length_cons, List.length_nil, if_true]
  refine tuple_fault_ok (pm (by decide)) fun T1 h1 => ?_
  rw [g1]
  refine tuple_fault_ok (pm (by decide)) fun T2 h2 => ?_
  rw [g2]
  refine tuple_fault_ok (pm (by decide)) fun T3 h3 => ?_
  rw [g3]
  refine tuple_fault_ok (pm (by decide)) fun T4 h4 => ?_
  rw [g4]
  simp only [Nat.zero_add, Nat.reduceAdd, s4, if_true, List.set_cons_succ, List.set_cons_zero]
  have q4 : (T4 ++ [SO.lst [wdP .none, wdP .krein, wdP .absolute, wdP .squares]])[T4.length]? = some (.lst [wdP .none, wdP .krein, wdP .absolute, wdP .squares]) := get_new
  generalize T4 ++ [SO.lst [wdP .none, wdP .krein, wdP .absolute, wdP .squares]] = T5 at q4 ⊢
  generalize T4.length = i4 at q4 ⊢
  rw [sq_nx]; unfold Lr4 Ls4
  rw [wps_seq, wps_if, wp_fB, wp_d2, wp_d2, wp_var]
  simp only [entry, wp_call, wp_cons, wp_nil, wp_var, wp_c, wp_ok, List.map_cons, List.map_nil, List.cons_append, List.nil_append, List.getElem?_cons_zero, List.getElem?_cons_succ, List.length_cons, List.length_nil, if_true, wp_lst]
  refine tuple_fault_ok (pm (by decide)) fun T6 h6 => ?_
  rw [g5]
  refine tuple_fault_ok (pm (by decide)) fun T7 h7 => ?_
  rw [g6]
  simp only [Nat.zero_add, Nat.reduceAdd, s2, s6, if_true]
  have q7 : (T7 ++ [SO.lst [wdP .values, wdP .ties]])[i4]? = some (.lst [wdP .none, wdP .krein, wdP .absolute, wdP .squares]) := get_app ((h6.trans h7).get q4)
  have ea : dAdd (.ref i4) (.ref T7.length) (T7 ++ [SO.lst [wdP .values, wdP .ties]]) = .ok (.ref (T7 ++ [SO.lst [wdP .values, wdP .ties]]).length) ((T7 ++ [SO.lst [wdP .values, wdP .ties]]) ++ [SO.lst [.non, .str "krein", .str "absolute", .str "squares", .str "values", .str "ties"]]) := by
    unfold dAdd
    simp only [q7, get_new]
    have z : [wdP .none, wdP .krein, wdP .absolute, wdP .squares].length + [wdP .values, wdP .ties].length ≤ sizeLine := show 6 ≤ sizeLine by decide
    rw [if_pos z]
    rfl
  rw [ea, wp_ok]
  generalize T7 ++ [SO.lst [wdP .values, wdP .ties]] = T8
  have es := two_same (n := true) (S := T8) (ds := [.non, .str "krein", .str "absolute", .str "squares", .str "values", .str "ties"]) (ps := [.none, .str "krein", .str "absolute", .str "squares", .str "values", .str "ties"]) (fun _ => rfl) (by decide +kernel) (by decide +kernel)
  have es' : dNe (.ref T8.length) (.ref (T8 ++ [SO.lst [.non, .str "krein", .str "absolute", .str "squares", .str "values", .str "ties"]]).length) ((T8 ++ [SO.lst [.non, .str "krein", .str "absolute", .str "squares", .str "values", .str "ties"]]) ++ [SO.lst [.non, .str "krein", .str "absolute", .str "squares", .str "values", .str "ties"]]) = .ok (.bl false) ((T8 ++ [SO.lst [.non, .str "krein", .str "absolute", .str "squares", .str "values", .str "ties"]]) ++ [SO.lst [.non, .str "krein", .str "absolute", .str "squares", .str "values", .str "ties"]]) := es
  rw [es', wp_ok]
  simp only [Bool.false_eq_true, if_false, wps_nil]
  generalize (T8 ++ [SO.lst [D.non, .str "krein", .str "absolute", .str "squares", .str "values", .str "ties"]]) ++ [SO.lst [D.non, .str "krein", .str "absolute", .str "squares", .str "values", .str "ties"]] = T9
  rw [sq_nx]; unfold Lr5 Ls5
  obtain ⟨U, hU, e⟩ := values_ok T9 (n := 10) (k := 3) (l := 0) (m := 1) (pm (by decide)) g1
  obtain ⟨v1, v2, v3, v4⟩ := g8
  rw [v1, v2, v3, v4] at e
  have e1 : dEq (.tup [.tup [.int 1, .int 5], .tup [.int (-2), .int 4]]) (.tup [.tup [.int 1, .int 5], .tup [.int (-2), .int 4]]) U = .ok (.bl true) U := by kernel_rfl
  rw [wps_ret, wp_and, wp_d2, wp_call]
  simp only [entry, wp_call, wp_cons, wp_nil, wp_var, wp_c, wp_ok, List.map_cons, List.map_nil, List.cons_append, List.nil_append, List.getElem?_cons_zero, List.getElem?_cons_succ, List.length_cons, List.length_nil, if_true, e, wp_tup, wp_neg, Nat.zero_add, Nat.reduceAdd, s2, e1]
  rw [wp_and, wp_call]
  simp only [entry, wp_call, wp_cons, wp_nil, wp_var, wp_c, wp_ok, List.map_cons, List.map_nil, List.cons_append, List.nil_append, List.getElem?_cons_zero, List.getElem?_cons_succ, List.length_cons, List.length_nil, if_true]
  refine is_half_ok (pm (by decide)) fun V hV => ?_
  rw [g7]
  simp only [decide_true]
  have e2 := left_tuple_ok (S := V) (n := 10) (k := 3) (l := 0) (m := 1) (pm (by decide)) (by decide)
  rw [wp_d2, wp_call]
  have e3 : dEq (.tup [.int 10, .int (10 - 3 - 1), .int (10 - 2 - 2 * 3 + 1), .int (10 - 2 * 3 + 0)]) (.tup [.int 10, .int 6, .int 3, .int 4]) V = .ok (.bl true) V := by kernel_rfl
  simp only [entry, wp_call, wp_cons, wp_nil, wp_var, wp_c, wp_ok, List.map_cons, List.map_nil, List.cons_append, List.nil_append, List.getElem?_cons_zero, List.getElem?_cons_succ, List.length_cons, List.length_nil, if_true, e2, wp_tup, Nat.zero_add, Nat.reduceAdd, s4, e3]
  rfl
theorem law_true (ns : List Int) (hns : ns.length ≤ 63) : ∃ S, F_law [law_D ns] [] = .ok (.bl true) S := by
  have s4 : (4 ≤ sizeLine) = True := eq_true (by decide)
  have s7 : (7 ≤ sizeLine) = True := eq_true (by decide)
  have s8 : (8 ≤ sizeLine) = True := eq_true (by decide)
  have key : Wp (F_law [law_D ns] []) fun d _ => d = .bl true := by
    unfold F_law
    rw [Lb_eq, wp_run]
    unfold Lr0 Ls0
    rw [wps_seq, wps_set, wp_lst, wp_cons, wp_tup]
    simp only [entry, wp_call, wp_cons, wp_nil, wp_var, wp_c, wp_ok, List.map_cons, List.map_nil, List.cons_append, List.nil_append, List.getElem?_cons_zero, List.getElem?_cons_succ, List.length_cons, List.length_nil, if_true, wp_tup, Nat.zero_add, Nat.reduceAdd, s4, s8, List.replicate, Nat.reduceSub, List.set_cons_succ, List.set_cons_zero]
    have q0 : (([] : Sto) ++ [SO.lst knA])[0]? = some (.lst knA) := rfl
    show sq Lr1 _ (.nx [some (law_D ns), some (.ref 0), none, none, none, none]) (([] : Sto) ++ [SO.lst knA])
    generalize ([] : Sto) ++ [SO.lst knA] = T0 at q0 ⊢
    rw [sq_nx]; unfold Lr1 Ls1
    rw [wps_seq, wps_set, wp_d2, wp_var]
    simp only [entry, wp_call, wp_cons, wp_nil, wp_var, wp_c, wp_ok, List.map_cons, List.map_nil, List.cons_append, List.nil_append, List.getElem?_cons_zero, List.getElem?_cons_succ, List.length_cons, List.length_nil, if_true, wp_tup, wp_lst, Nat.zero_add, Nat.reduceAdd, s4, s7]
    have ea : dAdd (.ref 0) (.ref T0.length) (T0 ++ [SO.lst knB]) = .ok (.ref (T0 ++ [SO.lst knB]).length) ((T0 ++ [SO.lst knB]) ++ [SO.lst (knA ++ knB)]) := by
      have q1 : (T0 ++ [SO.lst knB])[0]? = some (.lst knA) := get_app q0
      unfold dAdd
      simp only [q1, get_new]
      have z : knA.length + knB.length ≤ sizeLine := show 15 ≤ sizeLine by decide
      rw [if_pos z]
    show Wp (dAdd (.ref 0) (.ref T0.length) (T0 ++ [SO.lst knB])) _
    rw [ea, wp_ok]
    simp only [List.set_cons_succ, List.set_cons_zero]
    have q2 : ((T0 ++ [SO.lst knB]) ++ [SO.lst (knA ++ knB)])[(T0 ++ [SO.lst knB]).length]? = some (.lst (knA ++ knB)) := get_new
    generalize (T0 ++ [SO.lst knB]) ++ [SO.lst (knA ++ knB)] = T1 at q2 ⊢
    generalize (T0 ++ [SO.lst knB]).length = nk at q2 ⊢
    rw [sq_nx]; unfold Lr2 Ls2
    rw [wps_seq, wps_for]
    have hlen : ∀ T : Sto, nLen [law_D ns] T = .ok (.int (ns.length : Nat)) T := fun T => by
      unfold law_D
      rw [nLen_fl, List.length_map]
    simp only [entry, wp_call, wp_cons, wp_nil, wp_var, wp_c, wp_ok, List.map_cons, List.map_nil, List.cons_append, List.nil_append, List.getElem?_cons_zero, List.getElem?_cons_succ, List.length_cons, List.length_nil, if_true, wp_iR1, wp_dN, hlen, nMin_int, nMax_int]
    generalize hk : (if (if (ns.length : Int) < 3 then (ns.length : Int) else 3) > 1 then (if (ns.length : Int) < 3 then (ns.length : Int) else 3) else 1) = k
    have hk1 : 0 ≤ k ∧ k ≤ 3 := by
      rw [← hk]
      split <;> split <;> omega
    rw [if_pos (by omega)]
    refine for_inv (fun ds ρ S => (∃ a b c, ρ = [some (law_D ns), some (.ref nk), a, b, c, none]) ∧ (∀ d ∈ ds, ∃ i : Nat, d = .int (i : Int) ∧ i ≤ 10) ∧ S[nk]? = some (.lst (knA ++ knB))) (fun d ds ρ S hI => ?_) (fun ρ S hI => ?_) (ds := rngD 0 k.toNat) ⟨⟨_, _, _, rfl⟩, fun d hd => ?_, q2⟩
    · obtain ⟨⟨a, b, c, rfl⟩, hd, hS⟩ := hI
      obtain ⟨i, rfl, hi⟩ := hd d List.mem_cons_self
      refine ⟨_, rfl, ?_⟩
      rw [wps_seq, wps_set]
      simp only [entry, wp_call, wp_cons, wp_nil, wp_var, wp_c, wp_ok, List.map_cons, List.map_nil, List.cons_append, List.nil_append, List.getElem?_cons_zero, List.getElem?_cons_succ, List.length_cons, List.length_nil, if_true, List.set_cons_succ, List.set_cons_zero]
      refine dice_ok (by omega) fun x y => ?_
      have hD : Dice (S ++ [SO.lst [.int x, .int y, .int 0]]) S.length 0 := ⟨x, y, 0, get_new, Nat.le_refl _⟩
      have nS : nk ≠ S.length := by
        have := (List.getElem?_eq_some_iff.mp hS).1
        omega
      have hS1 : (S ++ [SO.lst [.int x, .int y, .int 0]])[nk]? = some (.lst (knA ++ knB)) := get_app hS
      generalize S ++ [SO.lst [.int x, .int y, .int 0]] = S1 at hD hS1 ⊢
      generalize S.length = nd at hD nS ⊢
      rw [sq_nx, wps_seq, wps_if, wp_fNot, wp_fT, wp_call]
      simp only [entry, wp_call, wp_cons, wp_nil, wp_var, wp_c, wp_ok, List.map_cons, List.map_nil, List.cons_append, List.nil_append, List.getElem?_cons_zero, List.getElem?_cons_succ, List.length_cons, List.length_nil, if_true]
      refine pick_ok hD hS1 nS (show 1 ≤ 15 by decide) (show 15 ≤ 1000 by decide) (by omega) fun t S2 ht dS2 eS2 lS2 => ?_
      obtain ⟨n', k', l', m', rfl, hp⟩ := kn_mem ht
      refine right_ok hp fun S3 h3 => ?_
      simp only [truD_bl, wp_ok, Bool.not_true, Bool.false_eq_true, if_false, wps_nil]
      have d3 := dS2.up h3 (Nat.le_refl _)
      have hS3 := h3.get (eS2.get hS1 nS)
      rw [sq_nx, wps_for, wp_iR1]
      simp only [entry, wp_call, wp_cons, wp_nil, wp_var, wp_c, wp_ok, List.map_cons, List.map_nil, List.cons_append, List.nil_append, List.getElem?_cons_zero, List.getElem?_cons_succ, List.length_cons, List.length_nil, if_true]
      rw [if_pos (by decide)]
      refine for_inv (fun es ρ T => (∃ f, ρ = [some (law_D ns), some (.ref nk), some (.int (i : Int)), some (.ref nd), f, none]) ∧ es.length ≤ 6 ∧ Dice T nd (20 * (7 - es.length)) ∧ T[nk]? = some (.lst (knA ++ knB))) (fun d' es ρ T hI2 => ?_) (fun ρ T hI2 => ?_) ⟨⟨_, rfl⟩, by simp, d3.up Ex.refl (by simp), hS3⟩
      · obtain ⟨⟨f, rfl⟩, hes, hDT, hT⟩ := hI2
        rw [List.length_cons] at hes hDT
        refine ⟨_, rfl, ?_⟩
        rw [wps_if, wp_fNot, wp_fT, wp_call]
        simp only [entry, wp_call, wp_cons, wp_nil, wp_var, wp_c, wp_ok, List.map_cons, List.map_nil, List.cons_append, List.nil_append, List.getElem?_cons_zero, List.getElem?_cons_succ, List.length_cons, List.length_nil, if_true, List.set_cons_succ, List.set_cons_zero]
        refine tuple_drawn_ok hDT (by omega) fun n' k' l' m' T1 hp d1 e1 => ?_
        refine right_ok hp fun T2 h2 => ?_
        simp only [truD_bl, wp_ok, Bool.not_true, Bool.false_eq_true, if_false, wps_nil]
        exact ⟨rfl, ⟨_, rfl⟩, by omega, d1.up h2 (by omega), h2.get (e1.get hT nS)⟩
      · obtain ⟨⟨f, rfl⟩, _, _, hT⟩ := hI2
        exact ⟨rfl, ⟨_, _, _, rfl⟩, fun e he => hd e (List.mem_cons_of_mem _ he), hT⟩
    · obtain ⟨⟨a, b, c, rfl⟩, _, _⟩ := hI
      rw [sq_nx]
      exact end_ok
    · unfold rngD at hd
      obtain ⟨i, hi, rfl⟩ := List.mem_map.mp hd
      exact ⟨i, by simp, by have := List.mem_range.mp hi; omega⟩
  obtain ⟨d, T, e, rfl⟩ := key.out
  exact ⟨T, e⟩
end K48
set_option Elab.async false
set_option linter.all false
set_option maxRecDepth 100000
set_option maxHeartbeats 0
namespace K48
open PySem PySem.Spec PyProof.Rows L2 MP MX LamX
def dd_is_whole : He.DefD := ⟨("is_whole", none), "is_whole", "is_whole", defArgs st_is_whole, defBody st_is_whole, defScope st_is_whole, [], []⟩
def dd_is_integer : He.DefD := ⟨("is_integer", none), "is_integer", "is_integer", defArgs st_is_integer, defBody st_is_integer, defScope st_is_integer, [], []⟩
def dd_is_within : He.DefD := ⟨("is_within", none), "is_within", "is_within", defArgs st_is_within, defBody st_is_within, defScope st_is_within, [], []⟩
def dd_require_within : He.DefD := ⟨("require_within", none), "require_within", "require_within", defArgs st_require_within, defBody st_require_within, defScope st_require_within, [], []⟩
def dd_whole_root : He.DefD := ⟨("whole_root", none), "whole_root", "whole_root", defArgs st_whole_root, defBody st_whole_root, defScope st_whole_root, [], []⟩
def dd_left_in : He.DefD := ⟨("left_in", none), "left_in", "left_in", defArgs st_left_in, defBody st_left_in, defScope st_left_in, [], []⟩
def dd_is_in_range : He.DefD := ⟨("is_in_range", none), "is_in_range", "is_in_range", defArgs st_is_in_range, defBody st_is_in_range, defScope st_is_in_range, [], []⟩
def dd_spread_of : He.DefD := ⟨("spread_of", none), "spread_of", "spread_of", defArgs st_spread_of, defBody st_spread_of, defScope st_spread_of, [], []⟩
def dd_tilt_of : He.DefD := ⟨("tilt_of", none), "tilt_of", "tilt_of", defArgs st_tilt_of, defBody st_tilt_of, defScope st_tilt_of, [], []⟩
def dd_has_half_shape : He.DefD := ⟨("has_half_shape", none), "has_half_shape", "has_half_shape", defArgs st_has_half_shape, defBody st_has_half_shape, defScope st_has_half_shape, [], []⟩
def dd_is_two_squares : He.DefD := ⟨("is_two_squares", none), "is_two_squares", "is_two_squares", defArgs st_is_two_squares, defBody st_is_two_squares, defScope st_is_two_squares, [], []⟩
def dd_numbers_in : He.DefD := ⟨("numbers_in", none), "numbers_in", "numbers_in", defArgs st_numbers_in, defBody st_numbers_in, defScope st_numbers_in, [], []⟩
def dd_eigenvalues_in : He.DefD := ⟨("eigenvalues_in", none), "eigenvalues_in", "eigenvalues_in", defArgs st_eigenvalues_in, defBody st_eigenvalues_in, defScope st_eigenvalues_in, [], []⟩
def dd_keeps_krein : He.DefD := ⟨("keeps_krein", none), "keeps_krein", "keeps_krein", defArgs st_keeps_krein, defBody st_keeps_krein, defScope st_keeps_krein, [], []⟩
def dd_has_krein_fault : He.DefD := ⟨("has_krein_fault", none), "has_krein_fault", "has_krein_fault", defArgs st_has_krein_fault, defBody st_has_krein_fault, defScope st_has_krein_fault, [], []⟩
def dd_has_absolute_fault : He.DefD := ⟨("has_absolute_fault", none), "has_absolute_fault", "has_absolute_fault", defArgs st_has_absolute_fault, defBody st_has_absolute_fault, defScope st_has_absolute_fault, [], []⟩
def dd_fault_in : He.DefD := ⟨("fault_in", none), "fault_in", "fault_in", defArgs st_fault_in, defBody st_fault_in, defScope st_fault_in, [], []⟩
def dd_require_tuple : He.DefD := ⟨("require_tuple", none), "require_tuple", "require_tuple", defArgs st_require_tuple, defBody st_require_tuple, defScope st_require_tuple, [], []⟩
def dd_tuple_fault : He.DefD := ⟨("tuple_fault", none), "tuple_fault", "tuple_fault", defArgs st_tuple_fault, defBody st_tuple_fault, defScope st_tuple_fault, [], []⟩
def dd_is_half : He.DefD := ⟨("is_half", none), "is_half", "is_half", defArgs st_is_half, defBody st_is_half, defScope st_is_half, [], []⟩
def dd_left_tuple : He.DefD := ⟨("left_tuple", none), "left_tuple", "left_tuple", defArgs st_left_tuple, defBody st_left_tuple, defScope st_left_tuple, [], []⟩
def dd_tuple_values : He.DefD := ⟨("tuple_values", none), "tuple_values", "tuple_values", defArgs st_tuple_values, defBody st_tuple_values, defScope st_tuple_values, [], []⟩
def dd__law_dice : He.DefD := ⟨("_law_dice", none), "_law_dice", "_law_dice", defArgs st__law_dice, defBody st__law_dice, defScope st__law_dice, [], []⟩
def dd__law_roll : He.DefD := ⟨("_law_roll", none), "_law_roll", "_law_roll", defArgs st__law_roll, defBody st__law_roll, defScope st__law_roll, [], []⟩
def dd__law_pick : He.DefD := ⟨("_law_pick", none), "_law_pick", "_law_pick", defArgs st__law_pick, defBody st__law_pick, defScope st__law_pick, [], []⟩
def dd__law_tw_root : He.DefD := ⟨("_law_tw_root", none), "_law_tw_root", "_law_tw_root", defArgs st__law_tw_root, defBody st__law_tw_root, defScope st__law_tw_root, [], []⟩
def dd__law_tw_is_square : He.DefD := ⟨("_law_tw_is_square", none), "_law_tw_is_square", "_law_tw_is_square", defArgs st__law_tw_is_square, defBody st__law_tw_is_square, defScope st__law_tw_is_square, [], []⟩
def dd__law_tw_left : He.DefD := ⟨("_law_tw_left", none), "_law_tw_left", "_law_tw_left", defArgs st__law_tw_left, defBody st__law_tw_left, defScope st__law_tw_left, [], []⟩
def dd__law_tw_two_squares : He.DefD := ⟨("_law_tw_two_squares", none), "_law_tw_two_squares", "_law_tw_two_squares", defArgs st__law_tw_two_squares, defBody st__law_tw_two_squares, defScope st__law_tw_two_squares, [], []⟩
def dd__law_tw_is_over : He.DefD := ⟨("_law_tw_is_over", none), "_law_tw_is_over", "_law_tw_is_over", defArgs st__law_tw_is_over, defBody st__law_tw_is_over, defScope st__law_tw_is_over, [], []⟩
def dd__law_tw_fault : He.DefD := ⟨("_law_tw_fault", none), "_law_tw_fault", "_law_tw_fault", defArgs st__law_tw_fault, defBody st__law_tw_fault, defScope st__law_tw_fault, [], []⟩
def dd__law_tw_values : He.DefD := ⟨("_law_tw_values", none), "_law_tw_values", "_law_tw_values", defArgs st__law_tw_values, defBody st__law_tw_values, defScope st__law_tw_values, [], []⟩
def dd__law_tuple_drawn : He.DefD := ⟨("_law_tuple_drawn", none), "_law_tuple_drawn", "_law_tuple_drawn", defArgs st__law_tuple_drawn, defBody st__law_tuple_drawn, defScope st__law_tuple_drawn, [], []⟩
def dd__law_met : He.DefD := ⟨("_law_met", none), "_law_met", "_law_met", defArgs st__law_met, defBody st__law_met, defScope st__law_met, [], []⟩
def dd__law_right : He.DefD := ⟨("_law_right", none), "_law_right", "_law_right", defArgs st__law_right, defBody st__law_right, defScope st__law_right, [], []⟩
def dd_law : He.DefD := ⟨("law", none), "law", "law", defArgs st_law, defBody st_law, defScope st_law, [], []⟩
def fn0 : List He.DefD := [dd_is_whole, dd_is_integer, dd_is_within, dd_require_within, dd_whole_root, dd_left_in, dd_is_in_range, dd_spread_of, dd_tilt_of, dd_has_half_shape, dd_is_two_squares, dd_numbers_in, dd_eigenvalues_in, dd_keeps_krein, dd_has_krein_fault, dd_has_absolute_fault, dd_fault_in, dd_require_tuple, dd_tuple_fault, dd_is_half]
def fn1 : List He.DefD := [dd_left_tuple, dd_tuple_values, dd__law_dice, dd__law_roll, dd__law_pick, dd__law_tw_root, dd__law_tw_is_square, dd__law_tw_left, dd__law_tw_two_squares, dd__law_tw_is_over, dd__law_tw_fault, dd__law_tw_values, dd__law_tuple_drawn, dd__law_met, dd__law_right, dd_law]
def fn : List He.DefD := fn0 ++ fn1
def tf : List He.Defn := [("_law_right", none), ("law", none)]
def fnvN : List Str := []
def clsN : List Str := ["ThirdError", "InvalidOperation", "InvalidNumber", "Refused"]
def MM (K : PySem.W.Frag) : Md := ⟨K, fun i => He.ga K (fnvN.getD i ""), fun i => He.ga K (clsN.getD i ""), tsOf K tf, csOf K tf⟩
def fa0 : List He.Fa := [.glo "is_whole", .glo "is_integer", .glo "is_within", .glo "require_within", .glo "whole_root", .glo "left_in", .glo "is_in_range", .glo "spread_of", .glo "tilt_of", .glo "has_half_shape", .glo "is_two_squares", .glo "numbers_in", .glo "eigenvalues_in", .glo "keeps_krein", .glo "has_krein_fault", .glo "has_absolute_fault", .glo "fault_in", .glo "require_tuple", .glo "tuple_fault", .glo "is_half", .glo "left_tuple", .glo "tuple_values", .glo "_law_dice", .glo "_law_roll", .glo "_law_pick", .glo "_law_tw_root", .glo "_law_tw_is_square", .glo "_law_tw_left", .glo "_law_tw_two_squares", .glo "_law_tw_is_over"]
def fa1 : List He.Fa := [.glo "_law_tw_fault", .glo "_law_tw_values", .glo "_law_tuple_drawn", .glo "_law_met", .glo "_law_right", .glo "law", .glo "ThirdError", .glo "InvalidOperation", .glo "InvalidNumber", .glo "Refused", .free "abs", .free "any", .free "bool", .free "int", .free "isinstance", .free "len", .free "max", .free "min", .free "range"]
def fa : List He.Fa := fa0 ++ fa1
abbrev cst_InvalidNumber : Stmt := top 4
theorem init_InvalidNumber : InitSh "given" (defArgs (cinit cst_InvalidNumber)) (defBody (cinit cst_InvalidNumber)) (defScope (cinit cst_InvalidNumber)) "InvalidNumber.__init__" "self" "given" "a number within the told bounds is expected" := ⟨⟨_, _, _, _, _, _, _, _, _, _, _, rfl, by decide +kernel, rfl, rfl, rfl, rfl, rfl, rfl, rfl, ⟨_, rfl, rfl⟩, ⟨_, fun env => rfl⟩⟩, fun _ _ _ _ _ _ _ _ => rfl, by decide, by decide, by decide⟩
abbrev cst_Refused : Stmt := top 5
theorem init_Refused : InitSh "reason" (defArgs (cinit cst_Refused)) (defBody (cinit cst_Refused)) (defScope (cinit cst_Refused)) "Refused.__init__" "self" "reason" "something is refused" := ⟨⟨_, _, _, _, _, _, _, _, _, _, _, rfl, by decide +kernel, rfl, rfl, rfl, rfl, rfl, rfl, rfl, ⟨_, rfl, rfl⟩, ⟨_, fun env => rfl⟩⟩, fun _ _ _ _ _ _ _ _ => rfl, by decide, by decide, by decide⟩
def ins : List Str := ["InvalidNumber", "Refused"]
def insV : List InW := [some ("__init__", "InvalidNumber.__init__", defArgs (cinit cst_InvalidNumber), .stmts (defBody (cinit cst_InvalidNumber)), defScope (cinit cst_InvalidNumber), mainGlobals, builtinsNs), some ("__init__", "Refused.__init__", defArgs (cinit cst_Refused), .stmts (defBody (cinit cst_Refused)), defScope (cinit cst_Refused), mainGlobals, builtinsNs)]
def exL (K : PySem.W.Frag) : List Bool := [konB K "ABSOLUTE" c_ABSOLUTE,
  konB K "BOUND" c_BOUND,
  konB K "COUNT" c_COUNT,
  konB K "HALF" c_HALF,
  konB K "KREIN" c_KREIN,
  konB K "MOST_TUPLE" c_MOST_TUPLE,
  konB K "RANGE" c_RANGE,
  konB K "SQUARES" c_SQUARES,
  konB K "TIES" c_TIES,
  konB K "VALUES" c_VALUES,
  bltB K "isqrt" "math.isqrt",
  k0B K "InvalidOperation" [.type "ValueError", .type "Exception", .type "BaseException", .type "object"] "ValueError.__new__",
  k1B K "InvalidNumber" "given" "IndexError" "IndexError.__new__" "IndexError.__init__" [.type "IndexError", .type "LookupError", .type "Exception", .type "BaseException", .type "object"] PySem.Challenge.pw_thirdcounts_k48_whole_faults_of_tuples.main.file "InvalidNumber.__init__",
  k1B K "Refused" "reason" "ArithmeticError" "ArithmeticError.__new__" "ArithmeticError.__init__" [.type "ArithmeticError", .type "Exception", .type "BaseException", .type "object"] PySem.Challenge.pw_thirdcounts_k48_whole_faults_of_tuples.main.file "Refused.__init__",
  kfB K "Refused" "reason",
  kxB K (fun i => He.ga K (clsN.getD i "")) 4 subX,
  uqB K tf]
def exB (K : PySem.W.Frag) : Bool := (exL K).all id
def loose0 : List Str := ["ThirdError", "InvalidOperation", "InvalidNumber", "Refused", "BOUND", "is_whole", "is_integer", "is_within", "require_within", "whole_root", "MOST_TUPLE", "RANGE", "COUNT", "TIES", "SQUARES", "VALUES", "KREIN", "ABSOLUTE", "HALF", "left_in", "is_in_range", "spread_of", "tilt_of", "has_half_shape", "is_two_squares", "numbers_in", "eigenvalues_in", "keeps_krein", "has_krein_fault", "has_absolute_fault"]
def loose1 : List Str := ["fault_in", "require_tuple", "tuple_fault", "is_half", "left_tuple", "tuple_values", "_law_dice", "_law_roll", "_law_pick", "_law_tw_is_square", "_law_tw_root", "_law_tw_left", "_law_tw_two_squares", "_law_tw_fault", "_law_tw_is_over", "_law_tw_values", "_law_tuple_drawn", "_law_met", "_law_right"]
def loose : List Str := loose0 ++ loose1
abbrev R : PySem.W.OpenRow := PySem.W.OpenLaw.row PySem.Challenge.rw_thirdcounts_k48_whole_faults_of_tuples
abbrev hk : PySem.W.Hook := hookY 4 fa fn tf exB ins insV
def ob (s : PySem.W.SharedT) : AlY := obsY 4 fa fn tf exB ins (HandSHeadRun.getT s)
theorem ob_eq (s : PySem.W.SharedT) : ob s = hk.obs s.abs := obsY_eq (HandSHeadRun.getT_eq s)
theorem run (w : World) : HandSHeadRun.RunEqI R (PySem.W.view R.prog [0, 54]) hk ob 4000 loose w := by
  unfold HandSHeadRun.RunEqI
  kernel_rfl
theorem mo_of {w : World} {K : PySem.W.Frag} {h : Heap} {mg : Str → Option Value} (KX : K.In h) (G : h.Ns mainGlobals mg) (c : SaysY fa fn tf exB ins insV w h K) : Mo PySem.Challenge.pw_thirdcounts_k48_whole_faults_of_tuples mg (MM K) := by
  have cd := c.x.t.d
  have ex : ∀ i, (h : i < (exL K).length) → (exL K)[i] = true := fun i h => List.all_eq_true.mp c.x.more _ (List.getElem_mem h)
  have uq : uqB K tf = true := ex 16 (show 16 < 17 by decide)
  refine {
    f_abs := He.free_ok KX G (cd.fact 40 rfl)
    f_any := He.free_ok KX G (cd.fact 41 rfl)
    f_bool := He.free_ok KX G (cd.fact 42 rfl)
    f_int := He.free_ok KX G (cd.fact 43 rfl)
    f_isinstance := He.free_ok KX G (cd.fact 44 rfl)
    f_len := He.free_ok KX G (cd.fact 45 rfl)
    f_max := He.free_ok KX G (cd.fact 46 rfl)
    f_min := He.free_ok KX G (cd.fact 47 rfl)
    f_range := He.free_ok KX G (cd.fact 48 rfl)
    g_ABSOLUTE := konB_ok KX G (ex 0 (show 0 < 17 by decide))
    g_BOUND := konB_ok KX G (ex 1 (show 1 < 17 by decide))
    g_COUNT := konB_ok KX G (ex 2 (show 2 < 17 by decide))
    g_HALF := konB_ok KX G (ex 3 (show 3 < 17 by decide))
    g_KREIN := konB_ok KX G (ex 4 (show 4 < 17 by decide))
    g_MOST_TUPLE := konB_ok KX G (ex 5 (show 5 < 17 by decide))
    g_RANGE := konB_ok KX G (ex 6 (show 6 < 17 by decide))
    g_SQUARES := konB_ok KX G (ex 7 (show 7 < 17 by decide))
    g_TIES := konB_ok KX G (ex 8 (show 8 < 17 by decide))
    g_VALUES := konB_ok KX G (ex 9 (show 9 < 17 by decide))
    g_isqrt := bltB_ok KX G (ex 10 (show 10 < 17 by decide))
    k_InvalidOperation := k0B_ok KX G PySem.F.excBase_ValueError rfl (ex 11 (show 11 < 17 by decide))
    k_InvalidNumber := k1B_ok KX G sup_IndexError rfl (ex 12 (show 12 < 17 by decide)) (congrArg (fun z : List InW => z.getD 0 none) c.ini) init_InvalidNumber (by kernel_rfl)
    k_Refused := k1B_ok KX G sup_ArithmeticError rfl (ex 13 (show 13 < 17 by decide)) (congrArg (fun z : List InW => z.getD 1 none) c.ini) init_Refused (by kernel_rfl)
    kf_Refused := kfB_ok rfl (ex 14 (show 14 < 17 by decide))
    kx := kxB_ok (ex 15 (show 15 < 17 by decide))
    c_InvalidOperation := He.glo_ok KX G (x := "InvalidOperation") (cd.fact 37 rfl)
    c_Refused := He.glo_ok KX G (x := "Refused") (cd.fact 39 rfl)
    d_is_whole := (cd.def_ 0 (d := dd_is_whole) rfl).elim fun fd F => ⟨_, fd, F, He.glo_ok KX G (cd.fact 0 rfl)⟩
    d_is_integer := (cd.def_ 1 (d := dd_is_integer) rfl).elim fun fd F => ⟨_, fd, F, He.glo_ok KX G (cd.fact 1 rfl)⟩
    d_is_within := (cd.def_ 2 (d := dd_is_within) rfl).elim fun fd F => ⟨_, fd, F, He.glo_ok KX G (cd.fact 2 rfl)⟩
    d_require_within := (cd.def_ 3 (d := dd_require_within) rfl).elim fun fd F => ⟨_, fd, F, He.glo_ok KX G (cd.fact 3 rfl)⟩
    d_whole_root := (cd.def_ 4 (d := dd_whole_root) rfl).elim fun fd F => ⟨_, fd, F, He.glo_ok KX G (cd.fact 4 rfl)⟩
    d_left_in := (cd.def_ 5 (d := dd_left_in) rfl).elim fun fd F => ⟨_, fd, F, He.glo_ok KX G (cd.fact 5 rfl)⟩
    d_is_in_range := (cd.def_ 6 (d := dd_is_in_range) rfl).elim fun fd F => ⟨_, fd, F, He.glo_ok KX G (cd.fact 6 rfl)⟩
    d_spread_of := (cd.def_ 7 (d := dd_spread_of) rfl).elim fun fd F => ⟨_, fd, F, He.glo_ok KX G (cd.fact 7 rfl)⟩
    d_tilt_of := (cd.def_ 8 (d := dd_tilt_of) rfl).elim fun fd F => ⟨_, fd, F, He.glo_ok KX G (cd.fact 8 rfl)⟩
    d_has_half_shape := (cd.def_ 9 (d := dd_has_half_shape) rfl).elim fun fd F => ⟨_, fd, F, He.glo_ok KX G (cd.fact 9 rfl)⟩
    d_is_two_squares := (cd.def_ 10 (d := dd_is_two_squares) rfl).elim fun fd F => ⟨_, fd, F, He.glo_ok KX G (cd.fact 10 rfl)⟩
    d_numbers_in := (cd.def_ 11 (d := dd_numbers_in) rfl).elim fun fd F => ⟨_, fd, F, He.glo_ok KX G (cd.fact 11 rfl)⟩
    d_eigenvalues_in := (cd.def_ 12 (d := dd_eigenvalues_in) rfl).elim fun fd F => ⟨_, fd, F, He.glo_ok KX G (cd.fact 12 rfl)⟩
    d_keeps_krein := (cd.def_ 13 (d := dd_keeps_krein) rfl).elim fun fd F => ⟨_, fd, F, He.glo_ok KX G (cd.fact 13 rfl)⟩
    d_has_krein_fault := (cd.def_ 14 (d := dd_has_krein_fault) rfl).elim fun fd F => ⟨_, fd, F, He.glo_ok KX G (cd.fact 14 rfl)⟩
    d_has_absolute_fault := (cd.def_ 15 (d := dd_has_absolute_fault) rfl).elim fun fd F => ⟨_, fd, F, He.glo_ok KX G (cd.fact 15 rfl)⟩
    d_fault_in := (cd.def_ 16 (d := dd_fault_in) rfl).elim fun fd F => ⟨_, fd, F, He.glo_ok KX G (cd.fact 16 rfl)⟩
    d_require_tuple := (cd.def_ 17 (d := dd_require_tuple) rfl).elim fun fd F => ⟨_, fd, F, He.glo_ok KX G (cd.fact 17 rfl)⟩
    d_tuple_fault := (cd.def_ 18 (d := dd_tuple_fault) rfl).elim fun fd F => ⟨_, fd, F, He.glo_ok KX G (cd.fact 18 rfl)⟩
    d_is_half := (cd.def_ 19 (d := dd_is_half) rfl).elim fun fd F => ⟨_, fd, F, He.glo_ok KX G (cd.fact 19 rfl)⟩
    d_left_tuple := (cd.def_ 20 (d := dd_left_tuple) rfl).elim fun fd F => ⟨_, fd, F, He.glo_ok KX G (cd.fact 20 rfl)⟩
    d_tuple_values := (cd.def_ 21 (d := dd_tuple_values) rfl).elim fun fd F => ⟨_, fd, F, He.glo_ok KX G (cd.fact 21 rfl)⟩
    d__law_dice := (cd.def_ 22 (d := dd__law_dice) rfl).elim fun fd F => ⟨_, fd, F, He.glo_ok KX G (cd.fact 22 rfl)⟩
    d__law_roll := (cd.def_ 23 (d := dd__law_roll) rfl).elim fun fd F => ⟨_, fd, F, He.glo_ok KX G (cd.fact 23 rfl)⟩
    d__law_pick := (cd.def_ 24 (d := dd__law_pick) rfl).elim fun fd F => ⟨_, fd, F, He.glo_ok KX G (cd.fact 24 rfl)⟩
    d__law_tw_root := (cd.def_ 25 (d := dd__law_tw_root) rfl).elim fun fd F => ⟨_, fd, F, He.glo_ok KX G (cd.fact 25 rfl)⟩
    d__law_tw_is_square := (cd.def_ 26 (d := dd__law_tw_is_square) rfl).elim fun fd F => ⟨_, fd, F, He.glo_ok KX G (cd.fact 26 rfl)⟩
    d__law_tw_left := (cd.def_ 27 (d := dd__law_tw_left) rfl).elim fun fd F => ⟨_, fd, F, He.glo_ok KX G (cd.fact 27 rfl)⟩
    d__law_tw_two_squares := (cd.def_ 28 (d := dd__law_tw_two_squares) rfl).elim fun fd F => ⟨_, fd, F, He.glo_ok KX G (cd.fact 28 rfl)⟩
    d__law_tw_is_over := (cd.def_ 29 (d := dd__law_tw_is_over) rfl).elim fun fd F => ⟨_, fd, F, He.glo_ok KX G (cd.fact 29 rfl)⟩
    d__law_tw_fault := (cd.def_ 30 (d := dd__law_tw_fault) rfl).elim fun fd F => ⟨_, fd, F, He.glo_ok KX G (cd.fact 30 rfl)⟩
    d__law_tw_values := (cd.def_ 31 (d := dd__law_tw_values) rfl).elim fun fd F => ⟨_, fd, F, He.glo_ok KX G (cd.fact 31 rfl)⟩
    d__law_tuple_drawn := (cd.def_ 32 (d := dd__law_tuple_drawn) rfl).elim fun fd F => ⟨_, fd, F, He.glo_ok KX G (cd.fact 32 rfl)⟩
    d__law_met := (cd.def_ 33 (d := dd__law_met) rfl).elim fun fd F => ⟨_, fd, F, He.glo_ok KX G (cd.fact 33 rfl)⟩
    d__law_right := (cd.def_ 34 (d := dd__law_right) rfl).elim fun fd F => defG_of (tf := tf) rfl rfl rfl F (He.glo_ok KX G (cd.fact 34 rfl)) (by decide) uq
    d_law := (cd.def_ 35 (d := dd_law) rfl).elim fun fd F => defG_of (tf := tf) rfl rfl rfl F (He.glo_ok KX G (cd.fact 35 rfl)) (by decide) uq
  }
end K48
open PySem PySem.W PySem.Calls PyProof.Rows
theorem PySem.Challenge.cw_thirdcounts_k48_whole_faults_of_tuples_holds : PySem.Challenge.rw_thirdcounts_k48_whole_faults_of_tuples.Holds := by
  w_on; o_law
  refine HandSHeadRun.head_imp (r := OpenLaw.row PySem.Challenge.rw_thirdcounts_k48_whole_faults_of_tuples) (q := view (OpenLaw.row PySem.Challenge.rw_thirdcounts_k48_whole_faults_of_tuples).prog [0, 54]) (H := K48.hk) (ob := K48.ob) (M := 4000) (loose := K48.loose) (d := HandSHeadRun.topDef (OpenLaw.row PySem.Challenge.rw_thirdcounts_k48_whole_faults_of_tuples).prog 54) (kwd := []) K48.ob_eq
    K48.run (by kernel_rfl) (by kernel_rfl) (by kernel_rfl) (by rfl) (by first | assumption | decide +kernel) (by decide +kernel) ⟨rfl, rfl, rfl, rfl, rfl, by decide +kernel⟩ ?hw ?hc
  case hw => w_witness2
  case hc =>
    refine MP.walk_ofY (l := PySem.Challenge.rw_thirdcounts_k48_whole_faults_of_tuples) (n := 63) (k := 10) (x := "_law_script") rfl (by decide) (by kernel_rfl) ⟨rfl, by decide, by decide⟩ ?F
    intro w mg fa h Y G hmg0
    obtain ⟨K, KX, c⟩ := Y
    have hmg : mg ("law" : PySem.Str) = some (.ref fa) := by
      have e : (HandSHeadRun.topDef (OpenLaw.row PySem.Challenge.rw_thirdcounts_k48_whole_faults_of_tuples).prog 54).name = ("law" : PySem.Str) := by kernel_rfl
      rw [← e]
      exact hmg0
    have m : K48.Mo PySem.Challenge.rw_thirdcounts_k48_whole_faults_of_tuples.prog mg (K48.MM K) := K48.mo_of KX G c
    obtain ⟨f, fd, c', Pt, F, hc', hf, hmc, hT, hu⟩ := m.d_law.ex
    have ef : f = fa := by
      have z := hf.symm.trans hmg
      cases z
      rfl
    subst ef
    have b := L2.FunD.bindsA (ps := ["_law_script"]) F fun _ _ _ _ _ _ us hl => match us, hl with | [_], _ => rfl
    have qs : ∀ p ∈ MP.csOf K K48.tf, ∃ q ∈ K48.tf, He.cT K q = p := fun p hp => List.mem_map.mp hp
    refine ⟨K, fd, MP.csOf K K48.tf, MP.spF (K48.MM K) 1 K48.F_law, KX, fun p hp => ?_, fun p hp => ?_, fun p hp => ?_, fun s v => b s [v] rfl, fun H a ns hl hO hS => ?_, fun base _ _ tb => ?_⟩
    · obtain ⟨q, hq, rfl⟩ := qs p hp
      exact c.x.empty q hq
    · obtain ⟨q, hq, rfl⟩ := qs p hp
      exact c.x.out q hq
    · obtain ⟨q, hq, rfl⟩ := qs p hp
      exact PySem.W.codeHd_of_K KX (c.x.hd q hq)
    · obtain ⟨S, e⟩ := K48.law_true ns hl
      exact MP.law_spT (M := K48.MM K) e hS (MP.tabs_nil hO)
    · exact K48.fo_law m tb F hc' hmc hT hu
