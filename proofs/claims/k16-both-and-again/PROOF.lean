import PyProof.Rows.All
import Wide.All
import OpenK.AllK
import Wide.FinOn
import HandS.ForMost
import HandS.ForExc
import HandS.Wide
import HandS.IsInst
import HandS.Flow
import HandS.CallSlots
import HandS.EndBits
import KE.KExcSuper
import HandS.ExcCtx
import HandS.HotCalls
import HandS.RaiseMore
import HandS.TryOnly
import KE.KUnpack
import PyProof.CollectIter
import KE.GoesMore
import KE.GoesEnum
import KE.GoesZip
import HandS.Star
import HandS.TupAny
import HandS.Deep
import HandS.SortInts
import HandS.Codes
import HandS.Property
import HandS.NoneIn
import HandS.SlotsOwn
import KE.RegKSuper
import KE.RegKIsAll
import PySem.Challenge.RW_everydecider_k16_both_and_again
set_option Elab.async false
set_option linter.all false
set_option maxRecDepth 100000
set_option maxHeartbeats 4000000
namespace Mi
open PySem PySem.W PySem.Calls PyProof.Rows L2

/-! ### an own error class: __init__(self, f) says super().__init__('..'), then self.f = f -/
def xbodyC (f : Str) : List Stmt → Bool
  | [.Expr (.Call (.Attribute (.Call (.Name a _) [] [] _) b p) [.Constant (.str _) _ _] [] q) _, .Assign [.Attribute (.Name c _) d _] (.Name e _) _] => a == ("super" : Str) && b == ("__init__" : Str) && c == ("self" : Str) && d == f && e == f && (p.endLine == q.line)
  | _ => false
def xscC (f : Str) (sc : Scope) : Bool :=
  (sc.names.lookup ("self" : Str) == some .local) && (sc.names.lookup f == some .local) && (sc.names.lookup ("super" : Str) == some .globalImplicit) && (sc.names.lookup ("__class__" : Str) == some .free) &&
  (sc.names.all fun x => !(x.2 == .cell)) && !sc.isCoroutine && !sc.isGenerator && (match sc.kind with | .function => true | _ => false) && !(f == ("__debug__" : Str)) && !(f == ("self" : Str))
theorem xbody_inv {f : Str} {b : List Stmt} (h : xbodyC f b = true) : ∃ p0 p1 p2 m j p3 p4 p5 q1 q2 q3 q4, (p2.endLine == p4.line) = true ∧ b = [.Expr (.Call (.Attribute (.Call (.Name "super" p0) [] [] p1) "__init__" p2) [.Constant (.str m) j p3] [] p4) p5, .Assign [.Attribute (.Name "self" q1) f q2] (.Name f q3) q4] := by
  unfold xbodyC at h
  split at h
  · simp only [Bool.and_eq_true, beq_iff_eq] at h
    obtain ⟨⟨⟨⟨⟨rfl, rfl⟩, rfl⟩, rfl⟩, rfl⟩, z⟩ := h
    exact ⟨_, _, _, _, _, _, _, _, _, _, _, _, by rw [z]; simp, rfl⟩
  · cases h
theorem mc_eq {o : Expr} {name : Str} {apos pos : Pos} {e : Expr} {env : Env} (hl : (apos.endLine == pos.line) = true) (hs : starEach [e] env = [(false, eval e env)]) : eval (.Call (.Attribute o name apos) [e] [] pos) env = (do
      let ov ← attributeBase o name env (eval o env)
      standAt apos.atName
      let (f, first) ← holding [ov] (getMethod ov name (do return (← importBound o env).getD true))
      callWith pos f first (backTo pos (starEach [e] env)) []) := by
  show (do
    let ov ← attributeBase o name env (eval o env)
    standAt apos.atName
    methodCall o name apos pos env ov 1 (backTo pos (starEach [e] env)) []) = _
  have hf : methodCallForm 1 (backTo pos (starEach [e] env)) [] = true := by rw [hs]; rfl
  unfold methodCall methodCallPos calleeOf
  rw [hf, hl]
  rfl
/-- what the written part says of the class -/
structure XcT (prog : Program) (K : Frag) (mg : Str → Option Value) (nm : Str) (f : Str) (C : Addr) : Prop where
  gC : mg nm = some (.ref C)
  cls : ∃ n0 q N bs bm sn sub ab col dd k0 k1 k2 k3 k5, K.lookup C = some (excClassObj n0 q C N bs bm true sn sub ab col dd k0 k1 k2 k3 k5 "ValueError.__new__") ∧ HandSPX.refsVE bm = true
  sa : findIn K (.ref C) "__setattr__" = some (some (.builtin "object.__setattr__"))
  ga : findIn K (.ref C) "__getattribute__" = some (some (.builtin "BaseException.__getattribute__"))
  gg : findIn K (.ref C) "__getattr__" = some none
  noN : findIn K (.ref C) f = some none
  kC : keepIn K (.ref C) = true
  exC : subIn K (.ref C) (.type "BaseException") = some true
  veC : subIn K (.ref C) (.type "ValueError") = some true
  meC : mroIn K C (.ref C) = some true
  tyC : typeIn K (.ref C) = some (.type "type")
  hdC : hasDictIn K C = true
  third : nsIn K cStatics "thirdparty.any" = some none
  sup : ks_superIn K C C "__init__" = some (some (.builtin "ValueError.__init__"))
  nosup : mg "super" = none
  topsup : (prog.main.scope.names.lookup ("super" : Str)).isSome = false
  fn : ∃ (fI cc cda : Addr) (qual : Str) (params : Arguments) (body : List Stmt) (scope : Scope) (oc : Value) (od : Option Addr) (doc pm : Value) (an : Option Addr) (ct : Value) (osl : Array (Option Value)) (ccl : Value) (cdd : Option Addr) (vs : Array Value) (ccs : Array (Option Value)) (cl : Value) (cld : Option Addr) (csl : Array (Option Value)) (file : Str) (tf : Tok) (ar : Arg),
    findIn K (.ref C) "__init__" = some (some (.ref fI)) ∧ typeIn K (.ref fI) = some (.type "function") ∧
    K.lookup fI = some ⟨oc, od, .func (ksFn "__init__" qual params body scope .none .none doc pm an (.ref cda) ct cc), osl⟩ ∧ codeIn K (.ref cda) qual = true ∧
    K.lookup cda = some ⟨ccl, cdd, .fields vs, ccs⟩ ∧ vs[2]? = some (.str file tf) ∧ ((prog.main.file : Str) == file) = true ∧ K.lookup cc = some ⟨cl, cld, .cell (some (.ref C)), csl⟩ ∧
    xbodyC f body = true ∧ xscC f scope = true ∧ (params.posonlyargs ++ params.args).head? = some ar ∧ ar.arg = ("self" : Str) ∧
    (∀ (s : Shared) (u v : Value), BindsTo s (ksFn "__init__" qual params body scope .none .none doc pm an (.ref cda) ct cc) ⟨[u, v], []⟩ [("self", u), (f, v)])
/-- what is left of a fresh error at x -/
structure XEnd (f : Str) (h h' : Heap) (x C dx : Addr) (v : Value) : Prop where
  keep : ∀ b o, b ≠ x → h.get? b = some o → h'.get? b = some o
  obj : ∃ t1 : Addr, h'.get? x = some { cls := .ref C, dict := some dx, data := .fields #[.ref t1, .none, .none, .none, .bool false, .none] }
  big : h.objs.size ≤ dx
  ne : dx ≠ x
  ns : h'.Ns1 dx (fun y => if y = f then some v else none)
section
variable {prog : Program} {w : World} {A : Around} {E : Value → Shared → Prop} {R : Result → Shared → Prop} {s : Shared} {K : Frag} {mg : Str → Option Value} {C : Addr} {nm f : Str}
/-- the wrapper, called -/
theorem xcall_mw {u e t0 : Addr} {rest : List Value} {Q : Value → Shared → Prop} {n0 q : Str} {N : Addr} {bs bm : List Value} {hdct : Bool} {sn : List Str} {sub : List Value} {ab : Bool} {col : Option Bool} {dd : Option Addr} {k0 k1 k2 k3 k5 : Option Value}
    (hC : s.heap.get? C = some (excClassObj n0 q C N bs bm hdct sn sub ab col dd k0 k1 k2 k3 k5 "ValueError.__new__")) (he : s.heap.get? e = some (HandSPX.excO C t0)) (hu : s.heap.get? u = some (kxs_mw "ValueError.__init__" e)) (hrest : rest.length ≤ sizeLine)
    (hq : ∀ h' t1, (∀ b o, b ≠ e → s.heap.get? b = some o → h'.get? b = some o) → h'.get? e = some (HandSPX.excO C t1) → Q .none { s with heap := h' }) :
    wpAny (model prog w) A (call (.ref u) rest) Q E s := by
  obtain ⟨hh, g, d, tk, os⟩ := s
  refine wpAny_call (codeAny_of_tree ?_)
  show wpAny _ A.in1 (callAny (.ref u) ⟨rest, []⟩) _ _ _
  simp only [callAny]
  refine wpAny_bind (wpAny_load hu ?_)
  have e1 : (Value.type "method-wrapper" == Value.type "method" || Value.type "method-wrapper" == Value.type "builtin_function_or_method" || Value.type "method-wrapper" == Value.type "method-wrapper") = true := by decide
  simp only [kxs_mw, e1, if_true]
  refine KFB.if_so (by decide) ?_
  refine wpAny_bind (check_bound_init F.excBase_ValueError.toExcCallFacts hC he rfl ?_)
  refine wpAny_bind (wpAny_pure (wpAny_pure ?_))
  refine ⟨plainId_quiet F.excBase_ValueError.init.plain _, codeAny_builtin F.excBase_ValueError.initEntry ?_⟩
  exact exc_init_tree (cls := .ref C) (t0 := t0) (dv := none) (c2 := .none) (c3 := .none) (b4 := .bool false) he hrest fun h' k e' _ => hq h' _ k e'
theorem xinit (T : XcT prog K mg nm f C) {base : Heap} (M : Mod K mg base) {fI : Addr} (hfI : findIn K (.ref C) "__init__" = some (some (.ref fI))) (kb : ∀ b o, base.get? b = some o → s.heap.get? b = some o) {x t0 : Addr} {v : Value} (hx : s.heap.get? x = some (HandSPX.excO C t0)) (hnx : K.lookup x = none) (hroom : A.depth < recursionLimit)
    (hq : ∀ h' tk dx, XEnd f s.heap h' x C dx v → R (.ok (.ret .none)) { s with heap := h', toks := tk }) :
    codeAny (model prog w) A (.call (.ref fI) ⟨[.ref x, v], []⟩) R s := by
  obtain ⟨fI', cc, cda, qual, params, body, scope, oc, od, doc, pm, an, ct, osl, ccl, cdd, vs, ccs, cl, cld, csl, file, tf, ar, h1, h2, hfn, hcode, hcda, hvs, hfile, hcc, hbody, hsc, hhead, har, hbind⟩ := T.fn
  rw [hfI] at h1; cases h1
  obtain ⟨n0, q, N, bs, bm, sn, sub, ab, col, dd, k0, k1, k2, k3, k5, hC, hbm⟩ := T.cls
  have hcl : clsIn K C = some { name := n0, bases := bs, mro := .ref C :: bm, ns := N, qualname := q, hasDict := true, slotNames := sn, subclasses := sub, abstract := ab, collection := col, hasDel := false } := by
    unfold clsIn
    rw [hC] <;> rfl
  obtain ⟨p0, p1, p2, m, j, p3, p4, p5, q1, q2, q3, q4, hline, hb⟩ := xbody_inv hbody
  simp only [xscC, Bool.and_eq_true, beq_iff_eq, Bool.not_eq_true', List.all_eq_true] at hsc
  obtain ⟨⟨⟨⟨⟨⟨⟨⟨⟨s1, s2⟩, s3⟩, s4⟩, s5⟩, s6⟩, s7⟩, s8⟩, s9⟩, s10⟩ := hsc
  have hk : scope.kind = .function := by
    split at s8
    · assumption
    · cases s8
  have XK : K.In s.heap := M.kin.keeps kb
  refine ks_codeAny_call_defAt (fd := ksFn "__init__" qual params body scope .none .none doc pm an (.ref cda) ct cc) (body := body) (binds := [("self", .ref x), (f, v)]) hroom (XK _ _ hfn) rfl (M.nolimit.keeps kb) (codeRec_of XK hcode) rfl (hbind _ _ _) (fun y hy => ?_) (fun y hy => ?_) (fun h₀ hns hk₀ => ?_) s6 s7 hk
  · have := s5 y hy
    intro z
    rw [z] at this
    exact absurd this (by decide)
  · simp only [List.mem_cons, List.mem_nil_iff, or_false] at hy
    rcases hy with rfl | rfl
    · exact s1
    · exact s2
  · have hself : ([((("self" : Str)), Value.ref x), (f, v)].reverse.lookup ("self" : Str)) = some (.ref x) := by
      have : (("self" : Str) == f) = false := by
        cases z : (("self" : Str) == f) with
        | false => rfl
        | true => have := eq_of_beq z; rw [← this] at s10; simp at s10
      simp [List.lookup, this]
    have hfv : ([((("self" : Str)), Value.ref x), (f, v)].reverse.lookup f) = some v := by simp [List.lookup]
    have X1 : K.In h₀ := XK.keeps hk₀
    have hx1 := hk₀ _ _ hx
    let env : Env := callEnv (ksFn "__init__" qual params body scope .none .none doc pm an (.ref cda) ct cc) s.heap.objs.size fI
    have hi : interactive env = false := by
      show (scope.kind == .module && _) = false
      rw [hk]
      rfl
    obtain ⟨mb, hblt, hmb⟩ := M.blt
    have kb1 : ∀ b o, base.get? b = some o → h₀.get? b = some o := fun b o e => hk₀ b o (kb b o e)
    rw [hb]
    refine ks_wpAt_execs_cons (ks_wpAt_Expr_any (hi := hi) (ks_wpAt_MethodCall (he := mc_eq hline rfl) ?_))
    refine ks_wpAt_super_base (env := env) s3 s4 (by decide) rfl (X1 _ _ hfn) rfl hhead rfl (X1 _ _ hcda) rfl hvs hfile T.topsup ?_
    refine ks_loadName_global hk s3 (loadGlobal_builtin (env := env) (M.glob.keeps kb1) T.nosup (hblt.keeps kb1) ((hmb _ (by decide)).trans (show bootBuiltins "super" = some (.type "super") by decide +kernel)) ⟨rfl, ?_⟩)
    refine wpAny_loadName_free hk s4 rfl ⟨_, X1 _ _ hcc, rfl⟩ ?_
    rw [har]
    refine wpAny_loadName_local hk s1 hns hself ?_
    have hCo := X1 _ _ hC
    refine ks_wpAny_isType_cls hCo rfl ⟨rfl, ?_⟩
    refine ks_wpAny_call_super hCo rfl hx1 rfl (fun c e => by cases e) (looks_mroIn X1 T.meC) fun h2 hso k2 => ?_
    have X2 : K.In h2 := X1.keeps k2
    have hx2 := k2 _ _ hx1
    have IA : PySem.W.InstAt h2 x (HandSPX.excO C t0) C none := ⟨hx2, rfl, rfl, trivial⟩
    have hsup := T.sup
    unfold ks_superIn at hsup
    rw [hcl] at hsup
    refine kxs_getMethod kxs_ValueError hso (looks_opaque X2 T.third) (l₀ := .ref C :: bm) (fun A Q E s k q => wpAny_bind ((looks_clsIn X2 hcl) A _ E s k (wpAny_pure q))) rfl X2 hsup (IA.type.andThen (looks_subIn X2 T.veC)) (ks_ne X2 IA hcl) (by decide) ?_
    -- the call
    show wpAny _ _ (callWith p4 (.ref h2.objs.size) [] (backTo p4 (starEach [.Constant (.str m) j p3] env)) []) _ _ _
    refine kxs_callWith (i := "ValueError.__init__") (x := x) rfl ?_
    have cs : starEach [.Constant (.str m) j p3] env = [(false, eval (.Constant (.str m) j p3) env)] := rfl
    rw [cs]
    refine evalArgs_plain (spliced_cons ?_)
    show wpAny _ _ (eval (.Constant (.str m) j p3) env) _ _ _
    refine Calls.Constant_str ?_
    refine spliced_nil ?_
    have k3 : ∀ b o, h2.get? b = some o → (h2.push (kxs_mw "ValueError.__init__" x)).get? b = some o := fun b o e => Heap.get?_push_of_some _ e
    have hu : (h2.push (kxs_mw "ValueError.__init__" x)).get? h2.objs.size = some (kxs_mw "ValueError.__init__" x) := Heap.get?_push_at rfl rfl
    refine ⟨hu, ?_⟩
    have k03 : ∀ b o, s.heap.get? b = some o → (h2.push (kxs_mw "ValueError.__init__" x)).get? b = some o := fun b o e => k3 b o (k2 b o (hk₀ b o e))
    refine xcall_mw (t0 := t0) (k3 _ _ (X2 _ _ hC)) (k3 _ _ hx2) hu (by rw [sizeLine_eq]; show 1 ≤ 16777216; decide) fun h4 t1 k4 hx4 => ?_
    -- self.f = f
    have xL : s.heap.objs.size ≠ x := Nat.ne_of_gt (Heap.lt_size hx)
    have k13 : ∀ b o, h₀.get? b = some o → (h2.push (kxs_mw "ValueError.__init__" x)).get? b = some o := fun b o e => k3 b o (k2 b o e)
    have xC : x ≠ C := ks_ne X2 IA hcl
    have X4 : K.In h4 := fun a o e => k4 a o (fun z => by rw [z, hnx] at e; cases e) (k3 a o (X2 a o e))
    have ns4 : h4.Ns s.heap.objs.size (fun y => ([((("self" : Str)), Value.ref x), (f, v)].reverse.lookup y)) := hns.at fun o e => k4 _ _ xL (k13 _ _ e)
    refine wpAt_of_wpAny ?_
    refine wpAny_execs_cons (plainObj_wpAny_Assign_Attribute ?_)
    refine wpAny_Name (wpAny_loadName_local hk s2 ns4 hfv ?_) s9
    refine wpAny_Name (wpAny_loadName_local hk s1 ns4 hself ?_) (by decide)
    refine set_plain X4 (ox := HandSPX.excO C t1) (od := none) ⟨hx4, rfl, rfl, trivial⟩ T.sa ?_
    refine HandSPX.exc_osa X4 hx4 hcl (show HandSPX.refsVE (.ref C :: bm) = true from hbm) rfl T.noN (fun h5 tk5 dx k5 dn dne hx5 hn5 => ?_)
    show wpAny _ _ (execs _ _) _ _ _
    have lt : s.heap.objs.size < h4.objs.size := ns4.lt
    exact wpAny_execs_nil (hq h5 tk5 dx ⟨fun b o hb e => k5 b o hb (k4 b o hb (k03 b o e)), ⟨t1, hx5⟩, Nat.le_of_lt (Nat.lt_of_lt_of_le lt dn), dne, hn5⟩)
/-- a made error -/
structure XMade (f : Str) (h h' : Heap) (e C d : Addr) (v : Value) : Prop where
  keep : ∀ b o, h.get? b = some o → h'.get? b = some o
  new : h.objs.size ≤ e
  obj : ∃ oe vs, h'.get? e = some oe ∧ oe.cls = .ref C ∧ oe.dict = some d ∧ oe.data = .fields vs ∧ vs[1]? = some .none ∧ vs[2]? = some .none
  big : h.objs.size ≤ d
  ne : d ≠ e
  ns : h'.Ns1 d (fun y => if y = f then some v else none)
theorem xmade (T : XcT prog K mg nm f C) {base : Heap} (M : Mod K mg base) (kb : ∀ b o, base.get? b = some o → s.heap.get? b = some o) {v : Value} (hroom : A.depth + 1 < recursionLimit)
    (hq : ∀ h' tk e d, XMade f s.heap h' e C d v → R (.ok (.ret (.ref e))) { s with heap := h', toks := tk }) : codeAny (model prog w) A (.call (.ref C) ⟨[v], []⟩) R s := by
  obtain ⟨fI, cc, cda, qual, params, body, scope, oc, od, doc, pm, an, ct, osl, ccl, cdd, vs, ccs, cl, cld, csl, file, tf, ar, h1, h2, _⟩ := T.fn
  obtain ⟨n0, q, N, bs, bm, sn, sub, ab, col, dd, k0, k1, k2, k3, k5, hC, hbm⟩ := T.cls
  obtain ⟨hp, g, dr, tk, os⟩ := s
  have XK : K.In hp := M.kin.keeps kb
  have kk : ∀ b o, hp.get? b = some o → ((hp.push (kdv_tup [v])).push (HandSPX.excO C hp.objs.size)).get? b = some o := fun b o e => Heap.get?_push_of_some _ (Heap.get?_push_of_some _ e)
  have hget : ((hp.push (kdv_tup [v])).push (HandSPX.excO C hp.objs.size)).get? (hp.objs.size + 1) = some (HandSPX.excO C hp.objs.size) := by heap_get
  have hnx : K.lookup (hp.objs.size + 1) = none := by
    cases e : K.lookup (hp.objs.size + 1) with
    | none => rfl
    | some o => exact absurd (Nat.lt_of_succ_lt (Heap.lt_size (XK _ _ e))) (Nat.lt_irrefl _)
  refine HandSPX.call_own F.excBase_ValueError (fun Y => HandSPX.refsVE_contains Y bm hbm) (XK _ _ hC) (looks_findIn XK h1) (fun self => bind_fn XK self h2) (by rw [sizeLine_eq]; show 1 ≤ 16777216; decide) ?_
  refine xinit (s := ⟨(hp.push (kdv_tup [v])).push (HandSPX.excO C hp.objs.size), g, dr, tk, os⟩) T M h1 (fun b o e => kk b o (kb b o e)) hget hnx hroom fun h' tk' dx XX => ?_
  obtain ⟨k', ⟨t1, hx⟩, dn, dne, hns⟩ := XX
  have old : ∀ b o, hp.get? b = some o → h'.get? b = some o := fun b o e => k' b o (Nat.ne_of_lt (Nat.lt_succ_of_lt (Heap.lt_size e))) (kk b o e)
  have z : hp.objs.size + 1 + 1 ≤ dx := by
    have q := dn
    simpa only [Heap.size_push] using q
  exact ⟨rfl, hq h' tk' (hp.objs.size + 1) dx ⟨old, Nat.le_succ _, ⟨_, _, hx, rfl, rfl, rfl, rfl, rfl⟩, by show hp.objs.size ≤ dx; omega, dne, hns⟩⟩
end
theorem relO_one {f : Str} {v : V} {v' : Value} (r : RelV v v') (g : Str) : RelO (List.lookup g [(f, v)]) (if g = f then some v' else none) := by
  by_cases hw : g = f
  · subst hw
    rw [if_pos rfl]
    have q1 : List.lookup g [(g, v)] = some v := by simp [List.lookup]
    rw [q1]
    exact r
  · rw [if_neg hw]
    have qw : (g == f) = false := by simpa using hw
    have q2 : List.lookup g [(f, v)] = none := by simp [List.lookup, qw]
    rw [q2]
    trivial
section
variable {X : Cx} {C : Addr} {nm f : Str}
/-- C(e) -/
def tMkX (f : Str) (C : Addr) (ta : TA) : L2.St → Hp → XK → Prop := fun σ H Q => ta σ H fun vs H1 => ∃ v, vs = [v] ∧ ∀ d, H1 d = none → Q (.ref C) (some d) (upd H1 d (.xd [(f, v)]))
theorem pmk_x {a : Expr} {ta : TA} {p pos : Pos} {k : Nat} (T : XcT X.prog X.K X.mg nm f C) (hr : Room k X.A) (ha : PA X [a] ta) (hg : Gl X nm) (hd : (nm == ("__debug__" : Str)) = false)
    (he : starEach [a] X.env = [(false, eval a X.env)]) : L2N.PMk X (.Call (.Name nm p) [a] [] pos) (tMkX f C ta) := by
  intro pins s σ H Q I h
  refine wpAny_Call_Name_kw (ld_glob I hg T.gC ?_ hd)
  refine PySem.W.callWith_K (h₀ := X.base) I.ok.mod.kin T.kC (thn (ha.run pos pins s σ H _ I h) fun us s1 hh => ?_) he rfl
  obtain ⟨vs, H1, I1, r1, v, ev, q1⟩ := hh
  subst ev
  refine ⟨I1.kIn, ?_⟩
  cases r1 with
  | cons rv rn =>
    rename_i v' us'
    cases rn
    show wpAny _ _ (call (.ref C) [v']) _ _ _
    have kb := I1.bk
    have hM := I1.mod
    obtain ⟨hp, g, dr, tk, os⟩ := s1
    refine wpAny_call (xmade T hM kb (by have := hr.dp; omega) fun h' tk' e d MM => ?_)
    show L2N.MkP X pins σ Q (.ref e) ⟨h', g, dr, tk', os⟩
    obtain ⟨oe, fv, hoe, hc, hd, hdat, h1, h2⟩ := MM.obj
    have hns := MM.ns
    obtain ⟨G', g1, g2⟩ := restrict h' fun b => decide (b ≠ e)
    have gk : ∀ b, b ≠ e → G'.get? b = h'.get? b := fun b hb => g1 b (decide_eq_true hb)
    have ge : G'.get? e = none := g2 e (by simp)
    have old : ∀ b o, hp.get? b = some o → G'.get? b = some o := fun b o q => (gk b (Nat.ne_of_lt (Nat.lt_of_lt_of_le (Heap.lt_size q) MM.new))).trans (MM.keep b o q)
    have ob : ObjOk X.prog X.w (upd H1 d (.xd [(f, v)])) G' d (.xd [(f, v)]) := ⟨_, hns.at (fun o q => (gk d MM.ne).trans q), fun g => relO_one rv g⟩
    have J : Inv X pins σ (upd H1 d (.xd [(f, v)])) ⟨G', g, dr, tk', os⟩ := I1.laid (t' := tk') old MM.big ob
    refine ⟨e, oe, fv, ⟨G', g, dr, tk', os⟩, _, .ref C, some d, rfl, J, fun b o q => ?_, ge, hoe, ⟨hc, hd, fun vs e => by rw [hdat] at e; cases e; exact h2⟩, hdat, h1, ?_, rfl, I1.bare, raises_own T.exC T.tyC, q1 d (I1.hok.fresh MM.big)⟩
    · by_cases hb : b = e
      · have q' : G'.get? b = some o := q
        rw [hb, ge] at q'; cases q'
      · exact (gk b hb).symm.trans q
    · rw [upd_ne (Ne.symm MM.ne)]
      exact I1.hok.fresh MM.new
/-- e.f, e the error that the suite holds -/
def tXf (f : Str) (C : Addr) (a : Addr) (cls : Value) (d : Option Addr) (te : TE) : TE := fun σ H Q => te σ H fun x H1 => x = .ref a ∧ cls = .ref C ∧ ∃ (dd : Addr) (v : V), d = some dd ∧ H1 dd = some (.xd [(f, v)]) ∧ Q v H1
theorem pe_xf {a : Addr} {oe : Obj} {cls : Value} {d : Option Addr} {pn : List (Addr × Obj)} {e : Expr} {te : TE} {pos : Pos} (T : XcT X.prog X.K X.mg nm f C) (hz : Zc cls d oe) (hf : ∃ vs, oe.data = .fields vs) (he : PE (X.suite a ((a, oe) :: pn)) e te)
    (hb : attributeBase e f X.env (eval e X.env) = eval e X.env) : PE (X.suite a ((a, oe) :: pn)) (.Attribute e f pos) (tXf f C a cls d te) := by
  refine ⟨fun pins s σ H Q I h => ?_⟩
  refine attr_of hb (thn (he.run pins s σ H _ I h) fun u s1 hh => ?_)
  obtain ⟨x, H1, I1, rx, ex, ec, dd, v, ed, ea, q⟩ := hh
  subst ex
  obtain rfl : u = Value.ref a := rx
  subst ec
  subst ed
  obtain ⟨ha, _⟩ := I1.pin (a, oe) (List.mem_append_left _ List.mem_cons_self)
  obtain ⟨vs, hd⟩ := hf
  have hx : ObjOk X.prog X.w H1 s1.heap dd (.xd [(f, v)]) := I1.hok dd _ ea
  obtain ⟨mA, hns, hr⟩ := hx
  obtain ⟨od, ho, hl⟩ := lookIn_ns hns
  have l : List.lookup f [(f, v)] = some v := by simp [List.lookup]
  obtain ⟨u, hu, ru⟩ := RelO.some_of (v := v) (o := mA f) (by rw [← l]; exact hr f)
  have J : PySem.W.InstAt s1.heap a oe C (some od) := ⟨ha, hz.1, by unfold PySem.W.notCls; rw [hd] <;> rfl, by rw [hz.2]; exact ho⟩
  exact HandSPX.exc_get I1.kIn J T.ga T.gg T.exC (PySem.W.findObj_own T.hdC T.noN rfl (by rw [hl, hu])) (handed_of ru) ⟨v, H1, I1.tok _, ru, q⟩
end
end Mi
namespace Mi
open PySem PyProof.Rows L2

section
variable {X : Cx} {C : Addr} {nm : Str}
/-- C(), no own __init__ -/
theorem pmk_x0 {p pos : Pos} (xC : PySem.W.excIn X.K C [.type "ValueError", .type "Exception", .type "BaseException", .type "object"] "ValueError.__new__" = true) (gC : X.mg nm = some (.ref C)) (kC : PySem.W.keepIn X.K (.ref C) = true) (r : Raises X (.ref C)) (hg : Gl X nm) (hd : (nm == ("__debug__" : Str)) = false) :
    L2N.PMk X (.Call (.Name nm p) [] [] pos) (fun _ H Q => Q (.ref C) none H) := by
  intro pins s σ H Q I h
  refine wpAny_Call_Name_kw (ld_glob I hg gC ?_ hd)
  refine PySem.W.callWith_K0 I.kIn kC ?_
  obtain ⟨bm, N, n0, qn, bs, hdct, sn, sub, ab, col, dd, k0, k1, k2, k3, k5, mN, hC, hN, hni, T⟩ := exc_obj I.kIn xC
  refine wpAny_call_exc_subT F.excBase_ValueError T hC hN hni (fun h' e hm => ?_) (by show 0 ≤ sizeLine; exact Nat.zero_le _)
  exact L2N.mk_of I hm r h (I.hok.gone hm.new)
end

/-! ### several clauses, with names or without -/
abbrev Sut := Addr → Value → Option Addr → TS
/-- one clause: its class, its name's slot, its suite's reading -/
structure Cla where
  c : Value
  slot : Option Nat
  ts : Sut
/-- the ends of a suite: its name goes -/
def endsOf (o : Option Nat) (D : Ends) : Ends := match o with
  | none => D
  | some i => { nx := fun σ' H' => D.nx (σ'.set i none) H', rt := D.rt, bk := fun σ' H' => D.bk (σ'.set i none) H', ct := fun σ' H' => D.ct (σ'.set i none) H' }
def slotOf (o : Option Nat) (a : Addr) (σ : L2.St) : L2.St := match o with
  | none => σ
  | some i => σ.set i (some (.ref a))
def wCl (K : PySem.W.Frag) (Wout : WX) (D : Ends) : List Cla → WX
  | [] => Wout
  | y :: r => fun cls d σ H => ∃ b, PySem.W.exmOne K cls y.c = some b ∧ (b = true → ∀ a, H a = none → y.ts a cls d (endsOf y.slot D) (slotOf y.slot a σ) H) ∧ (b = false → wCl K Wout D r cls d σ H)
inductive ClsOk (X : Cx) : List ExceptHandler → List Cla → Prop
  | nil : ClsOk X [] []
  | one {x : Str} {y : Cla} {b₀ : Stmt} {suite : List Stmt} {np pos' : Pos} {hds : List ExceptHandler} {l : List Cla} (hs : y.slot = none) (hc : Names X x y.c)
      (hu : ∀ (a : Addr) (oe : Obj) (cls : Value) (d : Option Addr) (pn : List (Addr × Obj)), L2N.Zn cls d oe → (∃ vs, oe.data = .fields vs) → PSs (X.suite a ((a, oe) :: pn)) (b₀ :: suite) (y.ts a cls d)) (r : ClsOk X hds l) :
      ClsOk X (.ExceptHandler (some (.Name x np)) none (b₀ :: suite) pos' :: hds) (y :: l)
  | as {x n : Str} {i : Nat} {y : Cla} {b₀ : Stmt} {suite : List Stmt} {np pos' : Pos} {hds : List ExceptHandler} {l : List Cla} (hs : y.slot = some i) (hi : X.N[i]? = some n) (hl : X.env.kindOf n = some .local) (hc : Names X x y.c)
      (hu : ∀ (a : Addr) (oe : Obj) (cls : Value) (d : Option Addr) (pn : List (Addr × Obj)), L2N.Zn cls d oe → (∃ vs, oe.data = .fields vs) → PSs (X.suite a ((a, oe) :: pn)) (b₀ :: suite) (y.ts a cls d)) (r : ClsOk X hds l) :
      ClsOk X (.ExceptHandler (some (.Name x np)) (some n) (b₀ :: suite) pos' :: hds) (y :: l)
section
variable {X : Cx} {body : List Stmt} {h₀ : ExceptHandler} {hds : List ExceptHandler} {l : List Cla} {pos : Pos} {tb : WX → TS} {Wout : WX}
theorem ps_tryM (hst : X.stack = X.env :: X.outer) (hfm : X.env.frame = some X.env.locals) (hN : X.N.Nodup) (tk : L2N.Takes X Wout)
    (hb : ∀ (W : WX) (pn : List (Addr × Obj)) (xe : Value → Shared → Prop), L2N.Takes (X.tr pn xe) W → PassesOwn (model X.prog X.w) X.A X.env xe → PSs (X.tr pn xe) body (tb W))
    (hh : ClsOk X (h₀ :: hds) l) : PS X (.Try body (h₀ :: hds) [] [] pos) (fun D σ H => tb (wCl X.K Wout D l) D σ H) := by
  refine ⟨fun pins s σ H D I0 h => ?_⟩
  have okX := I0.ok
  have hfr : X.A.frames = some (X.env :: X.outer) := by rw [okX.frames, hst]
  let Z : Value → Shared → Prop := fun e t1 => wpAny (model X.prog X.w) X.A (noteFrame e X.env) (fun _ t2 => wpAny (model X.prog X.w) X.A (setFlight e none) (fun _ t3 => wpAny (model X.prog X.w) X.A (handleBy e X.env (h₀ :: hds)) (SP X pins D) X.xe t3) X.xe t2) X.xe t1
  have caught : L2N.Takes (X.tr (X.pn ++ pins) Z) (wCl X.K Wout D l) := by
    intro u s' xx
    obtain ⟨a, B, sI, pins', σ', H', cls, d, rfl, J', nb, up, sky, na, os, ag, wsh⟩ := xx
    have J : Inv X pins σ' H' sI := J'.ofTry okX
    have sky' : Sky B (X.env :: X.outer) a (L2N.Zn cls d) X.env.locals s'.heap := by rw [← hst]; exact sky
    refine L2N.Sky.land (Q := fun _ t3 => wpAny (model X.prog X.w) X.A (handleBy (.ref a) X.env (h₀ :: hds)) (SP X pins D) X.xe t3) L2N.Zn.steady hfr hfm sky' fun g3 fl up3 => ?_
    have J3 : Inv X pins σ' H' { s' with heap := g3 } := J.landed nb fl.1 (up.trans up3) os ag
    obtain ⟨ob3, vs3, he3, hz3, hd3⟩ := fl.there
    have nfr : a ∉ frs (X.env :: X.outer) := fun hm => by
      obtain ⟨_, o2, e2, hnf⟩ := fl.2.2.1.mem hm
      rw [he3] at e2; cases e2
      exact hnf _ hd3
    have nL : a ≠ X.env.locals := fun z => nfr (List.mem_filterMap.mpr ⟨X.env, List.mem_cons_self, by rw [hfm, z]⟩)
    have nF : a ∉ X.fs := fun hm => by
      obtain ⟨ee, hee, qq⟩ := List.mem_filterMap.mp hm
      exact nfr (List.mem_filterMap.mpr ⟨ee, List.mem_cons_of_mem _ hee, qq⟩)
    have S3 := J3.suite he3 hd3 na nL nF
    -- the class's name, read
    have test : ∀ {x : Str} {np : Pos} {cv : Value} {Q : Value → Shared → Prop} {E : Value → Shared → Prop}, Names X x cv → Q cv { s' with heap := g3 } → wpAny (model X.prog X.w) (X.A.mark (some (.ref a))) (eval (.Name x np) X.env) Q E { s' with heap := g3 } := fun {x np cv Q E} hc q => by
      obtain ⟨hg, hdb, hm | ⟨hm, hv, hnn⟩⟩ := hc
      · exact ld_glob (X := X.suite a ((a, ob3) :: (X.pn ++ pins))) S3 hg hm q hdb
      · exact ld_blt (X := X.suite a ((a, ob3) :: (X.pn ++ pins))) S3 hg hm hv q hnn hdb
    have LT : PySem.W.Looks (model X.prog X.w) g3 (typeOf (.ref a)) cls := fun A Q E s k q => wpAny_typeOf_ref (k _ _ he3) (by rw [hz3.1]; exact q)
    have go : ∀ {hs' : List ExceptHandler} {l' : List Cla}, ClsOk X hs' l' → wCl X.K Wout D l' cls d σ' H' → wpAny (model X.prog X.w) X.A (handleBy (.ref a) X.env hs') (SP X pins D) X.xe { s' with heap := g3 } := by
      intro hs' l' hk
      induction hk with
      | nil =>
        intro wsh
        refine wpAny_handleBy_nil ?_
        obtain ⟨k1, k2, k3, oe, vs, T, oT, ts', he, hz, hd, h1, hr⟩ := id fl
        unfold PySem.passOn
        refine wpAny_bind (wpAny_field he hd h1 ?_)
        rw [if_neg (show ¬ ((Value.ref T == Value.none) = true) from by simp)]
        have fin : wpAny (model X.prog X.w) X.A (setFlight (.ref a) X.env.frame) (fun _ t4 => wpAny (model X.prog X.w) X.A (throw (.ref a) : Sem Flow) (SP X pins D) X.xe t4) X.xe { s' with heap := g3 } := by
          rw [hfm]
          refine HandSPX.setFlight_upZ fl fun g4 hh4 up4 => wpAny_throw (tk _ _ ?_)
          exact ⟨a, B, sI, pins, σ', H', cls, d, rfl, J, nb, (up.trans up3).trans up4, .inr (.inr (by rw [hst]; exact hh4)), na, os, ag, wsh⟩
        first
          | exact wpAny_bind (wpAny_pure (wpAny_bind fin))
          | exact wpAny_bind fin
      | @one x y b₀ suite np pos' hds2 l2 hsl hc hu r ih =>
        rintro ⟨b, hb1, hyes, hno⟩
        refine wpAny_handleBy_cons (codeAny_handlers_test (test hc ((PySem.W.exm_one (M := model X.prog X.w) (J3.kIn) LT hb1).here ?_))) (by intro q; cases q)
        cases b with
        | false => exact ih (hno rfl)
        | true =>
          refine codeAny_handlers_suite (HandSPX.lands_againZ fl fun g4 fl4 up4 => ?_)
          have J4 : Inv X pins σ' H' { s' with heap := g4 } := J.landed nb fl4.1 ((up.trans up3).trans up4) os ag
          obtain ⟨oe4, vs4, he4, hz4, hd4⟩ := fl4.there
          have yes := hyes rfl a na
          rw [hsl] at yes
          refine wpAny_mono ((hu a oe4 cls d (X.pn ++ pins) hz4 ⟨_, hd4⟩).run [] _ _ H' _ (J4.suite he4 hd4 na nL nF) yes) (fun fw t6 hsp => ?_) (fun _ _ z => False.elim z)
          cases fw with
          | ret u => obtain ⟨v6, σ6, H6, S6, r6, q6⟩ := hsp; exact ⟨_, _, _, S6.unsuite okX, r6, q6⟩
          | _ => obtain ⟨σ6, H6, S6, q6⟩ := hsp; exact ⟨_, _, S6.unsuite okX, q6⟩
      | @as x n i y b₀ suite np pos' hds2 l2 hsl hi hln hc hu r ih =>
        rintro ⟨b, hb1, hyes, hno⟩
        refine wpAny_handleBy_cons (codeAny_handlers_test (test hc ((PySem.W.exm_one (M := model X.prog X.w) (J3.kIn) LT hb1).here ?_))) (by intro q; cases q)
        cases b with
        | false => exact ih (hno rfl)
        | true =>
          refine codeAny_handlers_suite_as (HandSPX.lands_againZ fl fun g4 fl4 up4 => ?_)
          have J4 : Inv X pins σ' H' { s' with heap := g4 } := J.landed nb fl4.1 ((up.trans up3).trans up4) os ag
          obtain ⟨oe4, vs4, he4, hz4, hd4⟩ := fl4.there
          have yes := hyes rfl a na
          rw [hsl] at yes
          refine store_ok (X := X.suite a ((a, oe4) :: (X.pn ++ pins))) (v := .ref a) (J4.suite he4 hd4 na nL nF) hN hi (.inl hln) rfl (fun t5 S5 => ?_) (.inr hln)
          refine wpAny_mono ((hu a oe4 cls d (X.pn ++ pins) hz4 ⟨_, hd4⟩).run [] t5 _ H' _ S5 yes) (fun fw t6 hsp => ?_) (fun _ _ z => False.elim z)
          have gone : ∀ {σ6 : L2.St} {H6 : Hp} {Q : Shared → Prop}, Inv (X.suite a ((a, oe4) :: (X.pn ++ pins))) [] σ6 H6 t6 → (∀ t7, Inv X pins (σ6.set i none) H6 t7 → Q t7) →
              wpAny (model X.prog X.w) X.A (do bindName X.env n .none; unbindBehindTheSuite X.env n pos') (fun _ t7 => Q t7) X.xe t6 := fun {σ6 H6 Q} S6 hq => gone_ok (S6.unsuite okX) hN hi hln hq
          cases fw with
          | ret u => obtain ⟨v6, σ6, H6, S6, r6, q6⟩ := hsp; exact gone S6 fun t7 J7 => ⟨_, _, _, J7, r6, q6⟩
          | _ => obtain ⟨σ6, H6, S6, q6⟩ := hsp; exact gone S6 fun t7 J7 => ⟨_, _, J7, q6⟩
    exact go hh wsh
  refine wpAny_Try_except (wpAny_mono ((hb _ (X.pn ++ pins) Z caught PassesOwn.looking).run [] s σ H D (I0.toTry _) h) (fun fw t1 hsp => ?_) (fun e t1 he => he))
  cases fw with
  | next => obtain ⟨σ1, H1, J1, q⟩ := hsp; exact wpAny_execs_nil ⟨σ1, H1, J1.ofTry okX, q⟩
  | brk => obtain ⟨σ1, H1, J1, q⟩ := hsp; exact ⟨σ1, H1, J1.ofTry okX, q⟩
  | cont => obtain ⟨σ1, H1, J1, q⟩ := hsp; exact ⟨σ1, H1, J1.ofTry okX, q⟩
  | ret u => obtain ⟨v, σ1, H1, J1, r, q⟩ := hsp; exact ⟨v, σ1, H1, J1.ofTry okX, r, q⟩
end
end Mi
namespace Mi
open PySem PyProof.Rows L2
section
variable {prog : Program} {w : World} {A : Around} {E : Value → Shared → Prop} {s : Shared} {l : Addr} {xs : Array (Int × Tok)}
theorem iter_intTup {Q : Value → Shared → Prop} (hl : s.heap.IsTuple l (intItems xs))
    (h : ∀ s₂ : Shared, s₂ = { s with heap := s.heap.push { cls := .type "tuple_iterator", data := .fields #[.ref l, .int 0 0] } } →
      (s₂.heap.IsTupleIter s.heap.objs.size l 0 ∧ s₂.heap.IsTuple l (intItems xs)) → (∀ b ∈ [s.heap.objs.size, l], b < s₂.heap.objs.size) → l ≠ s.heap.objs.size → Q (.ref s.heap.objs.size) s₂) :
    wpAny (model prog w) A (pyIter (.ref l)) Q E s := by
  have hlt : l < s.heap.objs.size := by obtain ⟨_, e, _⟩ := hl; exact Heap.lt_size e
  refine wpAny_pyIter_tuple hl (h _ rfl ⟨⟨_, Heap.get?_push_size _ rfl, rfl, rfl⟩, hl.at fun o q => Heap.get?_push_of_some _ q⟩ (fun b hb => ?_) (Nat.ne_of_lt hlt))
  show b < (s.heap.push _).objs.size
  rw [Heap.size_push]
  rcases List.mem_cons.mp hb with rfl | hb
  · exact Nat.lt_succ_self _
  · rcases List.mem_cons.mp hb with rfl | hb
    · exact Nat.lt_succ_of_lt hlt
    · cases hb
theorem old_keptT {h' : Heap} (hk : ∀ b o, b ∉ [s.heap.objs.size] → (s.heap.push { cls := .type "tuple_iterator", data := .fields #[.ref l, .int 0 0] }).get? b = some o → h'.get? b = some o) :
    ∀ b o, s.heap.get? b = some o → h'.get? b = some o := fun b o e => by
  refine hk b o (fun hm => ?_) (Heap.get?_push_of_some _ e)
  rcases List.mem_cons.mp hm with e1 | hm
  · exact absurd (e1 ▸ Heap.lt_size e) (Nat.lt_irrefl _)
  · cases hm
theorem sum_intTupG {Q : Value → Shared → Prop} (hh : A.handled = none) (hl : s.heap.IsTuple l (intItems xs))
    (h : ∀ h' tk t', (∀ b o, s.heap.get? b = some o → h'.get? b = some o) → Q (.int (preSum (numAt xs) xs.size) t') { s with heap := h', toks := tk }) :
    wpAny (model prog w) A (call (.builtin "sum") [.ref l]) Q E s := by
  refine call_sum_walkG (iter_intTup hl fun s₂ e st hfp hlI => ?_)
  subst e
  refine ⟨_, _, _, _, _, _, numAt xs, rfl, Walks.tuple (A := A.in1) hh _ l hlI (intItems xs), st, hfp, (fun _ _ => intItems_at), fun h' tk t' hk => ?_⟩
  have := h h' tk t' (old_keptT hk)
  simpa [intItems] using this
theorem max_intTup {Q : Value → Shared → Prop} (hh : A.handled = none) (hl : s.heap.IsTuple l (intItems xs)) (hne : 0 < xs.size)
    (h : ∀ v h' tk, (intItems xs)[argBest (fun i j => decide (numAt xs i > numAt xs j)) (xs.size - 1)]? = some v → (∀ b o, s.heap.get? b = some o → h'.get? b = some o) → Q v { s with heap := h', toks := tk }) :
    wpAny (model prog w) A (call (.builtin "max") [.ref l]) Q E s := by
  refine call_max_walk (iter_intTup hl fun s₂ e st hfp hlI => ?_)
  subst e
  refine ⟨_, _, _, _, _, _, _, rfl, Walks.tuple (A := A.in1) hh _ l hlI (intItems xs), st, hfp, by simpa [intItems] using hne, CmpOf.ints_gt (numAt xs) (fun _ _ => intItems_at), fun v h' tk hP hk => ?_⟩
  exact h v h' tk (by simpa [intItems] using hP) (old_keptT hk)
theorem min_intTup {Q : Value → Shared → Prop} (hh : A.handled = none) (hl : s.heap.IsTuple l (intItems xs)) (hne : 0 < xs.size)
    (h : ∀ v h' tk, (intItems xs)[argBest (fun i j => decide (numAt xs i < numAt xs j)) (xs.size - 1)]? = some v → (∀ b o, s.heap.get? b = some o → h'.get? b = some o) → Q v { s with heap := h', toks := tk }) :
    wpAny (model prog w) A (call (.builtin "min") [.ref l]) Q E s := by
  refine call_min_walk (iter_intTup hl fun s₂ e st hfp hlI => ?_)
  subst e
  refine ⟨_, _, _, _, _, _, _, rfl, Walks.tuple (A := A.in1) hh _ l hlI (intItems xs), st, hfp, by simpa [intItems] using hne, CmpOf.ints_lt (numAt xs) (fun _ _ => intItems_at), fun v h' tk hP hk => ?_⟩
  exact h v h' tk (by simpa [intItems] using hP) (old_keptT hk)
end
section
variable {prog : Program} {w : World} {A : Around} {E : Value → Shared → Prop} {s : Shared} {l : Addr} {its : List Value} {ns : List Int} {Q : Value → Shared → Prop}
theorem sum_rawT (hh : A.handled = none) (hl : s.heap.IsTuple l its.toArray) (hi : IntsAre its ns)
    (h : ∀ h' tk t', (∀ b o, s.heap.get? b = some o → h'.get? b = some o) → Q (.int ns.sum t') { s with heap := h', toks := tk }) : wpAny (model prog w) A (call (.builtin "sum") [.ref l]) Q E s := by
  obtain ⟨xs, e⟩ := hi.allInts.items
  have hn : numsOf (intItems xs).toList = ns := by rw [← e]; exact hi.numsOf
  rw [nums_intItems] at hn
  rw [e] at hl
  refine sum_intTupG hh hl fun h' tk t' hk => ?_
  have := h h' tk t' hk
  rw [preSum_eq, List.take_of_length_le (by simp), hn]; exact this
theorem max_rawT (hh : A.handled = none) (hl : s.heap.IsTuple l its.toArray) (hi : IntsAre its ns) (hne : 0 < ns.length)
    (h : ∀ h' tk M t', (∀ b o, s.heap.get? b = some o → h'.get? b = some o) → M ∈ ns → (∀ a, a ∈ ns → a ≤ M) → Q (.int M t') { s with heap := h', toks := tk }) : wpAny (model prog w) A (call (.builtin "max") [.ref l]) Q E s := by
  obtain ⟨xs, e⟩ := hi.allInts.items
  have hn : numsOf (intItems xs).toList = ns := by rw [← e]; exact hi.numsOf
  rw [nums_intItems] at hn
  subst hn
  rw [e] at hl
  have hsz : 0 < xs.size := by simpa using hne
  refine max_intTup hh hl hsz fun v h' tk hv hk => ?_
  obtain ⟨t, rfl⟩ := intItems_at hv
  obtain ⟨h1, h2⟩ := argBest_gt (numAt xs) (xs.size - 1)
  refine h h' tk _ t hk ?_ fun a ha => ?_
  · rw [numAt_eq]; exact PySem.getD_mem (by rw [List.length_map, Array.length_toList]; omega)
  · obtain ⟨j, hj, rfl⟩ := mem_getD ha
    rw [List.length_map, Array.length_toList] at hj
    rw [← numAt_eq]; exact h2 j (by omega)
theorem min_rawT (hh : A.handled = none) (hl : s.heap.IsTuple l its.toArray) (hi : IntsAre its ns) (hne : 0 < ns.length)
    (h : ∀ h' tk M t', (∀ b o, s.heap.get? b = some o → h'.get? b = some o) → M ∈ ns → (∀ a, a ∈ ns → M ≤ a) → Q (.int M t') { s with heap := h', toks := tk }) : wpAny (model prog w) A (call (.builtin "min") [.ref l]) Q E s := by
  obtain ⟨xs, e⟩ := hi.allInts.items
  have hn : numsOf (intItems xs).toList = ns := by rw [← e]; exact hi.numsOf
  rw [nums_intItems] at hn
  subst hn
  rw [e] at hl
  have hsz : 0 < xs.size := by simpa using hne
  refine min_intTup hh hl hsz fun v h' tk hv hk => ?_
  obtain ⟨t, rfl⟩ := intItems_at hv
  obtain ⟨h1, h2⟩ := argBest_lt (numAt xs) (xs.size - 1)
  refine h h' tk _ t hk ?_ fun a ha => ?_
  · rw [numAt_eq]; exact PySem.getD_mem (by rw [List.length_map, Array.length_toList]; omega)
  · obtain ⟨j, hj, rfl⟩ := mem_getD ha
    rw [List.length_map, Array.length_toList] at hj
    rw [← numAt_eq]; exact h2 j (by omega)
end
section
variable {X : Cx}
def rSumT (K : PySem.W.Frag) : List V → Hp → VK → Prop := fun vs H Q => ∃ (a : Addr) (ns : List Int), vs = [V.ref a] ∧ (SqL K H a (ns.map V.int) ∨ SqT K H a (ns.map V.int)) ∧ Q (.int ns.sum) H
def rMaxT (K : PySem.W.Frag) : List V → Hp → VK → Prop := fun vs H Q => ∃ (a : Addr) (ns : List Int), vs = [V.ref a] ∧ (SqL K H a (ns.map V.int) ∨ SqT K H a (ns.map V.int)) ∧ 0 < ns.length ∧ ∀ m, m ∈ ns → (∀ y, y ∈ ns → y ≤ m) → Q (.int m) H
def rMinT (K : PySem.W.Frag) : List V → Hp → VK → Prop := fun vs H Q => ∃ (a : Addr) (ns : List Int), vs = [V.ref a] ∧ (SqL K H a (ns.map V.int) ∨ SqT K H a (ns.map V.int)) ∧ 0 < ns.length ∧ ∀ m, m ∈ ns → (∀ y, y ∈ ns → m ≤ y) → Q (.int m) H
theorem cr_sumT (hc : X.calm = true) : CallR X (.builtin "sum") (rSumT X.K) := by
  intro pins s σ H vs us Q I r h
  obtain ⟨a, ns, rfl, hs, q⟩ := h
  rcases hs with hs | hs
  · exact cr_sum hc pins s σ H _ us Q I r ⟨a, ns, rfl, hs, q⟩
  · obtain ⟨its, rv, hl, _⟩ := I.tuple hs
    rw [Vals.ref1 r]
    exact sum_rawT (I.ok.hd hc) hl rv.ints fun h' tk t' hk => ⟨.int _, H, I.kept hk, ⟨_, rfl⟩, q⟩
theorem cr_maxT (hc : X.calm = true) : CallR X (.builtin "max") (rMaxT X.K) := by
  intro pins s σ H vs us Q I r h
  obtain ⟨a, ns, rfl, hs, hne, q⟩ := h
  rcases hs with hs | hs
  · exact cr_max hc pins s σ H _ us Q I r ⟨a, ns, rfl, hs, hne, q⟩
  · obtain ⟨its, rv, hl, _⟩ := I.tuple hs
    rw [Vals.ref1 r]
    exact max_rawT (I.ok.hd hc) hl rv.ints hne fun h' tk m t' hk h1 h2 => ⟨.int _, H, I.kept hk, ⟨_, rfl⟩, q m h1 h2⟩
theorem cr_minT (hc : X.calm = true) : CallR X (.builtin "min") (rMinT X.K) := by
  intro pins s σ H vs us Q I r h
  obtain ⟨a, ns, rfl, hs, hne, q⟩ := h
  rcases hs with hs | hs
  · exact cr_min hc pins s σ H _ us Q I r ⟨a, ns, rfl, hs, hne, q⟩
  · obtain ⟨its, rv, hl, _⟩ := I.tuple hs
    rw [Vals.ref1 r]
    exact min_rawT (I.ok.hd hc) hl rv.ints hne fun h' tk m t' hk h1 h2 => ⟨.int _, H, I.kept hk, ⟨_, rfl⟩, q m h1 h2⟩
end
end Mi
namespace Mi
open PySem PyProof.Rows L2
/-! ### a, b, *rest = e -/
theorem Walks.shift {prog : Program} {w : World} {A : Around} {I : Addr} {fp wr : List Addr} {n : Nat} {P : Nat → Value → Prop} {St : Nat → Heap → Prop} (W : Walks prog w A I fp wr n P St) (k : Nat) (hk : k ≤ n) :
    Walks prog w A I fp wr (n - k) (fun i v => P (k + i) v) (fun i h => St (k + i) h) where
  sub := W.sub
  frame := fun i h h' st hf => W.frame (k + i) h h' st hf
  item := fun i s Q E hi st hQ => W.item (k + i) s Q E (by omega) st hQ
  done := fun s Q E st hQ => W.done s Q E (by rw [show k + (n - k) = n from by omega] at st; exact st) hQ
  self := fun i s Q E st hQ => W.self (k + i) s Q E st hQ
section
variable {prog : Program} {w : World} {A : Around} {E : Value → Shared → Prop} {s : Shared}
theorem items_acc {items : Array Value} {k : Nat} {acc : Array Value} (h : ItemsOf (fun i v => items[k + i]? = some v) acc (items.size - k)) : acc.toList = items.toList.drop k := by
  apply List.ext_getElem?
  intro j
  rw [List.getElem?_drop]
  by_cases hj : j < acc.size
  · have e : acc[j]? = some acc[j] := by simp [hj]
    have := h.2 j _ e
    simp only [Array.getElem?_toList]
    rw [e, this]
  · have h1 := h.1
    rw [List.getElem?_eq_none (by simpa using hj), List.getElem?_eq_none (by simp; omega)]
theorem unpackItems_starL {l : Addr} {items : Array Value} {i : Nat} {Q : List Value → Shared → Prop} (hh : A.handled = none) (hl : s.heap.IsList l items) (hi : i ≤ items.size) (hz : items.size ≤ sizeLine)
    (hQ : ∀ (h' : Heap) (tk : Nat), (∀ b o, s.heap.get? b = some o → h'.get? b = some o) → Q (items.toList.take i ++ [.ref h'.objs.size]) { s with heap := h'.push { cls := .type "list", data := .seq (items.toList.drop i).toArray }, toks := tk }) : wpAny (model prog w) A (unpackItems (.ref l) (i + 1) (some i)) Q E s := by
  have hlt : l ≠ s.heap.objs.size := by obtain ⟨o, ho, _⟩ := hl; exact Nat.ne_of_lt (Heap.lt_size ho)
  have hls : l < s.heap.objs.size := by obtain ⟨o, ho, _⟩ := hl; exact Heap.lt_size ho
  unfold unpackItems
  refine wpAny_bind ?_
  · unfold notIterableAtAll
    refine wpAny_bind (wpAny_specialOf hl.typeIs slot_list_iter.lookup ?_)
    refine wpAny_pure ?_
    simp only [Bool.false_eq_true, if_false]
    refine wpAny_bind (wpAny_holding (wpAny_pyIter_list hl ?_))
    refine wpAny_bind (wpAny_holding (PySem.W.kun_draw hlt i 0 _ _ ⟨_, Heap.get?_push_size _ rfl, rfl, rfl⟩ (hl.push _) (by omega) fun h₁ hit₁ hs₁ => ?_))
    rw [List.drop_zero]
    rw [if_neg (by simp; omega)]
    have hl₁ : h₁.IsList l items := (hl.push _).extBut hs₁.extBut hlt
    have hsz : h₁.objs.size = s.heap.objs.size + 1 := hs₁.1.trans (Heap.size_push _ _)
    have W := (Mi.Walks.shift (Walks.list (prog := prog) (w := w) (A := A.in1) hh s.heap.objs.size l hlt items) i hi).toS
    refine wpAny_bind (wpAny_holding (wpAny_collect_iter (T := "list_iterator") (by simp) W (fun j s st => by
      obtain ⟨⟨o, ho, hc, _⟩, _⟩ := st; exact ⟨o, ho, hc⟩) (by simpa using And.intro hit₁ hl₁) (fun b hb => by
        show b < h₁.objs.size
        rw [hsz]
        rcases List.mem_cons.mp hb with rfl | hb
        · exact Nat.lt_succ_self _
        · rcases List.mem_cons.mp hb with rfl | hb
          · exact Nat.lt_succ_of_lt hls
          · cases hb) (by simp) (fun s' acc hm hacc => ?_) (by omega)))
    rw [items_acc hacc]
    have hlen : i + 1 - 1 - i = 0 := by omega
    simp only [hlen, Nat.not_lt_zero, if_false, Nat.sub_zero]
    obtain ⟨h', g', d', t', o'⟩ := s'
    have e1 := hm.gens; have e2 := hm.drawn; have e3 := hm.os
    simp only at e1 e2 e3
    subst e1 e2 e3
    refine wpAny_bind (wpAny_newObj_type ?_ (by show (List.take _ _).toArray.size ≤ sizeLine; simp; omega))
    refine wpAny_pure ?_
    rw [List.take_length, List.drop_length, List.append_nil]
    have hk : ∀ b o, s.heap.get? b = some o → h'.get? b = some o := fun b o e => hm.heap b o (fun z => by
      rcases List.mem_cons.mp z with rfl | z
      · exact absurd (Heap.lt_size e) (Nat.lt_irrefl _)
      · cases z) (hs₁.extBut b o (Nat.ne_of_lt (Heap.lt_size e)) (Heap.get?_push_of_some _ e))
    exact hQ h' t' hk
theorem unpackItems_starT {l : Addr} {items : Array Value} {i : Nat} {Q : List Value → Shared → Prop} (hh : A.handled = none) (hl : s.heap.IsTuple l items) (hi : i ≤ items.size) (hz : items.size ≤ sizeLine)
    (hQ : ∀ (h' : Heap) (tk : Nat), (∀ b o, s.heap.get? b = some o → h'.get? b = some o) → Q (items.toList.take i ++ [.ref h'.objs.size]) { s with heap := h'.push { cls := .type "list", data := .seq (items.toList.drop i).toArray }, toks := tk }) : wpAny (model prog w) A (unpackItems (.ref l) (i + 1) (some i)) Q E s := by
  have hlt : l ≠ s.heap.objs.size := by obtain ⟨o, ho, _⟩ := hl; exact Nat.ne_of_lt (Heap.lt_size ho)
  have hls : l < s.heap.objs.size := by obtain ⟨o, ho, _⟩ := hl; exact Heap.lt_size ho
  have hl' : IsTup s.heap l items := hl
  unfold unpackItems
  refine wpAny_bind ?_
  · unfold notIterableAtAll
    refine wpAny_bind (wpAny_specialOf hl'.typeIs slot_tuple_iter.lookup ?_)
    refine wpAny_pure ?_
    simp only [Bool.false_eq_true, if_false]
    refine wpAny_bind (wpAny_holding (iter_tuple hl' ?_))
    refine wpAny_bind (wpAny_holding (draw_tuple hlt i 0 _ _ ⟨_, Heap.get?_push_size _ rfl, rfl, rfl⟩ (hl'.push _) (by omega) fun h₁ hit₁ hs₁ => ?_))
    rw [List.drop_zero]
    rw [if_neg (by simp; omega)]
    have hl₁ : IsTup h₁ l items := (hl'.push _).extBut hs₁.extBut hlt
    have hsz : h₁.objs.size = s.heap.objs.size + 1 := hs₁.1.trans (Heap.size_push _ _)
    have W := (Mi.Walks.shift (Walks.tuple (prog := prog) (w := w) (A := A.in1) hh s.heap.objs.size l hlt items) i hi).toS
    refine wpAny_bind (wpAny_holding (wpAny_collect_iter (T := "tuple_iterator") (by simp) W (fun j s st => by
      obtain ⟨⟨o, ho, hc, _⟩, _⟩ := st; exact ⟨o, ho, hc⟩) (show h₁.IsTupleIter s.heap.objs.size l (i + 0) ∧ h₁.IsTuple l items from ⟨by have z := hit₁; rw [Nat.zero_add] at z; exact z, hl₁⟩) (fun b hb => by
        show b < h₁.objs.size
        rw [hsz]
        rcases List.mem_cons.mp hb with rfl | hb
        · exact Nat.lt_succ_self _
        · rcases List.mem_cons.mp hb with rfl | hb
          · exact Nat.lt_succ_of_lt hls
          · cases hb) (by simp) (fun s' acc hm hacc => ?_) (by omega)))
    rw [items_acc hacc]
    have hlen : i + 1 - 1 - i = 0 := by omega
    simp only [hlen, Nat.not_lt_zero, if_false, Nat.sub_zero]
    obtain ⟨h', g', d', t', o'⟩ := s'
    have e1 := hm.gens; have e2 := hm.drawn; have e3 := hm.os
    simp only at e1 e2 e3
    subst e1 e2 e3
    refine wpAny_bind (wpAny_newObj_type ?_ (by show (List.take _ _).toArray.size ≤ sizeLine; simp; omega))
    refine wpAny_pure ?_
    rw [List.take_length, List.drop_length, List.append_nil]
    have hk : ∀ b o, s.heap.get? b = some o → h'.get? b = some o := fun b o e => hm.heap b o (fun z => by
      rcases List.mem_cons.mp z with rfl | z
      · exact absurd (Heap.lt_size e) (Nat.lt_irrefl _)
      · cases z) (hs₁.extBut b o (Nat.ne_of_lt (Heap.lt_size e)) (Heap.get?_push_of_some _ e))
    exact hQ h' t' hk
end
section
variable {X : Cx}
/-- names, then a starred one -/
def gStar (K : PySem.W.Frag) (n : Nat) (t : TGs) : TG := fun v σ H Q => ∃ a xs, v = .ref a ∧ (SqL K H a xs ∨ SqT K H a xs) ∧ n ≤ xs.length ∧ ∀ p, H p = none → t (xs.take n ++ [.ref p]) σ (upd H p (.lst (xs.drop n))) Q
theorem pg_star {es : List Expr} {k : Nat} {t : TGs} {n : Nat} {pos : Pos} (hc : X.calm = true) (h : PGs X es t) (hn : (assignEach es X.env).length = n + 1) (hst : (assignEach es X.env).findIdx? (·.1) = some n) : PG X (.Tuple es k pos) (gStar X.K n t) := by
  refine ⟨fun pins s σ H v u Q I r hw => ?_⟩
  obtain ⟨a, xs, e1, hq, hl, hw⟩ := hw
  subst e1
  cases r
  rw [PyProof.Rows.assign_Tuple]
  refine wpAny_bind (wpAny_standAt ?_)
  unfold unpack
  rw [hn, hst]
  have fin : ∀ (its : List Value), Vals xs its → xs.length ≤ sizeLine → ∀ (h' : Heap) (tk : Nat), (∀ b o, s.heap.get? b = some o → h'.get? b = some o) →
      wpAny (model X.prog X.w) X.A (assignInOrder ((assignEach es X.env).map (·.2)) (its.take n ++ [.ref h'.objs.size])) (fun _ s' => ∃ σ' H', Inv X pins σ' H' s' ∧ Q σ' H') X.xe { s with heap := h'.push { cls := .type "list", data := .seq (its.drop n).toArray }, toks := tk } := fun its rv hz h' tk hk => by
    have I1 : Inv X pins σ H { s with heap := h', toks := tk } := I.kept hk
    have hf : H h'.objs.size = none := I1.hok.fresh (Nat.le_refl _)
    have I2 : Inv X pins σ (upd H h'.objs.size (.lst (xs.drop n))) { s with heap := h'.push { cls := .type "list", data := .seq (its.drop n).toArray }, toks := tk } :=
      I1.laid (t' := tk) (fun b u e => Heap.get?_push_of_some _ e) (Nat.le_refl _) ⟨by simp; omega, its.drop n, 0, rv.drop n, Heap.get?_push_size _ rfl⟩
    exact h.run pins _ σ _ _ _ Q I2 ((rv.take n).append (.cons (show RelV (.ref h'.objs.size) (.ref h'.objs.size) from rfl) .nil)) (hw _ hf)
  rcases hq with hq | hq
  · obtain ⟨its, rv, pl, hz⟩ := I.list hq
    exact wpAny_bind (wpAny_holding (unpackItems_starL (I.ok.hd hc) pl.isList (by simp [← rv.length]; exact hl) (by simp [← rv.length]; exact hz) fun h' tk hk => fin its rv hz h' tk hk))
  · obtain ⟨its, rv, pl, hz⟩ := I.tuple hq
    exact wpAny_bind (wpAny_holding (unpackItems_starT (I.ok.hd hc) pl (by simp [← rv.length]; exact hl) (by simp [← rv.length]; exact hz) fun h' tk hk => fin its rv hz h' tk hk))
end
end Mi
namespace Mi
open PySem PyProof.Rows L2
/-! ### enumerate(x), zip(x, y) over lists and tuples -/
def SqK (k : Bool) (K : PySem.W.Frag) (H : Hp) (a : Addr) (xs : List V) : Prop := match k with
  | false => SqL K H a xs
  | true => SqT K H a xs
def ItK (k : Bool) (h : Heap) (it a : Addr) (i : Nat) : Prop := match k with
  | false => h.IsListIter it a i
  | true => h.IsTupleIter it a i
def SeqK (k : Bool) (h : Heap) (a : Addr) (items : Array Value) : Prop := match k with
  | false => h.IsList a items
  | true => h.IsTuple a items
def objK (k : Bool) (a : Addr) : Obj := match k with
  | false => { cls := .type "list_iterator", data := .fields #[.ref a, .int 0 0] }
  | true => { cls := .type "tuple_iterator", data := .fields #[.ref a, .int 0 0] }
theorem beginsK (k : Bool) (a : Addr) (items : Array Value) : Begins (.ref a) (objK k a) fun h => SeqK k h a items := by
  cases k
  · exact begins_list a items
  · exact begins_tuple a items
theorem drawsK {prog : Program} {w : World} {A : Around} (k : Bool) (hh : A.handled = none) (it a : Addr) (hne : a ≠ it) (items : Array Value) :
    Draws prog w A it [it, a] items.size (fun i v => items[i]? = some v) (fun i h => ItK k h it a i ∧ SeqK k h a items) := by
  cases k
  · exact Draws.list hh it a hne items
  · exact Draws.tuple hh it a hne items
theorem ItK.at {k : Bool} {h h' : Heap} {it a : Addr} {i : Nat} (x : ItK k h it a i) (e : ∀ o, h.get? it = some o → h'.get? it = some o) : ItK k h' it a i := by
  cases k
  · exact Heap.IsListIter.at x e
  · exact Heap.IsTupleIter.at x e
theorem ItK.obj {k : Bool} {h : Heap} {it a : Addr} {i : Nat} (x : ItK k h it a i) : ∃ o, h.get? it = some o ∧ ∀ v, o.data ≠ .cell v := by
  cases k
  · obtain ⟨o, e, _, d⟩ := (show h.IsListIter it a i from x)
    exact ⟨o, e, fun v z => by rw [d] at z; cases z⟩
  · obtain ⟨o, e, _, d⟩ := (show h.IsTupleIter it a i from x)
    exact ⟨o, e, fun v z => by rw [d] at z; cases z⟩
theorem ItK.start {k : Bool} {h : Heap} {it a : Addr} (e : h.get? it = some (objK k a)) : ItK k h it a 0 := by
  cases k
  · exact ⟨_, e, rfl, rfl⟩
  · exact ⟨_, e, rfl, rfl⟩
theorem seqK {X : Cx} {pins : List (Addr × Obj)} {σ : L2.St} {H : Hp} {s : Shared} {k : Bool} {a : Addr} {xs : List V} (I : Inv X pins σ H s) (h : SqK k X.K H a xs) : ∃ its : List Value, Vals xs its ∧ SeqK k s.heap a its.toArray := by
  cases k
  · obtain ⟨its, r, p, _⟩ := I.list h
    exact ⟨its, r, p.isList⟩
  · obtain ⟨its, r, p, _⟩ := I.tuple h
    exact ⟨its, r, p⟩
theorem seqK_inj {X : Cx} {pins : List (Addr × Obj)} {σ : L2.St} {H : Hp} {s : Shared} {k : Bool} {a : Addr} {xs ys : List V} (I : Inv X pins σ H s) (h : SqK k X.K H a xs) (h' : SqK k X.K H a ys) : xs = ys := by
  cases k
  · exact I.list_inj h h'
  · exact I.tuple_inj h h'
theorem SeqK.lt {k : Bool} {h : Heap} {a : Addr} {items : Array Value} (x : SeqK k h a items) : a < h.objs.size := by
  cases k
  · obtain ⟨o, e, _⟩ := (show h.IsList a items from x); exact Heap.lt_size e
  · obtain ⟨o, e, _⟩ := (show h.IsTuple a items from x); exact Heap.lt_size e
theorem not_tracked {X : Cx} {pins : List (Addr × Obj)} {σ : L2.St} {H : Hp} {s : Shared} {k : Bool} {a b : Addr} {xs : List V} {i : Nat} {l : Addr} (I : Inv X pins σ H s) (h : SqK k X.K H a xs) (hb : FpOk X pins H b) (o : Obj) (ho : s.heap.get? b = some o) (hc : o.cls ≠ .type "list" ∧ o.cls ≠ .type "tuple") : a ≠ b := by
  intro e
  subst e
  cases k
  · obtain ⟨its, _, ⟨o', n, e', c, _⟩, _⟩ := I.list h
    rw [ho] at e'; cases e'; exact hc.1 c
  · obtain ⟨its, _, ⟨o', e', c, _⟩, _⟩ := I.tuple h
    rw [ho] at e'; cases e'; exact hc.2 c
theorem ItK.ne {X : Cx} {pins : List (Addr × Obj)} {σ : L2.St} {H : Hp} {s : Shared} {k : Bool} {a it : Addr} {xs : List V} {i : Nat} (I : Inv X pins σ H s) (h : SqK k X.K H a xs) (x : ItK k s.heap it a i) : a ≠ it := by
  intro e
  subst e
  cases k
  · obtain ⟨its, _, ⟨o', n, e', c, _⟩, _⟩ := I.list h
    obtain ⟨o, e2, c2, _⟩ := (show s.heap.IsListIter a a i from x)
    rw [e'] at e2; cases e2; rw [c] at c2; injection c2 with c2; exact absurd c2 (by decide)
  · obtain ⟨its, _, ⟨o', e', c, _⟩, _⟩ := I.tuple h
    obtain ⟨o, e2, c2, _⟩ := (show s.heap.IsTupleIter a a i from x)
    rw [e'] at e2; cases e2; rw [c] at c2; injection c2 with c2; exact absurd c2 (by decide)

def Ite2 (k : Bool) (K : PySem.W.Frag) (a : Addr) : It :=
  ⟨fun i H => ∃ (xs : List V) (x : V), SqK k K H a xs ∧ xs[i]? = some x, fun i H v H' => ∃ T x, v = .ref T ∧ H T = none ∧ H' = upd H T (.tup [.int (i : Nat), x]) ∧ ∀ xs, SqK k K H a xs → xs[i]? = some x, fun i H => ∃ xs : List V, SqK k K H a xs ∧ xs.length = i⟩
theorem turn_enum2 {P : Program} {w : World} {K : PySem.W.Frag} {elts : List Expr} {kk : Nat} {tpos : Pos} (k : Bool) (a e it : Addr) (hne : e ≠ it) :
    Turn P w K (.Tuple elts kk tpos) (Ite2 k K a) [e, it] e (fun i h => (∃ old, IsEnum h e it ((i : Nat) : Int) old) ∧ ItK k h it a i) where
  mem := by simp
  obj := fun i h st b hb => by
    obtain ⟨⟨old, he⟩, hi⟩ := st
    have e' : b = e ∨ b = it := by simpa using hb
    rcases e' with z | z
    · rw [z]; exact ⟨_, he, fun v q => nomatch q⟩
    · rw [z]; exact hi.obj
  keep := fun i h h' st q => let ⟨⟨old, he⟩, hi⟩ := st; ⟨⟨old, q e (by simp) _ he⟩, hi.at fun o z => q it (by simp) o z⟩
  item := by
    intro X hP hw hK hc i pins s σ H E I hf st hg
    subst hP hw hK
    obtain ⟨⟨old, he⟩, hit⟩ := st
    obtain ⟨xs, x, hq, hx⟩ := hg
    obtain ⟨its, rv, p⟩ := seqK I hq
    obtain ⟨u, hu, ru⟩ := rv.get hx
    have hal : a ≠ it := hit.ne I hq
    have hae : e ≠ a := fun z => by
      have := not_tracked (i := 0) (l := 0) I hq (hf e (by simp)) _ he ⟨by simp, by simp⟩
      exact this z.symm
    have D := drawsK (prog := X.prog) (w := X.w) (A := X.A.in1) k (I.ok.hd hc) it a hal its.toArray
    have W := WalksT.enumerateD (A := X.A) D e hne (by simp [hne, hae]) (by simp)
    have hlt : i < its.toArray.size := by
      have := (List.getElem?_eq_some_iff.mp hu).1; simpa using this
    refine W.item i s _ _ hlt ⟨⟨old, he⟩, hit, p⟩ fun T vals h' tk hPt hT hIT hM hk => ⟨_, rfl, W.go elts kk tpos i T { s with heap := h', toks := tk } _ _ hM fun h'' st' hk' => ?_⟩
    obtain ⟨t, y, hy, rfl⟩ := hPt
    have ey : y = u := by
      have : its.toArray[i]? = some u := by simpa using hu
      rw [this] at hy; cases hy; rfl
    subst ey
    have hTn : T ∉ [e, it] := W.apart i T h' hM
    obtain ⟨oT, hoT, hcT, nT, hdT⟩ := hIT
    have hT2 : h''.get? T = some oT := hk' T oT hTn hoT
    have new : ObjOk X.prog X.w (upd H T (.tup [.int (i : Nat), x])) h'' T (.tup [.int (i : Nat), x]) :=
      ⟨by show 2 ≤ sizeLine; decide, [.int i t, y], .cons ⟨_, rfl⟩ (.cons ru .nil), ⟨oT, hT2, hcT, nT, hdT⟩⟩
    have I1 : Inv X pins σ (upd H T (.tup [.int (i : Nat), x])) { s with heap := h'', toks := tk } :=
      I.turnedNew (ch := [e, it]) (fun b ob hb q => hk' b ob hb (hk b ob hb q)) hf hT new
    refine ⟨.ref T, _, I1, rfl, ⟨_, x, rfl, I.hok.fresh hT, rfl, fun ys hy => by rw [seqK_inj I hy hq]; exact hx⟩, ⟨st'.1, st'.2.1⟩, fun b hb => ?_⟩
    have hb' : b ≠ T := fun z => hTn (by rw [← z]; exact hb)
    rw [upd_ne hb']
    exact (hf b hb).1
  done := by
    intro X hP hw hK hc i pins s σ H E I hf st hg
    subst hP hw hK
    obtain ⟨⟨old, he⟩, hit⟩ := st
    obtain ⟨xs, hq, hx⟩ := hg
    obtain ⟨its, rv, p⟩ := seqK I hq
    have hal : a ≠ it := hit.ne I hq
    have hae : e ≠ a := fun z => by
      have := not_tracked (i := 0) (l := 0) I hq (hf e (by simp)) _ he ⟨by simp, by simp⟩
      exact this z.symm
    have hl := rv.length
    -- the iterator may stand behind the end
    have D := drawsK (prog := X.prog) (w := X.w) (A := X.A.in1) k (I.ok.hd hc) it a hal its.toArray
    have W := WalksT.enumerateD (A := X.A) D e hne (by simp [hne, hae]) (by simp)
    have hi : i = its.toArray.size := by simp; omega
    subst hi
    exact W.done s _ _ ⟨⟨old, he⟩, hit, p⟩ fun h' tk hk => ⟨rfl, I.turnedL (ch := [e, it]) hk hf⟩
  self := fun A i s Q E st h => let ⟨⟨_, he⟩, _⟩ := st; wpAny_pyIter_enum he h

set_option maxHeartbeats 4000000 in
theorem meets_enumerate_new1B {v : Value} {o : Obj} {H : Heap → Prop} (B : Begins v o H) :
    Meets (Builtin.«enumerate.__new__» ⟨[.type "enumerate", v], []⟩) (fun _ R s => H s.heap ∧
      R (.ok (.ret (.ref (s.heap.push o).objs.size))) { s with heap := (s.heap.push o).push { cls := .type "enumerate", data := .fields #[.none, .bool false, .ref s.heap.objs.size, rawInt 0, .none, .none] } }) :=
  .of_wp fun prog w A R s h => by
    obtain ⟨hp, g, d, tk, os⟩ := s; obtain ⟨h1, h⟩ := h
    have hsub := sub_enumerate
    have q1 : ∀ {A' : Around} {E : Value → Shared → Prop} {Q : Value → Shared → Prop}, Q (.ref hp.objs.size) ⟨hp.push o, g, d, tk, os⟩ → wpAny (model prog w) A' (pyIter v) Q E ⟨hp, g, d, tk, os⟩ :=
      fun q => B.iter prog w _ _ ⟨hp, g, d, tk, os⟩ _ h1 q
    wp_walk using q1
    refine wpAny_stack_any fun st => wpAny_pure ?_
    split
    · rename_i c _ _ _ _ _
      cases (c == Value.type "enumerate")
      · wp_walk using q1
        exact ⟨_, rfl, h⟩
      · wp_walk using q1
        exact ⟨_, rfl, h⟩
    · wp_walk using q1
      exact ⟨_, rfl, h⟩
theorem enum_begins1 {prog : Program} {w : World} {A : Around} {E : Value → Shared → Prop} {s : Shared} {v : Value} {o : Obj} {H : Heap → Prop} {Q : Value → Shared → Prop} (B : Begins v o H) (h1 : H s.heap)
    (h : ∀ h', IsEnum h' (s.heap.objs.size + 1) s.heap.objs.size 0 .none → h'.get? s.heap.objs.size = some o → h'.objs.size = s.heap.objs.size + 2 →
      (∀ b o, s.heap.get? b = some o → h'.get? b = some o) → Q (.ref (s.heap.objs.size + 1)) { s with heap := h' }) :
    wpAny (model prog w) A (call (.type "enumerate") [v]) Q E s := by
  refine callType_new F.called_enumerate (by decide) (F.typeCall_enumerate_1 _) (F.newCall_enumerate_1 _) (fun obj => F.args_object_init_2 obj _) F.entry_enumerate_new
    (meets_enumerate_new1B B) ⟨h1, ?_⟩
  have hz : (s.heap.push o).objs.size = s.heap.objs.size + 1 := Heap.size_push ..
  show _ ∧ _
  rw [hz]
  have he : IsEnum ((s.heap.push o).push { cls := .type "enumerate", data := .fields #[.none, .bool false, .ref s.heap.objs.size, rawInt 0, .none, .none] }) (s.heap.objs.size + 1) s.heap.objs.size 0 .none := by
    have := Heap.get?_push_size (s.heap.push o) (o := { cls := .type "enumerate", data := .fields #[.none, .bool false, .ref s.heap.objs.size, rawInt 0, .none, .none] }) rfl
    rw [hz] at this; exact this
  refine ⟨⟨_, he, rfl⟩, h _ he (Heap.get?_push_of_some _ (Heap.get?_push_size _ B.free)) (by rw [Heap.size_push, hz]) fun b o x => Heap.get?_push_of_some _ (Heap.get?_push_of_some _ x)⟩
def iEnum2 (K : PySem.W.Frag) (ta : TA) : TI := fun σ H R => ta σ H fun vs H1 => ∃ k a xs, vs = [.ref a] ∧ SqK k K H1 a xs ∧ R (Ite2 k K a) H1
theorem pi_enum2 {X : Cx} {e : Expr} {ta : TA} {p pos tpos : Pos} {elts : List Expr} {kk : Nat} (hg : Gl X "enumerate") (hm : X.mg "enumerate" = none) (ha : PA X [e] ta) (hs : starEach [e] X.env = [(false, eval e X.env)]) :
    PI X (.Tuple elts kk tpos) (.Call (.Name "enumerate" p) [e] [] pos) (iEnum2 X.K ta) := by
  refine ⟨fun pins s σ H R I h => ?_⟩
  refine Call_ (ld_blt I hg hm boot_enumerate (PyProof.Rows.callWith_type1 (thn (ha.run pos pins s σ H _ I h) fun us s1 ⟨vs, H1, I1, r1, q1⟩ => ?_) hs rfl))
  obtain ⟨k, a, xs, ex, hq, q⟩ := q1
  subst ex
  cases r1 with
  | cons r rr =>
    cases rr
    cases r
    obtain ⟨its, rv, p'⟩ := seqK I1 hq
    refine enum_begins1 (beginsK k a its.toArray) p' fun h' he hit hsz hk => wpAny_pyIter_enum he ?_
    have I2 : Inv X pins σ H1 { s1 with heap := h' } := I1.kept (t' := s1.toks) hk
    refine ⟨s1.heap.objs.size + 1, [s1.heap.objs.size + 1, s1.heap.objs.size], _, _, H1, rfl, I2, turn_enum2 k a (s1.heap.objs.size + 1) s1.heap.objs.size (Nat.succ_ne_self _), ⟨⟨.none, he⟩, .start hit⟩, fun b hb => ?_, q⟩
    have e' : b = s1.heap.objs.size + 1 ∨ b = s1.heap.objs.size := by simpa using hb
    have hle : s1.heap.objs.size ≤ b := by
      rcases e' with z | z
      · rw [z]; exact Nat.le_add_right _ _
      · rw [z]; exact Nat.le_refl _
    exact I1.fpOk hle (I1.hok.fresh hle)

def Itz2 (k l : Bool) (K : PySem.W.Frag) (a b : Addr) : It :=
  ⟨fun i H => ∃ (xs ys : List V) (x y : V), SqK k K H a xs ∧ SqK l K H b ys ∧ xs[i]? = some x ∧ ys[i]? = some y,
    fun i H v H' => ∃ T x y, v = .ref T ∧ H T = none ∧ H' = upd H T (.tup [x, y]) ∧ (∀ xs, SqK k K H a xs → xs[i]? = some x) ∧ ∀ ys, SqK l K H b ys → ys[i]? = some y,
    fun i H => ∃ xs ys : List V, SqK k K H a xs ∧ SqK l K H b ys ∧ min xs.length ys.length = i⟩
theorem nd5 (n : Nat) : [n + 4, n + 2, n + 3, n, n + 1].Nodup := by
  simp only [List.nodup_cons, List.mem_cons, List.mem_nil_iff, or_false, not_or, not_false_eq_true, List.nodup_nil, and_true]
  omega
structure Zs (z TI TO i1 i2 : Addr) : Prop where
  nd : [z, TI, TO, i1, i2].Nodup
theorem zsep {X : Cx} {pins : List (Addr × Obj)} {σ : L2.St} {H : Hp} {s : Shared} {k l : Bool} {a b z TI TO i1 i2 : Addr} {xs ys : List V} (I : Inv X pins σ H s) (hz : Zs z TI TO i1 i2) (hf : ∀ c ∈ [z, TI, TO, i1, i2], FpOk X pins H c) (h1 : SqK k X.K H a xs) (h2 : SqK l X.K H b ys)
    (na : ∀ c ∈ [z, TI, TO, i1, i2], a ≠ c) (nb : ∀ c ∈ [z, TI, TO, i1, i2], b ≠ c) : ZipSep2 z TI TO i1 i2 [i1, a] [i2, b] := by
  have nd := hz.nd
  simp only [List.nodup_cons, List.mem_cons, List.mem_nil_iff, or_false, not_or, not_false_eq_true, List.nodup_nil, and_true] at nd
  obtain ⟨⟨z1, z2, z3, z4⟩, ⟨t1, t2, t3⟩, ⟨o1, o2⟩, i12⟩ := nd
  simp only [List.mem_cons, List.mem_nil_iff, or_false, forall_eq_or_imp, forall_eq] at na nb
  exact ⟨Ne.symm z1, Ne.symm z2, t1, t2, by simp, by simp [z3, Ne.symm na.1], by simp [o1, Ne.symm na.2.2.1], t3, by simp, by simp [z4, Ne.symm nb.1], by simp [o2, Ne.symm nb.2.2.1], by simp [i12, Ne.symm nb.2.2.2.1], by simp [Ne.symm i12, Ne.symm na.2.2.2.2]⟩
theorem turn_zip2 {P : Program} {w : World} {K : PySem.W.Frag} {elts : List Expr} {kk : Nat} {tpos : Pos} (k l : Bool) (a b z TI TO i1 i2 : Addr) (hz0 : Zs z TI TO i1 i2) (na : ∀ c ∈ [z, TI, TO, i1, i2], a ≠ c) (nb : ∀ c ∈ [z, TI, TO, i1, i2], b ≠ c) :
    Turn P w K (.Tuple elts kk tpos) (Itz2 k l K a b) [z, TI, TO, i1, i2] z (fun i h => IsZip h z TI TO .none ∧ IsTupOf2 h TI (.ref i1) (.ref i2) ∧ (∃ a1 a2, IsTupOf2 h TO a1 a2) ∧ ItK k h i1 a i ∧ ItK l h i2 b i) where
  mem := by simp
  obj := fun i h st c hc => by
    obtain ⟨hz, hTI, ⟨x, y, hTO⟩, h1, h2⟩ := st
    have e' : c = z ∨ c = TI ∨ c = TO ∨ c = i1 ∨ c = i2 := by simpa using hc
    rcases e' with q | q | q | q | q
    · rw [q]; exact ⟨_, hz, fun v q => nomatch q⟩
    · rw [q]; exact ⟨_, hTI, fun v q => nomatch q⟩
    · rw [q]; exact ⟨_, hTO, fun v q => nomatch q⟩
    · rw [q]; exact h1.obj
    · rw [q]; exact h2.obj
  keep := fun i h h' st q => by
    obtain ⟨hz, hTI, ⟨x, y, hTO⟩, h1, h2⟩ := st
    exact ⟨q z (by simp) _ hz, q TI (by simp) _ hTI, ⟨x, y, q TO (by simp) _ hTO⟩, h1.at fun o z => q i1 (by simp) o z, h2.at fun o z => q i2 (by simp) o z⟩
  item := by
    intro X hP hw hK hc i pins s σ H E I hf st hg
    subst hP hw hK
    obtain ⟨hz, hTI, hTO, h1, h2⟩ := st
    obtain ⟨xs, ys, x, y, hqx, hqy, hx, hy⟩ := hg
    obtain ⟨its, rv, p⟩ := seqK I hqx
    obtain ⟨its2, rv2, p2⟩ := seqK I hqy
    obtain ⟨u, hu, ru⟩ := rv.get hx
    obtain ⟨u2, hu2, ru2⟩ := rv2.get hy
    have S := zsep I hz0 hf hqx hqy na nb
    have D1 := drawsK (prog := X.prog) (w := X.w) (A := X.A.in1) k (I.ok.hd hc) i1 a (na i1 (by simp)) its.toArray
    have D2 := drawsK (prog := X.prog) (w := X.w) (A := X.A.in1) l (I.ok.hd hc) i2 b (nb i2 (by simp)) its2.toArray
    have W := WalksT.zipD2 (A := X.A) S D1 D2
    have hlt : i < min its.toArray.size its2.toArray.size := by
      have := (List.getElem?_eq_some_iff.mp hu).1
      have := (List.getElem?_eq_some_iff.mp hu2).1
      simp; omega
    refine W.item i s _ _ hlt ⟨hz, hTI, hTO, ⟨h1, p⟩, ⟨h2, p2⟩⟩ fun T vals h' tk hPt hT hIT hM hk => ⟨_, rfl, W.go elts kk tpos i T { s with heap := h', toks := tk } _ _ hM fun h'' st' hk' => ?_⟩
    obtain ⟨x1, x2, e1, e2, rfl⟩ := hPt
    have ex1 : x1 = u := by
      have : its.toArray[i]? = some u := by simpa using hu
      rw [this] at e1; cases e1; rfl
    have ex2 : x2 = u2 := by
      have : its2.toArray[i]? = some u2 := by simpa using hu2
      rw [this] at e2; cases e2; rfl
    subst ex1 ex2
    have hTn : T ∉ [z, TO, i1, i2] := W.apart i T h' hM
    have hfw : ∀ c ∈ [z, TO, i1, i2], FpOk X pins H c := fun c hcm => hf c (by
      have e' : c = z ∨ c = TO ∨ c = i1 ∨ c = i2 := by simpa using hcm
      rcases e' with q | q | q | q <;> simp [q])
    obtain ⟨oT, hoT, hcT, nT, hdT⟩ := hIT
    have hT2 : h''.get? T = some oT := hk' T oT hTn hoT
    have new : ObjOk X.prog X.w (upd H T (.tup [x, y])) h'' T (.tup [x, y]) :=
      ⟨by show 2 ≤ sizeLine; decide, [x1, x2], .cons ru (.cons ru2 .nil), ⟨oT, hT2, hcT, nT, hdT⟩⟩
    have I1 : Inv X pins σ (upd H T (.tup [x, y])) { s with heap := h'', toks := tk } :=
      I.turnedNew (ch := [z, TO, i1, i2]) (fun b ob hb q => hk' b ob hb (hk b ob hb q)) hfw hT new
    refine ⟨.ref T, _, I1, rfl, ⟨_, x, y, rfl, I.hok.fresh hT, rfl, fun ys hy => by rw [seqK_inj I hy hqx]; exact hx, fun ys hy' => by rw [seqK_inj I hy' hqy]; exact hy⟩, ⟨st'.1, st'.2.1, st'.2.2.1, st'.2.2.2.1.1, st'.2.2.2.2.1⟩, fun b hb => ?_⟩
    have hb' : b ≠ T := fun e => by
      obtain ⟨o, ho, _⟩ : ∃ o, s.heap.get? b = some o ∧ True := by
        have e' : b = z ∨ b = TI ∨ b = TO ∨ b = i1 ∨ b = i2 := by simpa using hb
        rcases e' with q | q | q | q | q
        · rw [q]; exact ⟨_, hz, trivial⟩
        · rw [q]; exact ⟨_, hTI, trivial⟩
        · obtain ⟨_, _, hTO⟩ := hTO; rw [q]; exact ⟨_, hTO, trivial⟩
        · rw [q]; obtain ⟨o, ho, _⟩ := h1.obj; exact ⟨o, ho, trivial⟩
        · rw [q]; obtain ⟨o, ho, _⟩ := h2.obj; exact ⟨o, ho, trivial⟩
      have := Heap.lt_size ho
      rw [e] at this
      exact absurd this (Nat.not_lt.mpr hT)
    rw [upd_ne hb']
    exact (hf b hb).1
  done := by
    intro X hP hw hK hc i pins s σ H E I hf st hg
    subst hP hw hK
    obtain ⟨hz, hTI, hTO, h1, h2⟩ := st
    obtain ⟨xs, ys, hqx, hqy, hx⟩ := hg
    obtain ⟨its, rv, p⟩ := seqK I hqx
    obtain ⟨its2, rv2, p2⟩ := seqK I hqy
    have S := zsep I hz0 hf hqx hqy na nb
    have D1 := drawsK (prog := X.prog) (w := X.w) (A := X.A.in1) k (I.ok.hd hc) i1 a (na i1 (by simp)) its.toArray
    have D2 := drawsK (prog := X.prog) (w := X.w) (A := X.A.in1) l (I.ok.hd hc) i2 b (nb i2 (by simp)) its2.toArray
    have W := WalksT.zipD2 (A := X.A) S D1 D2
    have hl := rv.length
    have hl2 := rv2.length
    have hi : i = min its.toArray.size its2.toArray.size := by simp; omega
    subst hi
    have hfw : ∀ c ∈ [z, TO, i1, i2], FpOk X pins H c := fun c hcm => hf c (by
      have e' : c = z ∨ c = TO ∨ c = i1 ∨ c = i2 := by simpa using hcm
      rcases e' with q | q | q | q <;> simp [q])
    exact W.done s _ _ ⟨hz, hTI, hTO, ⟨h1, p⟩, ⟨h2, p2⟩⟩ fun h' tk hk => ⟨rfl, I.turnedL (ch := [z, TO, i1, i2]) hk hfw⟩
  self := fun A i s Q E st h => wpAny_pyIter_zip st.1 h
def iZip2 (K : PySem.W.Frag) (ta : TA) : TI := fun σ H R => ta σ H fun vs H1 => ∃ k l a b xs ys, vs = [.ref a, .ref b] ∧ SqK k K H1 a xs ∧ SqK l K H1 b ys ∧ R (Itz2 k l K a b) H1
theorem pi_zip2 {X : Cx} {e e2 : Expr} {ta : TA} {p pos tpos : Pos} {elts : List Expr} {kk : Nat} (hg : Gl X "zip") (hm : X.mg "zip" = none) (ha : PA X [e, e2] ta)
    (hs : starEach [e, e2] X.env = (false, eval e X.env) :: starEach [e2] X.env) (hpl : (backTo pos (starEach [e2] X.env)).any (·.1) = false) :
    PI X (.Tuple elts kk tpos) (.Call (.Name "zip" p) [e, e2] [] pos) (iZip2 X.K ta) := by
  refine ⟨fun pins s σ H R I h => ?_⟩
  refine Call_ (ld_blt I hg hm PyProof.Rows.boot_zip (PyProof.Rows.callWith_type1 (thn (ha.run pos pins s σ H _ I h) fun us s1 ⟨vs, H1, I1, r1, q1⟩ => ?_) hs hpl))
  obtain ⟨k, l, a, b, xs, ys, ex, hqx, hqy, q⟩ := q1
  subst ex
  cases r1 with
  | cons r rr =>
    cases rr with
    | cons r' rr =>
      cases rr
      cases r
      cases r'
      obtain ⟨its, rv, p1⟩ := seqK I1 hqx
      obtain ⟨its2, rv2, p2⟩ := seqK I1 hqy
      have la := p1.lt
      have lb := p2.lt
      refine zip_begins2 (beginsK k a its.toArray) (beginsK l b its2.toArray) p1 p2 fun h' hz hTI hTO h1 h2 hsz hk => wpAny_pyIter_zip hz ?_
      have I2 : Inv X pins σ H1 { s1 with heap := h' } := I1.kept (t' := s1.toks) hk
      have big : ∀ c ∈ [s1.heap.objs.size + 4, s1.heap.objs.size + 2, s1.heap.objs.size + 3, s1.heap.objs.size, s1.heap.objs.size + 1], s1.heap.objs.size ≤ c := fun c hcm => by
        have e' : c = s1.heap.objs.size + 4 ∨ c = s1.heap.objs.size + 2 ∨ c = s1.heap.objs.size + 3 ∨ c = s1.heap.objs.size ∨ c = s1.heap.objs.size + 1 := by simpa using hcm
        rcases e' with z | z | z | z | z
        · rw [z]; exact Nat.le_add_right _ _
        · rw [z]; exact Nat.le_add_right _ _
        · rw [z]; exact Nat.le_add_right _ _
        · rw [z]; exact Nat.le_refl _
        · rw [z]; exact Nat.le_add_right _ _
      refine ⟨s1.heap.objs.size + 4, [s1.heap.objs.size + 4, s1.heap.objs.size + 2, s1.heap.objs.size + 3, s1.heap.objs.size, s1.heap.objs.size + 1], _, _, H1, rfl, I2, turn_zip2 k l a b _ _ _ _ _ ⟨?_⟩ (fun c hc => Nat.ne_of_lt (Nat.lt_of_lt_of_le la (big c hc))) (fun c hc => Nat.ne_of_lt (Nat.lt_of_lt_of_le lb (big c hc))), ⟨hz, hTI, ⟨_, _, hTO⟩, .start h1, .start h2⟩, fun c hcm => I1.fpOk (big c hcm) (I1.hok.fresh (big c hcm)), q⟩
      exact nd5 _
end Mi
namespace Mi
open PySem L2

/-- frozen data: a tree, never written (a list marked true may be a caller's own: read alone); scr: the script itself -/
inductive D where
  | non | bl (b : Bool) | int (i : Int) | str (s : Str)
  | tup (xs : List D) | lst (t : Bool) (xs : List D)
  | ins (c : String) (fs : List (String × D))
  | scr (ns : List Int)

/-- a value at run time: data, a mutable cell, a tuple with cells in it -/
inductive MV where
  | d (x : D) | c (i : Nat) | t (xs : List MV)

/-- live lists and instances; what is frozen: data, a list that holds cells -/
inductive Cell where
  | lst (xs : List MV)
  | ins (c : String) (fs : List (String × MV))
  | froz (d : D)
  | fl (xs : List MV)

abbrev Sto := List Cell
abbrev Slots := List (Option MV)

inductive R (α : Type) where
  | ok (a : α) (S : Sto)
  | exc (c : String) (fs : List (String × D)) (S : Sto)
  | stuck

def R.bind {α β : Type} (r : R α) (k : α → Sto → R β) : R β := match r with
  | .ok a S => k a S
  | .exc c fs S => .exc c fs S
  | .stuck => .stuck
@[simp] theorem R.bind_ok {α β : Type} (a : α) (S : Sto) (k : α → Sto → R β) : (R.ok a S).bind k = k a S := rfl
@[simp] theorem R.bind_exc {α β : Type} (c : String) (fs : List (String × D)) (S : Sto) (k : α → Sto → R β) : (R.exc c fs S).bind k = .exc c fs S := rfl
@[simp] theorem R.bind_stuck {α β : Type} (k : α → Sto → R β) : (R.stuck : R α).bind k = .stuck := rfl
def R.opt {α : Type} (o : Option α) (S : Sto) : R α := match o with
  | some a => .ok a S
  | none => .stuck
@[simp] theorem R.opt_some {α : Type} (a : α) (S : Sto) : R.opt (some a) S = .ok a S := rfl
@[simp] theorem R.opt_none {α : Type} (S : Sto) : R.opt (none : Option α) S = .stuck := rfl

/-- how a statement ends -/
inductive F where
  | next (σ : Slots) (S : Sto)
  | ret (v : MV) (S : Sto)
  | brk (σ : Slots) (S : Sto)
  | cont (σ : Slots) (S : Sto)
  | exc (c : String) (fs : List (String × D)) (σ : Slots) (S : Sto)
  | stuck

def R.toF {α : Type} (r : R α) (σ : Slots) (k : α → Sto → F) : F := match r with
  | .ok a S => k a S
  | .exc c fs S => .exc c fs σ S
  | .stuck => .stuck
@[simp] theorem R.toF_ok {α : Type} (a : α) (S : Sto) (σ : Slots) (k : α → Sto → F) : (R.ok a S).toF σ k = k a S := rfl
@[simp] theorem R.toF_exc {α : Type} (c : String) (fs : List (String × D)) (S : Sto) (σ : Slots) (k : α → Sto → F) : (R.exc c fs S).toF σ k = .exc c fs σ S := rfl
@[simp] theorem R.toF_stuck {α : Type} (σ : Slots) (k : α → Sto → F) : (R.stuck : R α).toF σ k = .stuck := rfl
def F.seq (f : F) (k : Slots → Sto → F) : F := match f with
  | .next σ S => k σ S
  | f => f
@[simp] theorem F.seq_next (σ : Slots) (S : Sto) (k : Slots → Sto → F) : (F.next σ S).seq k = k σ S := rfl
@[simp] theorem F.seq_ret (v : MV) (S : Sto) (k : Slots → Sto → F) : (F.ret v S).seq k = .ret v S := rfl
@[simp] theorem F.seq_brk (σ : Slots) (S : Sto) (k : Slots → Sto → F) : (F.brk σ S).seq k = .brk σ S := rfl
@[simp] theorem F.seq_cont (σ : Slots) (S : Sto) (k : Slots → Sto → F) : (F.cont σ S).seq k = .cont σ S := rfl
@[simp] theorem F.seq_exc (c : String) (fs : List (String × D)) (σ : Slots) (S : Sto) (k : Slots → Sto → F) : (F.exc c fs σ S).seq k = .exc c fs σ S := rfl
@[simp] theorem F.seq_stuck (k : Slots → Sto → F) : F.stuck.seq k = .stuck := rfl

inductive Bop where | add | sub | mul | fdiv | mod | pow
  deriving DecidableEq
inductive Cop where | eq | ne | lt | le | gt | ge | is_ | isn | in_ | nin
  deriving DecidableEq

/-- built-ins by name -/
inductive Bl where | abs | int | max | len | list | tuple | sum | min | any | all | sorted
  deriving DecidableEq
def Bl.name : Bl → String
  | .abs => "abs" | .int => "int" | .max => "max" | .len => "len" | .list => "list" | .tuple => "tuple" | .sum => "sum" | .min => "min" | .any => "any" | .all => "all" | .sorted => "sorted"

/-- what an except suite hands back: constants, a field of the error -/
inductive Ha where
  | non | bl (b : Bool) | int (i : Int) | str (s : String) | fl (f : String)
inductive Hx where
  | a (x : Ha) | lst (xs : List Ha) | tup (xs : List Ha) | eqi (f : String) (i : Int) | num (g : String) (f : String) (i : Int)
/-- a clause: its class, its name's slot, the classes that it takes, those that it passes on -/
structure Hd where
  cls : String
  slot : Option Nat
  yes : List String
  no : List String
  hx : Hx

/-- names; a tuple of names; names and a starred one -/
inductive Tg where
  | nm (i : Nat) | tp (is : List Nat) | st (is : List Nat) (j : Nat)

/-- how a call sees its arguments: as they are; as data, but for the cells that are lent; the same, what comes back stays a cell -/
inductive Md where
  | raw | bor (fl : List Bool) | own (fl : List Bool)

mutual
inductive E where
  | var (i : Nat) | int (i : Int) | bl (b : Bool) | non | str (s : String)
  | bin (o : Bop) (a b : E)
  | neg (a : E)
  | cmp (o : Cop) (a b : E)
  | chain (o p : Cop) (a b c : E)
  | and_ (a b : E) | or_ (a b : E) | one (a : E)
  | not_ (a : E)
  | ife (t a b : E)
  | tup (es : Es) | lst (cell : Bool) (es : Es)
  | ix (a i : E)
  | sl (cell : Bool) (a : E) (lo hi : Eo)
  | call (md : Md) (f : String) (es : Es)
  | blt (cell : Bool) (b : Bl) (es : Es)
  | isi (a : E) (ty : String)
  | isc (a : E) (c : String)
  | app (a e : E)
  | lc (cell : Bool) (elt : E) (tg : Tg) (it : It) (cond : Eo) (own : List (String × Nat))
  | lc2 (cell : Bool) (elt : E) (tg : Tg) (it : It) (tg2 : Tg) (it2 : It) (own : List (String × Nat)) (own2 : List Nat)
  | glob (x : String) (i : Int)
  | gtup (x : String) (is : List Int)
  | calld (md : Md) (f : String) (es : Es) (i : Int)
  | callsw (md : Md) (f : String) (k1 k2 : String) (a b : E)
  | new (md : Md) (c : String) (es : Es)
  | meth (md : Md) (cs : List String) (a : E) (m : String) (es : Es)
  | attr (a : E) (f : String)
  | prop (md : Md) (cs : List String) (a : E) (f : String)
  | opm (md : Md) (cs : List String) (m : String) (a b : E)
  | lenm (md : Md) (cs : List String) (a : E)
inductive Es where
  | nil | cons (e : E) (r : Es) | star (e : E) (r : Es)
inductive Eo where
  | no | yes (e : E)
inductive It where
  | seq (e : E) | range1 (e : E) | range2 (a b : E) | range3 (a b c : E) | enum (e : E) | zip (a b : E)
end

mutual
inductive Sm where
  | asg (tg : Tg) (e : E)
  | par (i j : Nat) (a b : E)
  | setix (a i e : E)
  | swap (a i b j : E) (x y : E)
  | aug (i : Nat) (o : Bop) (e : E)
  | fld (a : E) (f : String) (e : E)
  | fld2 (a : E) (f : String) (b : E) (g : String) (e : E)
  | expr (e : E)
  | ret (e : E)
  | retn
  | ifs (t : E) (a b : Sms)
  | for_ (tg : Tg) (it : It) (body : Sms)
  | while_ (t : E) (body : Sms)
  | raise_ (c : String) (e : E) (f : String)
  | raise0 (c : String)
  | try_ (body : Sms) (hs : List Hd)
inductive Sms where
  | nil | cons (s : Sm) (r : Sms) | wipe (is : List Nat) (r : Sms)
end

/-! ### operations on data -/
def mulOk (i j : Int) : Bool := decide (i.natAbs.log2 + j.natAbs.log2 < 1000000)
def divOk (j : Int) : Bool := decide (j ≠ 0 ∧ j.natAbs.log2 < 9000)
def powOk (i j : Int) : Bool := decide (0 ≤ j ∧ j ≤ 1000000 ∧ i.natAbs < 2 ^ 64)
def szOk (n : Nat) : Bool := decide (n ≤ 1000000)

def binD (o : Bop) (a b : D) : Option D := match o, a, b with
  | .add, .int i, .int j => some (.int (i + j))
  | .sub, .int i, .int j => some (.int (i - j))
  | .mul, .int i, .int j => if mulOk i j then some (.int (i * j)) else none
  | .fdiv, .int i, .int j => if divOk j then some (.int (i.fdiv j)) else none
  | .mod, .int i, .int j => if j ≠ 0 then some (.int (i.fmod j)) else none
  | .pow, .int i, .int j => if powOk i j then some (.int (i ^ j.toNat)) else none
  | _, _, _ => none

/-- a cell's or a frozen list's items -/
def allD : List MV → Option (List D)
  | [] => some []
  | .d x :: r => (allD r).map (x :: ·)
  | _ :: _ => none

mutual
/-- nothing of a caller's own in it -/
def clean : D → Bool
  | .lst t xs => !t && cleans xs
  | .tup xs => cleans xs
  | .ins _ fs => cleanF fs
  | .scr _ => false
  | _ => true
def cleans : List D → Bool
  | [] => true
  | x :: r => clean x && cleans r
def cleanF : List (String × D) → Bool
  | [] => true
  | (_, x) :: r => clean x && cleanF r
end

/-- v as data: reading alone; at most n deep through cells -/
def deepL (f : MV → Option D) : List MV → Option (List D)
  | [] => some []
  | m :: r => match f m with
    | some d => (deepL f r).map (d :: ·)
    | none => none
/-- .. but for the cells ex -/
def deep (ex : List Nat) : Nat → Sto → MV → Option D
  | _, _, .d x => some x
  | 0, _, _ => none
  | n + 1, S, .c i => if ex.contains i then none else match S[i]? with
    | some (.froz d) => some d
    | some (.lst ms) => (deepL (deep ex n S) ms).map (.lst true)
    | some (.fl ms) => (deepL (deep ex n S) ms).map (.lst true)
    | _ => none
  | n + 1, S, .t ms => (deepL (deep ex n S) ms).map .tup

/-- the items of a list or tuple -/
def items (S : Sto) : MV → Option (List MV)
  | .d (.lst _ xs) => some (xs.map .d)
  | .d (.tup xs) => some (xs.map .d)
  | .t xs => some xs
  | .c i => match S[i]? with
    | some (.lst ms) => some ms
    | some (.fl ms) => some ms
    | some (.froz (.lst _ xs)) => some (xs.map .d)
    | _ => none
  | _ => none
/-- the items of a list -/
def litems (S : Sto) : MV → Option (List MV)
  | .d (.lst _ xs) => some (xs.map .d)
  | .c i => match S[i]? with
    | some (.lst ms) => some ms
    | some (.fl ms) => some ms
    | some (.froz (.lst _ xs)) => some (xs.map .d)
    | _ => none
  | _ => none
/-- the items of a tuple -/
def titems : MV → Option (List MV)
  | .d (.tup xs) => some (xs.map .d)
  | .t xs => some xs
  | _ => none

/-- a new list: data, or a cell -/
def newL (cell : Bool) (ms : List MV) (S : Sto) : R MV :=
  if szOk ms.length then
    if cell then .ok (.c S.length) (S ++ [.lst ms]) else match allD ms with
      | some ds => .ok (.d (.lst false ds)) S
      | none => .ok (.c S.length) (S ++ [.lst ms])
  else .stuck
/-- a tuple as a value -/
def tupV (ms : List MV) : MV := match allD ms with
  | some ds => .d (.tup ds)
  | none => .t ms
def newT (ms : List MV) (S : Sto) : R MV := if szOk ms.length then .ok (tupV ms) S else .stuck

/-- an operator: numbers, lists, tuples -/
def binF (o : Bop) (x y : MV) (S : Sto) : R MV := match x, y with
  | .d (.int i), .d (.int j) => match binD o (.int i) (.int j) with
    | some z => .ok (.d z) S
    | none => .stuck
  | x, y => match o with
    | .add => match litems S x, litems S y with
      | some xs, some ys => if szOk (xs.length + ys.length) then newL false (xs ++ ys) S else .stuck
      | _, _ => match titems x, titems y with
        | some xs, some ys => if szOk (xs.length + ys.length) then .ok (tupV (xs ++ ys)) S else .stuck
        | _, _ => .stuck
    | .mul => match litems S x, y with
      | some xs, .d (.int k) => if decide (k ≤ 1000) && szOk (xs.length * k.toNat) && decide (-1000 ≤ k) then newL false (List.replicate k.toNat xs).flatten S else .stuck
      | _, _ => .stuck
    | _ => .stuck

/-- frozen, at most n deep: live cells become data -/
def freezeL (f : MV → Sto → R D) : List MV → Sto → R (List D)
  | [], S => .ok [] S
  | v :: r, S => (f v S).bind fun d S1 => (freezeL f r S1).bind fun ds S2 => .ok (d :: ds) S2
def freezeF (f : MV → Sto → R D) : List (String × MV) → Sto → R (List (String × D))
  | [], S => .ok [] S
  | (x, v) :: r, S => (f v S).bind fun d S1 => (freezeF f r S1).bind fun ds S2 => .ok ((x, d) :: ds) S2
def freeze : Nat → MV → Sto → R D
  | _, .d x, S => .ok x S
  | 0, _, _ => .stuck
  | n + 1, .c i, S => match S[i]? with
    | some (.froz d) => .ok d S
    | some (.lst ms) => (freezeL (freeze n) ms S).bind fun ds S1 => match S1[i]? with
      | some (.lst _) => .ok (.lst false ds) (S1.set i (.froz (.lst false ds)))
      | _ => .stuck
    | some (.fl ms) => (freezeL (freeze n) ms S).bind fun ds S1 => match S1[i]? with
      | some (.fl _) => .ok (.lst false ds) (S1.set i (.froz (.lst false ds)))
      | _ => .stuck
    | some (.ins c fs) => (freezeF (freeze n) fs S).bind fun ds S1 => match S1[i]? with
      | some (.ins _ _) => .ok (.ins c ds) (S1.set i (.froz (.ins c ds)))
      | _ => .stuck
    | _ => .stuck
  | n + 1, .t ms, S => (freezeL (freeze n) ms S).bind fun ds S1 => .ok (.tup ds) S1

/-- the items that a loop walks: a live list stands still from now on -/
def walked (v : MV) (S : Sto) : R (List MV) := match v with
  | .t ms => .ok ms S
  | .d (.lst _ xs) => .ok (xs.map .d) S
  | .d (.tup xs) => .ok (xs.map .d) S
  | .c i => match S[i]? with
    | some (.lst ms) => match allD ms with
      | some ds => .ok ms (S.set i (.froz (.lst false ds)))
      | none => .ok ms (S.set i (.fl ms))
    | some (.fl ms) => .ok ms S
    | some (.froz (.lst _ xs)) => .ok (xs.map .d) S
    | _ => .stuck
  | _ => .stuck

/-- equality of data -/
def depL (f : D → Bool) : List D → Bool
  | [] => true
  | x :: r => f x && depL f r
def dep : Nat → D → Bool
  | 0, .lst _ _ => false
  | 0, .tup _ => false
  | n + 1, .lst _ xs => depL (dep n) xs
  | n + 1, .tup xs => depL (dep n) xs
  | _, .ins _ _ => false
  | _, .scr _ => false
  | _, .str s => PyData.strOk s
  | _, _ => true
mutual
def eqD : D → D → Bool
  | .non, .non => true
  | .bl a, .bl b => a == b
  | .bl a, .int j => (if a then 1 else 0) == j
  | .int i, .bl b => i == (if b then 1 else 0)
  | .int i, .int j => i == j
  | .str x, .str y => x == y
  | .lst _ xs, .lst _ ys => eqDs xs ys
  | .tup xs, .tup ys => eqDs xs ys
  | _, _ => false
def eqDs : List D → List D → Bool
  | [], [] => true
  | x :: xs, y :: ys => eqD x y && eqDs xs ys
  | _, _ => false
end
def memD (x : D) : List D → Bool
  | [] => false
  | y :: r => eqD y x || memD x r
def isNon : D → Bool
  | .non => true
  | _ => false

def cmpD (o : Cop) (a b : D) : Option Bool := match o, a, b with
  | .lt, .int i, .int j => some (decide (i < j))
  | .le, .int i, .int j => some (decide (i ≤ j))
  | .gt, .int i, .int j => some (decide (j < i))
  | .ge, .int i, .int j => some (decide (j ≤ i))
  | .eq, a, b => if dep 8 a && dep 8 b then some (eqD a b) else none
  | .ne, a, b => if dep 8 a && dep 8 b then some (!eqD a b) else none
  | .in_, a, .lst _ xs => if dep 8 a && depL (dep 7) xs then some (memD a xs) else none
  | .nin, a, .lst _ xs => if dep 8 a && depL (dep 7) xs then some (!memD a xs) else none
  | .in_, a, .tup xs => if dep 8 a && depL (dep 7) xs then some (memD a xs) else none
  | .nin, a, .tup xs => if dep 8 a && depL (dep 7) xs then some (!memD a xs) else none
  | _, _, _ => none
/-- a question to values -/
def cmpF (o : Cop) (x y : MV) (S : Sto) : R MV := match o with
  | .is_ => match x, y with
    | .d a, .d .non => .ok (.d (.bl (isNon a))) S
    | .c _, .d .non => .ok (.d (.bl false)) S
    | .t _, .d .non => .ok (.d (.bl false)) S
    | _, _ => .stuck
  | .isn => match x, y with
    | .d a, .d .non => .ok (.d (.bl (!isNon a))) S
    | .c _, .d .non => .ok (.d (.bl true)) S
    | .t _, .d .non => .ok (.d (.bl true)) S
    | _, _ => .stuck
  | o => match deep [] 4 S x, deep [] 4 S y with
    | some a, some b => match cmpD o a b with
      | some z => .ok (.d (.bl z)) S
      | none => .stuck
    | _, _ => .stuck

def truth (S : Sto) (v : MV) : Option Bool := match v with
  | .d .non => some false
  | .d (.bl b) => some b
  | .d (.int i) => some (i != 0)
  | v => (items S v).map fun ms => !ms.isEmpty

/-- the built-in class of a value; an own one -/
def tyD (S : Sto) (v : MV) : Option String := match v with
  | .d .non => some "NoneType"
  | .d (.bl _) => some "bool"
  | .d (.int _) => some "int"
  | .d (.str _) => some "str"
  | .d (.tup _) => some "tuple"
  | .t _ => some "tuple"
  | .d (.lst _ _) => some "list"
  | .c i => match S[i]? with
    | some (.lst _) => some "list"
    | some (.fl _) => some "list"
    | some (.froz (.lst _ _)) => some "list"
    | _ => none
  | _ => none
def isiT (t ty : String) : Option Bool :=
  if ["int", "bool", "str", "list", "tuple"].contains ty then some (t == ty || (t == "bool" && ty == "int")) else none
/-- an instance's class and fields -/
def insOf (S : Sto) (v : MV) : Option (String × List (String × MV)) := match v with
  | .d (.ins c fs) => some (c, fs.map fun p => (p.1, .d p.2))
  | .c i => match S[i]? with
    | some (.ins c fs) => some (c, fs)
    | some (.froz (.ins c fs)) => some (c, fs.map fun p => (p.1, .d p.2))
    | _ => none
  | _ => none
def isiF (ty : String) (v : MV) (S : Sto) : R MV := match tyD S v with
  | some t => match isiT t ty with
    | some k => .ok (.d (.bl k)) S
    | none => .stuck
  | none => match insOf S v with
    | some _ => if ["int", "bool", "str", "list", "tuple"].contains ty then .ok (.d (.bl false)) S else .stuck
    | none => .stuck
def iscF (c : String) (v : MV) (S : Sto) : R MV := match tyD S v with
  | some _ => .ok (.d (.bl false)) S
  | none => match insOf S v with
    | some (k, _) => .ok (.d (.bl (k == c))) S
    | none => .stuck
def negF (x : MV) (S : Sto) : R MV := match x with
  | .d (.int i) => .ok (.d (.int (-i))) S
  | _ => .stuck
/-- an index -/
def ixF (x k : MV) (S : Sto) : R MV := match items S x, k with
  | some ms, .d (.int k) => match L2.atI ms k with
    | some m => .ok m S
    | none => .stuck
  | _, _ => .stuck
/-- a slice -/
def slF (cell : Bool) (x : MV) (lo hi : Option Int) (S : Sto) : R MV := match litems S x with
  | some ms => newL cell (cutM ms lo hi) S
  | none => match titems x with
    | some ms => .ok (tupV (cutM ms lo hi)) S
    | none => .stuck
where cutM (ms : List MV) (lo hi : Option Int) : List MV := (ms.drop (HT.sIx ms.length 0 lo)).take (HT.sIx ms.length ms.length hi - HT.sIx ms.length 0 lo)
/-- a live list -/
def lstC (S : Sto) : MV → Bool
  | .c i => match S[i]? with
    | some (.lst _) => true
    | _ => false
  | _ => false
/-- append -/
def appF (x y : MV) (S : Sto) : R MV := match x with
  | .c i => match S[i]? with
    | some (.lst ms) => if szOk (ms.length + 1) then .ok (.d .non) (S.set i (.lst (ms ++ [y]))) else .stuck
    | _ => .stuck
  | _ => .stuck
/-- x[k] = v -/
def setF (x k v : MV) (S : Sto) : R Unit := match x, k with
  | .c id, .d (.int k) => match S[id]? with
    | some (.lst ms) => match L2.ixN ms.length k with
      | some j => .ok () (S.set id (.lst (ms.set j v)))
      | none => .stuck
    | _ => .stuck
  | _, _ => .stuck
/-- x.f = v -/
def putM (f : String) (v : MV) : List (String × MV) → List (String × MV)
  | [] => [(f, v)]
  | (g, x) :: r => if g = f then (g, v) :: r else (g, x) :: putM f v r
def fldF (x : MV) (f : String) (v : MV) (S : Sto) : R Unit := match x with
  | .c id => match S[id]? with
    | some (.ins c fs) => if fs.length < 900 then .ok () (S.set id (.ins c (putM f v fs))) else .stuck
    | _ => .stuck
  | _ => .stuck
/-- x.f -/
def attrF (f : String) (x : MV) (S : Sto) : R MV := match insOf S x with
  | some (_, fs) => match fs.lookup f with
    | some v => .ok v S
    | none => .stuck
  | none => .stuck

/-- ints, truth values -/
def intsOf : List MV → Option (List Int)
  | [] => some []
  | .d (.int i) :: r => (intsOf r).map (i :: ·)
  | _ => none
def blsOf : List MV → Option (List Bool)
  | [] => some []
  | .d (.bl i) :: r => (blsOf r).map (i :: ·)
  | _ => none
def maxL : List Int → Int
  | [] => 0
  | [x] => x
  | x :: y :: r => let m := maxL (y :: r); if m ≤ x then x else m
def minL : List Int → Int
  | [] => 0
  | [x] => x
  | x :: y :: r => let m := minL (y :: r); if x ≤ m then x else m
def insI (x : Int) : List Int → List Int
  | [] => [x]
  | y :: r => if x ≤ y then x :: y :: r else y :: insI x r
def sortI : List Int → List Int
  | [] => []
  | x :: r => insI x (sortI r)

def absF (vs : List MV) (S : Sto) : R MV := match vs with
  | [.d (.int i)] => .ok (.d (.int (if i < 0 then -i else i))) S
  | _ => .stuck
def intF (vs : List MV) (S : Sto) : R MV := match vs with
  | [.d (.int i)] => .ok (.d (.int i)) S
  | [.d (.bl k)] => .ok (.d (.int (if k = true then 1 else 0))) S
  | _ => .stuck
def maxF (vs : List MV) (S : Sto) : R MV := match vs with
  | [.d (.int i), .d (.int j)] => .ok (.d (.int (if j > i then j else i))) S
  | [v] => match (items S v).bind intsOf with
    | some (i :: is) => .ok (.d (.int (maxL (i :: is)))) S
    | _ => .stuck
  | _ => .stuck
def minF (vs : List MV) (S : Sto) : R MV := match vs with
  | [.d (.int i), .d (.int j)] => .ok (.d (.int (if j < i then j else i))) S
  | [v] => match (items S v).bind intsOf with
    | some (i :: is) => .ok (.d (.int (minL (i :: is)))) S
    | _ => .stuck
  | _ => .stuck
def lenF (vs : List MV) (S : Sto) : R MV := match vs with
  | [v] => match items S v with
    | some ms => .ok (.d (.int ms.length)) S
    | none => .stuck
  | _ => .stuck
def listF (cell : Bool) (vs : List MV) (S : Sto) : R MV := match vs with
  | [.d (.scr ns)] => newL cell (ns.map fun n => .d (.int n)) S
  | [v] => match items S v with
    | some ms => newL cell ms S
    | none => .stuck
  | _ => .stuck
def tupF (vs : List MV) (S : Sto) : R MV := match vs with
  | [v] => match items S v with
    | some ms => newT ms S
    | none => .stuck
  | _ => .stuck
def sumF (vs : List MV) (S : Sto) : R MV := match vs with
  | [v] => match (items S v).bind intsOf with
    | some is => .ok (.d (.int is.sum)) S
    | none => .stuck
  | _ => .stuck
def anyF (vs : List MV) (S : Sto) : R MV := match vs with
  | [v] => match (litems S v).bind blsOf with
    | some bs => .ok (.d (.bl (bs.any id))) S
    | none => .stuck
  | _ => .stuck
def allF (vs : List MV) (S : Sto) : R MV := match vs with
  | [v] => match (litems S v).bind blsOf with
    | some bs => .ok (.d (.bl (bs.all id))) S
    | none => .stuck
  | _ => .stuck
def sortF (cell : Bool) (vs : List MV) (S : Sto) : R MV := match vs with
  | [v] => match (litems S v).bind intsOf with
    | some is => newL cell ((sortI is).map fun n => .d (.int n)) S
    | none => .stuck
  | _ => .stuck
def bltF (cell : Bool) (b : Bl) : List MV → Sto → R MV := match b with
  | .abs => absF
  | .int => intF
  | .max => maxF
  | .len => lenF
  | .list => listF cell
  | .tuple => tupF
  | .sum => sumF
  | .min => minF
  | .any => anyF
  | .all => allF
  | .sorted => sortF cell

def setAll : Slots → List Nat → List MV → Slots
  | σ, i :: is, m :: ms => setAll (σ.set i (some m)) is ms
  | σ, _, _ => σ
def bindTg (tg : Tg) (σ : Slots) (v : MV) (S : Sto) : R Slots := match tg with
  | .nm i => .ok (σ.set i (some v)) S
  | .tp is => match items S v with
    | some ms => if ms.length = is.length then .ok (setAll σ is ms) S else .stuck
    | none => .stuck
  | .st is j => match items S v with
    | some ms => if is.length ≤ ms.length then (newL false (ms.drop is.length) S).bind fun r S1 => .ok ((setAll σ is (ms.take is.length)).set j (some r)) S1 else .stuck
    | none => .stuck

abbrev Calls := String → List MV → Sto → R MV

/-- the comprehension's walk -/
def lcGo (el : Slots → Sto → R MV) (cd : Slots → Sto → R Bool) (tg : Tg) (σ : Slots) : List MV → List MV → Sto → R (List MV)
  | [], acc, S => .ok acc.reverse S
  | x :: xs, acc, S => match bindTg tg σ x S with
    | .ok σ1 S0 => match cd σ1 S0 with
      | .ok true S1 => match el σ1 S1 with
        | .ok y S2 => lcGo el cd tg σ xs (y :: acc) S2
        | _ => .stuck
      | .ok false S1 => lcGo el cd tg σ xs acc S1
      | _ => .stuck
    | _ => .stuck
/-- two walks, one in the other -/
def lcGo2 (el : Slots → Sto → R MV) (it2 : Slots → Sto → R (List MV)) (tg tg2 : Tg) (w2 : List Nat) (wp : Slots → List Nat → Slots) (σ : Slots) : List MV → List MV → Sto → R (List MV)
  | [], acc, S => .ok acc.reverse S
  | x :: xs, acc, S => match bindTg tg σ x S with
    | .ok σ1 S0 => match it2 σ1 S0 with
      | .ok ys S1 => match lcGo el (fun _ S => .ok true S) tg2 (wp σ1 w2) ys acc S1 with
        | .ok zs S2 => lcGo2 el it2 tg tg2 w2 wp σ xs zs.reverse S2
        | _ => .stuck
      | _ => .stuck
    | _ => .stuck

/-- what a clause gives -/
def haD (fs : List (String × D)) : Ha → Option D
  | .non => some .non
  | .bl b => some (.bl b)
  | .int i => some (.int i)
  | .str s => some (.str (Str.ofString s))
  | .fl f => fs.lookup f
def haDs (fs : List (String × D)) : List Ha → Option (List D)
  | [] => some []
  | x :: r => match haD fs x with
    | some d => (haDs fs r).map (d :: ·)
    | none => none
def hxD (fs : List (String × D)) : Hx → Option D
  | .a x => haD fs x
  | .lst xs => (haDs fs xs).map (.lst false)
  | .tup xs => (haDs fs xs).map .tup
  | .eqi f i => match fs.lookup f with
    | some (.int j) => some (.bl (decide (j = i)))
    | _ => none
  | .num _ f i => match fs.lookup f with
    | some (.int j) => some (.bl (decide (j = i)))
    | _ => none
/-- an error meets the clauses -/
def hdGo (c : String) (fs : List (String × D)) (σ : Slots) (S : Sto) : List Hd → F
  | [] => .exc c fs σ S
  | h :: r => if h.yes.contains c then match hxD fs h.hx with
      | some d => .ret (.d d) S
      | none => .stuck
    else if h.no.contains c then hdGo c fs σ S r else .stuck

def wipeM (σ : Slots) : List Nat → Slots
  | [] => σ
  | i :: r => (wipeM σ r).set i none

def rangeL (lo hi : Int) : List MV := (List.range (hi - lo).toNat).map fun (k : Nat) => MV.d (.int (lo + (k : Int)))
def rgOk (i : Int) : Bool := decide (-1000000000 ≤ i ∧ i ≤ 1000000000)
/-- lo, lo + c, .. below hi; c above 0 -/
def range3L (lo hi c : Int) : List MV := (List.range ((hi - lo + c - 1) / c).toNat).map fun (k : Nat) => MV.d (.int (lo + (k : Int) * c))
def enumL : Nat → List MV → List MV
  | _, [] => []
  | k, m :: r => tupV [.d (.int k), m] :: enumL (k + 1) r
def zipL : List MV → List MV → List MV
  | x :: xs, y :: ys => tupV [x, y] :: zipL xs ys
  | _, _ => []

/-! ### calls -/
/-- a live cell that holds clean data alone -/
def dataF : List (String × MV) → Bool
  | [] => true
  | (_, .d x) :: r => clean x && dataF r
  | _ => false
def dataL : List MV → Bool
  | [] => true
  | .d x :: r => clean x && dataL r
  | _ => false
def Cell.ok : Cell → Bool
  | .lst ms => dataL ms
  | .ins _ fs => dataF fs
  | _ => false
/-- the lent cells -/
def lentIx : List Bool → List MV → Option (List Nat)
  | true :: fl, .c i :: vs => (lentIx fl vs).map (i :: ·)
  | true :: _, _ :: _ => none
  | false :: fl, _ :: vs => lentIx fl vs
  | [], _ => some []
  | _, [] => some []
/-- the arguments as the callee sees them -/
def argsIn (S : Sto) (ex : List Nat) : Nat → List Bool → List MV → Option (List MV)
  | k, true :: fl, .c _ :: vs => (argsIn S ex (k + 1) fl vs).map (.c k :: ·)
  | _, true :: _, _ :: _ => none
  | k, false :: fl, v :: vs => match deep ex 4 S v with
    | some d => (argsIn S ex k fl vs).map (.d d :: ·)
    | none => none
  | k, [], v :: vs => match deep ex 4 S v with
    | some d => (argsIn S ex k [] vs).map (.d d :: ·)
    | none => none
  | _, _, [] => some []
/-- the cells that are lent -/
def lentS (S : Sto) : List Nat → Option Sto
  | [] => some []
  | i :: is => match S[i]? with
    | some c => if c.ok && !is.contains i then (lentS S is).map (c :: ·) else none
    | none => none
/-- the lent cells come back -/
def putBack : List Nat → Sto → Sto → Option Sto
  | [], _, S => some S
  | i :: is, c :: S2, S => if c.ok then (putBack is S2 S).map (·.set i c) else none
  | _ :: _, [], _ => none
def callB (own : Bool) (fl : List Bool) (g : List MV → Sto → R MV) (vs : List MV) (S : Sto) : R MV := match lentIx fl vs with
  | none => .stuck
  | some is => match argsIn S is 0 fl vs, lentS S is with
    | some as, some S0 => match g as S0 with
      | .stuck => .stuck
      | .exc c fs S2 => if cleanF fs then match putBack is S2 S with
          | some S' => .exc c fs S'
          | none => .stuck
        else .stuck
      | .ok v S2 => match own, v with
        | true, .c j => match S2[j]? with
          | some c => if c.ok && decide (is.length ≤ j) then match putBack is S2 S with
              | some S' => .ok (.c S.length) (S' ++ [c])
              | none => .stuck
            else .stuck
          | none => .stuck
        | _, v => match freeze 4 v S2 with
          | .ok r S3 => if clean r then match putBack is S3 S with
              | some S' => .ok (.d r) S'
              | none => .stuck
            else .stuck
          | _ => .stuck
    | _, _ => .stuck
def callM (md : Md) (g : List MV → Sto → R MV) (vs : List MV) (S : Sto) : R MV := match md with
  | .raw => g vs S
  | .bor fl => callB false fl g vs S
  | .own fl => callB true fl g vs S
/-- C(..) -/
def mkF (C : Calls) (c : String) (vs : List MV) (S : Sto) : R MV := (C (c ++ ".__init__") (.c S.length :: vs) (S ++ [.ins c []])).bind fun v S2 => match v with
  | .d .non => .ok (.c S.length) S2
  | _ => .stuck
/-- o.m(..), o of one of the classes cs -/
def methF (C : Calls) (md : Md) (cs : List String) (x : MV) (m : String) (vs : List MV) (S : Sto) : R MV := match insOf S x with
  | some (c, fs) => if cs.contains c && (fs.lookup m).isNone then callM md (C (c ++ "." ++ m)) (x :: vs) S else .stuck
  | none => .stuck
/-- an operator: what its second operand may be -/
def opOk (m : String) (S : Sto) (x y : MV) : Bool := m == "__getitem__" || match insOf S x, insOf S y with
  | some (c, _), some (d, _) => m == "__eq__" || c == d
  | _, _ => false
def opmF (C : Calls) (md : Md) (cs : List String) (m : String) (x y : MV) (S : Sto) : R MV := if opOk m S x y then methF C md cs x m [y] S else .stuck
/-- nothing is raised -/
def noX (r : R MV) : R MV := match r with
  | .exc _ _ _ => .stuck
  | r => r
/-- what an operator's method gives: not a class's own None .. -/
def lenB (r : R MV) : R MV := r.bind fun v S => match v with
  | .d (.int n) => if 0 ≤ n ∧ n < 1000000000 then .ok (.d (.int n)) S else .stuck
  | _ => .stuck

section
variable (C : Calls)
mutual
def ev : E → Slots → Sto → R MV
  | .var i, σ, S => match σ[i]? with
    | some (some v) => .ok v S
    | _ => .stuck
  | .int i, _, S => .ok (.d (.int i)) S
  | .bl b, _, S => .ok (.d (.bl b)) S
  | .non, _, S => .ok (.d .non) S
  | .str s, _, S => .ok (.d (.str (Str.ofString s))) S
  | .bin o a b, σ, S => (ev a σ S).bind fun x S1 => (ev b σ S1).bind fun y S2 => binF o x y S2
  | .neg a, σ, S => (ev a σ S).bind fun x S1 => negF x S1
  | .cmp o a b, σ, S => (ev a σ S).bind fun x S1 => (ev b σ S1).bind fun y S2 => cmpF o x y S2
  | .chain o p a b c, σ, S => (ev a σ S).bind fun x S1 => (ev b σ S1).bind fun y S2 => (cmpF o x y S2).bind fun k S3 => match k with
    | .d (.bl true) => (ev c σ S3).bind fun z S4 => cmpF p y z S4
    | .d (.bl false) => .ok (.d (.bl false)) S3
    | _ => .stuck
  | .and_ a b, σ, S => (ev a σ S).bind fun x S1 => match truth S1 x with
    | some true => ev b σ S1
    | some false => .ok x S1
    | none => .stuck
  | .or_ a b, σ, S => (ev a σ S).bind fun x S1 => match truth S1 x with
    | some true => .ok x S1
    | some false => ev b σ S1
    | none => .stuck
  | .one a, σ, S => ev a σ S
  | .not_ a, σ, S => (ev a σ S).bind fun x S1 => match truth S1 x with
    | some k => .ok (.d (.bl (!k))) S1
    | none => .stuck
  | .ife t a b, σ, S => (ev t σ S).bind fun x S1 => match truth S1 x with
    | some true => ev a σ S1
    | some false => ev b σ S1
    | none => .stuck
  | .tup es, σ, S => (evs es σ S).bind fun ms S1 => newT ms S1
  | .lst cell es, σ, S => (evs es σ S).bind fun ms S1 => newL cell ms S1
  | .ix a i, σ, S => (ev a σ S).bind fun x S1 => (ev i σ S1).bind fun k S2 => ixF x k S2
  | .sl cell a lo hi, σ, S => (ev a σ S).bind fun x S1 => (evO lo σ S1).bind fun l S2 => (evO hi σ S2).bind fun h S3 => slF cell x l h S3
  | .call md f es, σ, S => (evs es σ S).bind fun ms S1 => callM md (C f) ms S1
  | .blt cell b es, σ, S => (evs es σ S).bind fun ms S1 => bltF cell b ms S1
  | .isi a ty, σ, S => (ev a σ S).bind fun x S1 => isiF ty x S1
  | .isc a c, σ, S => (ev a σ S).bind fun x S1 => iscF c x S1
  | .app a e, σ, S => (ev a σ S).bind fun x S1 => if lstC S1 x then (ev e σ S1).bind fun y S2 => appF x y S2 else .stuck
  | .lc cell elt tg it cd own, σ, S => (evI it σ S).bind fun ms S1 =>
      (lcGo (ev elt) (evC cd) tg (wipeM σ (own.map (·.2))) ms [] S1).bind fun ys S2 => newL cell ys S2
  | .lc2 cell elt tg it tg2 it2 own own2, σ, S => (evI it σ S).bind fun ms S1 =>
      (lcGo2 (ev elt) (evI it2) tg tg2 own2 wipeM (wipeM σ (own.map (·.2))) ms [] S1).bind fun ys S2 => newL cell ys S2
  | .glob _ i, _, S => .ok (.d (.int i)) S
  | .gtup _ is, _, S => .ok (.d (.tup (is.map .int))) S
  | .calld md f es i, σ, S => (evs es σ S).bind fun ms S1 => callM md (C f) (ms ++ [.d (.int i)]) S1
  | .callsw md f _ _ a b, σ, S => (ev a σ S).bind fun x S1 => (ev b σ S1).bind fun y S2 => callM md (C f) [y, x] S2
  | .new md c es, σ, S => (evs es σ S).bind fun ms S1 => callM md (mkF C c) ms S1
  | .meth md cs a m es, σ, S => (ev a σ S).bind fun x S1 => match insOf S1 x with
    | some (c, fs) => if cs.contains c && (fs.lookup m).isNone then (evs es σ S1).bind fun ms S2 => callM md (C (c ++ "." ++ m)) (x :: ms) S2 else .stuck
    | none => .stuck
  | .attr a f, σ, S => (ev a σ S).bind fun x S1 => attrF f x S1
  | .prop md cs a f, σ, S => (ev a σ S).bind fun x S1 => noX (methF C md cs x f [] S1)
  | .opm md cs m a b, σ, S => (ev a σ S).bind fun x S1 => (ev b σ S1).bind fun y S2 => opmF C md cs m x y S2
  | .lenm md cs a, σ, S => (ev a σ S).bind fun x S1 => lenB (methF C md cs x "__len__" [] S1)
def evs : Es → Slots → Sto → R (List MV)
  | .nil, _, S => .ok [] S
  | .cons e r, σ, S => (ev e σ S).bind fun v S1 => (evs r σ S1).bind fun vs S2 => .ok (v :: vs) S2
  | .star e r, σ, S => (ev e σ S).bind fun v S1 => match items S1 v with
    | some ms => (evs r σ S1).bind fun vs S2 => .ok (ms ++ vs) S2
    | none => .stuck
def evO : Eo → Slots → Sto → R (Option Int)
  | .no, _, S => .ok none S
  | .yes e, σ, S => (ev e σ S).bind fun v S1 => match v with
    | .d (.int i) => .ok (some i) S1
    | _ => .stuck
def evC : Eo → Slots → Sto → R Bool
  | .no, _, S => .ok true S
  | .yes e, σ, S => (ev e σ S).bind fun v S1 => R.opt (truth S1 v) S1
def evI : It → Slots → Sto → R (List MV)
  | .seq e, σ, S => (ev e σ S).bind fun v S1 => walked v S1
  | .range1 e, σ, S => (ev e σ S).bind fun v S1 => match v with
    | .d (.int j) => if rgOk j then .ok (rangeL 0 j) S1 else .stuck
    | _ => .stuck
  | .range2 a b, σ, S => (ev a σ S).bind fun v S1 => (ev b σ S1).bind fun w S2 => match v, w with
    | .d (.int i), .d (.int j) => if rgOk i && rgOk j then .ok (rangeL i j) S2 else .stuck
    | _, _ => .stuck
  | .range3 a b c, σ, S => (ev a σ S).bind fun v S1 => (ev b σ S1).bind fun w S2 => (ev c σ S2).bind fun u S3 => match v, w, u with
    | .d (.int i), .d (.int j), .d (.int k) => if rgOk i && rgOk j && rgOk k && decide (0 < k) then .ok (range3L i j k) S3 else .stuck
    | _, _, _ => .stuck
  | .enum e, σ, S => (ev e σ S).bind fun v S1 => (walked v S1).bind fun ms S2 => .ok (enumL 0 ms) S2
  | .zip a b, σ, S => (ev a σ S).bind fun v S1 => (ev b σ S1).bind fun w S2 => (walked v S2).bind fun xs S3 => (walked w S3).bind fun ys S4 => .ok (zipL xs ys) S4
end
def evT (m : E) (σ : Slots) (S : Sto) : R Bool := (ev C m σ S).bind fun v S1 => R.opt (truth S1 v) S1

/-- the for's walk over a list of items -/
def forGo (tg : Tg) (body : Slots → Sto → F) : List MV → Slots → Sto → F
  | [], σ, S => .next σ S
  | x :: xs, σ, S => match bindTg tg σ x S with
      | .ok σ1 S1 => match body σ1 S1 with
        | .next σ2 S2 => forGo tg body xs σ2 S2
        | .cont σ2 S2 => forGo tg body xs σ2 S2
        | .brk σ2 S2 => .next σ2 S2
        | f => f
      | _ => .stuck
def whGo (test : Slots → Sto → R Bool) (body : Slots → Sto → F) : Nat → Slots → Sto → F
  | 0, _, _ => .stuck
  | n + 1, σ, S => (test σ S).toF σ fun k S1 => if k then match body σ S1 with
      | .next σ2 S2 => whGo test body n σ2 S2
      | .cont σ2 S2 => whGo test body n σ2 S2
      | .brk σ2 S2 => .next σ2 S2
      | f => f
    else .next σ S1

mutual
def ex (fu : Nat) : Sm → Slots → Sto → F
  | .asg tg e, σ, S => (ev C e σ S).toF σ fun v S1 => match bindTg tg σ v S1 with
    | .ok σ1 S2 => .next σ1 S2
    | _ => .stuck
  | .par i j a b, σ, S => (ev C a σ S).toF σ fun v S1 => (ev C b σ S1).toF σ fun w S2 => .next ((σ.set i (some v)).set j (some w)) S2
  | .setix a i e, σ, S => (ev C e σ S).toF σ fun v S1 => (ev C a σ S1).toF σ fun x S2 => (ev C i σ S2).toF σ fun k S3 => (setF x k v S3).toF σ fun _ S4 => .next σ S4
  | .swap a i b j x y, σ, S => (ev C x σ S).toF σ fun v S1 => (ev C y σ S1).toF σ fun w S2 =>
      (ev C a σ S2).toF σ fun o S3 => (ev C i σ S3).toF σ fun k S4 => (setF o k v S4).toF σ fun _ S5 =>
      (ev C b σ S5).toF σ fun o2 S6 => (ev C j σ S6).toF σ fun k2 S7 => (setF o2 k2 w S7).toF σ fun _ S8 => .next σ S8
  | .aug i o e, σ, S => match σ[i]? with
    | some (some (.d (.int x))) => (ev C e σ S).toF σ fun v S1 => match v with
      | .d (.int y) => match o with
        | .add => .next (σ.set i (some (.d (.int (x + y))))) S1
        | .sub => .next (σ.set i (some (.d (.int (x - y))))) S1
        | .mul => if mulOk x y then .next (σ.set i (some (.d (.int (x * y))))) S1 else .stuck
        | _ => .stuck
      | _ => .stuck
    | _ => .stuck
  | .fld a f e, σ, S => (ev C e σ S).toF σ fun v S1 => (ev C a σ S1).toF σ fun x S2 => (fldF x f v S2).toF σ fun _ S3 => .next σ S3
  | .fld2 a f b g e, σ, S => (ev C e σ S).toF σ fun v S1 => match titems v with
    | some [x, y] => (ev C a σ S1).toF σ fun o S2 => (fldF o f x S2).toF σ fun _ S3 => (ev C b σ S3).toF σ fun p S4 => (fldF p g y S4).toF σ fun _ S5 => .next σ S5
    | _ => .stuck
  | .expr e, σ, S => (ev C e σ S).toF σ fun _ S1 => .next σ S1
  | .ret e, σ, S => (ev C e σ S).toF σ fun v S1 => .ret v S1
  | .retn, _, S => .ret (.d .non) S
  | .ifs t a b, σ, S => (evT C t σ S).toF σ fun k S1 => if k then exs fu a σ S1 else exs fu b σ S1
  | .for_ tg it body, σ, S => (evI C it σ S).toF σ fun ms S1 => forGo tg (exs fu body) ms σ S1
  | .while_ t body, σ, S => whGo (evT C t) (exs fu body) fu σ S
  | .raise_ c e f, σ, S => (ev C e σ S).toF σ fun v S1 => match v with
    | .d d => .exc c [(f, d)] σ S1
    | _ => .stuck
  | .raise0 c, σ, S => .exc c [] σ S
  | .try_ body hs, σ, S => match exs fu body σ S with
    | .exc c fs σ1 S1 => hdGo c fs σ1 S1 hs
    | f => f
def exs (fu : Nat) : Sms → Slots → Sto → F
  | .nil, σ, S => .next σ S
  | .cons s r, σ, S => (ex fu s σ S).seq fun σ1 S1 => exs fu r σ1 S1
  | .wipe is r, σ, S => exs fu r (wipeM σ is) S
end
end

/-- a def: its names by slot (parameters first), the number of its parameters, its body -/
structure Df where
  names : List String
  np : Nat
  body : Sms
def run (C : Calls) (fu : Nat) (d : Df) (vs : List MV) (S : Sto) : R MV :=
  if vs.length = d.np then match exs C fu d.body (vs.map some ++ List.replicate (d.names.length - vs.length) none) S with
    | .ret v S' => .ok v S'
    | .next _ S' => .ok (.d .non) S'
    | .exc c fs _ S' => .exc c fs S'
    | _ => .stuck
  else .stuck
def callN (P : String → Option Df) (fu : Nat) : Nat → Calls
  | 0 => fun _ _ _ => .stuck
  | n + 1 => fun f vs S => match P f with
    | none => .stuck
    | some d => run (callN P fu n) fu d vs S
end Mi
namespace Mi
open PySem L2

/-- what the written part tells: the fragment, the classes -/
structure Wd where
  K : PySem.W.Frag
  cl : String → Option Addr
  xc : String → Option Addr
  bw : Addr → Prop
/-! ### what a value stands for -/
mutual
/-- v, in the frozen heap G, is the data d -/
inductive Rep (cl : Wd) (G : Hp) : V → D → Prop
  | non : Rep cl G .non .non
  | bl (b : Bool) : Rep cl G (.bl b) (.bl b)
  | int (i : Int) : Rep cl G (.int i) (.int i)
  | str (x : Str) : Rep cl G (.str x) (.str x)
  | lst {a : Addr} {t : Bool} {vs : List V} {ds : List D} : G a = some (.lst vs) → (t = false → ¬ cl.bw a) → RepL cl G vs ds → Rep cl G (.ref a) (.lst t ds)
  | scr {a : Addr} {ns : List Int} : SqL cl.K G a (ns.map V.int) → Rep cl G (.ref a) (.scr ns)
  | tup {a : Addr} {vs : List V} {ds : List D} : SqT cl.K G a vs → RepL cl G vs ds → Rep cl G (.ref a) (.tup ds)
  | ins {a C dx : Addr} {c : String} {fv : List (Str × V)} {fd : List (String × D)} : cl.cl c = some C → G a = some (.ins C dx fv) → G dx = some (.own a) → RepF cl G fv fd → Rep cl G (.ref a) (.ins c fd)
inductive RepL (cl : Wd) (G : Hp) : List V → List D → Prop
  | nil : RepL cl G [] []
  | cons {v : V} {vs : List V} {d : D} {ds : List D} : Rep cl G v d → RepL cl G vs ds → RepL cl G (v :: vs) (d :: ds)
inductive RepF (cl : Wd) (G : Hp) : List (Str × V) → List (String × D) → Prop
  | nil : RepF cl G [] []
  | cons {f : String} {v : V} {vs : List (Str × V)} {d : D} {ds : List (String × D)} : Rep cl G v d → RepF cl G vs ds → RepF cl G ((Str.ofString f, v) :: vs) ((f, d) :: ds)
end

def Ex (H H' : Hp) : Prop := ∀ a o, H a = some o → H' a = some o
theorem Ex.refl (H : Hp) : Ex H H := fun _ _ h => h
theorem Ex.trans {H H1 H2 : Hp} (a : Ex H H1) (b : Ex H1 H2) : Ex H H2 := fun x o h => b x o (a x o h)
theorem Ex.new {H : Hp} {p : Addr} {o : HO} (h : H p = none) : Ex H (upd H p o) := fun a u e => by
  rw [upd_ne (ne_of_none e h)]
  exact e
theorem Ex.back {H H' : Hp} {p : Addr} (e : Ex H H') (h : H' p = none) : H p = none := by
  cases q : H p with
  | none => rfl
  | some o => rw [e p o q] at h; cases h
theorem Ex.both {H H' : Hp} {p : Addr} {o : HO} (e : Ex H H') : Ex (upd H p o) (upd H' p o) := fun a u h => by
  by_cases ha : a = p
  · subst ha; rw [upd_same] at h ⊢; exact h
  · rw [upd_ne ha] at h ⊢; exact e a u h

theorem Ex.rd {H H' : Hp} {a : Addr} {u : HO} (e : Ex H H') (h : Rd H a u) : Rd H' a u := by
  rcases h with h | ⟨o, h⟩
  · exact Or.inl (e a _ h)
  · exact Or.inr ⟨o, e a _ h⟩
theorem Ex.sq {K : PySem.W.Frag} {H H' : Hp} {a : Addr} {xs : List V} (e : Ex H H') (h : SqL K H a xs) : SqL K H' a xs := by
  rcases h with h | h
  · exact Or.inl (e.rd h)
  · exact Or.inr h
theorem Ex.sqt {K : PySem.W.Frag} {H H' : Hp} {a : Addr} {xs : List V} (e : Ex H H') (h : SqT K H a xs) : SqT K H' a xs := by
  rcases h with h | h
  · exact Or.inl (e.rd h)
  · exact Or.inr h
section
variable {cl : Wd} {G G' : Hp}
mutual
theorem Rep.mono (e : Ex G G') : ∀ {v : V} {d : D}, Rep cl G v d → Rep cl G' v d
  | _, _, .non => .non
  | _, _, .bl b => .bl b
  | _, _, .int i => .int i
  | _, _, .str x => .str x
  | _, _, .lst h t r => .lst (e _ _ h) t (RepL.mono e r)
  | _, _, .scr h => .scr (Ex.sq e h)
  | _, _, .tup h r => .tup (Ex.sqt e h) (RepL.mono e r)
  | _, _, .ins c h o r => .ins c (e _ _ h) (e _ _ o) (RepF.mono e r)
theorem RepL.mono (e : Ex G G') : ∀ {vs : List V} {ds : List D}, RepL cl G vs ds → RepL cl G' vs ds
  | _, _, .nil => .nil
  | _, _, .cons h r => .cons (h.mono e) (RepL.mono e r)
theorem RepF.mono (e : Ex G G') : ∀ {vs : List (Str × V)} {ds : List (String × D)}, RepF cl G vs ds → RepF cl G' vs ds
  | _, _, .nil => .nil
  | _, _, .cons h r => .cons (h.mono e) (RepF.mono e r)
end
theorem RepL.length : ∀ {vs : List V} {ds : List D}, RepL cl G vs ds → vs.length = ds.length
  | _, _, .nil => rfl
  | _, _, .cons _ r => by simp [RepL.length r]
theorem RepL.get : ∀ {vs : List V} {ds : List D} {i : Nat} {d : D}, RepL cl G vs ds → ds[i]? = some d → ∃ v, vs[i]? = some v ∧ Rep cl G v d
  | _, _, _, _, .nil, e => by simp at e
  | _, _, 0, _, .cons h _, e => by simp at e; subst e; exact ⟨_, rfl, h⟩
  | _, _, i + 1, _, .cons _ r, e => by
    obtain ⟨v, h1, h2⟩ := RepL.get (i := i) r (by simpa using e)
    exact ⟨v, by simpa using h1, h2⟩
theorem RepL.append : ∀ {vs ws : List V} {ds es : List D}, RepL cl G vs ds → RepL cl G ws es → RepL cl G (vs ++ ws) (ds ++ es)
  | _, _, _, _, .nil, s => s
  | _, _, _, _, .cons h r, s => .cons h (RepL.append r s)
end

/-! ### machine values -/
def Cell.live : Cell → Bool
  | .froz _ => false
  | .fl _ => false
  | _ => true
def Lv (S : Sto) (i : Nat) : Prop := ∃ c, S[i]? = some c ∧ c.live = true

mutual
/-- v is the value m: G the frozen heap, al where the cells lie, n how many there are -/
inductive RepM (cl : Wd) (G : Hp) (al : Nat → Addr) (n : Nat) : V → MV → Prop
  | d {v : V} {x : D} : Rep cl G v x → RepM cl G al n v (.d x)
  | c (i : Nat) : i < n → RepM cl G al n (.ref (al i)) (.c i)
  | t {a : Addr} {vs : List V} {ms : List MV} : G a = some (.tup vs) → RepMs cl G al n vs ms → RepM cl G al n (.ref a) (.t ms)
inductive RepMs (cl : Wd) (G : Hp) (al : Nat → Addr) (n : Nat) : List V → List MV → Prop
  | nil : RepMs cl G al n [] []
  | cons {v : V} {vs : List V} {m : MV} {ms : List MV} : RepM cl G al n v m → RepMs cl G al n vs ms → RepMs cl G al n (v :: vs) (m :: ms)
end
inductive RepFM (cl : Wd) (G : Hp) (al : Nat → Addr) (n : Nat) : List (Str × V) → List (String × MV) → Prop
  | nil : RepFM cl G al n [] []
  | cons {f : String} {v : V} {vs : List (Str × V)} {m : MV} {ms : List (String × MV)} : RepM cl G al n v m → RepFM cl G al n vs ms → RepFM cl G al n ((Str.ofString f, v) :: vs) ((f, m) :: ms)

/-- what stands at a live cell -/
inductive RepC (cl : Wd) (G : Hp) (al : Nat → Addr) (n : Nat) (a : Addr) : HO → Cell → Prop
  | lst {vs : List V} {ms : List MV} : RepMs cl G al n vs ms → RepC cl G al n a (.lst vs) (.lst ms)
  | ins {C dx : Addr} {c : String} {fv : List (Str × V)} {fs : List (String × MV)} : cl.cl c = some C → G dx = some (.own a) → RepFM cl G al n fv fs → RepC cl G al n a (.ins C dx fv) (.ins c fs)

/-- the store S as it lies in H: G is the frozen part -/
structure Rl (cl : Wd) (G : Hp) (al : Nat → Addr) (S : Sto) (H : Hp) : Prop where
  ex : Ex G H
  live : ∀ i c, S[i]? = some c → c.live = true → G (al i) = none ∧ ¬ cl.bw (al i) ∧ ∃ o, H (al i) = some o ∧ RepC cl G al S.length (al i) o c
  froz : ∀ i d, S[i]? = some (.froz d) → Rep cl G (.ref (al i)) d
  flz : ∀ i ms, S[i]? = some (.fl ms) → ∃ vs, G (al i) = some (.lst vs) ∧ ¬ cl.bw (al i) ∧ RepMs cl G al S.length vs ms
  inj : ∀ i j, Lv S i → Lv S j → al i = al j → i = j
  bwd : ∀ a, cl.bw a → H a ≠ none

/-- slots -/
def RepS (cl : Wd) (G : Hp) (al : Nat → Addr) (n : Nat) (σ : L2.St) (τ : Slots) : Prop :=
  σ.length = τ.length ∧ ∀ (i : Nat) (m : MV), τ[i]? = some (some m) → ∃ v, σ[i]? = some (some v) ∧ RepM cl G al n v m

/-- from one state to a later one -/
structure Gr (G : Hp) (al : Nat → Addr) (S : Sto) (H : Hp) (G' : Hp) (al' : Nat → Addr) (S' : Sto) (H' : Hp) : Prop where
  fz : Ex G G'
  len : S.length ≤ S'.length
  at_ : ∀ i, i < S.length → al' i = al i
  lv : ∀ i, Lv S' i → Lv S i ∨ (S.length ≤ i ∧ H (al' i) = none)
  fr : ∀ a o, H a = some o → (∀ i, Lv S i → al i ≠ a) → H' a = some o
  dom : ∀ a, H' a = none → H a = none
  new : ∀ a, G a = none → G' a ≠ none → H a = none ∨ ∃ i, Lv S i ∧ al i = a

theorem Lv.lt {S : Sto} {i : Nat} (h : Lv S i) : i < S.length := by
  obtain ⟨c, e, _⟩ := h
  exact (List.getElem?_eq_some_iff.mp e).1

section
variable {cl : Wd} {G G' G1 G2 : Hp} {al al' al1 al2 : Nat → Addr} {n n' : Nat} {S S' S1 S2 : Sto} {H H' H1 H2 : Hp}
mutual
theorem RepM.mono (e : Ex G G') (hn : n ≤ n') (ha : ∀ i, i < n → al' i = al i) : ∀ {v : V} {m : MV}, RepM cl G al n v m → RepM cl G' al' n' v m
  | _, _, .d h => .d (h.mono e)
  | _, _, .c i h => by rw [← ha i h]; exact .c i (Nat.lt_of_lt_of_le h hn)
  | _, _, .t h r => .t (e _ _ h) (RepMs.mono e hn ha r)
theorem RepMs.mono (e : Ex G G') (hn : n ≤ n') (ha : ∀ i, i < n → al' i = al i) : ∀ {vs : List V} {ms : List MV}, RepMs cl G al n vs ms → RepMs cl G' al' n' vs ms
  | _, _, .nil => .nil
  | _, _, .cons h r => .cons (h.mono e hn ha) (RepMs.mono e hn ha r)
end
theorem RepFM.mono (e : Ex G G') (hn : n ≤ n') (ha : ∀ i, i < n → al' i = al i) : ∀ {vs : List (Str × V)} {ms : List (String × MV)}, RepFM cl G al n vs ms → RepFM cl G' al' n' vs ms
  | _, _, .nil => .nil
  | _, _, .cons h r => .cons (h.mono e hn ha) (RepFM.mono e hn ha r)
theorem RepC.mono {a : Addr} (e : Ex G G') (hn : n ≤ n') (ha : ∀ i, i < n → al' i = al i) {o : HO} {c : Cell} : RepC cl G al n a o c → RepC cl G' al' n' a o c
  | .lst h => .lst (h.mono e hn ha)
  | .ins c d h => .ins c (e _ _ d) (h.mono e hn ha)
theorem RepM.gr (g : Gr G al S H G' al' S' H') {v : V} {m : MV} (h : RepM cl G al S.length v m) : RepM cl G' al' S'.length v m := h.mono g.fz g.len g.at_
theorem RepMs.gr (g : Gr G al S H G' al' S' H') {vs : List V} {ms : List MV} (h : RepMs cl G al S.length vs ms) : RepMs cl G' al' S'.length vs ms := h.mono g.fz g.len g.at_
theorem RepS.gr (g : Gr G al S H G' al' S' H') {σ : L2.St} {τ : Slots} (h : RepS cl G al S.length σ τ) : RepS cl G' al' S'.length σ τ :=
  ⟨h.1, fun i m e => let ⟨v, h1, h2⟩ := h.2 i m e; ⟨v, h1, h2.gr g⟩⟩
theorem Gr.refl : Gr G al S H G al S H := ⟨Ex.refl _, Nat.le_refl _, fun _ _ => rfl, fun _ h => .inl h, fun _ _ h _ => h, fun _ h => h, fun a h h' => absurd h h'⟩
theorem Gr.trans (a : Gr G al S H G1 al1 S1 H1) (b : Gr G1 al1 S1 H1 G2 al2 S2 H2) : Gr G al S H G2 al2 S2 H2 where
  fz := a.fz.trans b.fz
  len := Nat.le_trans a.len b.len
  at_ := fun i h => (b.at_ i (Nat.lt_of_lt_of_le h a.len)).trans (a.at_ i h)
  lv := fun i h => by
    rcases b.lv i h with h1 | ⟨h1, h2⟩
    · rcases a.lv i h1 with h3 | ⟨h3, h4⟩
      · exact .inl h3
      · exact .inr ⟨h3, by rw [b.at_ i h1.lt]; exact h4⟩
    · exact .inr ⟨Nat.le_trans a.len h1, a.dom _ h2⟩
  fr := fun x o h hn => b.fr x o (a.fr x o h hn) fun i hi e => by
    rcases a.lv i hi with h3 | ⟨_, h4⟩
    · exact hn i h3 ((a.at_ i h3.lt).symm.trans e)
    · rw [e, h] at h4; cases h4
  dom := fun x h => a.dom x (b.dom x h)
  new := fun x h h2 => by
    by_cases h1 : G1 x = none
    · rcases b.new x h1 h2 with h3 | ⟨i, hi, e⟩
      · exact .inl (a.dom x h3)
      · rcases a.lv i hi with h4 | ⟨_, h4⟩
        · exact .inr ⟨i, h4, (a.at_ i h4.lt).symm.trans e⟩
        · exact .inl (by rw [← e]; exact h4)
    · exact a.new x h h1
theorem dom_upd {p : Addr} {o : HO} {a : Addr} (hp : H p = none) (h : upd H p o a = none) : H a = none := by
  by_cases e : a = p
  · rw [e]; exact hp
  · rw [upd_ne e] at h; exact h
theorem nn_upd {p : Addr} {o : HO} {a : Addr} (h : H a ≠ none) : upd H p o a ≠ none := by
  by_cases e : a = p
  · subst e; rw [upd_same]; exact fun z => by cases z
  · rw [upd_ne e]; exact h

/-- a new frozen object -/
theorem Rl.newG (r : Rl cl G al S H) {p : Addr} {o : HO} (hp : H p = none) : Rl cl (upd G p o) al S (upd H p o) where
  ex := r.ex.both
  live := fun i c e l => by
    obtain ⟨h1, hb, u, h2, h3⟩ := r.live i c e l
    have ne : al i ≠ p := ne_of_none h2 hp
    exact ⟨by rw [upd_ne ne]; exact h1, hb, u, by rw [upd_ne ne]; exact h2, h3.mono (Ex.new (r.ex.back hp)) (Nat.le_refl _) fun _ _ => rfl⟩
  froz := fun i d e => (r.froz i d e).mono (Ex.new (r.ex.back hp))
  flz := fun i ms e => by
    obtain ⟨vs, h1, h2, h3⟩ := r.flz i ms e
    exact ⟨vs, Ex.new (r.ex.back hp) _ _ h1, h2, h3.mono (Ex.new (r.ex.back hp)) (Nat.le_refl _) fun _ _ => rfl⟩
  inj := r.inj
  bwd := fun a h => nn_upd (r.bwd a h)
theorem Gr.newG (r : Rl cl G al S H) {p : Addr} {o : HO} (hp : H p = none) : Gr G al S H (upd G p o) al S (upd H p o) where
  fz := Ex.new (r.ex.back hp)
  len := Nat.le_refl _
  at_ := fun _ _ => rfl
  lv := fun i h => .inl h
  fr := fun a u h _ => by rw [upd_ne (ne_of_none h hp)]; exact h
  dom := fun a h => dom_upd hp h
  new := fun a h h' => by
    by_cases e : a = p
    · rw [e]; exact .inl hp
    · rw [upd_ne e] at h'; exact absurd h h'
theorem Rl.nbw (r : Rl cl G al S H) {p : Addr} (hp : H p = none) : ¬ cl.bw p := fun h => r.bwd p h hp

/-- an object that nothing here speaks of -/
theorem Rl.junk (r : Rl cl G al S H) {p : Addr} {o : HO} (hp : H p = none) : Rl cl G al S (upd H p o) where
  ex := fun a u h => by rw [upd_ne (ne_of_none (r.ex a u h) hp)]; exact r.ex a u h
  live := fun i c e l => by
    obtain ⟨h1, hb, u, h2, h3⟩ := r.live i c e l
    exact ⟨h1, hb, u, by rw [upd_ne (ne_of_none h2 hp)]; exact h2, h3⟩
  froz := r.froz
  flz := r.flz
  inj := r.inj
  bwd := fun a h => nn_upd (r.bwd a h)
theorem Gr.junk {p : Addr} {o : HO} (hp : H p = none) : Gr G al S H G al S (upd H p o) where
  fz := Ex.refl _
  len := Nat.le_refl _
  at_ := fun _ _ => rfl
  lv := fun i h => .inl h
  fr := fun a u h _ => by rw [upd_ne (ne_of_none h hp)]; exact h
  dom := fun a h => dom_upd hp h
  new := fun a h h' => absurd h h'

theorem Lv.snoc {c : Cell} {i : Nat} : Lv (S ++ [c]) i → Lv S i ∨ (i = S.length ∧ c.live = true) := by
  rintro ⟨d, e, l⟩
  by_cases h : i < S.length
  · rw [List.getElem?_append_left h] at e; exact .inl ⟨d, e, l⟩
  · have hl : i < (S ++ [c]).length := (List.getElem?_eq_some_iff.mp e).1
    rw [List.length_append] at hl
    have : i = S.length := by simp at hl; omega
    subst this
    rw [List.getElem?_concat_length] at e
    cases e
    exact .inr ⟨rfl, l⟩
theorem at_snoc {c d : Cell} {i : Nat} (e : (S ++ [c])[i]? = some d) : (i < S.length ∧ S[i]? = some d) ∨ (i = S.length ∧ c = d) := by
  by_cases h : i < S.length
  · rw [List.getElem?_append_left h] at e; exact .inl ⟨h, e⟩
  · have hl : i < (S ++ [c]).length := (List.getElem?_eq_some_iff.mp e).1
    rw [List.length_append] at hl
    have : i = S.length := by simp at hl; omega
    subst this
    rw [List.getElem?_concat_length] at e
    cases e
    exact .inr ⟨rfl, rfl⟩
/-- a new cell -/
def alw (al : Nat → Addr) (n : Nat) (p : Addr) : Nat → Addr := fun i => if i = n then p else al i
theorem alw_at {i : Nat} {p : Addr} (h : i < n) : alw al n p i = al i := if_neg (Nat.ne_of_lt h)
theorem alw_new {p : Addr} : alw al n p n = p := if_pos rfl

/-- a place that the state does not know -/
def Out (cl : Wd) (G : Hp) (al : Nat → Addr) (S : Sto) (p : Addr) : Prop := G p = none ∧ ¬ cl.bw p ∧ ∀ i, Lv S i → al i ≠ p
theorem Out.of {p : Addr} (rl : Rl cl G al S H) (hp : H p = none) : Out cl G al S p := ⟨rl.ex.back hp, rl.nbw hp, fun i ⟨c, e, l⟩ z => by
  obtain ⟨_, _, u, h2, _⟩ := rl.live i c e l
  rw [z, hp] at h2; cases h2⟩
theorem Out.gr {p : Addr} {o : HO} (x : Out cl G al S p) (h : H p = some o) (g : Gr G al S H G' al' S' H') : Out cl G' al' S' p ∧ H' p = some o := by
  refine ⟨⟨?_, x.2.1, fun i l z => ?_⟩, g.fr p o h x.2.2⟩
  · cases q : G' p with
    | none => rfl
    | some u =>
      rcases g.new p x.1 (by rw [q]; simp) with z | ⟨i, l, z⟩
      · rw [h] at z; cases z
      · exact absurd z (x.2.2 i l)
  · rcases g.lv i l with l' | ⟨_, l'⟩
    · exact x.2.2 i l' ((g.at_ i l'.lt).symm.trans z)
    · rw [z, h] at l'; cases l'
theorem Rl.out {p : Addr} {o : HO} (rl : Rl cl G al S H) (x : Out cl G al S p) : Rl cl G al S (upd H p o) where
  ex := fun a u h => by rw [upd_ne (ne_of_none h x.1)]; exact rl.ex a u h
  live := fun i c e l => by
    obtain ⟨h1, hb, u, h2, h3⟩ := rl.live i c e l
    exact ⟨h1, hb, u, by rw [upd_ne (x.2.2 i ⟨c, e, l⟩)]; exact h2, h3⟩
  froz := rl.froz
  flz := rl.flz
  inj := rl.inj
  bwd := fun a h => nn_upd (rl.bwd a h)
theorem Gr.out {p : Addr} {o : HO} {G0 : Hp} {al0 : Nat → Addr} {S0 : Sto} {H0 : Hp} (g : Gr G0 al0 S0 H0 G al S H) (hp : H0 p = none) : Gr G0 al0 S0 H0 G al S (upd H p o) where
  fz := g.fz
  len := g.len
  at_ := g.at_
  lv := g.lv
  fr := fun a u h hn => by rw [upd_ne (ne_of_none h hp)]; exact g.fr a u h hn
  dom := fun a h => by
    by_cases e : a = p
    · rw [e]; exact hp
    · rw [upd_ne e] at h; exact g.dom a h
  new := g.new
/-- such a place is taken in: frozen, or as a cell -/
theorem Rl.inG {p : Addr} {o : HO} (rl : Rl cl G al S H) (x : Out cl G al S p) (h : H p = some o) : Rl cl (upd G p o) al S H where
  ex := fun a u e => by
    by_cases ea : a = p
    · subst ea; rw [upd_same] at e; cases e; exact h
    · rw [upd_ne ea] at e; exact rl.ex a u e
  live := fun i c e l => by
    obtain ⟨h1, hb, u, h2, h3⟩ := rl.live i c e l
    exact ⟨by rw [upd_ne (x.2.2 i ⟨c, e, l⟩)]; exact h1, hb, u, h2, h3.mono (Ex.new x.1) (Nat.le_refl _) fun _ _ => rfl⟩
  froz := fun i d e => (rl.froz i d e).mono (Ex.new x.1)
  flz := fun i ms e => by
    obtain ⟨vs, h1, h2, h3⟩ := rl.flz i ms e
    exact ⟨vs, Ex.new x.1 _ _ h1, h2, h3.mono (Ex.new x.1) (Nat.le_refl _) fun _ _ => rfl⟩
  inj := rl.inj
  bwd := rl.bwd
theorem Gr.inG {p : Addr} {o : HO} {G0 : Hp} {al0 : Nat → Addr} {S0 : Sto} {H0 : Hp} (g : Gr G0 al0 S0 H0 G al S H) (x : Out cl G al S p) (hp : H0 p = none) : Gr G0 al0 S0 H0 (upd G p o) al S H where
  fz := g.fz.trans (Ex.new x.1)
  len := g.len
  at_ := g.at_
  lv := g.lv
  fr := g.fr
  dom := g.dom
  new := fun a h h' => by
    by_cases ea : a = p
    · rw [ea]; exact .inl hp
    · rw [upd_ne ea] at h'; exact g.new a h h'
theorem Rl.inC {p : Addr} {o : HO} (rl : Rl cl G al S H) (x : Out cl G al S p) (h : H p = some o) {c : Cell} (hl : c.live = true) (hc : RepC cl G al S.length p o c) : Rl cl G (alw al S.length p) (S ++ [c]) H where
  ex := rl.ex
  live := fun i d e l => by
    have hlen : S.length ≤ (S ++ [c]).length := by simp
    rcases at_snoc e with ⟨hi, e⟩ | ⟨rfl, rfl⟩
    · obtain ⟨h1, hb, u, h2, h3⟩ := rl.live i d e l
      rw [alw_at hi]
      exact ⟨h1, hb, u, h2, h3.mono (Ex.refl _) hlen fun j hj => alw_at hj⟩
    · rw [alw_new]
      exact ⟨x.1, x.2.1, o, h, hc.mono (Ex.refl _) hlen fun j hj => alw_at hj⟩
  froz := fun i d e => by
    rcases at_snoc e with ⟨hi, e⟩ | ⟨rfl, rfl⟩
    · rw [alw_at hi]; exact rl.froz i d e
    · cases hl
  flz := fun i ms e => by
    have hlen : S.length ≤ (S ++ [c]).length := by simp
    rcases at_snoc e with ⟨hi, e⟩ | ⟨rfl, rfl⟩
    · obtain ⟨vs, h1, h2, h3⟩ := rl.flz i ms e
      rw [alw_at hi]
      exact ⟨vs, h1, h2, h3.mono (Ex.refl _) hlen fun j hj => alw_at hj⟩
    · cases hl
  inj := fun i j hi hj e => by
    rcases Lv.snoc hi with h' | ⟨h', _⟩
    · rcases Lv.snoc hj with h'' | ⟨h'', _⟩
      · rw [alw_at h'.lt, alw_at h''.lt] at e; exact rl.inj i j h' h'' e
      · subst h''
        rw [alw_at h'.lt, alw_new] at e
        exact absurd e (x.2.2 i h')
    · subst h'
      rcases Lv.snoc hj with h'' | ⟨h'', _⟩
      · rw [alw_at h''.lt, alw_new] at e
        exact absurd e.symm (x.2.2 j h'')
      · exact h''.symm
  bwd := rl.bwd
theorem Gr.inC {p : Addr} {G0 : Hp} {al0 : Nat → Addr} {S0 : Sto} {H0 : Hp} (g : Gr G0 al0 S0 H0 G al S H) {c : Cell} (hp : H0 p = none) : Gr G0 al0 S0 H0 G (alw al S.length p) (S ++ [c]) H where
  fz := g.fz
  len := Nat.le_trans g.len (by simp)
  at_ := fun i h => (alw_at (Nat.lt_of_lt_of_le h g.len)).trans (g.at_ i h)
  lv := fun i h => by
    rcases Lv.snoc h with h | ⟨h, _⟩
    · rw [alw_at h.lt]; exact g.lv i h
    · subst h; exact .inr ⟨g.len, by rw [alw_new]; exact hp⟩
  fr := g.fr
  dom := g.dom
  new := g.new
/-- a new cell -/
theorem Rl.newC (r : Rl cl G al S H) {p : Addr} {o : HO} {c : Cell} (hp : H p = none) (hl : c.live = true) (hc : RepC cl G al S.length p o c) :
    Rl cl G (alw al S.length p) (S ++ [c]) (upd H p o) := (r.out (Out.of r hp)).inC (Out.of r hp) upd_same hl hc
theorem Gr.newC {p : Addr} {o : HO} {c : Cell} (hp : H p = none) : Gr G al S H G (alw al S.length p) (S ++ [c]) (upd H p o) := (Gr.refl.out hp).inC hp

theorem Lv.set {c : Cell} {i j : Nat} : Lv (S.set i c) j → (j ≠ i ∧ Lv S j) ∨ (j = i ∧ i < S.length ∧ c.live = true) := by
  rintro ⟨d, e, l⟩
  by_cases h : i = j
  · subst h
    by_cases hi : i < S.length
    · rw [List.getElem?_set_self hi] at e; cases e; exact .inr ⟨rfl, hi, l⟩
    · rw [List.getElem?_eq_none (by simpa using Nat.le_of_not_lt hi)] at e; cases e
  · rw [List.getElem?_set_ne h] at e
    exact .inl ⟨fun z => h z.symm, d, e, l⟩
theorem at_set {c d : Cell} {i j : Nat} (e : (S.set i c)[j]? = some d) : (j ≠ i ∧ S[j]? = some d) ∨ (j = i ∧ i < S.length ∧ c = d) := by
  by_cases h : i = j
  · subst h
    by_cases hi : i < S.length
    · rw [List.getElem?_set_self hi] at e; cases e; exact .inr ⟨rfl, hi, rfl⟩
    · rw [List.getElem?_eq_none (by simpa using Nat.le_of_not_lt hi)] at e; cases e
  · rw [List.getElem?_set_ne h] at e
    exact .inl ⟨fun z => h z.symm, e⟩
/-- a live cell is written -/
theorem Rl.write (r : Rl cl G al S H) {i : Nat} {o : HO} {c : Cell} (hi : Lv S i) (hl : c.live = true) (hc : RepC cl G al S.length (al i) o c) : Rl cl G al (S.set i c) (upd H (al i) o) where
  ex := fun a u h => by
    obtain ⟨d, e, l⟩ := hi
    have ne : a ≠ al i := ne_of_none h (r.live i d e l).1
    rw [upd_ne ne]; exact r.ex a u h
  live := fun j d e l => by
    rcases at_set e with ⟨hj, e'⟩ | ⟨rfl, hlt, rfl⟩
    · obtain ⟨h1, hb, u, h2, h3⟩ := r.live j d e' l
      have ne : al j ≠ al i := fun z => hj (r.inj j i ⟨d, e', l⟩ hi z)
      exact ⟨h1, hb, u, by rw [upd_ne ne]; exact h2, by rw [List.length_set]; exact h3⟩
    · obtain ⟨d', e', l'⟩ := hi
      exact ⟨(r.live _ d' e' l').1, (r.live _ d' e' l').2.1, o, upd_same, by rw [List.length_set]; exact hc⟩
  froz := fun j d e => by
    rcases at_set e with ⟨hj, e'⟩ | ⟨rfl, hlt, rfl⟩
    · exact r.froz j d e'
    · cases hl
  flz := fun j ms e => by
    rcases at_set e with ⟨hj, e'⟩ | ⟨rfl, hlt, rfl⟩
    · rw [List.length_set]; exact r.flz j ms e'
    · cases hl
  inj := fun j k hj hk e => by
    have f : ∀ j, Lv (S.set i c) j → Lv S j := fun j h => by
      rcases Lv.set h with ⟨_, h⟩ | ⟨h, _, _⟩
      · exact h
      · rw [h]; exact hi
    exact r.inj j k (f j hj) (f k hk) e
  bwd := fun a h => nn_upd (r.bwd a h)
theorem Gr.write (r : Rl cl G al S H) {i : Nat} {o : HO} {c : Cell} (hi : Lv S i) : Gr G al S H G al (S.set i c) (upd H (al i) o) where
  fz := Ex.refl _
  len := by simp
  at_ := fun _ _ => rfl
  lv := fun j h => by
    rcases Lv.set h with ⟨_, h⟩ | ⟨h, _, _⟩
    · exact .inl h
    · rw [h]; exact .inl hi
  fr := fun a u h hn => by rw [upd_ne fun z => hn i hi z.symm]; exact h
  dom := fun a h => by
    by_cases e : a = al i
    · rw [e, upd_same] at h; cases h
    · rw [upd_ne e] at h; exact h
  new := fun a h h' => absurd h h'

/-- what a frozen cell c says -/
def Fzd (cl : Wd) (G : Hp) (al : Nat → Addr) (n : Nat) (a : Addr) : Cell → Prop
  | .froz d => Rep cl G (.ref a) d
  | .fl ms => ∃ vs, G a = some (.lst vs) ∧ ¬ cl.bw a ∧ RepMs cl G al n vs ms
  | _ => False
/-- a live cell is frozen -/
theorem Rl.fz (r : Rl cl G al S H) {i : Nat} {c c' : Cell} {o : HO} (e : S[i]? = some c) (l : c.live = true) (ho : H (al i) = some o) (hf : c'.live = false) (hr : Fzd cl (upd G (al i) o) al S.length (al i) c') :
    Rl cl (upd G (al i) o) al (S.set i c') H where
  ex := fun a u h => by
    by_cases ea : a = al i
    · subst ea; rw [upd_same] at h; cases h; exact ho
    · rw [upd_ne ea] at h; exact r.ex a u h
  live := fun j d e2 l2 => by
    rcases at_set e2 with ⟨hj, e'⟩ | ⟨rfl, _, rfl⟩
    · obtain ⟨h1, hb, u, h2, h3⟩ := r.live j d e' l2
      have ne : al j ≠ al i := fun z => hj (r.inj j i ⟨d, e', l2⟩ ⟨c, e, l⟩ z)
      exact ⟨by rw [upd_ne ne]; exact h1, hb, u, h2, by rw [List.length_set]; exact h3.mono (Ex.new (r.live i c e l).1) (Nat.le_refl _) fun _ _ => rfl⟩
    · rw [hf] at l2; cases l2
  froz := fun j d e2 => by
    have x := Ex.new (o := o) (r.live i c e l).1
    rcases at_set e2 with ⟨hj, e'⟩ | ⟨rfl, _, rfl⟩
    · exact (r.froz j d e').mono x
    · exact hr
  flz := fun j ms e2 => by
    have x := Ex.new (o := o) (r.live i c e l).1
    rcases at_set e2 with ⟨hj, e'⟩ | ⟨rfl, _, rfl⟩
    · obtain ⟨vs, h1, h2, h3⟩ := r.flz j ms e'
      exact ⟨vs, x _ _ h1, h2, by rw [List.length_set]; exact h3.mono x (Nat.le_refl _) fun _ _ => rfl⟩
    · rw [List.length_set]; exact hr
  inj := fun j k hj hk e2 => by
    have f : ∀ j, Lv (S.set i c') j → Lv S j := fun j h => by
      rcases Lv.set h with ⟨_, h⟩ | ⟨_, _, h⟩
      · exact h
      · rw [hf] at h; cases h
    exact r.inj j k (f j hj) (f k hk) e2
  bwd := r.bwd
theorem Gr.fz_ (r : Rl cl G al S H) {i : Nat} {c c' : Cell} {o : HO} (e : S[i]? = some c) (l : c.live = true) (hf : c'.live = false) :
    Gr G al S H (upd G (al i) o) al (S.set i c') H where
  fz := Ex.new (r.live i c e l).1
  len := by simp
  at_ := fun _ _ => rfl
  lv := fun j h => by
    rcases Lv.set h with ⟨_, h⟩ | ⟨_, _, h⟩
    · exact .inl h
    · rw [hf] at h; cases h
  fr := fun a u h _ => h
  dom := fun a h => h
  new := fun a h h' => by
    by_cases ea : a = al i
    · exact .inr ⟨i, ⟨c, e, l⟩, ea.symm⟩
    · rw [upd_ne ea] at h'; exact absurd h h'
/-- a frozen list of values is data -/
theorem Rl.refz (r : Rl cl G al S H) {i : Nat} {c c' : Cell} (e : S[i]? = some c) (hl : c.live = false) (hf : c'.live = false) (hr : Fzd cl G al S.length (al i) c') :
    Rl cl G al (S.set i c') H where
  ex := r.ex
  live := fun j d e2 l2 => by
    rcases at_set e2 with ⟨hj, e'⟩ | ⟨rfl, _, rfl⟩
    · rw [List.length_set]; exact r.live j d e' l2
    · rw [hf] at l2; cases l2
  froz := fun j d e2 => by
    rcases at_set e2 with ⟨hj, e'⟩ | ⟨rfl, _, rfl⟩
    · exact r.froz j d e'
    · exact hr
  flz := fun j ms e2 => by
    rw [List.length_set]
    rcases at_set e2 with ⟨hj, e'⟩ | ⟨rfl, _, rfl⟩
    · exact r.flz j ms e'
    · exact hr
  inj := fun j k hj hk e2 => by
    have f : ∀ j, Lv (S.set i c') j → Lv S j := fun j h => by
      rcases Lv.set h with ⟨_, h⟩ | ⟨_, _, h⟩
      · exact h
      · rw [hf] at h; cases h
    exact r.inj j k (f j hj) (f k hk) e2
  bwd := r.bwd
theorem Gr.refz {i : Nat} {c c' : Cell} (e : S[i]? = some c) (hl : c.live = false) (hf : c'.live = false) : Gr G al S H G al (S.set i c') H where
  fz := Ex.refl _
  len := by simp
  at_ := fun _ _ => rfl
  lv := fun j h => by
    rcases Lv.set h with ⟨_, h⟩ | ⟨_, _, h⟩
    · exact .inl h
    · rw [hf] at h; cases h
  fr := fun a u h _ => h
  dom := fun a h => h
  new := fun a h h' => absurd h h'
end
end Mi
namespace Mi
open PySem L2 PyProof.Rows

theorem PE.imp {X : Cx} {e : Expr} {t t' : TE} (h : PE X e t) (i : ∀ σ H Q, t' σ H Q → t σ H Q) : PE X e t' := ⟨fun p s σ H Q I q => h.run p s σ H Q I (i σ H Q q)⟩
theorem PT.imp {X : Cx} {e : Expr} {t t' : TT} (h : PT X e t) (i : ∀ σ H Q, t' σ H Q → t σ H Q) : PT X e t' := ⟨fun p s σ H Q I q => h.run p s σ H Q I (i σ H Q q)⟩
theorem PW.imp {X : Cx} {e : Expr} {t t' : TT} (h : PW X e t) (i : ∀ σ H Q, t' σ H Q → t σ H Q) : PW X e t' := ⟨fun w p s σ H Q I q => h.run w p s σ H Q I (i σ H Q q)⟩
theorem PA.imp {X : Cx} {e : List Expr} {t t' : TA} (h : PA X e t) (i : ∀ σ H Q, t' σ H Q → t σ H Q) : PA X e t' := ⟨fun o p s σ H Q I q => h.run o p s σ H Q I (i σ H Q q)⟩
theorem PS.imp {X : Cx} {e : Stmt} {t t' : TS} (h : PS X e t) (i : ∀ D σ H, t' D σ H → t D σ H) : PS X e t' := ⟨fun p s σ H D I q => h.run p s σ H D I (i D σ H q)⟩
theorem PSs.imp {X : Cx} {e : List Stmt} {t t' : TS} (h : PSs X e t) (i : ∀ D σ H, t' D σ H → t D σ H) : PSs X e t' := ⟨fun p s σ H D I q => h.run p s σ H D I (i D σ H q)⟩
theorem PI.imp {X : Cx} {tg e : Expr} {t t' : TI} (h : PI X tg e t) (i : ∀ σ H R, t' σ H R → t σ H R) : PI X tg e t' := ⟨fun p s σ H R I q => h.run p s σ H R I (i σ H R q)⟩
theorem PG.imp {X : Cx} {e : Expr} {t t' : TG} (h : PG X e t) (i : ∀ v σ H Q, t' v σ H Q → t v σ H Q) : PG X e t' := ⟨fun p s σ H v u Q I r q => h.run p s σ H v u Q I r (i v σ H Q q)⟩

/-- an exception's data -/
inductive XRep (cl : Wd) (G H : Hp) : String → List (String × D) → Value → Option Addr → Prop
  | bare {c : String} {C : Addr} : cl.xc c = some C → XRep cl G H c [] (.ref C) none
  | flds {c : String} {C d : Addr} {v : V} {f : String} {x : D} : cl.xc c = some C → H d = some (.xd [(Str.ofString f, v)]) → Rep cl G v x → XRep cl G H c [(f, x)] (.ref C) (some d)

theorem XRep.gr {cl : Wd} {G G' H H' : Hp} {al al' : Nat → Addr} {S S' : Sto} {c : String} {fs : List (String × D)} {cv : Value} {d : Option Addr} (rl : Rl cl G al S H) (g : Gr G al S H G' al' S' H') : XRep cl G H c fs cv d → XRep cl G' H' c fs cv d
  | .bare h => .bare h
  | .flds h1 h2 h3 => .flds h1 (g.fr _ _ h2 fun i ⟨c, e, l⟩ z => by
      obtain ⟨_, _, o, h4, h5⟩ := rl.live i c e l
      rw [z, h2] at h4
      cases h4
      cases h5) (h3.mono g.fz)
/-- what is wanted of an outcome -/
def Pst (cl : Wd) (G : Hp) (al : Nat → Addr) (S : Sto) (H : Hp) {α : Type} (r : R α) (ok : Hp → (Nat → Addr) → Sto → Hp → α → Prop) (E : XK) : Prop := match r with
  | .ok a S' => ∀ G' al' H', Gr G al S H G' al' S' H' → Rl cl G' al' S' H' → ok G' al' S' H' a
  | .exc c fs S' => ∀ G' al' H' cv d, Gr G al S H G' al' S' H' → Rl cl G' al' S' H' → XRep cl G' H' c fs cv d → E cv d H'
  | .stuck => False

section
variable {cl : Wd} {G G1 : Hp} {al al1 : Nat → Addr} {S S1 : Sto} {H H1 : Hp} {α β : Type} {r : R α} {E : XK}
theorem Pst.gr {ok : Hp → (Nat → Addr) → Sto → Hp → α → Prop} (g : Gr G al S H G1 al1 S1 H1) (h : Pst cl G al S H r ok E) : Pst cl G1 al1 S1 H1 r ok E := by
  cases r with
  | ok a S' => exact fun G' al' H' g' r' => h G' al' H' (g.trans g') r'
  | exc c fs S' => exact fun G' al' H' cv d g' r' x => h G' al' H' cv d (g.trans g') r' x
  | stuck => exact h
theorem Pst.bind {k : α → Sto → R β} {ok : Hp → (Nat → Addr) → Sto → Hp → β → Prop} (h : Pst cl G al S H (r.bind k) ok E) :
    Pst cl G al S H r (fun G1 al1 S1 H1 a => Pst cl G1 al1 S1 H1 (k a S1) ok E) E := by
  cases r with
  | ok a S' => exact fun G' al' H' g' r' => Pst.gr g' h
  | exc c fs S' => exact h
  | stuck => exact h
theorem Pst.imp {ok ok' : Hp → (Nat → Addr) → Sto → Hp → α → Prop} (h : Pst cl G al S H r ok E) (i : ∀ G' al' S' H' a, Gr G al S H G' al' S' H' → Rl cl G' al' S' H' → ok G' al' S' H' a → ok' G' al' S' H' a) : Pst cl G al S H r ok' E := by
  cases r with
  | ok a S' => exact fun G' al' H' g' r' => i _ _ _ _ _ g' r' (h G' al' H' g' r')
  | exc c fs S' => exact h
  | stuck => exact h
/-- an outcome at once -/
theorem Pst.now {a : α} {ok : Hp → (Nat → Addr) → Sto → Hp → α → Prop} (h : Pst cl G al S H (.ok a S) ok E) (r : Rl cl G al S H) : ok G al S H a := h G al H Gr.refl r
end

/-- a value's wish -/
def Vk (cl : Wd) (Q : VK) : Hp → (Nat → Addr) → Sto → Hp → MV → Prop := fun G al S H m => ∀ v, RepM cl G al S.length v m → Q v H
def Vks (cl : Wd) (Q : List V → Hp → Prop) : Hp → (Nat → Addr) → Sto → Hp → List MV → Prop := fun G al S H ms => ∀ vs, RepMs cl G al S.length vs ms → Q vs H
def Bk (Q : Bool → Hp → Prop) : Hp → (Nat → Addr) → Sto → Hp → Bool → Prop := fun _ _ _ H k => Q k H

/-- the reading of a computation that starts from the slots -/
def rd (cl : Wd) (W : WX) (f : Slots → Sto → R MV) : TE := fun σ H Q => ∃ G al S τ, Rl cl G al S H ∧ RepS cl G al S.length σ τ ∧ Pst cl G al S H (f τ S) (Vk cl Q) (WE W σ)
def rdT (cl : Wd) (W : WX) (f : Slots → Sto → R Bool) : TT := fun σ H Q => ∃ G al S τ, Rl cl G al S H ∧ RepS cl G al S.length σ τ ∧ Pst cl G al S H (f τ S) (Bk Q) (WE W σ)
def rdA (cl : Wd) (W : WX) (f : Slots → Sto → R (List MV)) : TA := fun σ H Q => ∃ G al S τ, Rl cl G al S H ∧ RepS cl G al S.length σ τ ∧ Pst cl G al S H (f τ S) (Vks cl Q) (WE W σ)

/-- a two-place operation on values -/
def r2 (cl : Wd) (E : XK) (g : MV → MV → Sto → R MV) : R2 := fun x y H Q => ∃ G al S mx my, Rl cl G al S H ∧ RepM cl G al S.length x mx ∧ RepM cl G al S.length y my ∧ Pst cl G al S H (g mx my S) (Vk cl Q) E
def r1 (cl : Wd) (E : XK) (g : MV → Sto → R MV) : V → Hp → VK → Prop := fun x H Q => ∃ G al S mx, Rl cl G al S H ∧ RepM cl G al S.length x mx ∧ Pst cl G al S H (g mx S) (Vk cl Q) E
def rN (cl : Wd) (E : XK) (g : List MV → Sto → R MV) : List V → Hp → VK → Prop := fun xs H Q => ∃ G al S ms, Rl cl G al S H ∧ RepMs cl G al S.length xs ms ∧ Pst cl G al S H (g ms S) (Vk cl Q) E

section
variable {cl : Wd} {W : WX}
/-- from the slots, through one part, to what follows -/
theorem rd_bind {f : Slots → Sto → R MV} {k : Slots → MV → Sto → R MV} {σ : L2.St} {H : Hp} {Q : VK} (h : rd cl W (fun τ S => (f τ S).bind (k τ)) σ H Q) :
    rd cl W f σ H fun v H1 => ∃ G al S τ m, Rl cl G al S H1 ∧ RepS cl G al S.length σ τ ∧ RepM cl G al S.length v m ∧ Pst cl G al S H1 (k τ m S) (Vk cl Q) (WE W σ) := by
  obtain ⟨G, al, S, τ, rl, rs, p⟩ := h
  exact ⟨G, al, S, τ, rl, rs, p.bind.imp fun G1 al1 S1 H1 m g rl1 q v rm => ⟨G1, al1, S1, τ, m, rl1, rs.gr g, rm, q⟩⟩
theorem op_of {f g : Slots → Sto → R MV} {op : MV → MV → Sto → R MV} {σ : L2.St} {H : Hp} {Q : VK}
    (h : rd cl W (fun τ S => (f τ S).bind fun x S1 => (g τ S1).bind fun y S2 => op x y S2) σ H Q) : tOp (r2 cl (WE W σ) op) (rd cl W f) (rd cl W g) σ H Q := by
  obtain ⟨G, al, S, τ, rl, rs, p⟩ := h
  refine ⟨G, al, S, τ, rl, rs, p.bind.imp fun G1 al1 S1 H1 mx g1 rl1 q x rx => ?_⟩
  refine ⟨G1, al1, S1, τ, rl1, rs.gr g1, q.bind.imp fun G2 al2 S2 H2 my g2 rl2 q2 y ry => ?_⟩
  exact ⟨G2, al2, S2, mx, my, rl2, rx.gr g2, ry, q2⟩
theorem un_of {f : Slots → Sto → R MV} {op : MV → Sto → R MV} {σ : L2.St} {H : Hp} {Q : VK}
    (h : rd cl W (fun τ S => (f τ S).bind fun x S1 => op x S1) σ H Q) : tUn (r1 cl (WE W σ) op) (rd cl W f) σ H Q := by
  obtain ⟨G, al, S, τ, rl, rs, p⟩ := h
  exact ⟨G, al, S, τ, rl, rs, p.bind.imp fun G1 al1 S1 H1 mx g1 rl1 q x rx => ⟨G1, al1, S1, mx, rl1, rx, q⟩⟩
theorem cb_of {f : Slots → Sto → R (List MV)} {op : List MV → Sto → R MV} {σ : L2.St} {H : Hp} {Q : VK}
    (h : rd cl W (fun τ S => (f τ S).bind fun x S1 => op x S1) σ H Q) : tCB (rN cl (WE W σ) op) (rdA cl W f) σ H Q := by
  obtain ⟨G, al, S, τ, rl, rs, p⟩ := h
  exact ⟨G, al, S, τ, rl, rs, p.bind.imp fun G1 al1 S1 H1 mx g1 rl1 q x rx => ⟨G1, al1, S1, mx, rl1, rx, q⟩⟩
end

/-! ### RepM by cases -/
section
variable {cl : Wd} {G H : Hp} {al : Nat → Addr} {S : Sto} {n : Nat} {v : V}
theorem RepM.int_inv {i : Int} (h : RepM cl G al n v (.d (.int i))) : v = .int i := by
  cases h with | d h => cases h; rfl
theorem RepM.bl_inv {i : Bool} (h : RepM cl G al n v (.d (.bl i))) : v = .bl i := by
  cases h with | d h => cases h; rfl
theorem RepMs.length : ∀ {vs : List V} {ms : List MV}, RepMs cl G al n vs ms → vs.length = ms.length
  | _, _, .nil => rfl
  | _, _, .cons _ r => by simp [RepMs.length r]
theorem RepMs.get : ∀ {vs : List V} {ms : List MV} {i : Nat} {m : MV}, RepMs cl G al n vs ms → ms[i]? = some m → ∃ v, vs[i]? = some v ∧ RepM cl G al n v m
  | _, _, _, _, .nil, e => by simp at e
  | _, _, 0, _, .cons h _, e => by simp at e; subst e; exact ⟨_, rfl, h⟩
  | _, _, i + 1, _, .cons _ r, e => by
    obtain ⟨v, h1, h2⟩ := RepMs.get (i := i) r (by simpa using e)
    exact ⟨v, by simpa using h1, h2⟩
theorem RepMs.append : ∀ {vs ws : List V} {ms ns : List MV}, RepMs cl G al n vs ms → RepMs cl G al n ws ns → RepMs cl G al n (vs ++ ws) (ms ++ ns)
  | _, _, _, _, .nil, s => s
  | _, _, _, _, .cons h r, s => .cons h (RepMs.append r s)
theorem RepMs.ofL : ∀ {vs : List V} {ds : List D}, RepL cl G vs ds → RepMs cl G al n vs (ds.map .d)
  | _, _, .nil => .nil
  | _, _, .cons h r => .cons (.d h) (RepMs.ofL r)
theorem RepMs.all : ∀ {vs : List V} {ms : List MV} {ds : List D}, RepMs cl G al n vs ms → allD ms = some ds → RepL cl G vs ds
  | _, _, _, .nil, e => by simp [allD] at e; subst e; exact .nil
  | _, _, _, .cons (.d h) r, e => by
    simp only [allD, Option.map_eq_some_iff] at e
    obtain ⟨ds, e1, rfl⟩ := e
    exact .cons h (RepMs.all r e1)
  | _, _, _, .cons (.c _ _) r, e => by simp [allD] at e
  | _, _, _, .cons (.t _ _) r, e => by simp [allD] at e
theorem RepMs.set {v : V} {m : MV} (h : RepM cl G al n v m) : ∀ {vs : List V} {ms : List MV} (i : Nat), RepMs cl G al n vs ms → RepMs cl G al n (vs.set i v) (ms.set i m)
  | _, _, _, .nil => .nil
  | _, _, 0, .cons _ r => .cons h r
  | _, _, i + 1, .cons q r => .cons q (RepMs.set h i r)

theorem RepMs.all' : ∀ {vs : List V} {ms : List MV} {ds : List D}, RepMs cl G al n vs ms → allD ms = some ds → ms = ds.map .d
  | _, _, _, .nil, e => by simp [allD] at e; subst e; rfl
  | _, _, _, .cons (.d h) r, e => by
    simp only [allD, Option.map_eq_some_iff] at e
    obtain ⟨ds, e1, rfl⟩ := e
    rw [RepMs.all' r e1]; rfl
  | _, _, _, .cons (.c _ _) r, e => by simp [allD] at e
  | _, _, _, .cons (.t _ _) r, e => by simp [allD] at e
/-- a tuple -/
theorem RepM.tupV {a : Addr} {vs : List V} {ms : List MV} (h : G a = some (.tup vs)) (r : RepMs cl G al n vs ms) : RepM cl G al n (.ref a) (tupV ms) := by
  unfold Mi.tupV
  split
  · rename_i ds e; exact .d (.tup (SqT.of h) (r.all e))
  · exact .t h r
theorem RepM.tupVq {a : Addr} {vs : List V} {ds : List D} (h : SqT cl.K G a vs) (r : RepL cl G vs ds) : RepM cl G al n (.ref a) (.d (.tup ds)) := .d (.tup h r)
/-- the items of a list lie there -/
theorem litems_ok (rl : Rl cl G al S H) {m : MV} {ms : List MV} (h : RepM cl G al S.length v m) (e : litems S m = some ms) :
    ∃ a vs, v = .ref a ∧ H a = some (.lst vs) ∧ RepMs cl G al S.length vs ms := by
  cases h with
  | d h =>
    cases h with
    | lst h _ r => simp only [litems, Option.some.injEq] at e; subst e; exact ⟨_, _, rfl, rl.ex _ _ h, .ofL r⟩
    | _ => simp [litems] at e
  | c i hi =>
    simp only [litems] at e
    cases q : S[i]? with
    | none => rw [q] at e; cases e
    | some c =>
      rw [q] at e
      cases c with
      | lst ns =>
        simp only [Option.some.injEq] at e; subst e
        obtain ⟨_, _, o, h2, h3⟩ := rl.live i _ q rfl
        cases h3 with
        | lst h3 => exact ⟨_, _, rfl, h2, h3⟩
      | ins c fs => cases e
      | fl ns =>
        simp only [Option.some.injEq] at e; subst e
        obtain ⟨vs, h1, _, h3⟩ := rl.flz i _ q
        exact ⟨_, _, rfl, rl.ex _ _ h1, h3⟩
      | froz d =>
        cases d with
        | lst t xs =>
          simp only [Option.some.injEq] at e; subst e
          have := rl.froz i _ q
          cases this with
          | lst h _ r => exact ⟨_, _, rfl, rl.ex _ _ h, .ofL r⟩
        | _ => cases e
  | t h r => simp [litems] at e
theorem titems_ok (rl : Rl cl G al S H) {m : MV} {ms : List MV} (h : RepM cl G al S.length v m) (e : titems m = some ms) :
    ∃ a vs, v = .ref a ∧ SqT cl.K H a vs ∧ RepMs cl G al S.length vs ms := by
  cases h with
  | d h =>
    cases h with
    | tup h r => simp only [titems, Option.some.injEq] at e; subst e; exact ⟨_, _, rfl, rl.ex.sqt h, .ofL r⟩
    | _ => simp [titems] at e
  | c i hi => simp [titems] at e
  | t h r => simp only [titems, Option.some.injEq] at e; subst e; exact ⟨_, _, rfl, rl.ex.sqt (SqT.of h), r⟩
theorem items_or {m : MV} {ms : List MV} (e : items S m = some ms) : litems S m = some ms ∨ titems m = some ms := by
  cases m with
  | d x => cases x <;> first | exact .inl e | exact .inr e | (simp [items] at e)
  | t xs => exact .inr e
  | c i => exact .inl e
/-- the items of a list or tuple lie there -/
theorem items_ok (rl : Rl cl G al S H) {m : MV} {ms : List MV} (h : RepM cl G al S.length v m) (e : items S m = some ms) :
    ∃ a vs, v = .ref a ∧ (H a = some (.lst vs) ∨ SqT cl.K H a vs) ∧ RepMs cl G al S.length vs ms := by
  rcases items_or e with e | e
  · obtain ⟨a, vs, h1, h2, h3⟩ := litems_ok rl h e
    exact ⟨a, vs, h1, .inl h2, h3⟩
  · obtain ⟨a, vs, h1, h2, h3⟩ := titems_ok rl h e
    exact ⟨a, vs, h1, .inr h2, h3⟩
/-- an instance's fields lie there -/
theorem RepFM.ofF : ∀ {vs : List (Str × V)} {ds : List (String × D)}, RepF cl G vs ds → RepFM cl G al n vs (ds.map fun p => (p.1, .d p.2))
  | _, _, .nil => .nil
  | _, _, .cons h r => .cons (.d h) (RepFM.ofF r)
theorem str_inj {a b : String} : (Str.ofString a == Str.ofString b) = (a == b) := by
  by_cases h : a = b
  · subst h; simp
  · have : Str.ofString a ≠ Str.ofString b := fun e => h (by
      have h2 : (Str.ofString a).cps.toList = (Str.ofString b).cps.toList := by rw [e]
      have h3 : a.toList.map Char.toNat = b.toList.map Char.toNat := by simpa [Str.ofString, cpsOfBytes_string] using h2
      have inj : ∀ (x y : List Char), x.map Char.toNat = y.map Char.toNat → x = y := by
        intro x
        induction x with
        | nil => intro y hy; cases y with
          | nil => rfl
          | cons _ _ => simp at hy
        | cons c x ih => intro y hy; cases y with
          | nil => simp at hy
          | cons d y =>
            simp only [List.map_cons, List.cons.injEq] at hy
            rw [ih y hy.2, show c = d from Char.ext (UInt32.toNat_inj.mp hy.1)]
      exact String.toList_injective (inj _ _ h3))
    rw [beq_eq_false_iff_ne.mpr this, beq_eq_false_iff_ne.mpr h]
theorem RepFM.get {f : String} {m : MV} : ∀ {vs : List (Str × V)} {ms : List (String × MV)}, RepFM cl G al n vs ms → ms.lookup f = some m → ∃ v, vs.lookup (Str.ofString f) = some v ∧ RepM cl G al n v m
  | _, _, .nil, e => by simp at e
  | _, _, @RepFM.cons _ _ _ _ g v vs m' ms h r, e => by
    rw [List.lookup_cons] at e ⊢
    rw [str_inj]
    cases q : (f == g) with
    | true => rw [q] at e; simp only [Option.some.injEq] at e; subst e; exact ⟨v, rfl, h⟩
    | false => rw [q] at e; exact RepFM.get r e
theorem RepFM.none {f : String} : ∀ {vs : List (Str × V)} {ms : List (String × MV)}, RepFM cl G al n vs ms → ms.lookup f = none → vs.lookup (Str.ofString f) = none
  | _, _, .nil, e => rfl
  | _, _, @RepFM.cons _ _ _ _ g v vs m' ms h r, e => by
    rw [List.lookup_cons] at e ⊢
    rw [str_inj]
    cases q : (f == g) with
    | true => rw [q] at e; cases e
    | false => rw [q] at e; exact RepFM.none r e
theorem RepFM.length : ∀ {vs : List (Str × V)} {ms : List (String × MV)}, RepFM cl G al n vs ms → vs.length = ms.length
  | _, _, .nil => rfl
  | _, _, .cons _ r => by simp [RepFM.length r]
theorem RepFM.put {f : String} {v : V} {m : MV} (h : RepM cl G al n v m) : ∀ {vs : List (Str × V)} {ms : List (String × MV)}, RepFM cl G al n vs ms → RepFM cl G al n (putF (Str.ofString f) v vs) (putM f m ms)
  | _, _, .nil => .cons h .nil
  | _, _, @RepFM.cons _ _ _ _ g v' vs m' ms h' r => by
    simp only [putF, putM]
    have : (Str.ofString g = Str.ofString f) ↔ g = f := by
      have := str_inj (a := g) (b := f)
      constructor
      · intro e; rw [e] at this; simpa using this.symm
      · intro e; rw [e]
    by_cases q : g = f
    · rw [if_pos q, if_pos (this.mpr q)]; exact .cons h r
    · rw [if_neg q, if_neg fun z => q (this.mp z)]; exact .cons h' (RepFM.put h r)
theorem ins_ok (rl : Rl cl G al S H) {m : MV} {c : String} {fs : List (String × MV)} (h : RepM cl G al S.length v m) (e : insOf S m = some (c, fs)) :
    ∃ a C dx fv, v = .ref a ∧ cl.cl c = some C ∧ H a = some (.ins C dx fv) ∧ RepFM cl G al S.length fv fs := by
  cases h with
  | d h =>
    cases h with
    | ins hc h1 h2 r =>
      simp only [insOf, Option.some.injEq, Prod.mk.injEq] at e
      obtain ⟨rfl, rfl⟩ := e
      exact ⟨_, _, _, _, rfl, hc, rl.ex _ _ h1, .ofF r⟩
    | _ => simp [insOf] at e
  | c i hi =>
    simp only [insOf] at e
    cases q : S[i]? with
    | none => rw [q] at e; cases e
    | some c =>
      rw [q] at e
      cases c with
      | lst ns => cases e
      | fl ns => cases e
      | ins c fs =>
        simp only [Option.some.injEq, Prod.mk.injEq] at e
        obtain ⟨rfl, rfl⟩ := e
        obtain ⟨_, _, o, h2, h3⟩ := rl.live i _ q rfl
        cases h3 with
        | ins hc hd r => exact ⟨_, _, _, _, rfl, hc, h2, r⟩
      | froz d =>
        cases d with
        | ins c fs =>
          simp only [Option.some.injEq, Prod.mk.injEq] at e
          obtain ⟨rfl, rfl⟩ := e
          cases rl.froz i _ q with
          | ins hc h1 h2 r => exact ⟨_, _, _, _, rfl, hc, rl.ex _ _ h1, .ofF r⟩
        | _ => cases e
  | t h r => simp [insOf] at e
end
end Mi
namespace Mi
open PySem L2 PyProof.Rows

/-! ### data read off the heap -/
section
variable {cl : Wd} {G H : Hp} {al : Nat → Addr} {S : Sto} {n : Nat} {v : V}
theorem deepL_ok {f : MV → Option D} (hf : ∀ v m d, RepM cl G al S.length v m → f m = some d → Rep cl H v d) : ∀ {vs : List V} {ms : List MV} {ds : List D}, RepMs cl G al S.length vs ms → deepL f ms = some ds → RepL cl H vs ds
  | _, _, _, .nil, e => by simp [deepL] at e; subst e; exact .nil
  | _, m :: ms, ds, .cons h r, e => by
    simp only [deepL] at e
    cases q : f m with
    | none => rw [q] at e; cases e
    | some d =>
      rw [q] at e
      simp only [Option.map_eq_some_iff] at e
      obtain ⟨ds, e1, rfl⟩ := e
      exact .cons (hf _ _ _ h q) (deepL_ok hf r e1)
theorem deep_ok (rl : Rl cl G al S H) (ex : List Nat) : ∀ (n : Nat) (v : V) (m : MV) (d : D), RepM cl G al S.length v m → deep ex n S m = some d → Rep cl H v d
  | n, v, .d x, d, h, e => by
    have e' : x = d := by cases n <;> simpa [deep] using e
    subst e'
    cases h with | d h => exact h.mono rl.ex
  | 0, v, .c i, d, h, e => by simp [deep] at e
  | 0, v, .t ms, d, h, e => by simp [deep] at e
  | n + 1, v, .c i, d, h, e => by
    cases h with
    | c i hi =>
      simp only [deep] at e
      split at e
      · cases e
      cases q : S[i]? with
      | none => rw [q] at e; cases e
      | some c =>
        rw [q] at e
        cases c with
        | ins c fs => cases e
        | froz d' => cases e; exact (rl.froz i _ q).mono rl.ex
        | lst ms =>
          simp only [Option.map_eq_some_iff] at e
          obtain ⟨ds, e1, rfl⟩ := e
          obtain ⟨_, _, o, h2, h3⟩ := rl.live i _ q rfl
          cases h3 with
          | lst h3 => exact .lst h2 (fun z => by cases z) (deepL_ok (fun v m d h e => deep_ok rl ex n v m d h e) h3 e1)
        | fl ms =>
          simp only [Option.map_eq_some_iff] at e
          obtain ⟨ds, e1, rfl⟩ := e
          obtain ⟨vs, h1, _, h3⟩ := rl.flz i _ q
          exact .lst (rl.ex _ _ h1) (fun z => by cases z) (deepL_ok (fun v m d h e => deep_ok rl ex n v m d h e) h3 e1)
  | n + 1, v, .t ms, d, h, e => by
    cases h with
    | t h r =>
      simp only [deep, Option.map_eq_some_iff] at e
      obtain ⟨ds, e1, rfl⟩ := e
      exact .tup (SqT.of (rl.ex _ _ h)) (deepL_ok (fun v m d h e => deep_ok rl ex n v m d h e) r e1)
end

theorem sz_ok {n : Nat} (h : szOk n = true) : n ≤ sizeLine := Nat.le_trans (of_decide_eq_true h) (by decide)
theorem sz_lt {n : Nat} (h : szOk (n + 1) = true) : n < sizeLine := Nat.lt_of_lt_of_le (of_decide_eq_true h) (by decide)

/-- a new frozen list, tuple -/
theorem fin_lst {cl : Wd} {G H : Hp} {al : Nat → Addr} {S : Sto} {E : XK} {Q : VK} {ds : List D} {vs : List V} {p : Addr} (rl : Rl cl G al S H) (r : RepL cl G vs ds) (q : Pst cl G al S H (.ok (.d (.lst false ds)) S) (Vk cl Q) E) (hp : H p = none) : Q (.ref p) (upd H p (.lst vs)) :=
  q _ _ _ (Gr.newG rl hp) (rl.newG hp) _ (.d (.lst upd_same (fun _ => rl.nbw hp) (r.mono (Ex.new (rl.ex.back hp)))))
theorem fin_tup {cl : Wd} {G H : Hp} {al : Nat → Addr} {S : Sto} {E : XK} {Q : VK} {ms : List MV} {vs : List V} {p : Addr} (rl : Rl cl G al S H) (r : RepMs cl G al S.length vs ms) (q : Pst cl G al S H (.ok (tupV ms) S) (Vk cl Q) E) (hp : H p = none) : Q (.ref p) (upd H p (.tup vs)) :=
  q _ _ _ (Gr.newG rl hp) (rl.newG hp) _ (.tupV upd_same (r.mono (Ex.new (rl.ex.back hp)) (Nat.le_refl _) fun _ _ => rfl))
theorem fin_d {cl : Wd} {G H : Hp} {al : Nat → Addr} {S : Sto} {E : XK} {Q : VK} {v : V} {d : D} (rl : Rl cl G al S H) (r : Rep cl G v d) (q : Pst cl G al S H (.ok (.d d) S) (Vk cl Q) E) : Q v H := q.now rl v (.d r)

section
variable {cl : Wd} {G H : Hp} {al : Nat → Addr} {S : Sto} {v : V} {E : XK} {Q : VK}
/-- a new list at a fresh place -/
theorem newL_ok (rl : Rl cl G al S H) {cell : Bool} {ms : List MV} {vs : List V} (r : RepMs cl G al S.length vs ms) (q : Pst cl G al S H (newL cell ms S) (Vk cl Q) E) :
    vs.length ≤ sizeLine ∧ ∀ p, H p = none → Q (.ref p) (upd H p (.lst vs)) := by
  unfold newL at q
  split at q
  · rename_i hz
    refine ⟨by rw [r.length]; exact sz_ok hz, fun p hp => ?_⟩
    have cellq : Pst cl G al S H (.ok (.c S.length) (S ++ [.lst ms])) (Vk cl Q) E → Q (.ref p) (upd H p (.lst vs)) := fun q => by
      refine q _ (alw al S.length p) _ (Gr.newC hp) (rl.newC hp rfl (.lst r)) _ ?_
      have := RepM.c (cl := cl) (G := G) (al := alw al S.length p) (n := (S ++ [Cell.lst ms]).length) S.length (by simp)
      rw [alw_new] at this
      exact this
    split at q
    · exact cellq q
    · split at q
      · rename_i ds ed
        exact fin_lst rl (r.all ed) q hp
      · exact cellq q
  · exact q.elim
theorem newT_ok (rl : Rl cl G al S H) {ms : List MV} {vs : List V} (r : RepMs cl G al S.length vs ms) (q : Pst cl G al S H (newT ms S) (Vk cl Q) E) :
    vs.length ≤ sizeLine ∧ ∀ p, H p = none → Q (.ref p) (upd H p (.tup vs)) := by
  unfold newT at q
  split at q
  · rename_i hz
    exact ⟨by rw [r.length]; exact sz_ok hz, fun p hp => fin_tup rl r q hp⟩
  · exact q.elim
end

def opOf : Bop → Operator
  | .add => .Add | .sub => .Sub | .mul => .Mult | .fdiv => .FloorDiv | .mod => .Mod | .pow => .Pow

theorem allD_map' : ∀ ds : List D, allD (ds.map .d) = some ds
  | [] => rfl
  | d :: ds => by simp only [List.map_cons, allD, allD_map' ds, Option.map_some]

theorem titems_self {cl : Wd} {G : Hp} {al : Nat → Addr} {n : Nat} {v : V} {m : MV} {ms : List MV} (h : RepM cl G al n v m) (e : titems m = some ms) : RepM cl G al n v (tupV ms) := by
  cases h with
  | d hx =>
    cases hx with
    | tup h r =>
      simp only [titems, Option.some.injEq] at e; subst e
      rw [show tupV (List.map MV.d _) = _ from by unfold tupV; rw [allD_map']]
      exact .d (.tup h r)
    | _ => simp [titems] at e
  | c i hi => simp [titems] at e
  | t h r => simp only [titems, Option.some.injEq] at e; subst e; exact .tupV h r

section
variable {X : Cx} {cl : Wd} {E : XK}
theorem op_fdivX : OpR X (binaryOp .FloorDiv) (rI (fun _ j => j ≠ 0 ∧ j.natAbs.log2 < 9000) fun i j => .int (i.fdiv j)) := opI fun _ _ _ _ _ _ _ hc q => PyProof.Rows.floordiv_int hc.1 q (.inl (PyProof.noPylong_of_log2 hc.2))
theorem op_binI (o : Bop) (i j : Int) (z : D) (hz : binD o (.int i) (.int j) = some z) : ∃ k, z = .int k ∧ OpR X (binaryOp (opOf o)) (fun x y H Q => x = .int i ∧ y = .int j ∧ Q (.int k) H) := by
  cases o with
  | add => cases hz; exact ⟨_, rfl, fun pins s σ H x y v u Q I rx ry h => op_add pins s σ H _ _ v u Q I rx ry ⟨_, _, h.1, h.2.1, h.2.2⟩⟩
  | sub => cases hz; exact ⟨_, rfl, fun pins s σ H x y v u Q I rx ry h => op_sub pins s σ H _ _ v u Q I rx ry ⟨_, _, h.1, h.2.1, h.2.2⟩⟩
  | mul =>
    simp only [binD] at hz
    split at hz
    · rename_i hc
      cases hz; exact ⟨_, rfl, fun pins s σ H x y v u Q I rx ry h => op_mulW pins s σ H _ _ v u Q I rx ry ⟨_, _, h.1, h.2.1, (of_decide_eq_true hc : _ + _ < _), h.2.2⟩⟩
    · cases hz
  | fdiv =>
    simp only [binD] at hz
    split at hz
    · rename_i hc
      cases hz; exact ⟨_, rfl, fun pins s σ H x y v u Q I rx ry h => op_fdivX pins s σ H _ _ v u Q I rx ry ⟨_, _, h.1, h.2.1, of_decide_eq_true hc, h.2.2⟩⟩
    · cases hz
  | mod =>
    simp only [binD] at hz
    split at hz
    · rename_i hc
      cases hz; exact ⟨_, rfl, fun pins s σ H x y v u Q I rx ry h => op_modN pins s σ H _ _ v u Q I rx ry ⟨_, _, h.1, h.2.1, hc, h.2.2⟩⟩
    · cases hz
  | pow =>
    simp only [binD] at hz
    split at hz
    · rename_i hc
      cases hz; exact ⟨_, rfl, fun pins s σ H x y v u Q I rx ry h => op_pow pins s σ H _ _ v u Q I rx ry ⟨_, _, h.1, h.2.1, (of_decide_eq_true hc : _ ∧ _ ∧ _), h.2.2⟩⟩
    · cases hz
theorem RepMs.replicate {G : Hp} {al : Nat → Addr} {n : Nat} {vs : List V} {ms : List MV} (r : RepMs cl G al n vs ms) : ∀ k : Nat, RepMs cl G al n (List.replicate k vs).flatten (List.replicate k ms).flatten
  | 0 => by simp; exact .nil
  | k + 1 => by simp only [List.replicate_succ, List.flatten_cons]; exact r.append (RepMs.replicate r k)
theorem op_bin (o : Bop) (hK : X.K = cl.K) : OpR X (binaryOp (opOf o)) (r2 cl E (binF o)) := by
  intro pins s σ H x y v u Q I rx ry h
  obtain ⟨G, al, S, mx, my, rl, hx, hy, p⟩ := h
  unfold binF at p
  split at p
  · rename_i i j
    split at p
    · rename_i z ez
      obtain ⟨k, rfl, op⟩ := op_binI (X := X) o i j z ez
      exact op pins s σ H _ _ v u Q I rx ry ⟨hx.int_inv, hy.int_inv, fin_d rl (.int _) p⟩
    · exact p.elim
  · split at p
    · split at p
      · rename_i xs ys e1 e2
        split at p
        · rename_i hz
          obtain ⟨a1, v1, rfl, h1, r1⟩ := litems_ok rl hx e1
          obtain ⟨a2, v2, rfl, h2, r2⟩ := litems_ok rl hy e2
          refine op_cat pins s σ H _ _ v u Q I rx ry ⟨_, _, _, _, rfl, rfl, h1, h2, ?_, (newL_ok rl (r1.append r2) p).2⟩
          rw [r1.length, r2.length]; exact sz_ok hz
        · exact p.elim
      · split at p
        · rename_i xs ys e1 e2
          split at p
          · rename_i hz
            obtain ⟨a1, v1, rfl, h1, r1⟩ := titems_ok rl hx e1
            obtain ⟨a2, v2, rfl, h2, r2⟩ := titems_ok rl hy e2
            refine op_catA pins s σ H _ _ v u Q I rx ry ⟨_, _, _, _, rfl, rfl, by rw [hK]; exact h1, by rw [hK]; exact h2, ?_, fun z => ?_, fun _ z => ?_, fun _ _ => fun q hq => fin_tup rl (r1.append r2) p hq⟩
            · rw [r1.length, r2.length]; exact sz_ok hz
            · subst z
              cases r1
              rw [List.nil_append] at p
              refine p.now rl _ ?_
              cases hy with
              | d hy =>
                cases hy with
                | tup h r =>
                  simp only [titems, Option.some.injEq] at e2; subst e2
                  rw [show tupV (List.map MV.d _) = _ from by unfold tupV; rw [allD_map']]
                  exact .d (.tup h r)
                | _ => simp [titems] at e2
              | c i hi => simp [titems] at e2
              | t h r => simp only [titems, Option.some.injEq] at e2; subst e2; exact .tupV h r
            · subst z
              cases r2
              rw [List.append_nil] at p
              refine p.now rl _ ?_
              cases hx with
              | d hx =>
                cases hx with
                | tup h r =>
                  simp only [titems, Option.some.injEq] at e1; subst e1
                  rw [show tupV (List.map MV.d _) = _ from by unfold tupV; rw [allD_map']]
                  exact .d (.tup h r)
                | _ => simp [titems] at e1
              | c i hi => simp [titems] at e1
              | t h r => simp only [titems, Option.some.injEq] at e1; subst e1; exact .tupV h r
          · exact p.elim
        · exact p.elim
    · split at p
      · rename_i xs k e1 hnot
        split at p
        · rename_i hz
          simp only [Bool.and_eq_true, decide_eq_true_eq] at hz
          obtain ⟨a1, v1, rfl, h1, r1⟩ := litems_ok rl hx e1
          have := hy.int_inv; subst this
          refine op_rep pins s σ H _ _ v u Q I rx ry ⟨_, _, _, rfl, rfl, h1, by omega, by omega, ?_, (newL_ok rl (RepMs.replicate r1 _) p).2⟩
          rw [r1.length]; exact sz_ok hz.1.2
        · exact p.elim
      · exact p.elim
    · exact p.elim

/-! ### comparisons -/
mutual
def toPy : D → PyData
  | .non => .none
  | .bl b => .bool b
  | .int i => .int i
  | .str s => .str s
  | .lst _ xs => .list (toPys xs)
  | .tup xs => .tuple (toPys xs)
  | .ins _ _ => .none
  | .scr _ => .none
def toPys : List D → List PyData
  | [] => []
  | x :: xs => toPy x :: toPys xs
end
theorem toPys_shape {n : Nat} (f : ∀ d, dep n d = true → (toPy d).canLay0 = true ∧ (toPy d).depth ≤ n) : ∀ xs : List D, depL (dep n) xs = true → PyData.canLayAll0 (toPys xs) = true ∧ PyData.depthAll (toPys xs) ≤ n
  | [], _ => by simp [toPys, PyData.canLayAll0, PyData.depthAll]
  | x :: xs, h => by
    simp only [depL, Bool.and_eq_true] at h
    obtain ⟨h1, h2⟩ := f x h.1
    obtain ⟨h3, h4⟩ := toPys_shape f xs h.2
    simp only [toPys, PyData.canLayAll0, PyData.depthAll, h1, h3, Bool.and_self, true_and]
    omega
theorem toPy_shape : ∀ (n : Nat) (d : D), dep n d = true → (toPy d).canLay0 = true ∧ (toPy d).depth ≤ n
  | n, .non, _ => by simp [toPy, PyData.canLay0, PyData.depth]
  | n, .bl _, _ => by simp [toPy, PyData.canLay0, PyData.depth]
  | n, .int _, _ => by simp [toPy, PyData.canLay0, PyData.depth]
  | n, .str t, h => by
    have h' : PyData.strOk t = true := by cases n <;> simpa [dep] using h
    simp [toPy, PyData.canLay0, PyData.depth, h']
  | n, .ins _ _, h => by cases n <;> simp [dep] at h
  | n, .scr _, h => by cases n <;> simp [dep] at h
  | 0, .lst _ _, h => by simp [dep] at h
  | 0, .tup _, h => by simp [dep] at h
  | n + 1, .lst _ xs, h => by
    obtain ⟨h1, h2⟩ := toPys_shape (fun d h => toPy_shape n d h) xs (by simpa only [dep] using h)
    simp only [toPy, PyData.canLay0, PyData.depth]
    exact ⟨h1, by omega⟩
  | n + 1, .tup xs, h => by
    obtain ⟨h1, h2⟩ := toPys_shape (fun d h => toPy_shape n d h) xs (by simpa only [dep] using h)
    simp only [toPy, PyData.canLay0, PyData.depth]
    exact ⟨h1, by omega⟩
theorem shaped_of {d : D} (h : dep 8 d = true) : SeqAt.shaped (toPy d) = true := by
  obtain ⟨h1, h2⟩ := toPy_shape 8 d h
  unfold SeqAt.shaped
  rw [h1, Bool.true_and]
  exact decide_eq_true (Nat.le_trans h2 (by decide))
theorem dpL {K : W.Frag} {H : Hp} {n : Nat} (f : ∀ v d, Rep cl H v d → dep n d = true → Dp K H v (toPy d)) : ∀ {vs : List V} {ds : List D}, RepL cl H vs ds → depL (dep n) ds = true → DpAll K H vs (toPys ds)
  | _, _, .nil, _ => .nil
  | _, _, .cons h r, e => by
    simp only [depL, Bool.and_eq_true] at e
    exact .cons (f _ _ h e.1) (dpL f r e.2)
theorem dp_of {K : W.Frag} {H : Hp} (hK : K = cl.K) : ∀ (n : Nat) (v : V) (d : D), Rep cl H v d → dep n d = true → Dp K H v (toPy d)
  | n, _, _, .non, _ => .non
  | n, _, _, .bl b, _ => .bl b
  | n, _, _, .int i, _ => .int i
  | n, _, _, .str x, _ => .str x
  | 0, _, _, .lst h _ r, e => by simp [dep] at e
  | 0, _, _, .tup h r, e => by simp [dep] at e
  | n + 1, _, _, .lst h _ r, e => .lst (SqL.of h) (dpL (fun v d h e => dp_of hK n v d h e) r (by simpa only [dep] using e))
  | n + 1, _, _, .tup h r, e => .tup (by rw [hK]; exact h) (dpL (fun v d h e => dp_of hK n v d h e) r (by simpa only [dep] using e))
  | n, _, _, .ins _ _ _ _, e => by cases n <;> simp [dep] at e
  | n, _, _, .scr _, e => by cases n <;> simp [dep] at e
theorem eqvs_of {n : Nat} {xs : List D} (f : ∀ a b, a ∈ (xs : List D) → dep n a = true → dep n b = true → PyData.eqv (toPy a) (toPy b) = eqD a b) : ∀ (ys : List D), depL (dep n) xs = true → depL (dep n) ys = true → PyData.eqvAll (toPys xs) (toPys ys) = eqDs xs ys := by
  induction xs with
  | nil => intro ys _ _; cases ys <;> simp [toPys, PyData.eqvAll, eqDs]
  | cons x xs ih =>
    intro ys h1 h2
    cases ys with
    | nil => simp [toPys, PyData.eqvAll, eqDs]
    | cons y ys =>
      simp only [depL, Bool.and_eq_true] at h1 h2
      simp only [toPys, PyData.eqvAll, eqDs]
      rw [f x y (by simp) h1.1 h2.1, ih (fun a b ha => f a b (by simp [ha])) ys h1.2 h2.2]
theorem eqv_of : ∀ (n : Nat) (a b : D), dep n a = true → dep n b = true → PyData.eqv (toPy a) (toPy b) = eqD a b := by
  intro n
  induction n with
  | zero => intro a b ha hb; cases a <;> cases b <;> first | (simp [dep] at ha; done) | (simp [dep] at hb; done) | simp [toPy, PyData.eqv, eqD]
  | succ n ih =>
    intro a b ha hb
    cases a with
    | lst t xs =>
      cases b with
      | lst u ys => simp only [dep] at ha hb; simp only [toPy, PyData.eqv, eqD]; exact eqvs_of (fun a b _ h1 h2 => ih a b h1 h2) ys ha hb
      | _ => first | (simp [dep] at hb; done) | simp [toPy, PyData.eqv, eqD]
    | tup xs =>
      cases b with
      | tup ys => simp only [dep] at ha hb; simp only [toPy, PyData.eqv, eqD]; exact eqvs_of (fun a b _ h1 h2 => ih a b h1 h2) ys ha hb
      | _ => first | (simp [dep] at hb; done) | simp [toPy, PyData.eqv, eqD]
    | _ => cases b <;> first | (simp [dep] at ha; done) | (simp [dep] at hb; done) | simp [toPy, PyData.eqv, eqD]

theorem depL_up {n : Nat} (f : ∀ d, dep n d = true → dep (n + 1) d = true) : ∀ xs : List D, depL (dep n) xs = true → depL (dep (n + 1)) xs = true
  | [], _ => rfl
  | x :: xs, h => by
    simp only [depL, Bool.and_eq_true] at h ⊢
    exact ⟨f x h.1, depL_up f xs h.2⟩
theorem dep_up : ∀ (n : Nat) (d : D), dep n d = true → dep (n + 1) d = true
  | n, .non, _ => by simp [dep]
  | n, .bl _, _ => by simp [dep]
  | n, .int _, _ => by simp [dep]
  | n, .str t, h => by cases n <;> simpa [dep] using h
  | n, .ins _ _, h => by cases n <;> simp [dep] at h
  | n, .scr _, h => by cases n <;> simp [dep] at h
  | 0, .lst _ _, h => by simp [dep] at h
  | 0, .tup _, h => by simp [dep] at h
  | n + 1, .lst _ xs, h => by
    simp only [dep] at h ⊢
    exact depL_up (fun d h => dep_up n d h) xs h
  | n + 1, .tup xs, h => by
    simp only [dep] at h ⊢
    exact depL_up (fun d h => dep_up n d h) xs h
def copOf : Cop → CmpOp
  | .eq => .Eq | .ne => .NotEq | .lt => .Lt | .le => .LtE | .gt => .Gt | .ge => .GtE | .is_ => .Is | .isn => .IsNot | .in_ => .In | .nin => .NotIn
theorem rep_int {G : Hp} {v : V} {i : Int} (h : Rep cl G v (.int i)) : v = .int i := by cases h; rfl
theorem rep_non {G : Hp} {v : V} {d : D} (h : Rep cl G v d) : decide (v = .non) = isNon d := by cases h <;> simp [isNon]
theorem mem_of {n : Nat} (a : D) (ha : dep (n + 1) a = true) : ∀ (xs : List D), depL (dep n) xs = true → ((toPys xs).any fun z => PyData.eqv z (toPy a)) = memD a xs
  | [], _ => rfl
  | x :: xs, h => by
    simp only [depL, Bool.and_eq_true] at h
    simp only [toPys, List.any_cons, memD]
    rw [mem_of a ha xs h.2, eqv_of (n + 1) x a (dep_up n x h.1) ha]
theorem op_inT (hu : X.A.units + 65 < cLine) : OpR X (compareOp .In) (fun x y H Q => ∃ d ds, Dp X.K H x d ∧ Dp X.K H y (.tuple ds) ∧ SeqAt.shaped d = true ∧ SeqAt.shaped (.tuple ds) = true ∧ Q (.bl (ds.any fun z => PyData.eqv z d)) H) := by
  intro pins s σ H x y v u Q I rx ry h
  obtain ⟨d, ds, hd, he, sd, se, q⟩ := h
  obtain ⟨as, r1⟩ := Dp.reads I d x v hd rx
  obtain ⟨bs, r2⟩ := Dp.reads I (.tuple ds) y u he ry
  exact SeqAt.in_tuple_reads r2 r1 (SeqAt.canLay_of_shaped se) (SeqAt.canLay_of_shaped sd) (room_in_shaped sd hu) ⟨.bl _, H, I, rfl, q⟩
theorem op_ninT (hu : X.A.units + 65 < cLine) : OpR X (compareOp .NotIn) (fun x y H Q => ∃ d ds, Dp X.K H x d ∧ Dp X.K H y (.tuple ds) ∧ SeqAt.shaped d = true ∧ SeqAt.shaped (.tuple ds) = true ∧ Q (.bl (!ds.any fun z => PyData.eqv z d)) H) := by
  intro pins s σ H x y v u Q I rx ry h
  obtain ⟨d, ds, hd, he, sd, se, q⟩ := h
  obtain ⟨as, r1⟩ := Dp.reads I d x v hd rx
  obtain ⟨bs, r2⟩ := Dp.reads I (.tuple ds) y u he ry
  exact SeqAt.notIn_tuple_reads r2 r1 (SeqAt.canLay_of_shaped se) (SeqAt.canLay_of_shaped sd) (room_in_shaped sd hu) ⟨.bl _, H, I, rfl, q⟩
theorem op_cmp (o : Cop) (hK : X.K = cl.K) (hu : X.A.units + 65 < cLine) : OpR X (compareOp (copOf o)) (r2 cl E (cmpF o)) := by
  intro pins s σ H x y v u Q I rx ry h
  obtain ⟨G, al, S, mx, my, rl, hx, hy, p⟩ := h
  have hu' : X.A.units + 64 < cLine := by omega
  unfold cmpF at p
  split at p
  · split at p
    · cases hx with
      | d hx => cases hy with
        | d hy => cases hy; exact op_isN pins s σ H _ _ v u Q I rx ry ⟨rfl, by rw [rep_non hx]; exact fin_d rl (.bl _) p⟩
    · cases hx with
      | c i hi => cases hy with
        | d hy => cases hy; exact op_isN pins s σ H _ _ v u Q I rx ry ⟨rfl, by rw [decide_eq_false (by simp)]; exact fin_d rl (.bl _) p⟩
    · cases hx with
      | t h r => cases hy with
        | d hy => cases hy; exact op_isN pins s σ H _ _ v u Q I rx ry ⟨rfl, by rw [decide_eq_false (by simp)]; exact fin_d rl (.bl _) p⟩
    · exact p.elim
  · split at p
    · cases hx with
      | d hx => cases hy with
        | d hy => cases hy; exact op_notN pins s σ H _ _ v u Q I rx ry ⟨rfl, by rw [rep_non hx]; exact fin_d rl (.bl _) p⟩
    · cases hx with
      | c i hi => cases hy with
        | d hy => cases hy; exact op_notN pins s σ H _ _ v u Q I rx ry ⟨rfl, by rw [decide_eq_false (by simp)]; exact fin_d rl (.bl _) p⟩
    · cases hx with
      | t h r => cases hy with
        | d hy => cases hy; exact op_notN pins s σ H _ _ v u Q I rx ry ⟨rfl, by rw [decide_eq_false (by simp)]; exact fin_d rl (.bl _) p⟩
    · exact p.elim
  · split at p
    · rename_i a b ea eb
      split at p
      · rename_i z ez
        have ha := deep_ok rl _ _ _ _ _ hx ea
        have hb := deep_ok rl _ _ _ _ _ hy eb
        unfold cmpD at ez
        split at ez
        · cases ez; have := rep_int ha; have := rep_int hb; subst_vars
          exact op_lt pins s σ H _ _ v u Q I rx ry ⟨_, _, rfl, rfl, fin_d rl (.bl _) p⟩
        · cases ez; have := rep_int ha; have := rep_int hb; subst_vars
          exact op_le pins s σ H _ _ v u Q I rx ry ⟨_, _, rfl, rfl, fin_d rl (.bl _) p⟩
        · cases ez; have := rep_int ha; have := rep_int hb; subst_vars
          exact op_gt pins s σ H _ _ v u Q I rx ry ⟨_, _, rfl, rfl, fin_d rl (.bl _) p⟩
        · cases ez; have := rep_int ha; have := rep_int hb; subst_vars
          exact op_ge pins s σ H _ _ v u Q I rx ry ⟨_, _, rfl, rfl, fin_d rl (.bl _) p⟩
        · split at ez
          · rename_i hc
            rw [Bool.and_eq_true] at hc
            cases ez
            refine op_eqD hu' pins s σ H _ _ v u Q I rx ry ⟨_, _, dp_of hK _ _ _ ha hc.1, dp_of hK _ _ _ hb hc.2, shaped_of hc.1, shaped_of hc.2, ?_⟩
            rw [eqv_of 8 _ _ hc.1 hc.2]
            exact fin_d rl (.bl _) p
          · cases ez
        · split at ez
          · rename_i hc
            rw [Bool.and_eq_true] at hc
            cases ez
            refine op_neD hu' pins s σ H _ _ v u Q I rx ry ⟨_, _, dp_of hK _ _ _ ha hc.1, dp_of hK _ _ _ hb hc.2, shaped_of hc.1, shaped_of hc.2, ?_⟩
            rw [eqv_of 8 _ _ hc.1 hc.2]
            exact fin_d rl (.bl _) p
          · cases ez
        · split at ez
          · rename_i hc
            rw [Bool.and_eq_true] at hc
            cases ez
            have hl : dep 8 (.lst true _) = true := hc.2
            refine op_inD hu pins s σ H _ _ v u Q I rx ry ⟨toPy _, toPys _, dp_of hK _ _ _ ha hc.1, dp_of hK 8 _ _ hb hc.2, shaped_of hc.1, shaped_of hl, ?_⟩
            rw [mem_of (n := 7) _ hc.1 _ hc.2]
            exact fin_d rl (.bl _) p
          · cases ez
        · split at ez
          · rename_i hc
            rw [Bool.and_eq_true] at hc
            cases ez
            have hl : dep 8 (.lst true _) = true := hc.2
            refine op_notInD hu pins s σ H _ _ v u Q I rx ry ⟨toPy _, toPys _, dp_of hK _ _ _ ha hc.1, dp_of hK 8 _ _ hb hc.2, shaped_of hc.1, shaped_of hl, ?_⟩
            rw [mem_of (n := 7) _ hc.1 _ hc.2]
            exact fin_d rl (.bl _) p
          · cases ez
        · split at ez
          · rename_i hc
            rw [Bool.and_eq_true] at hc
            cases ez
            have hl : dep 8 (.tup _) = true := hc.2
            refine op_inT hu pins s σ H _ _ v u Q I rx ry ⟨toPy _, toPys _, dp_of hK _ _ _ ha hc.1, dp_of hK 8 _ _ hb hc.2, shaped_of hc.1, shaped_of hl, ?_⟩
            rw [mem_of (n := 7) _ hc.1 _ hc.2]
            exact fin_d rl (.bl _) p
          · cases ez
        · split at ez
          · rename_i hc
            rw [Bool.and_eq_true] at hc
            cases ez
            have hl : dep 8 (.tup _) = true := hc.2
            refine op_ninT hu pins s σ H _ _ v u Q I rx ry ⟨toPy _, toPys _, dp_of hK _ _ _ ha hc.1, dp_of hK 8 _ _ hb hc.2, shaped_of hc.1, shaped_of hl, ?_⟩
            rw [mem_of (n := 7) _ hc.1 _ hc.2]
            exact fin_d rl (.bl _) p
          · cases ez
        · cases ez
      · exact p.elim
    · exact p.elim
end
end Mi
namespace Mi
open PySem L2 PyProof.Rows

section
variable {cl : Wd} {G H : Hp} {al : Nat → Addr} {S : Sto} {v : V} {E : XK} {Q : VK}
theorem truth_ok (rl : Rl cl G al S H) {m : MV} {k : Bool} (h : RepM cl G al S.length v m) (e : truth S m = some k) : TruV cl.K v H k := by
  have seq : ∀ ms, items S m = some ms → k = !ms.isEmpty → TruV cl.K v H k := fun ms e1 e2 => by
    obtain ⟨a, vs, rfl, hv, r⟩ := items_ok rl h e1
    have el : ms.isEmpty = vs.isEmpty := by
      have := r.length
      cases vs <;> cases ms <;> simp_all
    rcases hv with hv | hv
    · exact .inl ⟨vs, SqL.of hv, by rw [e2, el]⟩
    · exact .inr (.inl ⟨vs, hv, by rw [e2, el]⟩)
  unfold truth at e
  split at e
  · cases h with | d h => cases h; exact (Option.some.inj e).symm
  · cases h with | d h => cases h; exact (Option.some.inj e).symm
  · cases h with | d h => cases h; exact (Option.some.inj e).symm
  · simp only [Option.map_eq_some_iff] at e
    obtain ⟨ms, e1, e2⟩ := e
    exact seq ms e1 e2.symm

/-- freezing changes nothing that is there -/
def FzOk (cl : Wd) (H : Hp) (f : MV → Sto → R D) : Prop := ∀ (G : Hp) (al : Nat → Addr) (S : Sto) (v : V) (m : MV) (ok : Hp → (Nat → Addr) → Sto → Hp → D → Prop) (E : XK), Rl cl G al S H → RepM cl G al S.length v m → Pst cl G al S H (f m S) ok E →
  ∃ G' S' d, f m S = .ok d S' ∧ Gr G al S H G' al S' H ∧ Rl cl G' al S' H ∧ Rep cl G' v d
theorem freezeL_ok {f : MV → Sto → R D} (hf : FzOk cl H f) :
    ∀ {ms : List MV} {vs : List V} {G : Hp} {al : Nat → Addr} {S : Sto} {ok : Hp → (Nat → Addr) → Sto → Hp → List D → Prop}, Rl cl G al S H → RepMs cl G al S.length vs ms → Pst cl G al S H (freezeL f ms S) ok E →
      ∃ G' S' ds, freezeL f ms S = .ok ds S' ∧ Gr G al S H G' al S' H ∧ Rl cl G' al S' H ∧ RepL cl G' vs ds
  | [], _, G, al, S, ok, rl, .nil, q => ⟨G, S, [], rfl, Gr.refl, rl, .nil⟩
  | m :: ms, _, G, al, S, ok, rl, .cons h r, q => by
    simp only [freezeL] at q ⊢
    obtain ⟨G1, S1, d, e1, g1, rl1, h1⟩ := hf G al S _ m _ E rl h q.bind
    rw [e1] at q ⊢
    simp only [R.bind_ok] at q ⊢
    obtain ⟨G2, S2, ds, e2, g2, rl2, r2⟩ := freezeL_ok hf rl1 (r.gr g1) (Pst.gr g1 q).bind
    rw [e2]
    exact ⟨G2, S2, d :: ds, rfl, g1.trans g2, rl2, .cons (h1.mono g2.fz) r2⟩
theorem RepFM.gr {G' : Hp} {al' : Nat → Addr} {S' : Sto} {H H' : Hp} (g : Gr G al S H G' al' S' H') {vs : List (Str × V)} {ms : List (String × MV)} (h : RepFM cl G al S.length vs ms) : RepFM cl G' al' S'.length vs ms := h.mono g.fz g.len g.at_
theorem freezeF_ok {f : MV → Sto → R D} (hf : FzOk cl H f) :
    ∀ {ms : List (String × MV)} {vs : List (Str × V)} {G : Hp} {al : Nat → Addr} {S : Sto} {ok : Hp → (Nat → Addr) → Sto → Hp → List (String × D) → Prop}, Rl cl G al S H → RepFM cl G al S.length vs ms → Pst cl G al S H (freezeF f ms S) ok E →
      ∃ G' S' ds, freezeF f ms S = .ok ds S' ∧ Gr G al S H G' al S' H ∧ Rl cl G' al S' H ∧ RepF cl G' vs ds
  | [], _, G, al, S, ok, rl, .nil, q => ⟨G, S, [], rfl, Gr.refl, rl, .nil⟩
  | (x, m) :: ms, _, G, al, S, ok, rl, .cons h r, q => by
    simp only [freezeF] at q ⊢
    obtain ⟨G1, S1, d, e1, g1, rl1, h1⟩ := hf G al S _ m _ E rl h q.bind
    rw [e1] at q ⊢
    simp only [R.bind_ok] at q ⊢
    obtain ⟨G2, S2, ds, e2, g2, rl2, r2⟩ := freezeF_ok hf rl1 (r.gr g1) (Pst.gr g1 q).bind
    rw [e2]
    exact ⟨G2, S2, (x, d) :: ds, rfl, g1.trans g2, rl2, .cons (h1.mono g2.fz) r2⟩
theorem freeze_ok : ∀ (n : Nat), FzOk cl H (freeze n) := by
  intro n
  induction n with
  | zero =>
    intro G al S v m ok E rl h q
    cases h with
    | d h => exact ⟨G, S, _, rfl, Gr.refl, rl, h⟩
    | c i hi => exact q.elim
    | t h r => exact q.elim
  | succ n ih =>
    intro G al S v m ok E rl h q
    cases h with
    | d h => exact ⟨G, S, _, rfl, Gr.refl, rl, h⟩
    | t h r =>
      simp only [freeze] at q ⊢
      obtain ⟨G1, S1, ds, e1, g1, rl1, r1⟩ := freezeL_ok ih rl r q.bind
      rw [e1]
      exact ⟨G1, S1, _, rfl, g1, rl1, .tup (SqT.of (g1.fz _ _ h)) r1⟩
    | c i hi =>
      simp only [freeze] at q ⊢
      cases hc : S[i]? with
      | none => rw [hc] at q; exact q.elim
      | some c =>
        rw [hc] at q
        cases c with
        | froz d => exact ⟨G, S, d, rfl, Gr.refl, rl, rl.froz i d hc⟩
        | ins c fs =>
          simp only at q ⊢
          obtain ⟨_, _, o, h2, h3⟩ := rl.live i _ hc rfl
          cases h3 with
          | ins hcl hd h3 =>
            obtain ⟨G1, S1, ds, e1, g1, rl1, r1⟩ := freezeF_ok ih rl h3 q.bind
            rw [e1] at q ⊢
            simp only [R.bind_ok] at q ⊢
            cases hc1 : S1[i]? with
            | none => rw [hc1] at q; exact q.elim
            | some c1 =>
              rw [hc1] at q
              cases c1 with
              | lst _ => exact q.elim
              | fl _ => exact q.elim
              | froz _ => exact q.elim
              | ins c1 fs1 =>
                have hx := fun o => Ex.new (o := o) (rl1.live i _ hc1 rfl).1
                exact ⟨_, _, .ins c ds, rfl, g1.trans (Gr.fz_ rl1 hc1 rfl rfl), rl1.fz hc1 rfl h2 rfl (.ins hcl upd_same (hx _ _ _ (g1.fz _ _ hd)) (r1.mono (hx _))), .ins hcl upd_same (hx _ _ _ (g1.fz _ _ hd)) (r1.mono (hx _))⟩
        | lst ms =>
          simp only at q ⊢
          obtain ⟨_, _, o, h2, h3⟩ := rl.live i _ hc rfl
          cases h3 with
          | lst h3 =>
            obtain ⟨G1, S1, ds, e1, g1, rl1, r1⟩ := freezeL_ok ih rl h3 q.bind
            rw [e1] at q ⊢
            simp only [R.bind_ok] at q ⊢
            cases hc1 : S1[i]? with
            | none => rw [hc1] at q; exact q.elim
            | some c1 =>
              rw [hc1] at q
              cases c1 with
              | ins _ _ => exact q.elim
              | froz _ => exact q.elim
              | fl _ => exact q.elim
              | lst ms1 =>
                have hx := fun o => Ex.new (o := o) (rl1.live i _ hc1 rfl).1
                exact ⟨_, _, .lst false ds, rfl, g1.trans (Gr.fz_ rl1 hc1 rfl rfl), rl1.fz hc1 rfl h2 rfl (.lst upd_same (fun _ => (rl1.live i _ hc1 rfl).2.1) (r1.mono (hx _))), .lst upd_same (fun _ => (rl1.live i _ hc1 rfl).2.1) (r1.mono (hx _))⟩
        | fl ms =>
          simp only at q ⊢
          obtain ⟨vs, h1, hb, h3⟩ := rl.flz i _ hc
          obtain ⟨G1, S1, ds, e1, g1, rl1, r1⟩ := freezeL_ok ih rl h3 q.bind
          rw [e1] at q ⊢
          simp only [R.bind_ok] at q ⊢
          cases hc1 : S1[i]? with
          | none => rw [hc1] at q; exact q.elim
          | some c1 =>
            rw [hc1] at q
            cases c1 with
            | ins _ _ => exact q.elim
            | froz _ => exact q.elim
            | lst _ => exact q.elim
            | fl ms1 => exact ⟨_, _, .lst false ds, rfl, g1.trans (Gr.refz hc1 rfl rfl), rl1.refz hc1 rfl rfl (.lst (g1.fz _ _ h1) (fun _ => hb) r1), .lst (g1.fz _ _ h1) (fun _ => hb) r1⟩
end

section
variable {X : Cx} {cl : Wd} {E : XK}
theorem atI_rep {cl : Wd} {G : Hp} {al : Nat → Addr} {n : Nat} {vs : List V} {ms : List MV} {k : Int} {m : MV} (r : RepMs cl G al n vs ms) (e : L2.atI ms k = some m) : ∃ v, L2.atI vs k = some v ∧ RepM cl G al n v m := by
  unfold L2.atI at e ⊢
  rw [r.length]
  cases q : ixN ms.length k with
  | none => rw [q] at e; cases e
  | some j => rw [q] at e; exact r.get e
theorem ix_seqM (hK : X.K = cl.K) : IxR X (r2 cl E ixF) := by
  intro value slice pins s σ H x y v u Q I rx ry h hs
  obtain ⟨G, al, S, mx, my, rl, hx, hy, p⟩ := h
  unfold ixF at p
  split at p
  · rename_i ms k em
    split at p
    · rename_i m ei
      obtain ⟨a, vs, rfl, hv, r⟩ := items_ok rl hx em
      have := hy.int_inv; subst this
      obtain ⟨w, e1, r1⟩ := atI_rep r ei
      rcases hv with hv | hv
      · exact ix_list value slice pins s σ H _ _ v u Q I rx ry ⟨_, _, _, _, rfl, rfl, SqL.of hv, e1, p.now rl _ r1⟩ hs
      · exact ix_tup value slice pins s σ H _ _ v u Q I rx ry ⟨_, _, _, _, rfl, rfl, by rw [hK]; exact hv, e1, p.now rl _ r1⟩ hs
    · exact p.elim
  · exact p.elim

theorem RepMs.drop {cl : Wd} {G : Hp} {al : Nat → Addr} {n : Nat} : ∀ {vs : List V} {ms : List MV} (k : Nat), RepMs cl G al n vs ms → RepMs cl G al n (vs.drop k) (ms.drop k)
  | _, _, 0, r => r
  | _, _, _ + 1, .nil => .nil
  | _, _, k + 1, .cons _ r => RepMs.drop k r
theorem RepMs.take {cl : Wd} {G : Hp} {al : Nat → Addr} {n : Nat} : ∀ {vs : List V} {ms : List MV} (k : Nat), RepMs cl G al n vs ms → RepMs cl G al n (vs.take k) (ms.take k)
  | _, _, 0, _ => .nil
  | _, _, _ + 1, .nil => .nil
  | _, _, k + 1, .cons h r => .cons h (RepMs.take k r)
theorem cut_rep {cl : Wd} {G : Hp} {al : Nat → Addr} {n : Nat} {vs : List V} {ms : List MV} (r : RepMs cl G al n vs ms) (lo hi : Option Int) : RepMs cl G al n (cutV vs lo hi) (slF.cutM ms lo hi) := by
  unfold cutV slF.cutM
  rw [r.length]
  exact (r.drop _).take _
def rSlM (cl : Wd) (E : XK) (cell : Bool) : V → Option Int → Option Int → Hp → VK → Prop := fun x lo hi H Q => ∃ G al S mx, Rl cl G al S H ∧ RepM cl G al S.length x mx ∧ Pst cl G al S H (slF cell mx lo hi S) (Vk cl Q) E
theorem sl_any {cell : Bool} (hK : X.K = cl.K) : SlR X (rSlM cl E cell) := by
  intro pins s σ H x v vl vu lo hi sl Q I rx hs pl pu h
  obtain ⟨G, al, S, mx, rl, hx, p⟩ := h
  unfold slF at p
  split at p
  · rename_i ms em
    obtain ⟨a, vs, rfl, hv, r⟩ := litems_ok rl hx em
    exact sl_list pins s σ H _ v vl vu lo hi sl Q I rx hs pl pu ⟨_, _, rfl, SqL.of hv, (newL_ok rl (cut_rep r lo hi) p).2⟩
  · split at p
    · rename_i ms em
      obtain ⟨a, vs, rfl, hv, r⟩ := titems_ok rl hx em
      refine sl_tupA pins s σ H _ v vl vu lo hi sl Q I rx hs pl pu ⟨_, _, rfl, by rw [hK]; exact hv, fun hw => ?_, fun _ q hq => fin_tup rl (cut_rep r lo hi) p hq⟩
      have hw' : slF.cutM ms lo hi = ms := by
        unfold slF.cutM
        rw [r.length] at hw
        rw [hw.1, hw.2]; simp
      rw [hw'] at p
      refine p.now rl _ ?_
      exact titems_self hx em
    · exact p.elim

theorem un_negM : UnR X (unaryOp .USub) (r1 cl E negF) := by
  intro pins s σ H x v Q I rx h
  obtain ⟨G, al, S, mx, rl, hx, p⟩ := h
  unfold negF at p
  split at p
  · have := hx.int_inv; subst this
    exact un_neg pins s σ H _ v Q I rx ⟨_, rfl, fin_d rl (.int _) p⟩
  · exact p.elim

def rApp (cl : Wd) (E : XK) : V → List V → Hp → VK → Prop := fun x vs H Q => ∃ y, vs = [y] ∧ r2 cl E appF x y H Q
theorem mt_app : MtM X "list.append" (rApp cl E) := by
  intro pins s σ H x vs v us Q I rx rv h
  obtain ⟨y, rfl, G, al, S, mx, my, rl, hx, hy, p⟩ := h
  unfold appF at p
  split at p
  · rename_i i
    split at p
    · rename_i ms es
      split at p
      · rename_i hz
        cases hx with
        | c _ hi =>
          obtain ⟨h1, _, o, h2, h3⟩ := rl.live i _ es rfl
          cases h3 with
          | lst h3 =>
            have lv : Lv S i := ⟨_, es, rfl⟩
            refine mt_append pins s σ H _ _ v us Q I rx rv ⟨_, _, _, rfl, rfl, h2, by rw [h3.length]; exact sz_lt hz, ?_⟩
            exact p _ _ _ (Gr.write rl lv) (rl.write lv rfl (.lst (h3.append (.cons hy .nil)))) _ (.d .non)
      · exact p.elim
    · exact p.elim
  · exact p.elim

/-- x[k] = v -/
def rSetM (cl : Wd) (E : XK) : V → V → V → Hp → (Hp → Prop) → Prop := fun o i v H Q => ∃ G al S mo mi mv, Rl cl G al S H ∧ RepM cl G al S.length o mo ∧ RepM cl G al S.length i mi ∧ RepM cl G al S.length v mv ∧
  Pst cl G al S H (setF mo mi mv S) (fun _ _ _ H' _ => Q H') E
theorem set_cell : PSet X (rSetM cl E) := by
  intro pins s σ H o i v ov iv u Q I ro ri rv h
  obtain ⟨G, al, S, mo, mi, mv, rl, ho, hi, hv, p⟩ := h
  unfold setF at p
  split at p
  · rename_i id k
    split at p
    · rename_i ms es
      split at p
      · rename_i j ej
        cases ho with
        | c _ hlt =>
          have := hi.int_inv; subst this
          obtain ⟨h1, _, ob, h2, h3⟩ := rl.live id _ es rfl
          cases h3 with
          | lst h3 =>
            have lv : Lv S id := ⟨_, es, rfl⟩
            refine set_list pins s σ H _ _ v ov iv u Q I ro ri rv ⟨_, _, _, j, rfl, rfl, h2, by rw [h3.length]; exact ej, ?_⟩
            exact p _ _ _ (Gr.write rl lv) (rl.write lv rfl (.lst (RepMs.set hv j h3)))
      · exact p.elim
    · exact p.elim
  · exact p.elim

/-! ### classes of one's own -/
/-- what the text tells of a class -/
structure ClsX (K : PySem.W.Frag) (C : Addr) : Prop where
  cl : Cls K C
  ha : PySem.W.findIn K (.ref C) "__class__" = some (some (.builtin "object.__class__"))
  hn : PySem.W.specialIn K (.builtin "object.__class__") "__get__" = some (some (.builtin "getset_descriptor.__get__"))
  htk : PySem.W.takesIn K (.builtin "object.__class__") = some true
  hm : PySem.W.mroIn K C (.type "object") = some true
theorem sqT_ty {K : PySem.W.Frag} {H : Hp} {a : Addr} {vs : List V} (h : SqT K H a vs) : TyX K H (.ref a) (.type "tuple") := by
  rcases h with (h | ⟨o, h⟩) | ⟨o, its, n, hk, hc, _⟩
  · exact .base (.tup h)
  · exact .fTuple h
  · exact .kTuple hk hc
theorem kit_tab : ∀ t ∈ ["NoneType", "bool", "int", "str", "tuple", "list"], ∀ ty ∈ ["int", "bool", "str", "list", "tuple"], kitB t ty = some (t == ty || (t == "bool" && ty == "int")) := by decide +kernel
theorem tyD_ok {G H : Hp} {al : Nat → Addr} {S : Sto} {v : V} (rl : Rl cl G al S H) {m : MV} {t : String} (h : RepM cl G al S.length v m) (e : tyD S m = some t) : TyX cl.K H v (.type t) ∧ t ∈ ["NoneType", "bool", "int", "str", "tuple", "list"] := by
  cases h with
  | d h =>
    cases h with
    | non => simp only [tyD, Option.some.injEq] at e; subst e; exact ⟨.base .non, by decide⟩
    | bl b => simp only [tyD, Option.some.injEq] at e; subst e; exact ⟨.base (.bl b), by decide⟩
    | int i => simp only [tyD, Option.some.injEq] at e; subst e; exact ⟨.base (.int i), by decide⟩
    | str x => simp only [tyD, Option.some.injEq] at e; subst e; exact ⟨.base (.str x), by decide⟩
    | lst h _ r => simp only [tyD, Option.some.injEq] at e; subst e; exact ⟨.base (.lst (rl.ex _ _ h)), by decide⟩
    | tup h r => simp only [tyD, Option.some.injEq] at e; subst e; exact ⟨sqT_ty (rl.ex.sqt h), by decide⟩
    | ins _ _ _ _ => simp [tyD] at e
    | scr _ => simp [tyD] at e
  | t h r => simp only [tyD, Option.some.injEq] at e; subst e; exact ⟨.base (.tup (rl.ex _ _ h)), by decide⟩
  | c i hi =>
    simp only [tyD] at e
    cases q : S[i]? with
    | none => rw [q] at e; cases e
    | some c =>
      rw [q] at e
      cases c with
      | ins _ _ => cases e
      | lst ms =>
        simp only [Option.some.injEq] at e; subst e
        obtain ⟨_, _, o, h2, h3⟩ := rl.live i _ q rfl
        cases h3 with | lst h3 => exact ⟨.base (.lst h2), by decide⟩
      | fl ms =>
        simp only [Option.some.injEq] at e; subst e
        obtain ⟨vs, h1, _, _⟩ := rl.flz i _ q
        exact ⟨.base (.lst (rl.ex _ _ h1)), by decide⟩
      | froz d =>
        cases d with
        | lst t xs =>
          simp only [Option.some.injEq] at e; subst e
          have := rl.froz i _ q
          cases this with | lst h _ r => exact ⟨.base (.lst (rl.ex _ _ h)), by decide⟩
        | _ => cases e
/-- what isinstance tells of the classes: of an instance and a built-in class, of built-in things and a class, of two classes -/
structure IsF (cl : Wd) : Prop where
  all : ∀ c C, cl.cl c = some C → ClsX cl.K C
  bi : ∀ c C, cl.cl c = some C → ∀ ty ∈ ["int", "bool", "str", "list", "tuple"], PySem.W.kitOne cl.K (.ref C) (.type ty) = some false
  ib : ∀ c C, cl.cl c = some C → ∀ t ∈ ["NoneType", "bool", "int", "str", "tuple", "list"], PySem.W.kitOne cl.K (.type t) (.ref C) = some false
  cc : ∀ c C d D, cl.cl c = some C → cl.cl d = some D → PySem.W.kitOne cl.K (.ref C) (.ref D) = some (c == d)
theorem tyX_ins {H : Hp} {a C dx : Addr} {fv : List (Str × V)} (x : ClsX cl.K C) (h : H a = some (.ins C dx fv)) : TyX cl.K H (.ref a) (.ref C) := .base (.ins h x.cl x.ha x.hn x.htk x.hm)
theorem call_isiM (ty : String) (hK : X.K = cl.K) (is : IsF cl) : CallR X (.builtin "isinstance") (fun xs H Q => ∃ x, xs = [x, .ty ty] ∧ r1 cl E (isiF ty) x H Q) := by
  intro pins s σ H xs us Q I rv h
  obtain ⟨x, rfl, G, al, S, mx, rl, hx, p⟩ := h
  unfold isiF at p
  split at p
  · rename_i t et
    split at p
    · rename_i k ek
      obtain ⟨h1, h2⟩ := tyD_ok rl hx et
      unfold isiT at ek
      split at ek
      · rename_i hc
        have hm : ty ∈ ["int", "bool", "str", "list", "tuple"] := by simpa using hc
        refine call_isi pins s σ H _ us Q I rv ⟨x, .ty ty, .type t, .type ty, k, rfl, .ty ty, by rw [hK]; exact h1, ?_, fin_d rl (.bl _) p⟩
        rw [← Option.some.inj ek]
        exact kit_ty (kit_tab t h2 ty hm)
      · cases ek
    · exact p.elim
  · split at p
    · rename_i y ey
      split at p
      · rename_i hc
        have hm : ty ∈ ["int", "bool", "str", "list", "tuple"] := by simpa using hc
        obtain ⟨a, C, dx, fv, rfl, hcl, ha, r⟩ := ins_ok rl hx ey
        exact call_isi pins s σ H _ us Q I rv ⟨.ref a, .ty ty, .ref C, .type ty, false, rfl, .ty ty, by rw [hK]; exact tyX_ins (is.all _ _ hcl) ha, by rw [hK]; exact is.bi _ _ hcl ty hm, fin_d rl (.bl _) p⟩
      · exact p.elim
    · exact p.elim
theorem call_iscM (c : String) {C : Addr} (hcl : cl.cl c = some C) (hK : X.K = cl.K) (is : IsF cl) : CallR X (.builtin "isinstance") (fun xs H Q => ∃ x, xs = [x, .ref C] ∧ r1 cl E (iscF c) x H Q) := by
  intro pins s σ H xs us Q I rv h
  obtain ⟨x, rfl, G, al, S, mx, rl, hx, p⟩ := h
  unfold iscF at p
  split at p
  · rename_i t et
    obtain ⟨h1, h2⟩ := tyD_ok rl hx et
    exact call_isi pins s σ H _ us Q I rv ⟨x, .ref C, .type t, .ref C, false, rfl, .own C, by rw [hK]; exact h1, by rw [hK]; exact is.ib _ _ hcl t h2, fin_d rl (.bl _) p⟩
  · split at p
    · rename_i k fs ey
      obtain ⟨a, D, dx, fv, rfl, hd, ha, r⟩ := ins_ok rl hx ey
      exact call_isi pins s σ H _ us Q I rv ⟨.ref a, .ref C, .ref D, .ref C, (k == c), rfl, .own C, by rw [hK]; exact tyX_ins (is.all _ _ hd) ha, by rw [hK]; exact is.cc _ _ _ _ hd hcl, fin_d rl (.bl _) p⟩
    · exact p.elim

/-! ### built-ins -/
theorem bt_len (hK : X.K = cl.K) : CallR X (.builtin "len") (rN cl E lenF) := by
  intro pins s σ H xs us Q I rv h
  obtain ⟨G, al, S, ms, rl, hx, p⟩ := h
  unfold lenF at p
  split at p
  · cases hx with
    | cons h1 r =>
      cases r
      split at p
      · rename_i ns en
        obtain ⟨a, vs, rfl, hv, r⟩ := items_ok rl h1 en
        refine call_len_seq pins s σ H _ us Q I rv ⟨a, vs, rfl, ?_, ?_⟩
        · rcases hv with hv | hv
          · exact .inl (SqL.of hv)
          · exact .inr (by rw [hK]; exact hv)
        · rw [r.length]; exact fin_d rl (.int _) p
      · exact p.elim
  · exact p.elim
theorem ints_ok {G : Hp} {al : Nat → Addr} {n : Nat} : ∀ {vs : List V} {ms : List MV} {is : List Int}, RepMs cl G al n vs ms → intsOf ms = some is → vs = is.map V.int
  | _, _, _, .nil, e => by simp [intsOf] at e; subst e; rfl
  | _, m :: ms, is, .cons h r, e => by
    cases m with
    | d x =>
      cases x with
      | int i =>
        simp only [intsOf, Option.map_eq_some_iff] at e
        obtain ⟨js, e1, rfl⟩ := e
        have := h.int_inv; subst this
        rw [ints_ok r e1]; rfl
      | _ => simp [intsOf] at e
    | _ => simp [intsOf] at e
theorem bls_ok {G : Hp} {al : Nat → Addr} {n : Nat} : ∀ {vs : List V} {ms : List MV} {is : List Bool}, RepMs cl G al n vs ms → blsOf ms = some is → vs = is.map V.bl
  | _, _, _, .nil, e => by simp [blsOf] at e; subst e; rfl
  | _, m :: ms, is, .cons h r, e => by
    cases m with
    | d x =>
      cases x with
      | bl i =>
        simp only [blsOf, Option.map_eq_some_iff] at e
        obtain ⟨js, e1, rfl⟩ := e
        have := h.bl_inv; subst this
        rw [bls_ok r e1]; rfl
      | _ => simp [blsOf] at e
    | _ => simp [blsOf] at e
theorem bt_sum (hK : X.K = cl.K) (hc : X.calm = true) : CallR X (.builtin "sum") (rN cl E sumF) := by
  intro pins s σ H xs us Q I rv h
  obtain ⟨G, al, S, ms, rl, hx, p⟩ := h
  unfold sumF at p
  split at p
  · cases hx with
    | cons h1 r =>
      cases r
      split at p
      · rename_i is ei
        rw [Option.bind_eq_some_iff] at ei
        obtain ⟨ns, en, ei⟩ := ei
        obtain ⟨a, vs, rfl, hv, r⟩ := items_ok rl h1 en
        have := ints_ok r ei; subst this
        refine cr_sumT hc pins s σ H _ us Q I rv ⟨a, is, rfl, ?_, fin_d rl (.int _) p⟩
        rcases hv with hv | hv
        · exact .inl (SqL.of hv)
        · exact .inr (by rw [hK]; exact hv)
      · exact p.elim
  · exact p.elim
theorem maxL_ok : ∀ (i : Int) (is : List Int), maxL (i :: is) ∈ i :: is ∧ ∀ y ∈ i :: is, y ≤ maxL (i :: is)
  | i, [] => by simp [maxL]
  | i, j :: is => by
    obtain ⟨h1, h2⟩ := maxL_ok j is
    simp only [maxL]
    split
    · rename_i h
      refine ⟨by simp, fun y hy => ?_⟩
      rcases List.mem_cons.mp hy with z | z
      · omega
      · have := h2 y z; omega
    · rename_i h
      refine ⟨List.mem_cons_of_mem _ h1, fun y hy => ?_⟩
      rcases List.mem_cons.mp hy with z | z
      · omega
      · exact h2 y z
theorem minL_ok : ∀ (i : Int) (is : List Int), minL (i :: is) ∈ i :: is ∧ ∀ y ∈ i :: is, minL (i :: is) ≤ y
  | i, [] => by simp [minL]
  | i, j :: is => by
    obtain ⟨h1, h2⟩ := minL_ok j is
    simp only [minL]
    split
    · rename_i h
      refine ⟨by simp, fun y hy => ?_⟩
      rcases List.mem_cons.mp hy with z | z
      · omega
      · have := h2 y z; omega
    · rename_i h
      refine ⟨List.mem_cons_of_mem _ h1, fun y hy => ?_⟩
      rcases List.mem_cons.mp hy with z | z
      · omega
      · exact h2 y z
theorem bt_max (hK : X.K = cl.K) (hc : X.calm = true) : CallR X (.builtin "max") (rN cl E maxF) := by
  intro pins s σ H xs us Q I rv h
  obtain ⟨G, al, S, ms, rl, hx, p⟩ := h
  unfold maxF at p
  split at p
  · cases hx with
    | cons h1 r =>
      cases r with
      | cons h2 r =>
        cases r
        have := h1.int_inv; subst this
        have := h2.int_inv; subst this
        exact call_max2 hc pins s σ H _ us Q I rv ⟨_, _, rfl, fin_d rl (.int _) p⟩
  · cases hx with
    | cons h1 r =>
      cases r
      split at p
      · rename_i i is ei
        rw [Option.bind_eq_some_iff] at ei
        obtain ⟨ns, en, ei⟩ := ei
        obtain ⟨a, vs, rfl, hv, r⟩ := items_ok rl h1 en
        have := ints_ok r ei; subst this
        refine cr_maxT hc pins s σ H _ us Q I rv ⟨a, i :: is, rfl, ?_, by simp, fun m hm hle => ?_⟩
        · rcases hv with hv | hv
          · exact .inl (SqL.of hv)
          · exact .inr (by rw [hK]; exact hv)
        · obtain ⟨h3, h4⟩ := maxL_ok i is
          have : m = maxL (i :: is) := Int.le_antisymm (h4 m hm) (hle _ h3)
          rw [this]; exact fin_d rl (.int _) p
      · exact p.elim
  · exact p.elim
theorem bt_min (hK : X.K = cl.K) (hc : X.calm = true) : CallR X (.builtin "min") (rN cl E minF) := by
  intro pins s σ H xs us Q I rv h
  obtain ⟨G, al, S, ms, rl, hx, p⟩ := h
  unfold minF at p
  split at p
  · cases hx with
    | cons h1 r =>
      cases r with
      | cons h2 r =>
        cases r
        have := h1.int_inv; subst this
        have := h2.int_inv; subst this
        exact call_min2 hc pins s σ H _ us Q I rv ⟨_, _, rfl, fin_d rl (.int _) p⟩
  · cases hx with
    | cons h1 r =>
      cases r
      split at p
      · rename_i i is ei
        rw [Option.bind_eq_some_iff] at ei
        obtain ⟨ns, en, ei⟩ := ei
        obtain ⟨a, vs, rfl, hv, r⟩ := items_ok rl h1 en
        have := ints_ok r ei; subst this
        refine cr_minT hc pins s σ H _ us Q I rv ⟨a, i :: is, rfl, ?_, by simp, fun m hm hle => ?_⟩
        · rcases hv with hv | hv
          · exact .inl (SqL.of hv)
          · exact .inr (by rw [hK]; exact hv)
        · obtain ⟨h3, h4⟩ := minL_ok i is
          have : m = minL (i :: is) := Int.le_antisymm (hle _ h3) (h4 m hm)
          rw [this]; exact fin_d rl (.int _) p
      · exact p.elim
  · exact p.elim
theorem bt_any' (hc : X.calm = true) : CallR X (.builtin "any") (rN cl E anyF) := by
  intro pins s σ H xs us Q I rv h
  obtain ⟨G, al, S, ms, rl, hx, p⟩ := h
  unfold anyF at p
  split at p
  · cases hx with
    | cons h1 r =>
      cases r
      split at p
      · rename_i is ei
        rw [Option.bind_eq_some_iff] at ei
        obtain ⟨ns, en, ei⟩ := ei
        obtain ⟨a, vs, rfl, hv, r⟩ := litems_ok rl h1 en
        have := bls_ok r ei; subst this
        exact cr_any hc pins s σ H _ us Q I rv ⟨a, is, rfl, SqL.of hv, fin_d rl (.bl _) p⟩
      · exact p.elim
  · exact p.elim
theorem bt_all (hc : X.calm = true) : CallR X (.builtin "all") (rN cl E allF) := by
  intro pins s σ H xs us Q I rv h
  obtain ⟨G, al, S, ms, rl, hx, p⟩ := h
  unfold allF at p
  split at p
  · cases hx with
    | cons h1 r =>
      cases r
      split at p
      · rename_i is ei
        rw [Option.bind_eq_some_iff] at ei
        obtain ⟨ns, en, ei⟩ := ei
        obtain ⟨a, vs, rfl, hv, r⟩ := litems_ok rl h1 en
        have := bls_ok r ei; subst this
        exact cr_all hc pins s σ H _ us Q I rv ⟨a, is, rfl, SqL.of hv, fin_d rl (.bl _) p⟩
      · exact p.elim
  · exact p.elim
theorem insI_perm (x : Int) : ∀ xs : List Int, (insI x xs).Perm (x :: xs)
  | [] => .refl _
  | y :: xs => by
    simp only [insI]
    split
    · exact .refl _
    · exact ((insI_perm x xs).cons y).trans (.swap x y xs)
theorem sortI_perm : ∀ xs : List Int, (sortI xs).Perm xs
  | [] => .refl _
  | x :: xs => (insI_perm x (sortI xs)).trans ((sortI_perm xs).cons x)
theorem insI_sorted (x : Int) : ∀ xs : List Int, xs.Pairwise (· ≤ ·) → (insI x xs).Pairwise (· ≤ ·)
  | [], _ => by simp [insI]
  | y :: xs, h => by
    rw [List.pairwise_cons] at h
    simp only [insI]
    split
    · rename_i hxy
      rw [List.pairwise_cons]
      refine ⟨fun z hz => ?_, List.pairwise_cons.mpr h⟩
      rcases List.mem_cons.mp hz with e | e
      · omega
      · have := h.1 z e; omega
    · rename_i hxy
      rw [List.pairwise_cons]
      refine ⟨fun z hz => ?_, insI_sorted x xs h.2⟩
      rcases List.mem_cons.mp ((insI_perm x xs).mem_iff.mp hz) with e | e
      · omega
      · exact h.1 z e
theorem sortI_sorted : ∀ xs : List Int, (sortI xs).Pairwise (· ≤ ·)
  | [] => .nil
  | x :: xs => insI_sorted x _ (sortI_sorted xs)
theorem sorted_eq {xs ys : List Int} (hp : xs.Perm ys) (hx : xs.Pairwise (· ≤ ·)) (hy : ys.Pairwise (· ≤ ·)) : xs = ys :=
  hp.eq_of_pairwise (fun a b _ _ h1 h2 => Int.le_antisymm h1 h2) hx hy
theorem repMs_ints {cl : Wd} {G : Hp} {al : Nat → Addr} {n : Nat} : ∀ ns : List Int, RepMs cl G al n (ns.map V.int) (ns.map fun n => .d (.int n))
  | [] => .nil
  | i :: ns => .cons (.d (.int i)) (repMs_ints ns)
theorem bt_sorted {cell : Bool} : CallR X (.builtin "sorted") (rN cl E (sortF cell)) := by
  intro pins s σ H xs us Q I rv h
  obtain ⟨G, al, S, ms, rl, hx, p⟩ := h
  unfold sortF at p
  split at p
  · cases hx with
    | cons h1 r =>
      cases r
      split at p
      · rename_i is ei
        rw [Option.bind_eq_some_iff] at ei
        obtain ⟨ns, en, ei⟩ := ei
        obtain ⟨a, vs, rfl, hv, r⟩ := litems_ok rl h1 en
        have := ints_ok r ei; subst this
        refine cr_sortedI pins s σ H _ us Q I rv ⟨a, is, rfl, SqL.of hv, fun ns' q hp hs hq => ?_⟩
        rw [sorted_eq (hp.trans (sortI_perm is).symm) hs (sortI_sorted is)]
        exact (newL_ok rl (repMs_ints _) p).2 q hq
      · exact p.elim
  · exact p.elim
theorem bt_abs : CallR X (.builtin "abs") (rN cl E absF) := by
  intro pins s σ H xs us Q I rv h
  obtain ⟨G, al, S, ms, rl, hx, p⟩ := h
  unfold absF at p
  split at p
  · cases hx with
    | cons h1 r =>
      cases r
      have := h1.int_inv; subst this
      exact call_abs pins s σ H _ us Q I rv ⟨_, rfl, fin_d rl (.int _) p⟩
  · exact p.elim
theorem bt_int : CallR X (.type "int") (rN cl E intF) := by
  intro pins s σ H xs us Q I rv h
  obtain ⟨G, al, S, ms, rl, hx, p⟩ := h
  unfold intF at p
  split at p
  · cases hx with
    | cons h1 r =>
      cases r
      have := h1.int_inv; subst this
      exact call_int1 pins s σ H _ us Q I rv (.inl ⟨_, rfl, fin_d rl (.int _) p⟩)
  · cases hx with
    | cons h1 r =>
      cases r
      have := h1.bl_inv; subst this
      exact call_int1 pins s σ H _ us Q I rv (.inr ⟨_, rfl, fin_d rl (.int _) p⟩)
  · exact p.elim
theorem bt_list {cell : Bool} (hK : X.K = cl.K) : CallR X (.type "list") (rN cl E (listF cell)) := by
  intro pins s σ H xs us Q I rv h
  obtain ⟨G, al, S, ms, rl, hx, p⟩ := h
  unfold listF at p
  split at p
  · cases hx with
    | cons h1 r =>
      cases r
      cases h1 with
      | d h1 =>
        cases h1 with
        | scr h1 =>
          exact call_list_of pins s σ H _ us Q I rv ⟨_, _, rfl, .inl (by rw [hK]; exact rl.ex.sq h1), (newL_ok rl (repMs_ints _) p).2⟩
  · cases hx with
    | cons h1 r =>
      cases r
      split at p
      · rename_i ns en
        obtain ⟨a, vs, rfl, hv, r⟩ := items_ok rl h1 en
        refine call_list_of pins s σ H _ us Q I rv ⟨a, vs, rfl, ?_, (newL_ok rl r p).2⟩
        rcases hv with hv | hv
        · exact .inl (SqL.of hv)
        · exact .inr (by rw [hK]; exact hv)
      · exact p.elim
  · exact p.elim
theorem bt_tuple (hK : X.K = cl.K) : CallR X (.type "tuple") (rN cl E tupF) := by
  intro pins s σ H xs us Q I rv h
  obtain ⟨G, al, S, ms, rl, hx, p⟩ := h
  unfold tupF at p
  split at p
  · cases hx with
    | cons h1 r =>
      cases r
      split at p
      · rename_i ns en
        rcases items_or en with e | e
        · obtain ⟨a, vs, rfl, hv, r⟩ := litems_ok rl h1 e
          exact call_tuple_of pins s σ H _ us Q I rv ⟨a, vs, rfl, .inl ⟨SqL.of hv, (newT_ok rl r p).2⟩⟩
        · obtain ⟨a, vs, rfl, hv, r⟩ := titems_ok rl h1 e
          refine call_tuple_of pins s σ H _ us Q I rv ⟨a, vs, rfl, .inr ⟨by rw [hK]; exact hv, ?_⟩⟩
          unfold newT at p
          split at p
          · refine p.now rl _ ?_
            exact titems_self h1 e
          · exact p.elim
      · exact p.elim
  · exact p.elim

/-- the value that a built-in's name stands for -/
def Bl.isTy : Bl → Bool
  | .int => true | .list => true | .tuple => true
  | _ => false
theorem bt_all_any {cell : Bool} (b : Bl) (hK : X.K = cl.K) (hc : X.calm = true) : CallR X (if b.isTy then .type b.name else .builtin b.name) (rN cl E (bltF cell b)) := by
  cases b with
  | abs => exact bt_abs
  | int => exact bt_int
  | max => exact bt_max hK hc
  | len => exact bt_len hK
  | list => exact bt_list hK
  | tuple => exact bt_tuple hK
  | sum => exact bt_sum hK hc
  | min => exact bt_min hK hc
  | any => exact bt_any' hc
  | all => exact bt_all hc
  | sorted => exact bt_sorted
theorem boot_any (b : Bl) : bootBuiltins (Str.ofString b.name) = some (if b.isTy then .type b.name else .builtin b.name) := by
  cases b <;> decide +kernel
end
end Mi
namespace Mi
open PySem L2 PyProof.Rows

/-! ### a call that sees its arguments as data, some cells lent -/
def Wd.wb (cl : Wd) (bw : Addr → Prop) : Wd := ⟨cl.K, cl.cl, cl.xc, bw⟩
/-- what is borrowed: the caller's live lists that are not lent -/
def Bor (al : Nat → Addr) (S : Sto) (is : List Nat) (a : Addr) : Prop := ∃ i ms, S[i]? = some (.lst ms) ∧ i ∉ is ∧ al i = a
open Classical in
noncomputable def Gbor (G H : Hp) (al : Nat → Addr) (S : Sto) (is : List Nat) : Hp := fun a => if Bor al S is a then H a else G a
open Classical in
noncomputable def Gback (G2 : Hp) (al : Nat → Addr) (S : Sto) (is : List Nat) : Hp := fun a => if Bor al S is a then none else G2 a
def Bw (cl : Wd) (al : Nat → Addr) (S : Sto) (is : List Nat) : Addr → Prop := fun a => cl.bw a ∨ Bor al S is a
def alL (al : Nat → Addr) (is : List Nat) : Nat → Addr := fun k => al (is.getD k 0)

section
variable {cl : Wd} {G H G2 H2 : Hp} {al al2 : Nat → Addr} {S S2 : Sto} {is : List Nat}
theorem Bor.none (rl : Rl cl G al S H) {a : Addr} (h : Bor al S is a) : G a = none ∧ ¬ cl.bw a ∧ ∃ vs, H a = some (.lst vs) := by
  obtain ⟨i, ms, e, _, rfl⟩ := h
  obtain ⟨h1, h2, o, h3, h4⟩ := rl.live i _ e rfl
  cases h4 with
  | lst h4 => exact ⟨h1, h2, _, h3⟩
theorem gbor_at (h : Bor al S is a) : Gbor G H al S is a = H a := by unfold Gbor; rw [if_pos h]
theorem gbor_no (h : ¬ Bor al S is a) : Gbor G H al S is a = G a := by unfold Gbor; rw [if_neg h]
theorem gbor_ex (rl : Rl cl G al S H) : Ex G (Gbor G H al S is) := fun a o e => by
  rw [gbor_no fun h => by rw [(h.none rl).1] at e; cases e]; exact e
theorem gbor_H (rl : Rl cl G al S H) : Ex (Gbor G H al S is) H := fun a o e => by
  by_cases h : Bor al S is a
  · rw [gbor_at h] at e; exact e
  · rw [gbor_no h] at e; exact rl.ex a o e
theorem gback_no (h : ¬ Bor al S is a) : Gback G2 al S is a = G2 a := by unfold Gback; rw [if_neg h]
theorem gback_at (h : Bor al S is a) : Gback G2 al S is a = none := by unfold Gback; rw [if_pos h]
mutual
theorem Rep.widen (rl : Rl cl G al S H) : ∀ {v : V} {d : D}, Rep cl G v d → Rep (cl.wb (Bw cl al S is)) (Gbor G H al S is) v d
  | _, _, .non => .non
  | _, _, .bl b => .bl b
  | _, _, .int i => .int i
  | _, _, .str x => .str x
  | _, _, .lst h t r => .lst (gbor_ex rl _ _ h) (fun e z => by
      rcases z with z | z
      · exact t e z
      · rw [(z.none rl).1] at h; cases h) (RepL.widen rl r)
  | _, _, .scr h => .scr (Ex.sq (gbor_ex rl) h)
  | _, _, .tup h r => .tup (Ex.sqt (gbor_ex rl) h) (RepL.widen rl r)
  | _, _, .ins c h o r => .ins c (gbor_ex rl _ _ h) (gbor_ex rl _ _ o) (RepF.widen rl r)
theorem RepL.widen (rl : Rl cl G al S H) : ∀ {vs : List V} {ds : List D}, RepL cl G vs ds → RepL (cl.wb (Bw cl al S is)) (Gbor G H al S is) vs ds
  | _, _, .nil => .nil
  | _, _, .cons h r => .cons (h.widen rl) (RepL.widen rl r)
theorem RepF.widen (rl : Rl cl G al S H) : ∀ {vs : List (Str × V)} {ds : List (String × D)}, RepF cl G vs ds → RepF (cl.wb (Bw cl al S is)) (Gbor G H al S is) vs ds
  | _, _, .nil => .nil
  | _, _, .cons h r => .cons (h.widen rl) (RepF.widen rl r)
end
/-- what comes back: clean data -/
structure Bk2 (cl : Wd) (G2 : Hp) (al : Nat → Addr) (S : Sto) (is : List Nat) : Prop where
  lst : ∀ a, Bor al S is a → ∃ vs, G2 a = some (.lst vs)
theorem Bk2.rd (b : Bk2 cl G2 al S is) {a : Addr} {u : HO} (hu : ∀ vs, u ≠ .lst vs) (h : Rd G2 a u) : Rd (Gback G2 al S is) a u := by
  have nb : ¬ Bor al S is a := fun z => by
    obtain ⟨vs, e⟩ := b.lst a z
    rcases h with h | ⟨o, h⟩
    · rw [h] at e; cases e; exact hu _ rfl
    · rw [h] at e; cases e
  rcases h with h | ⟨o, h⟩
  · exact .inl (by rw [gback_no nb]; exact h)
  · exact .inr ⟨o, by rw [gback_no nb]; exact h⟩
theorem Bk2.at_ (b : Bk2 cl G2 al S is) {a : Addr} {u : HO} (hu : ∀ vs, u ≠ .lst vs) (h : G2 a = some u) : Gback G2 al S is a = some u := by
  have nb : ¬ Bor al S is a := fun z => by
    obtain ⟨vs, e⟩ := b.lst a z
    rw [h] at e; cases e; exact hu _ rfl
  rw [gback_no nb]; exact h
mutual
theorem Rep.back (b : Bk2 cl G2 al S is) : ∀ {v : V} {d : D}, clean d = true → Rep (cl.wb (Bw cl al S is)) G2 v d → Rep cl (Gback G2 al S is) v d
  | _, _, _, .non => .non
  | _, _, _, .bl b => .bl b
  | _, _, _, .int i => .int i
  | _, _, _, .str x => .str x
  | _, .lst t ds, h, .lst h1 h2 r => by
    simp only [clean, Bool.and_eq_true, Bool.not_eq_true'] at h
    have nb : ¬ Bor al S is _ := fun z => h2 h.1 (.inr z)
    exact .lst (by rw [gback_no nb]; exact h1) (fun e z => h2 e (.inl z)) (RepL.back b h.2 r)
  | _, _, h, .scr h1 => by simp [clean] at h
  | _, _, h, .tup h1 r => .tup (by
      rcases h1 with h1 | h1
      · exact .inl (b.rd (fun vs z => by cases z) h1)
      · exact .inr h1) (RepL.back b (by simpa only [clean] using h) r)
  | _, _, h, .ins c h1 o r => .ins c (b.at_ (fun vs z => by cases z) h1) (b.at_ (fun vs z => by cases z) o) (RepF.back b (by simpa only [clean] using h) r)
theorem RepL.back (b : Bk2 cl G2 al S is) : ∀ {vs : List V} {ds : List D}, cleans ds = true → RepL (cl.wb (Bw cl al S is)) G2 vs ds → RepL cl (Gback G2 al S is) vs ds
  | _, _, _, .nil => .nil
  | _, _, h, .cons h1 r => by
    simp only [cleans, Bool.and_eq_true] at h
    exact .cons (h1.back b h.1) (RepL.back b h.2 r)
theorem RepF.back (b : Bk2 cl G2 al S is) : ∀ {vs : List (Str × V)} {ds : List (String × D)}, cleanF ds = true → RepF (cl.wb (Bw cl al S is)) G2 vs ds → RepF cl (Gback G2 al S is) vs ds
  | _, _, _, .nil => .nil
  | _, _, h, .cons h1 r => by
    simp only [cleanF, Bool.and_eq_true] at h
    exact .cons (h1.back b h.1) (RepF.back b h.2 r)
end

/-! ### the cells that are lent -/
theorem dataL_rep {cl' : Wd} {G' : Hp} {al' : Nat → Addr} {n n' : Nat} (f : ∀ v d, clean d = true → Rep cl G v d → Rep cl' G' v d) : ∀ {vs : List V} {ms : List MV}, dataL ms = true → RepMs cl G al n vs ms → RepMs cl' G' al' n' vs ms
  | _, _, _, .nil => .nil
  | _, _, h, .cons (.d h1) r => by
    simp only [dataL, Bool.and_eq_true] at h
    exact .cons (.d (f _ _ h.1 h1)) (dataL_rep f h.2 r)
  | _, _, h, .cons (.c _ _) r => by simp [dataL] at h
  | _, _, h, .cons (.t _ _) r => by simp [dataL] at h
theorem dataF_rep {cl' : Wd} {G' : Hp} {al' : Nat → Addr} {n n' : Nat} (f : ∀ v d, clean d = true → Rep cl G v d → Rep cl' G' v d) : ∀ {vs : List (Str × V)} {ms : List (String × MV)}, dataF ms = true → RepFM cl G al n vs ms → RepFM cl' G' al' n' vs ms
  | _, _, _, .nil => .nil
  | _, _, h, .cons (.d h1) r => by
    simp only [dataF, Bool.and_eq_true] at h
    exact .cons (.d (f _ _ h.1 h1)) (dataF_rep f h.2 r)
  | _, _, h, .cons (.c _ _) r => by simp [dataF] at h
  | _, _, h, .cons (.t _ _) r => by simp [dataF] at h
theorem ok_rep {cl' : Wd} {G' : Hp} {al' : Nat → Addr} {n n' : Nat} {a : Addr} {o : HO} {c : Cell} (hcl : cl'.cl = cl.cl) (f : ∀ v d, clean d = true → Rep cl G v d → Rep cl' G' v d) (g : ∀ d b, G d = some (.own b) → G' d = some (.own b)) (hc : c.ok = true) (h : RepC cl G al n a o c) : RepC cl' G' al' n' a o c := by
  cases h with
  | lst h => exact .lst (dataL_rep f hc h)
  | ins h1 h2 h => exact .ins (by rw [hcl]; exact h1) (g _ _ h2) (dataF_rep f hc h)
theorem ok_live {c : Cell} (h : c.ok = true) : c.live = true := by
  cases c <;> first | rfl | (simp [Cell.ok] at h)

theorem lentS_at : ∀ {is : List Nat} {S0 : Sto}, lentS S is = some S0 → S0.length = is.length ∧ is.Nodup ∧ ∀ (k i : Nat), is[k]? = some i → ∃ c : Cell, S[i]? = some c ∧ S0[k]? = some c ∧ c.ok = true
  | [], S0, h => by simp [lentS] at h; subst h; exact ⟨rfl, .nil, fun k i e => by simp at e⟩
  | i :: is, S0, h => by
    simp only [lentS] at h
    split at h
    · rename_i c ec
      split at h
      · rename_i hc
        simp only [Bool.and_eq_true, Bool.not_eq_true'] at hc
        simp only [Option.map_eq_some_iff] at h
        obtain ⟨S1, e1, rfl⟩ := h
        obtain ⟨h1, h2, h3⟩ := lentS_at e1
        refine ⟨by simp [h1], List.nodup_cons.mpr ⟨fun z => ?_, h2⟩, fun k j e => ?_⟩
        · have := hc.2; simp [z] at this
        · cases k with
          | zero => simp at e; subst e; exact ⟨c, ec, rfl, hc.1⟩
          | succ k => exact h3 k j (by simpa using e)
      · cases h
    · cases h
theorem putBack_at : ∀ {is : List Nat} {S2 S S' : Sto}, is.Nodup → putBack is S2 S = some S' → S'.length = S.length ∧ (∀ (k i : Nat), is[k]? = some i → ∃ c : Cell, S2[k]? = some c ∧ c.ok = true ∧ (i < S.length → S'[i]? = some c)) ∧ ∀ i : Nat, i ∉ is → S'[i]? = S[i]?
  | [], S2, S, S', _, h => by simp [putBack] at h; subst h; exact ⟨rfl, fun k i e => by simp at e, fun i _ => rfl⟩
  | i :: is, [], S, S', _, h => by simp [putBack] at h
  | i :: is, c :: S2, S, S', hn, h => by
    rw [List.nodup_cons] at hn
    simp only [putBack] at h
    split at h
    · rename_i hc
      simp only [Option.map_eq_some_iff] at h
      obtain ⟨S1, e1, rfl⟩ := h
      obtain ⟨h1, h2, h3⟩ := putBack_at hn.2 e1
      refine ⟨by simp [h1], fun k j e => ?_, fun j hj => ?_⟩
      · cases k with
        | zero => simp at e; subst e; exact ⟨c, rfl, hc, fun hl => List.getElem?_set_self (by rw [h1]; exact hl)⟩
        | succ k =>
          have e' : is[k]? = some j := by simpa using e
          obtain ⟨c', g1, g2, g3⟩ := h2 k j e'
          refine ⟨c', by simpa using g1, g2, fun hl => ?_⟩
          have : i ≠ j := fun z => hn.1 (by rw [z]; exact List.mem_of_getElem? e')
          rw [List.getElem?_set_ne this]; exact g3 hl
      · simp only [List.mem_cons, not_or] at hj
        rw [List.getElem?_set_ne (Ne.symm hj.1)]; exact h3 j hj.2
    · cases h
theorem alL_at {is : List Nat} {k i : Nat} (h : is[k]? = some i) : alL al is k = al i := by
  unfold alL; rw [List.getD_eq_getElem?_getD, h]; rfl
theorem lent_of {is : List Nat} {S0 : Sto} {k : Nat} {c : Cell} (h : lentS S is = some S0) (e : S0[k]? = some c) : ∃ i, is[k]? = some i ∧ S[i]? = some c ∧ c.ok = true := by
  obtain ⟨h1, h2, h3⟩ := lentS_at h
  have hk : k < is.length := by rw [← h1]; exact (List.getElem?_eq_some_iff.mp e).1
  obtain ⟨c', g1, g2, g3⟩ := h3 k is[k] (List.getElem?_eq_getElem hk)
  rw [e] at g2; cases g2
  exact ⟨_, List.getElem?_eq_getElem hk, g1, g3⟩
theorem lent_nb {S0 : Sto} (rl : Rl cl G al S H) (h : lentS S is = some S0) {k i : Nat} (e : is[k]? = some i) : ¬ Bor al S is (al i) := by
  rintro ⟨j, ms, ej, hj, ea⟩
  obtain ⟨c, g1, g2, g3⟩ := (lentS_at h).2.2 k i e
  have := rl.inj j i ⟨_, ej, rfl⟩ ⟨_, g1, ok_live g3⟩ ea
  exact hj (by rw [this]; exact List.mem_of_getElem? e)
/-- the callee's state -/
theorem Rl.lend {S0 : Sto} (rl : Rl cl G al S H) (h : lentS S is = some S0) : Rl (cl.wb (Bw cl al S is)) (Gbor G H al S is) (alL al is) S0 H where
  ex := gbor_H rl
  live := fun k c e l => by
    obtain ⟨i, ei, ec, hc⟩ := lent_of h e
    obtain ⟨h1, hb, o, h2, h3⟩ := rl.live i c ec l
    rw [alL_at ei]
    have nb := lent_nb rl h ei
    exact ⟨by rw [gbor_no nb]; exact h1, fun z => z.elim (fun z => hb z) (fun z => nb z), o, h2, ok_rep (cl := cl) (G := G) rfl (fun v d _ r => Rep.widen rl r) (fun d b e => gbor_ex rl _ _ e) hc h3⟩
  froz := fun k d e => by
    obtain ⟨i, ei, ec, hc⟩ := lent_of h e
    simp [Cell.ok] at hc
  flz := fun k d e => by
    obtain ⟨i, ei, ec, hc⟩ := lent_of h e
    simp [Cell.ok] at hc
  inj := fun k k' ⟨c, e, l⟩ ⟨c', e', l'⟩ ea => by
    obtain ⟨i, ei, ec, hc⟩ := lent_of h e
    obtain ⟨i', ei', ec', hc'⟩ := lent_of h e'
    rw [alL_at ei, alL_at ei'] at ea
    have := rl.inj i i' ⟨c, ec, l⟩ ⟨c', ec', l'⟩ ea
    subst this
    have hn := (lentS_at h).2.1
    have h1 := List.getElem?_eq_some_iff.mp ei
    have h2 := List.getElem?_eq_some_iff.mp ei'
    exact (List.getElem_inj hn).mp (h1.2.trans h2.2.symm)
  bwd := fun a z => by
    rcases z with z | z
    · exact rl.bwd a z
    · obtain ⟨_, _, vs, e⟩ := z.none rl
      rw [e]; exact fun z => by cases z
/-- the arguments -/
theorem deepB_okL {n : Nat} {f : MV → Option D} {cl' : Wd} {G' : Hp} (hf : ∀ v m d, RepM cl G al S.length v m → f m = some d → Rep cl' G' v d) : ∀ {vs : List V} {ms : List MV} {ds : List D}, RepMs cl G al S.length vs ms → deepL f ms = some ds → RepL cl' G' vs ds
  | _, _, _, .nil, e => by simp [deepL] at e; subst e; exact .nil
  | _, m :: ms, ds, .cons h r, e => by
    simp only [deepL] at e
    cases q : f m with
    | none => rw [q] at e; cases e
    | some d =>
      rw [q] at e
      simp only [Option.map_eq_some_iff] at e
      obtain ⟨ds, e1, rfl⟩ := e
      exact .cons (hf _ _ _ h q) (deepB_okL (n := n) hf r e1)
theorem deepB_ok (rl : Rl cl G al S H) : ∀ (n : Nat) (v : V) (m : MV) (d : D), RepM cl G al S.length v m → deep is n S m = some d → Rep (cl.wb (Bw cl al S is)) (Gbor G H al S is) v d
  | n, v, .d x, d, h, e => by
    have e' : x = d := by cases n <;> simpa [deep] using e
    subst e'
    cases h with | d h => exact h.widen rl
  | 0, v, .c i, d, h, e => by simp [deep] at e
  | 0, v, .t ms, d, h, e => by simp [deep] at e
  | n + 1, v, .c i, d, h, e => by
    cases h with
    | c i hi =>
      simp only [deep] at e
      split at e
      · cases e
      rename_i hnc
      have hni : i ∉ is := by simpa using hnc
      cases q : S[i]? with
      | none => rw [q] at e; cases e
      | some c =>
        rw [q] at e
        cases c with
        | ins c fs => cases e
        | froz d' => cases e; exact (rl.froz i _ q).widen rl
        | lst ms =>
          simp only [Option.map_eq_some_iff] at e
          obtain ⟨ds, e1, rfl⟩ := e
          obtain ⟨_, _, o, h2, h3⟩ := rl.live i _ q rfl
          cases h3 with
          | lst h3 => exact .lst (by rw [gbor_at ⟨i, ms, q, hni, rfl⟩]; exact h2) (fun z => by cases z) (deepB_okL (n := n) (fun v m d h e => deepB_ok rl n v m d h e) h3 e1)
        | fl ms =>
          simp only [Option.map_eq_some_iff] at e
          obtain ⟨ds, e1, rfl⟩ := e
          obtain ⟨vs, h1, _, h3⟩ := rl.flz i _ q
          exact .lst (gbor_ex rl _ _ h1) (fun z => by cases z) (deepB_okL (n := n) (fun v m d h e => deepB_ok rl n v m d h e) h3 e1)
  | n + 1, v, .t ms, d, h, e => by
    cases h with
    | t h r =>
      simp only [deep, Option.map_eq_some_iff] at e
      obtain ⟨ds, e1, rfl⟩ := e
      exact .tup (SqT.of (gbor_ex rl _ _ h)) (deepB_okL (n := n) (fun v m d h e => deepB_ok rl n v m d h e) r e1)
theorem args_ok (rl : Rl cl G al S H) (is : List Nat) : ∀ (fl : List Bool) (vs : List V) (ms as : List MV) (k : Nat) (js : List Nat), RepMs cl G al S.length vs ms → lentIx fl ms = some js → argsIn S is k fl ms = some as → (∀ m j, js[m]? = some j → is[k + m]? = some j) →
      RepMs (cl.wb (Bw cl al S is)) (Gbor G H al S is) (alL al is) is.length vs as
  | fl, _, _, as, k, js, .nil, e1, e2, hj => by
    have : as = [] := by
      cases fl with
      | nil => simpa [argsIn] using e2.symm
      | cons b l => cases b <;> simpa [argsIn] using e2.symm
    subst this; exact .nil
  | [], v :: vs, m :: ms, as, k, js, .cons h r, e1, e2, hj => by
    simp only [argsIn] at e2
    split at e2
    · rename_i d ed
      simp only [Option.map_eq_some_iff] at e2
      obtain ⟨as', e3, rfl⟩ := e2
      have e1' : lentIx [] ms = some [] := by cases ms <;> rfl
      exact .cons (.d (deepB_ok rl _ _ _ _ h ed)) (args_ok rl is [] vs ms as' k [] r e1' e3 (fun m j z => by simp at z))
    · cases e2
  | false :: fl, v :: vs, m :: ms, as, k, js, .cons h r, e1, e2, hj => by
    simp only [argsIn] at e2
    split at e2
    · rename_i d ed
      simp only [Option.map_eq_some_iff] at e2
      obtain ⟨as', e3, rfl⟩ := e2
      have e1' : lentIx fl ms = some js := by simpa [lentIx] using e1
      exact .cons (.d (deepB_ok rl _ _ _ _ h ed)) (args_ok rl is fl vs ms as' k js r e1' e3 hj)
    · cases e2
  | true :: fl, v :: vs, m :: ms, as, k, js, .cons h r, e1, e2, hj => by
    cases m with
    | d x => simp [argsIn] at e2
    | t x => simp [argsIn] at e2
    | c i =>
      simp only [argsIn, Option.map_eq_some_iff] at e2
      obtain ⟨as', e3, rfl⟩ := e2
      simp only [lentIx, Option.map_eq_some_iff] at e1
      obtain ⟨js', e4, rfl⟩ := e1
      have hk : is[k]? = some i := hj 0 i rfl
      cases h with
      | c _ hi =>
        refine .cons ?_ (args_ok rl is fl vs ms as' (k + 1) js' r e4 e3 fun m j z => ?_)
        · have hlt : k < is.length := (List.getElem?_eq_some_iff.mp hk).1
          have := RepM.c (cl := cl.wb (Bw cl al S is)) (G := Gbor G H al S is) (al := alL al is) (n := is.length) k hlt
          rw [alL_at hk] at this
          exact this
        · have := hj (m + 1) j (by simpa using z)
          rw [show k + (m + 1) = k + 1 + m from by omega] at this
          exact this
/-- behind the call -/
theorem lend_back {S0 S' : Sto} (rl : Rl cl G al S H) (h : lentS S is = some S0) (g : Gr (Gbor G H al S is) (alL al is) S0 H G2 al2 S2 H2) (rl2 : Rl (cl.wb (Bw cl al S is)) G2 al2 S2 H2) (hp : putBack is S2 S = some S') :
    Gr G al S H (Gback G2 al S is) al S' H2 ∧ Rl cl (Gback G2 al S is) al S' H2 ∧ Bk2 cl G2 al S is := by
  obtain ⟨hl0, hnd, hat⟩ := lentS_at h
  obtain ⟨hl', hpb, hno⟩ := putBack_at hnd hp
  have bk : Bk2 cl G2 al S is := ⟨fun a z => by
    obtain ⟨_, _, vs, e⟩ := z.none rl
    exact ⟨vs, g.fz a _ (by rw [gbor_at z]; exact e)⟩⟩
  have hin : ∀ i, i ∈ is → ∃ k c, is[k]? = some i ∧ S[i]? = some c ∧ c.ok = true ∧ S0[k]? = some c := fun i hi => by
    obtain ⟨k, hk⟩ := List.mem_iff_getElem?.mp hi
    obtain ⟨c, g1, g2, g3⟩ := hat k i hk
    exact ⟨k, c, hk, g1, g3, g2⟩
  have lv0 : ∀ k, Lv S0 k → ∃ i, is[k]? = some i ∧ Lv S i ∧ alL al is k = al i := fun k ⟨c, e, l⟩ => by
    obtain ⟨i, ei, ec, hc⟩ := lent_of h e
    exact ⟨i, ei, ⟨c, ec, l⟩, alL_at ei⟩
  have fr : ∀ a o, H a = some o → (∀ i, i ∈ is → al i ≠ a) → H2 a = some o := fun a o e hn => g.fr a o e fun k lk z => by
    obtain ⟨i, ei, _, ea⟩ := lv0 k lk
    exact hn i (List.mem_of_getElem? ei) (ea.symm.trans z)
  have exG : Ex G (Gback G2 al S is) := fun a o e => by
    have nb : ¬ Bor al S is a := fun z => by rw [(z.none rl).1] at e; cases e
    rw [gback_no nb]
    exact g.fz a o (by rw [gbor_no nb]; exact e)
  have at' : ∀ i c, S'[i]? = some c → (∃ k, is[k]? = some i ∧ S2[k]? = some c ∧ c.ok = true) ∨ (i ∉ is ∧ S[i]? = some c) := fun i c e => by
    by_cases hi : i ∈ is
    · obtain ⟨k, c0, hk, g1, g3, _⟩ := hin i hi
      obtain ⟨c1, h1, h2, h3⟩ := hpb k i hk
      have := h3 (List.getElem?_eq_some_iff.mp g1).1
      rw [e] at this; cases this
      exact .inl ⟨k, hk, h1, h2⟩
    · rw [hno i hi] at e; exact .inr ⟨hi, e⟩
  have lv' : ∀ i, Lv S' i → Lv S i := fun i ⟨c, e, l⟩ => by
    rcases at' i c e with ⟨k, hk, _, _⟩ | ⟨_, e'⟩
    · obtain ⟨c0, g1, _, g3⟩ := hat k i hk
      exact ⟨c0, g1, ok_live g3⟩
    · exact ⟨c, e', l⟩
  refine ⟨⟨exG, by omega, fun _ _ => rfl, fun i h => .inl (lv' i h), fun a o e hn => fr a o e fun i hi => hn i ?_, g.dom, fun a e e' => ?_⟩, ⟨fun a o e => ?_, fun i c e l => ?_, fun i d e => ?_, fun i ms e => ?_, fun i j hi hj e => rl.inj i j (lv' i hi) (lv' j hj) e, fun a z => ?_⟩, bk⟩
  · obtain ⟨k, c, _, g1, g3, _⟩ := hin i hi
    exact ⟨c, g1, ok_live g3⟩
  · by_cases nb : Bor al S is a
    · rw [gback_at nb] at e'; exact absurd rfl e'
    · rw [gback_no nb] at e'
      rcases g.new a (by rw [gbor_no nb]; exact e) e' with z | ⟨k, lk, z⟩
      · exact .inl z
      · obtain ⟨i, ei, li, ea⟩ := lv0 k lk
        exact .inr ⟨i, li, ea.symm.trans z⟩
  · by_cases nb : Bor al S is a
    · rw [gback_at nb] at e; cases e
    · rw [gback_no nb] at e; exact rl2.ex a o e
  · rcases at' i c e with ⟨k, hk, e2, hc⟩ | ⟨hi, e'⟩
    · obtain ⟨h1, hb, o, h2, h3⟩ := rl2.live k c e2 l
      have hk0 : k < S0.length := by rw [hl0]; exact (List.getElem?_eq_some_iff.mp hk).1
      have ea : al2 k = al i := (g.at_ k hk0).trans (alL_at hk)
      rw [ea] at h1 hb h2 h3
      have nb := lent_nb rl h hk
      exact ⟨by rw [gback_no nb]; exact h1, fun z => hb (.inl z), o, h2, ok_rep (cl := cl.wb (Bw cl al S is)) rfl (fun v d hcl r => r.back bk hcl) (fun d b e => bk.at_ (fun vs z => by cases z) e) hc h3⟩
    · obtain ⟨h1, hb, o, h2, h3⟩ := rl.live i c e' l
      have hne : ∀ j, j ∈ is → al j ≠ al i := fun j hj z => by
        obtain ⟨k, c0, hk, g1, g3, _⟩ := hin j hj
        exact hi (rl.inj j i ⟨c0, g1, ok_live g3⟩ ⟨c, e', l⟩ z ▸ hj)
      refine ⟨?_, hb, o, fr _ _ h2 hne, by rw [hl']; exact h3.mono exG (Nat.le_refl _) fun _ _ => rfl⟩
      by_cases nb : Bor al S is (al i)
      · exact gback_at nb
      · rw [gback_no nb]
        cases q : G2 (al i) with
        | none => rfl
        | some u =>
          rcases g.new (al i) (by rw [gbor_no nb]; exact h1) (by rw [q]; simp) with z | ⟨k, lk, z⟩
          · rw [h2] at z; cases z
          · obtain ⟨j, ej, _, ea⟩ := lv0 k lk
            exact absurd (ea.symm.trans z) (hne j (List.mem_of_getElem? ej))
  · rcases at' i _ e with ⟨k, hk, e2, hc⟩ | ⟨hi, e'⟩
    · simp [Cell.ok] at hc
    · exact (rl.froz i d e').mono exG
  · rcases at' i _ e with ⟨k, hk, e2, hc⟩ | ⟨hi, e'⟩
    · simp [Cell.ok] at hc
    · obtain ⟨vs, h1, h2, h3⟩ := rl.flz i ms e'
      exact ⟨vs, exG _ _ h1, h2, by rw [hl']; exact h3.mono exG (Nat.le_refl _) fun _ _ => rfl⟩
  · intro e
    exact rl.bwd a z (g.dom a e)
theorem XRep.back {c : String} {fs : List (String × D)} {cv : Value} {d : Option Addr} (b : Bk2 cl G2 al S is) (hc : cleanF fs = true) : XRep (cl.wb (Bw cl al S is)) G2 H2 c fs cv d → XRep cl (Gback G2 al S is) H2 c fs cv d
  | .bare h => .bare h
  | .flds h1 h2 h3 => by
    simp only [cleanF, Bool.and_eq_true] at hc
    exact .flds h1 h2 (h3.back b hc.1)
/-- a call by its mode: the callee sees its own state -/
theorem callM_ok {md : Md} {g : List MV → Sto → R MV} {xs : List V} {ms : List MV} {Q : VK} {E : XK} (rl : Rl cl G al S H) (r : RepMs cl G al S.length xs ms) (p : Pst cl G al S H (callM md g ms S) (Vk cl Q) E) :
    ∃ bw, rN (cl.wb bw) E g xs H Q := by
  have go : ∀ own fl, Pst cl G al S H (callB own fl g ms S) (Vk cl Q) E → ∃ bw, rN (cl.wb bw) E g xs H Q := by
    intro own fl p
    unfold callB at p
    split at p
    · exact p.elim
    · rename_i is eis
      split at p
      · rename_i as S0 eas eS0
        have hl0 := (lentS_at eS0).1
        have ra := args_ok rl is fl xs ms as 0 is r eis eas (fun m j z => by simpa using z)
        refine ⟨Bw cl al S is, Gbor G H al S is, alL al is, S0, as, rl.lend eS0, by rw [hl0]; exact ra, ?_⟩
        cases eg : g as S0 with
        | stuck => rw [eg] at p; exact p.elim
        | exc c fs S2 =>
          rw [eg] at p
          dsimp only at p
          split at p
          · rename_i hcl
            split at p
            · rename_i S' ep
              intro G2 al2 H2 cv d g2 rl2 x
              obtain ⟨g3, rl3, bk⟩ := lend_back rl eS0 g2 rl2 ep
              exact p _ _ _ cv d g3 rl3 (x.back bk hcl)
            · exact p.elim
          · exact p.elim
        | ok v S2 =>
          rw [eg] at p
          intro G2 al2 H2 g2 rl2 u ru
          have plain : Pst cl G al S H (match freeze 4 v S2 with
            | .ok r S3 => if clean r then match putBack is S3 S with
                | some S' => .ok (.d r) S'
                | none => .stuck
              else .stuck
            | _ => .stuck) (Vk cl Q) E → Q u H2 := fun p => by
            have qf : Pst (cl.wb (Bw cl al S is)) G2 al2 S2 H2 (freeze 4 v S2) (fun _ _ _ _ _ => True) (fun _ _ _ => True) := by
              cases ef : freeze 4 v S2 with
              | ok r S3 => exact fun _ _ _ _ _ => trivial
              | exc _ _ _ => rw [ef] at p; exact p.elim
              | stuck => rw [ef] at p; exact p.elim
            obtain ⟨G3, S3, d, e3, g3, rl3, r3⟩ := freeze_ok 4 G2 al2 S2 u v _ _ rl2 ru qf
            rw [e3] at p
            dsimp only at p
            split at p
            · rename_i hcl
              split at p
              · rename_i S' ep
                obtain ⟨g4, rl4, bk⟩ := lend_back rl eS0 (g2.trans g3) rl3 ep
                exact p _ _ _ g4 rl4 u (.d (r3.back bk hcl))
              · exact p.elim
            · exact p.elim
          cases own with
          | false => exact plain p
          | true =>
            cases v with
            | d x => exact plain p
            | t x => exact plain p
            | c j =>
              dsimp only at p
              split at p
              · rename_i c ec
                split at p
                · rename_i hc
                  simp only [Bool.and_eq_true, decide_eq_true_eq] at hc
                  split at p
                  · rename_i S' ep
                    obtain ⟨g4, rl4, bk⟩ := lend_back rl eS0 g2 rl2 ep
                    cases ru with
                    | c _ hj =>
                      have hlv : Lv S2 j := ⟨c, ec, ok_live hc.1⟩
                      obtain ⟨h1, hb, o, h2, h3⟩ := rl2.live j c ec (ok_live hc.1)
                      have hnew : H (al2 j) = none := by
                        rcases g2.lv j hlv with z | ⟨_, z⟩
                        · have := z.lt; omega
                        · exact z
                      have nb : ¬ Bor al S is (al2 j) := fun z => hb (.inr z)
                      have hl' : S'.length = S.length := (putBack_at (lentS_at eS0).2.1 ep).1
                      have out : Out cl (Gback G2 al S is) al S' (al2 j) := ⟨by rw [gback_no nb]; exact h1, fun z => hb (.inl z), fun i ⟨c', e', l'⟩ z => by
                        rcases g4.lv i ⟨c', e', l'⟩ with ⟨c0, e0, l0⟩ | ⟨z1, _⟩
                        · obtain ⟨_, _, o0, h0, _⟩ := rl.live i c0 e0 l0
                          rw [z, hnew] at h0; cases h0
                        · have := (List.getElem?_eq_some_iff.mp e').1; omega⟩
                      have hrc : RepC cl (Gback G2 al S is) al S'.length (al2 j) o c := ok_rep (cl := cl.wb (Bw cl al S is)) rfl (fun v d hcl r => r.back bk hcl) (fun d b e => bk.at_ (fun vs z => by cases z) e) hc.1 h3
                      have rl5 := rl4.inC out h2 (ok_live hc.1) hrc
                      have g5 := g4.inC (c := c) hnew
                      refine p _ _ _ g5 rl5 _ ?_
                      have := RepM.c (cl := cl) (G := Gback G2 al S is) (al := alw al S'.length (al2 j)) (n := (S' ++ [c]).length) S'.length (by simp)
                      rw [alw_new] at this
                      have e9 : MV.c S'.length = MV.c S.length := by rw [hl']
                      rw [e9] at this
                      exact this
                  · exact p.elim
                · exact p.elim
              · exact p.elim
      · exact p.elim
  cases md with
  | raw => exact ⟨cl.bw, G, al, S, ms, rl, r, p⟩
  | bor fl => exact go false fl p
  | own fl => exact go true fl p
end
end Mi
namespace Mi
open PySem L2 PyProof.Rows

/-! ### the text is the mini text -/
def visC (sc : Scope) (x : Str) : Bool := match sc.names.lookup x with
  | some .local => true | some .cell => true | some .free => true
  | _ => false
def locC (sc : Scope) (x : Str) : Bool := match sc.names.lookup x with
  | some .local => true | some .cell => true
  | _ => false
def glC (sc : Scope) (x : Str) : Bool := match sc.names.lookup x with
  | some .globalImplicit => true
  | _ => false
def plainN (x : Str) : Bool := !(x == ("__debug__" : Str)) && !(x == ("__classdict__" : Str)) && !(x == ("__name__" : Str))
def noStar : Expr → Bool
  | .Starred _ _ => false
  | _ => true
def noSet : Expr → Bool
  | .Set _ _ _ => false
  | _ => true
def noSl : Expr → Bool
  | .Slice _ _ _ _ => false
  | _ => true
def noSup : Expr → Bool
  | .Call (.Name _ _) [] [] _ => false
  | _ => true
def slotC (N : List Str) (sc : Scope) (x : Str) (i : Nat) : Bool := decide (N[i]? = some x) && locC sc x
/-- names by slot -/
def nmC (fn : Str → Bool) (N : List Str) (sc : Scope) (i : Nat) (x : Str) : Bool := decide (N[i]? = some x) && locC sc x && (fn x || decide (sc.names.lookup x = some .local))
def tgNames (fn : Str → Bool) (N : List Str) (sc : Scope) : List Nat → List Expr → Bool
  | [], [] => true
  | i :: is, .Name x _ :: xs => nmC fn N sc i x && tgNames fn N sc is xs
  | _, _ => false
def tgStar (fn : Str → Bool) (N : List Str) (sc : Scope) (j : Nat) : List Nat → List Expr → Bool
  | [], [.Starred (.Name x _) _] => nmC fn N sc j x
  | i :: is, .Name x _ :: xs => nmC fn N sc i x && tgStar fn N sc j is xs
  | _, _ => false
def sameTg (fn : Str → Bool) (N : List Str) (sc : Scope) : Tg → Expr → Bool
  | .nm i, .Name x _ => nmC fn N sc i x
  | .tp is, .Tuple xs _ _ => tgNames fn N sc is xs
  | .st is j, .Tuple xs _ _ => tgStar fn N sc j is xs
  | _, _ => false

def Tg.sl : Tg → List Nat
  | .nm i => [i]
  | .tp is => is
  | .st is j => is ++ [j]

/-- what the text holds: defs, constants, tuples of ints, defs with one default, defs called by keywords, error classes with a field, bare ones, what meets which clause, the test for numbers, classes, their methods, properties, those that are made -/
structure Tx where
  fs : List String
  gl : List (String × Int) := []
  gt : List (String × List Int) := []
  df : List (String × Int) := []
  sw : List (String × String × String) := []
  xf : List (String × String) := []
  x0 : List String := []
  xm : List (String × String × Bool) := []
  hg : List String := []
  cls : List String := []
  ms : List (String × String) := []
  pr : List (String × String) := []
  nw : List String := []
  fld : List String := []
def Tx.contains (t : Tx) (f : String) : Bool := t.fs.contains f
def isKw : List Keyword → Option (Str × Expr × Str × Expr)
  | [⟨some a, x, _⟩, ⟨some b, y, _⟩] => some (a, x, b, y)
  | _ => none
theorem isKw_inv {l : List Keyword} {a b : Str} {x y : Expr} (h : isKw l = some (a, x, b, y)) : ∃ p q, l = [⟨some a, x, p⟩, ⟨some b, y, q⟩] := by
  unfold isKw at h
  split at h
  · cases h; exact ⟨_, _, rfl⟩
  · cases h

def isSl : Expr → Option (Expr × Option Expr × Option Expr)
  | .Subscript x (.Slice lo hi none _) _ => some (x, lo, hi)
  | _ => none
theorem isSl_inv {e x : Expr} {lo hi : Option Expr} (h : isSl e = some (x, lo, hi)) : ∃ p q, e = .Subscript x (.Slice lo hi none p) q := by
  unfold isSl at h
  split at h
  · cases h; exact ⟨_, _, rfl⟩
  · cases h
/-- a[b], a * b, a == b, a != b by an own method -/
def isOp (m : String) : Expr → Option (Expr × Expr)
  | .Subscript x y _ => if m == "__getitem__" && noSl y then some (x, y) else none
  | .BinOp x .Mult y _ => if m == "__mul__" then some (x, y) else none
  | .Compare x [.Eq] [y] _ => if m == "__eq__" && noSet y then some (x, y) else none
  | _ => none
theorem isOp_inv {m : String} {e x y : Expr} (h : isOp m e = some (x, y)) : (∃ p, e = .Subscript x y p ∧ m = "__getitem__" ∧ noSl y = true) ∨ (∃ p, e = .BinOp x .Mult y p ∧ m = "__mul__") ∨ (∃ p, e = .Compare x [.Eq] [y] p ∧ m = "__eq__" ∧ noSet y = true) := by
  unfold isOp at h
  split at h
  · split at h
    · rename_i hc; cases h; simp only [Bool.and_eq_true, beq_iff_eq] at hc; exact .inl ⟨_, rfl, hc.1, hc.2⟩
    · cases h
  · split at h
    · rename_i hc; cases h; exact .inr (.inl ⟨_, rfl, by simpa using hc⟩)
    · cases h
  · split at h
    · rename_i hc; cases h; simp only [Bool.and_eq_true, beq_iff_eq] at hc; exact .inr (.inr ⟨_, rfl, hc.1, hc.2⟩)
    · cases h
  · cases h
/-- a method call -/
def isMe : Expr → Option (Expr × Str × Pos × List Expr × Pos)
  | .Call (.Attribute o m p) xs [] q => some (o, m, p, xs, q)
  | _ => none
theorem isMe_inv {e o : Expr} {m : Str} {p q : Pos} {xs : List Expr} (h : isMe e = some (o, m, p, xs, q)) : e = .Call (.Attribute o m p) xs [] q := by
  unfold isMe at h
  split at h
  · cases h; rfl
  · cases h
mutual
def same (fs : Tx) (N : List Str) (sc : Scope) : E → Expr → Bool
  | .var i, .Name x _ => decide (N[i]? = some x) && visC sc x && plainN x
  | .int i, .Constant (.int j) _ _ => decide (i = j)
  | .bl b, .Constant (.bool c) _ _ => b == c
  | .non, .Constant .none _ _ => true
  | .str s, .Constant (.str t) _ _ => t == Str.ofString s
  | .bin o a b, .BinOp x p y _ => decide (p = opOf o) && same fs N sc a x && same fs N sc b y
  | .neg a, .UnaryOp .USub x _ => same fs N sc a x
  | .cmp o a b, .Compare x [p] [y] _ => decide (p = copOf o) && noSet y && same fs N sc a x && same fs N sc b y
  | .chain o p a b c, .Compare x [q, r] [y, z] _ => decide (q = copOf o) && decide (r = copOf p) && noSet z && same fs N sc a x && same fs N sc b y && same fs N sc c z
  | .and_ a b, .BoolOp .And (x :: y :: rest) p => same fs N sc a x && same fs N sc b (.BoolOp .And (y :: rest) p)
  | .or_ a b, .BoolOp .Or (x :: y :: rest) p => same fs N sc a x && same fs N sc b (.BoolOp .Or (y :: rest) p)
  | .one a, .BoolOp _ [x] _ => same fs N sc a x
  | .not_ a, .UnaryOp .Not x _ => same fs N sc a x
  | .ife t a b, .IfExp x y z _ => same fs N sc t x && same fs N sc a y && same fs N sc b z
  | .tup es, .Tuple xs _ _ => sames fs N sc es xs
  | .lst _ es, .List xs _ => sames fs N sc es xs
  | .ix a i, .Subscript x y _ => noSl y && same fs N sc a x && same fs N sc i y
  | .sl _ a lo hi, e => match isSl e with
      | some (x, l, h) => same fs N sc a x && sameO fs N sc lo l && sameO fs N sc hi h
      | none => false
  | .call _ f es, .Call (.Name g _) xs [] _ => fs.contains f && (g == Str.ofString f) && glC sc g && plainN g && sames fs N sc es xs && xs.all noStar
  | .blt _ b es, .Call (.Name g _) (x :: xs) [] _ => (g == Str.ofString b.name) && glC sc g && sames fs N sc es (x :: xs) && (x :: xs).all noStar
  | .isi a ty, .Call (.Name g _) [x, .Name t _] [] _ => (g == ("isinstance" : Str)) && glC sc g && (t == Str.ofString ty) && ["int", "bool", "str", "list", "tuple"].contains ty && glC sc t && noStar x && same fs N sc a x
  | .isc a c, .Call (.Name g _) [x, .Name t _] [] _ => (g == ("isinstance" : Str)) && glC sc g && (t == Str.ofString c) && fs.cls.contains c && glC sc t && plainN t && noStar x && same fs N sc a x
  | .app a e, .Call (.Attribute o m p) [y] [] q => (m == ("append" : Str)) && noSup o && (p.endLine == q.line) && noStar y && same fs N sc a o && same fs N sc e y
  | .lc _ elt tg it cd own, .ListComp x [⟨t, iter, ifs, as⟩] scope _ =>
      decide (as = 0) && blkC N sc scope (own.map fun p => (Str.ofString p.1, p.2)) && tg.sl.all (fun j => (own.map (·.2)).contains j) && noSet iter && sameIt fs N sc it t iter && sameTg (fun x => scope.names.lookup x == some .cell) N (relS scope sc) tg t && sameC fs N (relS scope sc) cd ifs && same fs N (relS scope sc) elt x
  | .lc2 _ elt tg it tg2 it2 own own2, .ListComp x [⟨t, iter, [], as⟩, ⟨t2, iter2, [], as2⟩] scope _ =>
      decide (as = 0) && decide (as2 = 0) && blkC N sc scope (own.map fun p => (Str.ofString p.1, p.2)) && tg.sl.all (fun j => (own.map (·.2)).contains j) && tg2.sl.all (fun j => own2.contains j) && own2.all (fun j => (own.map (·.2)).contains j) && noSet iter && noSet iter2 && sameIt fs N sc it t iter && sameTg (fun x => scope.names.lookup x == some .cell) N (relS scope sc) tg t
        && sameIt fs N (relS scope sc) it2 t2 iter2 && sameTg (fun x => scope.names.lookup x == some .cell) N (relS scope sc) tg2 t2 && same fs N (relS scope sc) elt x
  | .glob x i, .Name y _ => (y == Str.ofString x) && glC sc y && plainN y && fs.gl.contains (x, i)
  | .gtup x is, .Name y _ => (y == Str.ofString x) && glC sc y && plainN y && fs.gt.contains (x, is)
  | .calld _ f es i, .Call (.Name g _) (x :: xs) [] _ => fs.contains f && (g == Str.ofString f) && glC sc g && plainN g && decide (fs.df.lookup f = some i) && sames fs N sc es (x :: xs) && (x :: xs).all noStar
  | .callsw _ f k1 k2 a b, .Call (.Name g _) [] kws _ => match isKw kws with
      | some (n1, x, n2, y) => fs.contains f && (g == Str.ofString f) && glC sc g && plainN g && (n1 == Str.ofString k2) && (n2 == Str.ofString k1) && decide (fs.sw.lookup f = some (k1, k2)) && same fs N sc a x && same fs N sc b y
      | none => false
  | .new _ c es, .Call (.Name g _) (x :: xs) [] _ => fs.nw.contains c && (g == Str.ofString c) && glC sc g && plainN g && sames fs N sc es (x :: xs) && (x :: xs).all noStar
  | .meth _ cs a m es, e => match isMe e with
      | some (o, f, p, xs, q) => (f == Str.ofString m) && cs.all (fun c => fs.ms.contains (c, m)) && noSup o && (p.endLine == q.line) && decide (xs.length < 30) && xs.all noStar && same fs N sc a o && sames fs N sc es xs
      | none => false
  | .attr a f, .Attribute o g _ => (g == Str.ofString f) && fs.fld.contains f && noSup o && same fs N sc a o
  | .prop _ cs a f, .Attribute o g _ => (g == Str.ofString f) && cs.all (fun c => fs.pr.contains (c, f)) && noSup o && same fs N sc a o
  | .opm _ cs m a b, e => match isOp m e with
      | some (x, y) => cs.all (fun c => fs.ms.contains (c, m)) && same fs N sc a x && same fs N sc b y
      | none => false
  | .lenm _ cs a, .Call (.Name g _) [x] [] _ => (g == ("len" : Str)) && glC sc g && cs.all (fun c => fs.ms.contains (c, "__len__")) && noStar x && same fs N sc a x
  | _, _ => false
def sames (fs : Tx) (N : List Str) (sc : Scope) : Es → List Expr → Bool
  | .nil, [] => true
  | .cons e r, x :: xs => noStar x && same fs N sc e x && sames fs N sc r xs
  | .star e r, .Starred x _ :: xs => same fs N sc e x && sames fs N sc r xs
  | _, _ => false
def sameO (fs : Tx) (N : List Str) (sc : Scope) : Eo → Option Expr → Bool
  | .no, none => true
  | .yes e, some x => same fs N sc e x
  | _, _ => false
def sameC (fs : Tx) (N : List Str) (sc : Scope) : Eo → List Expr → Bool
  | .no, [] => true
  | .yes e, [x] => same fs N sc e x
  | _, _ => false
def sameIt (fs : Tx) (N : List Str) (sc : Scope) : It → Expr → Expr → Bool
  | .seq e, _, x => same fs N sc e x
  | .range1 e, _, .Call (.Name g _) [x] [] _ => (g == ("range" : Str)) && glC sc g && noStar x && same fs N sc e x
  | .range2 a b, _, .Call (.Name g _) [x, y] [] _ => (g == ("range" : Str)) && glC sc g && noStar x && noStar y && same fs N sc a x && same fs N sc b y
  | .range3 a b c, _, .Call (.Name g _) [x, y, z] [] _ => (g == ("range" : Str)) && glC sc g && noStar x && noStar y && noStar z && same fs N sc a x && same fs N sc b y && same fs N sc c z
  | .enum e, .Tuple _ _ _, .Call (.Name g _) [x] [] _ => (g == ("enumerate" : Str)) && glC sc g && noStar x && same fs N sc e x
  | .zip a b, .Tuple _ _ _, .Call (.Name g _) [x, y] [] _ => (g == ("zip" : Str)) && glC sc g && noStar x && noStar y && same fs N sc a x && same fs N sc b y
  | _, _, _ => false
end

/-! ### where a text runs -/
def bnames : List String := ["abs", "int", "max", "len", "list", "tuple", "isinstance", "range", "bool", "str", "sum", "min", "any", "all", "sorted", "enumerate", "zip"]
/-- a def's promise -/
abbrev SpN (cl : Wd) (g : List MV → Sto → R MV) : Sp := fun vs H Q E => ∃ bw, rN (cl.wb bw) E g vs H Q
/-- what an operator's method must have besides -/
structure OpX (cl : Wd) (C : Addr) (m : String) (f : Addr) : Prop where
  gi : m = "__getitem__" → PySem.W.fnIn cl.K f = true
  mu : m = "__mul__" → PySem.W.selfFirst cl.K C = true
  eq : m = "__eq__" → (∀ t ∈ ["NoneType", "bool", "int", "str", "tuple", "list"], PySem.W.notFirst cl.K C (.type t) = true) ∧ ∀ d D, cl.cl d = some D → PySem.W.notFirst cl.K C (.ref D) = true
/-- what the program's text tells: calls keep their promises, built-in names are the built-ins -/
structure Pf (fs : Tx) (cl : Wd) (C : Calls) (prog : Program) (w : World) (K : PySem.W.Frag) (mg : Str → Option Value) (base : Heap) (k : Nat) : Prop where
  kk : K = cl.K
  call : ∀ f, fs.contains f = true → ∃ a fd ps, mg (Str.ofString f) = some (.ref a) ∧ PySem.W.keepIn K (.ref a) = true ∧ Binds K fd ps [] ∧ (∀ i, fs.df.lookup f = some i → ∃ t, Binds K fd ps [.int i t]) ∧
    (∀ k1 k2, fs.sw.lookup f = some (k1, k2) → ps = [Str.ofString k1, Str.ofString k2] ∧ ∀ (s : Shared) (u v : Value), K.In s.heap → BindsTo s fd ⟨[], [(Str.ofString k2, u), (Str.ofString k1, v)]⟩ [(Str.ofString k1, v), (Str.ofString k2, u)]) ∧
    FnOk prog w K mg base (L2N.CX prog w) (2 * k + 1) a fd ps (SpN cl (C f))
  meth : ∀ c m, fs.ms.contains (c, m) = true → ∃ D f fd ps, cl.cl c = some D ∧ Meth K D (Str.ofString m) f ∧ Binds K fd ps [] ∧ OpX cl D m f ∧ FnOk prog w K mg base (L2N.CX prog w) (2 * k + 1) f fd ps (SpN cl (C (c ++ "." ++ m)))
  prop : ∀ c m, fs.pr.contains (c, m) = true → ∃ D p f fd ps, cl.cl c = some D ∧ PropOf K D (Str.ofString m) p f ∧ Binds K fd ps [] ∧ FnOk prog w K mg base (L2N.CX prog w) (2 * k + 1) f fd ps (SpN cl (C (c ++ "." ++ m)))
  make : ∀ c, fs.nw.contains c = true → ∃ D f fd ps, cl.cl c = some D ∧ mg (Str.ofString c) = some (.ref D) ∧ Mk K D f ∧ Binds K fd ps [] ∧ FnOk prog w K mg base (L2N.CX prog w) (2 * k + 1) f fd ps (SpN cl (C (c ++ ".__init__")))
  cls : ∀ c, fs.cls.contains c = true → ∃ D, cl.cl c = some D ∧ mg (Str.ofString c) = some (.ref D)
  isf : IsF cl
  noa : ∀ f, fs.fld.contains f = true → ∀ c D, cl.cl c = some D → NoAttr K D (Str.ofString f)
  glob : ∀ x i, fs.gl.contains (x, i) = true → ∃ t, mg (Str.ofString x) = some (.int i t)
  gtup : ∀ x is, fs.gt.contains (x, is) = true → ∃ a, mg (Str.ofString x) = some (.ref a) ∧ ∀ H : Hp, SqT K H a (is.map V.int)
  xf : ∀ c f, fs.xf.contains (c, f) = true → ∃ A, cl.xc c = some A ∧ XcT prog K mg (Str.ofString c) (Str.ofString f) A
  x0 : ∀ c, fs.x0.contains c = true → ∃ A, cl.xc c = some A ∧ mg (Str.ofString c) = some (.ref A) ∧ PySem.W.excIn K A [.type "ValueError", .type "Exception", .type "BaseException", .type "object"] "ValueError.__new__" = true ∧
    PySem.W.keepIn K (.ref A) = true ∧ PySem.W.subIn K (.ref A) (.type "BaseException") = some true ∧ PySem.W.typeIn K (.ref A) = some (.type "type")
  xm : ∀ c h b, fs.xm.contains (c, h, b) = true → ∃ A B, cl.xc c = some A ∧ cl.xc h = some B ∧ mg (Str.ofString h) = some (.ref B) ∧ PySem.W.exmOne K (.ref A) (.ref B) = some b
  hg : ∀ g, fs.hg.contains g = true → ∃ a fd ps, mg (Str.ofString g) = some (.ref a) ∧ PySem.W.keepIn K (.ref a) = true ∧ Binds K fd ps [] ∧ L2H.FnH prog w K mg base (L2N.CX prog w) 1 a fd ps (fun vs H Q _ => ∃ (bw : Addr → Prop) (i : Int) (G : Hp) (al : Nat → Addr) (S : Sto), vs = [.int i] ∧ Rl (cl.wb bw) G al S H ∧ ∀ G' al' H', Gr G al S H G' al' S H' → Rl (cl.wb bw) G' al' S H' → Q (.bl true) H')
  nob : ∀ x ∈ bnames, mg (Str.ofString x) = none
theorem IsF.wb {cl : Wd} (h : IsF cl) (bw : Addr → Prop) : IsF (cl.wb bw) := ⟨h.all, h.bi, h.ib, h.cc⟩
theorem OpX.wb {cl : Wd} {C : Addr} {m : String} {f : Addr} (h : OpX cl C m f) (bw : Addr → Prop) : OpX (cl.wb bw) C m f := ⟨h.gi, h.mu, h.eq⟩
theorem Pf.wb {fs : Tx} {cl : Wd} {C : Calls} {prog : Program} {w : World} {K : PySem.W.Frag} {mg : Str → Option Value} {base : Heap} {k : Nat} (h : Pf fs cl C prog w K mg base k) (bw : Addr → Prop) : Pf fs (cl.wb bw) C prog w K mg base k :=
  { kk := h.kk, call := h.call, meth := fun c m e => by
      obtain ⟨D, f, fd, ps, h1, h2, h3, h4, h5⟩ := h.meth c m e
      exact ⟨D, f, fd, ps, h1, h2, h3, h4.wb bw, h5⟩
    prop := h.prop, make := h.make, cls := h.cls, isf := h.isf.wb bw, noa := h.noa, glob := h.glob, gtup := h.gtup, xf := h.xf, x0 := h.x0, xm := h.xm, hg := h.hg, nob := h.nob }
structure Ctx (fs : Tx) (cl : Wd) (C : Calls) (X : Cx) (W : WX) (k : Nat) : Prop where
  pf : Pf fs cl C X.prog X.w X.K X.mg X.base k
  room : Room (2 * k + 2) X.A
  calm : X.calm = true
  takes : L2N.Takes X W
  own : PassesOwn (model X.prog X.w) X.A X.env X.xe
  nd : X.N.Nodup
abbrev W0 : WX := fun _ _ _ _ => False
theorem Ctx.blk {fs : Tx} {cl : Wd} {C : Calls} {X : Cx} {W : WX} {k : Nat} (c : Ctx fs cl C X W k) (s : Shared) (H : Hp) (scope : Scope) (cenv : Env) (fp : List Addr) : Ctx fs cl C (X.blk s H scope cenv fp) W0 k :=
  ⟨c.pf, c.room, c.calm, fun u s' x => by
    obtain ⟨_, _, _, _, _, _, _, _, _, _, _, _, _, _, _, _, z⟩ := x
    exact z.elim, PassesOwn.never, c.nd⟩
theorem Ctx.hu {fs : Tx} {cl : Wd} {C : Calls} {X : Cx} {W : WX} {k : Nat} (c : Ctx fs cl C X W k) : X.A.units + 65 < cLine := by have := c.room.un; omega

theorem vis_of {sc : Scope} {x : Str} (h : visC sc x = true) : Vis sc x := by
  unfold visC at h
  unfold Vis
  split at h <;> simp_all
theorem loc_of {sc : Scope} {x : Str} (h : locC sc x = true) : L2.Loc sc x := by
  unfold locC at h
  unfold L2.Loc
  split at h <;> simp_all
theorem gl_of {X : Cx} {x : Str} (h : glC X.env.scope x = true) : Gl X x := by
  unfold glC at h
  unfold Gl Env.kindOf
  split at h <;> simp_all
theorem plain_of {x : Str} (h : plainN x = true) : (x == ("__debug__" : Str)) = false ∧ (x == ("__classdict__" : Str)) = false ∧ x ≠ ("__name__" : Str) := by
  unfold plainN at h
  simp only [Bool.and_eq_true, Bool.not_eq_true'] at h
  exact ⟨h.1.1, h.1.2, fun e => by have := h.2; rw [e] at this; simp at this⟩
theorem star_of {e : Expr} {es : List Expr} {env : Env} (h : noStar e = true) : starEach (e :: es) env = (false, eval e env) :: starEach es env := by
  cases e <;> first | rfl | (simp [noStar] at h)
theorem fold_of {e : Expr} {env : Env} (h : noSet e = true) : ∀ x, foldedSetIterable e env x = pure x := by
  intro x
  cases e <;> first | rfl | (simp [noSet] at h)
theorem mark_of {e : Expr} {op : CmpOp} (h : noSet e = true) : behindInMarks op e = false := by
  cases e <;> first | rfl | (simp [noSet] at h)
theorem plainIx_of {e : Expr} (h : noSl e = true) : PlainIx e := by
  intro o i
  cases e <;> first | rfl | (simp [noSl] at h)
theorem sup_of {e : Expr} {f : Str} {env : Env} {whole : Sem Value} (h : noSup e = true) : attributeBase e f env whole = whole := by
  cases e with
  | Call g args kws pos =>
    cases g with
    | Name id p =>
      cases args with
      | cons a r => rfl
      | nil =>
        cases kws with
        | cons a r => rfl
        | nil => exact absurd (show false = true from h) Bool.false_ne_true
    | _ => rfl
  | _ => rfl

/-! ### targets -/
section
variable {cl : Wd} {C : Calls} {X : Cx}
/-- alike but at some slots -/
def Agr (is : List Nat) (σ σ' : L2.St) : Prop := σ'.length = σ.length ∧ ∀ j, j ∉ is → σ'[j]? = σ[j]?
def rdG (cl : Wd) (tg : Tg) : TG := fun v σ H Q => ∃ G al S τ m, Rl cl G al S H ∧ RepS cl G al S.length σ τ ∧ RepM cl G al S.length v m ∧
  match bindTg tg τ m S with
  | .ok τ' S' => ∀ G' al' H' σ', Gr G al S H G' al' S' H' → Rl cl G' al' S' H' → RepS cl G' al' S'.length σ' τ' → Agr tg.sl σ σ' → Q σ' H'
  | _ => False
theorem RepS.set {G : Hp} {al : Nat → Addr} {n : Nat} {σ : L2.St} {τ : Slots} (h : RepS cl G al n σ τ) {v : V} {m : MV} (r : RepM cl G al n v m) (i : Nat) : RepS cl G al n (σ.set i (some v)) (τ.set i (some m)) := by
  refine ⟨by simp [h.1], fun j m' e => ?_⟩
  by_cases hj : i = j
  · subst hj
    by_cases hi : i < τ.length
    · rw [List.getElem?_set_self hi] at e
      cases e
      exact ⟨v, by rw [List.getElem?_set_self (by rw [h.1]; exact hi)], r⟩
    · rw [List.getElem?_eq_none (by simpa using Nat.le_of_not_lt hi)] at e; cases e
  · rw [List.getElem?_set_ne hj] at e ⊢
    exact h.2 j m' e
theorem RepS.wipe {G : Hp} {al : Nat → Addr} {n : Nat} : ∀ (is : List Nat) {σ : L2.St} {τ : Slots}, RepS cl G al n σ τ → RepS cl G al n (L2.wipe σ is) (wipeM τ is)
  | [], _, _, h => h
  | i :: is, σ, τ, h => by
    have ih := RepS.wipe is h
    show RepS cl G al n ((L2.wipe σ is).set i none) ((wipeM τ is).set i none)
    refine ⟨by simp [ih.1], fun j m e => ?_⟩
    by_cases hj : i = j
    · subst hj
      by_cases hi : i < (wipeM τ is).length
      · rw [List.getElem?_set_self hi] at e; cases e
      · rw [List.getElem?_eq_none (by simpa using Nat.le_of_not_lt hi)] at e; cases e
    · rw [List.getElem?_set_ne hj] at e ⊢
      exact ih.2 j m e
def gAll : List Nat → TGs
  | [] => gNil
  | i :: is => gCons (gName i) (gAll is)
theorem nm_of {i : Nat} {x : Str} (h : nmC X.fn X.N X.env.scope i x = true) : X.N[i]? = some x ∧ L2.Loc X.env.scope x ∧ (X.fn x = true ∨ X.env.scope.names.lookup x = some .local) := by
  simp only [nmC, Bool.and_eq_true, Bool.or_eq_true, decide_eq_true_eq] at h
  exact ⟨h.1.1, loc_of h.1.2, h.2⟩
theorem pgs_all (nd : X.N.Nodup) : ∀ (is : List Nat) (xs : List Expr), tgNames X.fn X.N X.env.scope is xs = true → PGs X xs (gAll is) ∧ (assignEach xs X.env).length = is.length ∧ (assignEach xs X.env).findIdx? (·.1) = none
  | [], [], _ => ⟨pgs_nil, rfl, rfl⟩
  | [], _ :: _, h => by simp [tgNames] at h
  | _ :: _, [], h => by simp [tgNames] at h
  | i :: is, x :: xs, h => by
    cases x with
    | Name x p =>
      simp only [tgNames, Bool.and_eq_true] at h
      obtain ⟨h1, h3⟩ := h
      obtain ⟨g1, g2, g3⟩ := pgs_all nd is xs h3
      obtain ⟨n1, n2, n3⟩ := nm_of h1
      refine ⟨pgs_cons (pg_name nd n1 n2 n3) g1 rfl, ?_, ?_⟩
      · show (assignEach xs X.env).length + 1 = is.length + 1
        rw [g2]
      · show List.findIdx? (·.1) ((false, assign (.Name x p) X.env) :: assignEach xs X.env) = none
        rw [List.findIdx?_cons]
        simp [g3]
    | _ => simp [tgNames] at h
theorem gAll_ok {G : Hp} {al : Nat → Addr} {n : Nat} {H : Hp} : ∀ (is : List Nat) {vs : List V} {ms : List MV} {σ : L2.St} {τ : Slots} {Q : L2.St → Hp → Prop}, RepMs cl G al n vs ms → ms.length = is.length → RepS cl G al n σ τ → (∀ σ', RepS cl G al n σ' (setAll τ is ms) → Agr is σ σ' → Q σ' H) → gAll is vs σ H Q
  | [], _, _, _, _, _, .nil, _, rs, q => ⟨rfl, q _ rs ⟨rfl, fun _ _ => rfl⟩⟩
  | [], _, _, _, _, _, .cons _ _, e, _, _ => by simp at e
  | i :: is, _, _, _, _, _, .nil, e, _, _ => by simp at e
  | i :: is, _, _, _, _, _, .cons h r, e, rs, q => ⟨_, _, rfl, gAll_ok is r (by simpa using e) (rs.set h i) fun σ' rs' ag => q σ' rs' ⟨ag.1.trans (List.length_set ..), fun j hj => by
      simp only [List.mem_cons, not_or] at hj
      rw [ag.2 j hj.2, List.getElem?_set_ne (Ne.symm hj.1)]⟩⟩
theorem setAll_snoc {j : Nat} {mv : MV} : ∀ (is : List Nat) (ms : List MV) (τ : Slots), ms.length = is.length → setAll τ (is ++ [j]) (ms ++ [mv]) = (setAll τ is ms).set j (some mv)
  | [], [], τ, _ => rfl
  | [], _ :: _, τ, h => by simp at h
  | _ :: _, [], τ, h => by simp at h
  | i :: is, m :: ms, τ, h => setAll_snoc is ms _ (by simpa using h)
theorem pgs_star (nd : X.N.Nodup) (j : Nat) : ∀ (is : List Nat) (xs : List Expr), tgStar X.fn X.N X.env.scope j is xs = true → PGs X xs (gAll (is ++ [j])) ∧ (assignEach xs X.env).length = is.length + 1 ∧ (assignEach xs X.env).findIdx? (·.1) = some is.length
  | [], [], h => by simp [tgStar] at h
  | [], x :: y :: xs, h => by
    unfold tgStar at h
    split at h
    · rename_i e; cases e
    · rename_i e1 e2; cases e1
    · cases h
  | [], [x], h => by
    cases x with
    | Starred y q =>
      cases y with
      | Name z p =>
        have h : nmC X.fn X.N X.env.scope j z = true := by simpa only [tgStar] using h
        obtain ⟨n1, n2, n3⟩ := nm_of h
        have g : PGs X [.Name z p] (gCons (gName j) gNil) := pgs_cons (pg_name (pos := p) nd n1 n2 n3) pgs_nil rfl
        exact ⟨⟨fun pins s σ H vs us Q I r hq => g.run pins s σ H vs us Q I r hq⟩, rfl, rfl⟩
      | _ => simp [tgStar] at h
    | _ => simp [tgStar] at h
  | _ :: _, [], h => by simp [tgStar] at h
  | i :: is, x :: xs, h => by
    cases x with
    | Name x p =>
      simp only [tgStar, Bool.and_eq_true] at h
      obtain ⟨h1, h3⟩ := h
      obtain ⟨g1, g2, g3⟩ := pgs_star nd j is xs h3
      obtain ⟨n1, n2, n3⟩ := nm_of h1
      refine ⟨pgs_cons (pg_name nd n1 n2 n3) g1 rfl, ?_, ?_⟩
      · show (assignEach xs X.env).length + 1 = is.length + 1 + 1
        rw [g2]
      · show List.findIdx? (·.1) ((false, assign (.Name x p) X.env) :: assignEach xs X.env) = some (is.length + 1)
        rw [List.findIdx?_cons]
        simp [g3]
    | _ => simp [tgStar] at h
theorem pg_or {t : Expr} {g h : TG} (a : PG X t g) (b : PG X t h) : PG X t (fun v σ H Q => g v σ H Q ∨ h v σ H Q) := ⟨fun pins s σ H v u Q I r q => by
  rcases q with q | q
  · exact a.run pins s σ H v u Q I r q
  · exact b.run pins s σ H v u Q I r q⟩
theorem pg_tg {tg : Tg} {t : Expr} (nd : X.N.Nodup) (hc : X.calm = true) (hK : X.K = cl.K) (h : sameTg X.fn X.N X.env.scope tg t = true) : PG X t (rdG cl tg) := by
  cases tg with
  | nm i =>
    cases t with
    | Name x p =>
      simp only [sameTg] at h
      obtain ⟨n1, n2, n3⟩ := nm_of h
      refine PG.imp (pg_name nd n1 n2 n3) fun v σ H Q ⟨G, al, S, τ, m, rl, rs, rm, q⟩ => ?_
      exact q G al H _ Gr.refl rl (rs.set rm i) ⟨List.length_set .., fun j hj => by
        have : j ≠ i := by simpa [Tg.sl] using hj
        rw [List.getElem?_set_ne (Ne.symm this)]⟩
    | _ => simp [sameTg] at h
  | tp is =>
    cases t with
    | Tuple xs kk p =>
      simp only [sameTg] at h
      obtain ⟨g1, g2, g3⟩ := pgs_all nd is xs h
      refine PG.imp (pg_or (pg_tup hc g1 g2 g3) (pg_lst hc g1 g2 g3)) fun v σ H Q ⟨G, al, S, τ, m, rl, rs, rm, q⟩ => ?_
      simp only [bindTg] at q
      cases em : items S m with
      | none => rw [em] at q; exact q.elim
      | some ms =>
        rw [em] at q
        dsimp only at q
        split at q
        · rename_i τ' S' e
          split at e
          · rename_i hl
            cases e
            obtain ⟨a, vs, rfl, hv, r⟩ := items_ok rl rm em
            have fin : gAll is vs σ H Q := gAll_ok is r hl rs fun σ' rs' ag => q G al H σ' Gr.refl rl rs' ag
            rcases hv with hv | hv
            · exact .inr ⟨_, _, rfl, SqL.of hv, by rw [r.length]; exact hl, fin⟩
            · exact .inl ⟨_, _, rfl, by rw [hK]; exact hv, by rw [r.length]; exact hl, fin⟩
          · cases e
        · exact q.elim
    | _ => simp [sameTg] at h
  | st is j =>
    cases t with
    | Tuple xs kk p =>
      simp only [sameTg] at h
      obtain ⟨g1, g2, g3⟩ := pgs_star nd j is xs h
      refine PG.imp (pg_star hc g1 g2 g3) fun v σ H Q ⟨G, al, S, τ, m, rl, rs, rm, q⟩ => ?_
      simp only [bindTg] at q
      cases em : items S m with
      | none => rw [em] at q; exact q.elim
      | some ms =>
        rw [em] at q
        dsimp only at q
        by_cases hl : is.length ≤ ms.length
        · rw [if_pos hl] at q
          obtain ⟨a, vs, rfl, hv, r⟩ := items_ok rl rm em
          refine ⟨a, vs, rfl, ?_, by rw [r.length]; exact hl, fun p hp => ?_⟩
          · rcases hv with hv | hv
            · exact .inl (SqL.of hv)
            · exact .inr (by rw [hK]; exact hv)
          · have key : ∀ (mv : MV) (S1 : Sto) (G1 : Hp) (al1 : Nat → Addr), Gr G al S H G1 al1 S1 (upd H p (.lst (vs.drop is.length))) → Rl cl G1 al1 S1 (upd H p (.lst (vs.drop is.length))) → RepM cl G1 al1 S1.length (.ref p) mv →
                (∀ G' al' H' σ', Gr G al S H G' al' S1 H' → Rl cl G' al' S1 H' → RepS cl G' al' S1.length σ' ((setAll τ is (ms.take is.length)).set j (some mv)) → Agr (is ++ [j]) σ σ' → Q σ' H') →
                gAll (is ++ [j]) (vs.take is.length ++ [.ref p]) σ (upd H p (.lst (vs.drop is.length))) Q := fun mv S1 G1 al1 g1 rl1 rp q => by
              refine gAll_ok (is ++ [j]) (ms := ms.take is.length ++ [mv]) (((r.take _).gr g1).append (.cons rp .nil)) ?_ (rs.gr g1) fun σ' rs' ag => q G1 al1 _ σ' g1 rl1 ?_ ag
              · simp [Nat.min_eq_left hl]
              · rw [setAll_snoc] at rs'
                · exact rs'
                · simp [Nat.min_eq_left hl]
            unfold newL at q
            by_cases hz : szOk (ms.drop is.length).length = true
            · rw [if_pos hz] at q
              rw [if_neg Bool.false_ne_true] at q
              cases ed : allD (ms.drop is.length) with
              | some ds =>
                rw [ed] at q
                exact key _ _ _ _ (Gr.newG rl hp) (rl.newG hp) (.d (.lst upd_same (fun _ => rl.nbw hp) (((r.drop _).all ed).mono (Ex.new (rl.ex.back hp))))) q
              | none =>
                rw [ed] at q
                refine key _ _ _ _ (Gr.newC hp) (rl.newC hp rfl (.lst (r.drop _))) ?_ q
                have := RepM.c (cl := cl) (G := G) (al := alw al S.length p) (n := (S ++ [Cell.lst (ms.drop is.length)]).length) S.length (by simp)
                rw [alw_new] at this
                exact this
            · rw [if_neg hz] at q; exact q.elim
        · rw [if_neg hl] at q; exact q.elim
    | _ => simp [sameTg] at h
end
end Mi
namespace Mi
open PySem L2 PyProof.Rows

/-! ### what is walked -/
/-- the iterator J gives the items ms, from the state (G, al, n) on -/
def Jw (cl : Wd) (J : L2.It) (G : Hp) (al : Nat → Addr) (n : Nat) (ms : List MV) : Prop :=
  ∀ (i : Nat) (G' : Hp) (al' : Nat → Addr) (S' : Sto) (H' : Hp), Rl cl G' al' S' H' → Ex G G' → n ≤ S'.length → (∀ j, j < n → al' j = al j) →
    (∀ m, ms[i]? = some m → J.go i H' ∧ ∀ x H'', J.yld i H' x H'' → ∃ G'', Gr G' al' S' H' G'' al' S' H'' ∧ Rl cl G'' al' S' H'' ∧ RepM cl G'' al' S'.length x m) ∧ (ms.length = i → J.stop i H')
def rdI (cl : Wd) (W : WX) (f : Slots → Sto → R (List MV)) : TI := fun σ H Rr => ∃ G al S τ, Rl cl G al S H ∧ RepS cl G al S.length σ τ ∧
  Pst cl G al S H (f τ S) (fun G' al' S' H' ms => ∀ J, Jw cl J G' al' S'.length ms → Rr J H') (WE W σ)
/-- a sequence that stands still -/
def SqG (k : Bool) (cl : Wd) (G : Hp) (a : Addr) (vs : List V) : Prop := match k with
  | false => G a = some (.lst vs)
  | true => SqT cl.K G a vs
section
variable {cl : Wd} {G G' H' : Hp} {al : Nat → Addr} {n : Nat} {vs ws : List V} {ms ns : List MV} {a b : Addr} {k l : Bool}
theorem SqG.mono (h : SqG k cl G a vs) (e : Ex G G') : SqG k cl G' a vs := by
  cases k
  · exact e _ _ h
  · exact e.sqt h
theorem SqG.sq (h : SqG k cl G a vs) {K : PySem.W.Frag} (hK : K = cl.K) (e : Ex G H') : SqK k K H' a vs := by
  subst hK
  cases k
  · exact SqL.of (e _ _ h)
  · exact e.sqt h
theorem jw_list {K : PySem.W.Frag} (h : G a = some (.lst vs)) (r : RepMs cl G al n vs ms) : Jw cl (Itl K a) G al n ms := by
  intro i G' al' S' H' rl e hn ha
  have hH : H' a = some (.lst vs) := rl.ex _ _ (e _ _ h)
  refine ⟨fun m em => ?_, fun hl => ⟨vs, SqL.of hH, by rw [r.length]; omega⟩⟩
  obtain ⟨v, e1, r1⟩ := r.get em
  refine ⟨⟨vs, v, SqL.of hH, e1⟩, fun x H'' y => ?_⟩
  obtain ⟨e2, y⟩ := y
  subst e2
  have := y vs (SqL.of hH)
  rw [e1] at this
  cases this
  exact ⟨G', Gr.refl, rl, r1.mono e hn ha⟩
theorem jw_tup {K : PySem.W.Frag} (hK : K = cl.K) (h : SqT cl.K G a vs) (r : RepMs cl G al n vs ms) : Jw cl (Itt K a) G al n ms := by
  intro i G' al' S' H' rl e hn ha
  subst hK
  have hH : SqT cl.K H' a vs := rl.ex.sqt (e.sqt h)
  refine ⟨fun m em => ?_, fun hl => ⟨vs, hH, by rw [r.length]; omega⟩⟩
  obtain ⟨v, e1, r1⟩ := r.get em
  refine ⟨⟨vs, v, hH, e1⟩, fun x H'' y => ?_⟩
  obtain ⟨e2, y⟩ := y
  subst e2
  have := y vs hH
  rw [e1] at this
  cases this
  exact ⟨G', Gr.refl, rl, r1.mono e hn ha⟩
theorem jw_range {lo : Int} {hi : Int} : Jw cl (Itr lo (hi - lo).toNat) G al n (rangeL lo hi) := by
  intro i G' al' S' H' rl e hn ha
  have hlen : (rangeL lo hi).length = (hi - lo).toNat := by simp [rangeL]
  refine ⟨fun m em => ?_, fun hl => by rw [hlen] at hl; exact Nat.le_of_eq hl⟩
  have hlt : i < (hi - lo).toNat := by
    have := (List.getElem?_eq_some_iff.mp em).1
    rw [hlen] at this; exact this
  refine ⟨hlt, fun x H'' y => ?_⟩
  obtain ⟨e2, y⟩ := y
  subst e2 y
  have em' : m = .d (.int (lo + (i : Int))) := by
    simp only [rangeL, List.getElem?_map, List.getElem?_range hlt, Option.map_some, Option.some.injEq] at em
    exact em.symm
  subst em'
  exact ⟨G', Gr.refl, rl, .d (.int _)⟩
theorem jw_range3 {lo hi c : Int} : Jw cl (Itc lo c ((hi - lo + c - 1) / c).toNat) G al n (range3L lo hi c) := by
  intro i G' al' S' H' rl e hn ha
  have hlen : (range3L lo hi c).length = ((hi - lo + c - 1) / c).toNat := by simp [range3L]
  refine ⟨fun m em => ?_, fun hl => by rw [hlen] at hl; exact Nat.le_of_eq hl⟩
  have hlt : i < ((hi - lo + c - 1) / c).toNat := by
    have := (List.getElem?_eq_some_iff.mp em).1
    rw [hlen] at this; exact this
  refine ⟨hlt, fun x H'' y => ?_⟩
  obtain ⟨e2, y⟩ := y
  subst e2 y
  have em' : m = .d (.int (lo + (i : Int) * c)) := by
    simp only [range3L, List.getElem?_map, List.getElem?_range hlt, Option.map_some, Option.some.injEq] at em
    exact em.symm
  subst em'
  exact ⟨G', Gr.refl, rl, .d (.int _)⟩
theorem enumL_get : ∀ (ms : List MV) (j i : Nat), (enumL j ms)[i]? = (ms[i]?).map fun m => tupV [.d (.int ((j + i : Nat) : Int)), m]
  | [], j, i => by simp [enumL]
  | m :: ms, j, 0 => by simp [enumL]
  | m :: ms, j, i + 1 => by
    simp only [enumL, List.getElem?_cons_succ]
    rw [enumL_get ms (j + 1) i]
    congr 1
    funext m
    congr 5
    omega
theorem enumL_length : ∀ (ms : List MV) (j : Nat), (enumL j ms).length = ms.length
  | [], j => rfl
  | m :: ms, j => by simp [enumL, enumL_length ms]
theorem jw_enum {K : PySem.W.Frag} (hK : K = cl.K) (h : SqG k cl G a vs) (r : RepMs cl G al n vs ms) : Jw cl (Ite2 k K a) G al n (enumL 0 ms) := by
  intro i G' al' S' H' rl e hn ha
  have hH : SqK k K H' a vs := (h.mono e).sq hK rl.ex
  refine ⟨fun m em => ?_, fun hl => ⟨vs, hH, by rw [r.length]; rw [enumL_length] at hl; exact hl⟩⟩
  rw [enumL_get, Option.map_eq_some_iff] at em
  obtain ⟨m', em', rfl⟩ := em
  obtain ⟨v, e1, r1⟩ := r.get em'
  refine ⟨⟨vs, v, hH, e1⟩, fun x H'' y => ?_⟩
  obtain ⟨T, x', rfl, hT, rfl, y⟩ := y
  have := y vs hH
  rw [e1] at this
  cases this
  refine ⟨_, Gr.newG rl hT, rl.newG hT, .tupV upd_same (.cons (.d ?_) (.cons ((r1.mono e hn ha).mono (Ex.new (rl.ex.back hT)) (Nat.le_refl _) fun _ _ => rfl) .nil))⟩
  rw [Nat.zero_add]; exact .int _
theorem zipL_get : ∀ (xs ys : List MV) (i : Nat), (zipL xs ys)[i]? = match xs[i]?, ys[i]? with
    | some x, some y => some (tupV [x, y])
    | _, _ => none
  | [], ys, i => by cases ys <;> simp [zipL]
  | x :: xs, [], i => by simp only [zipL]; cases h : (x :: xs)[i]? <;> simp
  | x :: xs, y :: ys, 0 => by simp [zipL]
  | x :: xs, y :: ys, i + 1 => by simp only [zipL, List.getElem?_cons_succ]; exact zipL_get xs ys i
theorem zipL_length : ∀ (xs ys : List MV), (zipL xs ys).length = min xs.length ys.length
  | [], ys => by cases ys <;> simp [zipL]
  | x :: xs, [] => by simp [zipL]
  | x :: xs, y :: ys => by simp only [zipL, List.length_cons, zipL_length xs ys]; omega
theorem jw_zip {K : PySem.W.Frag} (hK : K = cl.K) (h : SqG k cl G a vs) (r : RepMs cl G al n vs ms) (h2 : SqG l cl G b ws) (r2 : RepMs cl G al n ws ns) : Jw cl (Itz2 k l K a b) G al n (zipL ms ns) := by
  intro i G' al' S' H' rl e hn ha
  have hH : SqK k K H' a vs := (h.mono e).sq hK rl.ex
  have hH2 : SqK l K H' b ws := (h2.mono e).sq hK rl.ex
  refine ⟨fun m em => ?_, fun hl => ⟨vs, ws, hH, hH2, by rw [r.length, r2.length]; rw [zipL_length] at hl; exact hl⟩⟩
  rw [zipL_get] at em
  cases e1 : ms[i]? with
  | none => rw [e1] at em; cases em
  | some x =>
    cases e2 : ns[i]? with
    | none => rw [e1, e2] at em; cases em
    | some y =>
      rw [e1, e2] at em
      cases em
      obtain ⟨v, g1, q1⟩ := r.get e1
      obtain ⟨w, g2, q2⟩ := r2.get e2
      refine ⟨⟨vs, ws, v, w, hH, hH2, g1, g2⟩, fun x H'' z => ?_⟩
      obtain ⟨T, v', w', rfl, hT, rfl, z1, z2⟩ := z
      have t1 := z1 vs hH
      rw [g1] at t1; cases t1
      have t2 := z2 ws hH2
      rw [g2] at t2; cases t2
      have x0 := Ex.new (o := .tup [v, w]) (rl.ex.back hT)
      exact ⟨_, Gr.newG rl hT, rl.newG hT, .tupV upd_same (.cons ((q1.mono e hn ha).mono x0 (Nat.le_refl _) fun _ _ => rfl) (.cons ((q2.mono e hn ha).mono x0 (Nat.le_refl _) fun _ _ => rfl) .nil))⟩
end

/-- walked: a list or tuple stands still -/
theorem walked_ok {cl : Wd} {G H : Hp} {al : Nat → Addr} {S : Sto} {v : V} {m : MV} {ok : Hp → (Nat → Addr) → Sto → Hp → List MV → Prop} {E : XK} (rl : Rl cl G al S H) (h : RepM cl G al S.length v m) (q : Pst cl G al S H (walked m S) ok E) :
    ∃ G' S' ms a vs k, walked m S = .ok ms S' ∧ Gr G al S H G' al S' H ∧ Rl cl G' al S' H ∧ v = .ref a ∧ SqG k cl G' a vs ∧ RepMs cl G' al S'.length vs ms := by
  cases h with
  | d h =>
    cases h with
    | lst h t r => exact ⟨G, S, _, _, _, false, rfl, Gr.refl, rl, rfl, h, .ofL r⟩
    | tup h r => exact ⟨G, S, _, _, _, true, rfl, Gr.refl, rl, rfl, h, .ofL r⟩
    | _ => exact q.elim
  | t h r => exact ⟨G, S, _, _, _, true, rfl, Gr.refl, rl, rfl, SqT.of h, r⟩
  | c i hi =>
    simp only [walked] at q ⊢
    cases hc : S[i]? with
    | none => rw [hc] at q; exact q.elim
    | some c =>
      rw [hc] at q
      cases c with
      | ins c fs => exact q.elim
      | lst ms =>
        obtain ⟨h0, hb, o, h2, h3⟩ := rl.live i _ hc rfl
        cases h3 with
        | lst h3 =>
          rename_i vs
          have x := Ex.new (o := .lst vs) h0
          dsimp only
          cases ed : allD ms with
          | some ds =>
            exact ⟨_, _, ms, _, vs, false, rfl, Gr.fz_ rl hc rfl rfl, rl.fz hc rfl h2 rfl (.lst upd_same (fun _ => hb) ((h3.all ed).mono x)), rfl, upd_same, by rw [List.length_set]; exact h3.mono x (Nat.le_refl _) fun _ _ => rfl⟩
          | none =>
            exact ⟨_, _, ms, _, vs, false, rfl, Gr.fz_ rl hc rfl rfl, rl.fz hc rfl h2 rfl ⟨vs, upd_same, hb, h3.mono x (Nat.le_refl _) fun _ _ => rfl⟩, rfl, upd_same, by rw [List.length_set]; exact h3.mono x (Nat.le_refl _) fun _ _ => rfl⟩
      | fl ms =>
        obtain ⟨vs, h1, _, h3⟩ := rl.flz i _ hc
        exact ⟨G, S, ms, _, vs, false, rfl, Gr.refl, rl, rfl, h1, h3⟩
      | froz d =>
        cases d with
        | lst t xs =>
          have := rl.froz i _ hc
          cases this with
          | lst h _ r => exact ⟨G, S, _, _, _, false, rfl, Gr.refl, rl, rfl, h, .ofL r⟩
        | _ => exact q.elim

section
variable {X : Cx} {cl : Wd} {W : WX} {tg : Expr}
theorem pi_seq {e : Expr} {f : Slots → Sto → R MV} (hK : X.K = cl.K) (he : PE X e (rd cl W f)) : PI X tg e (rdI cl W fun τ S => (f τ S).bind fun v S1 => walked v S1) := by
  refine ⟨fun pins s σ H Rr I h => ?_⟩
  obtain ⟨G, al, S, τ, rl, rs, p⟩ := h
  have q : rd cl W f σ H (fun v H1 => ∃ a vs, v = .ref a ∧ ((H1 a = some (.lst vs) ∧ Rr (Itl X.K a) H1) ∨ (SqT X.K H1 a vs ∧ Rr (Itt X.K a) H1))) := by
    refine ⟨G, al, S, τ, rl, rs, p.bind.imp fun G1 al1 S1 H1 m g1 rl1 q v rm => ?_⟩
    obtain ⟨G2, S2, ms, a, vs, k, e2, g2, rl2, ev, hv, r2⟩ := walked_ok rl1 rm q
    rw [e2] at q
    have fin := q G2 al1 H1 g2 rl2
    refine ⟨a, vs, ev, ?_⟩
    cases k with
    | false => exact .inl ⟨rl2.ex _ _ hv, fin _ (jw_list hv r2)⟩
    | true => exact .inr ⟨by rw [hK]; exact rl2.ex.sqt hv, fin _ (jw_tup hK hv r2)⟩
  refine thn (he.run pins s σ H _ I q) fun v s1 ⟨x, H1, I1, r1, a, vs, ex, q1⟩ => ?_
  subst ex
  cases r1
  rcases q1 with ⟨hv, q1⟩ | ⟨hv, q1⟩
  · obtain ⟨its, rv, p, hz⟩ := I1.list (SqL.of hv)
    refine wpAny_pyIter_list p.isList ?_
    refine ⟨s1.heap.objs.size, [s1.heap.objs.size], _, _, H1, rfl, I1.kept (t' := s1.toks) fun b o e => Heap.get?_push_of_some _ e, turn_list a _, ⟨_, Heap.get?_push_size _ rfl, rfl, rfl⟩, fun b hb => ?_, q1⟩
    have e : b = s1.heap.objs.size := by simpa using hb
    subst e
    exact I1.fpOk (Nat.le_refl _) (I1.hok.fresh (Nat.le_refl _))
  · obtain ⟨its, rv, p, hz⟩ := I1.tuple hv
    refine wpAny_pyIter_tuple (show s1.heap.IsTuple a its.toArray from p) ?_
    refine ⟨s1.heap.objs.size, [s1.heap.objs.size], _, _, H1, rfl, I1.kept (t' := s1.toks) fun b o e => Heap.get?_push_of_some _ e, turn_tuple a _, ⟨_, Heap.get?_push_size _ rfl, rfl, rfl⟩, fun b hb => ?_, q1⟩
    have e : b = s1.heap.objs.size := by simpa using hb
    subst e
    exact I1.fpOk (Nat.le_refl _) (I1.hok.fresh (Nat.le_refl _))
end

section
variable {cl : Wd} {G G0 : Hp} {al al0 : Nat → Addr} {S S0 : Sto} {H H0 : Hp} {p : Addr} {o : HO}
/-- the list is done: newL over a place that is filled -/
theorem newL_in {cell : Bool} {ms : List MV} {vs : List V} {E : XK} {Q : VK} (rl : Rl cl G al S H) (x : Out cl G al S p) (h : H p = some (.lst vs)) (r : RepMs cl G al S.length vs ms) (g : Gr G0 al0 S0 H0 G al S H) (hp : H0 p = none)
    (q : Pst cl G0 al0 S0 H0 (newL cell ms S) (Vk cl Q) E) : Q (.ref p) H := by
  unfold newL at q
  split at q
  · have cellq : Pst cl G0 al0 S0 H0 (.ok (.c S.length) (S ++ [.lst ms])) (Vk cl Q) E → Q (.ref p) H := fun q => by
      refine q _ (alw al S.length p) _ (g.inC hp) (rl.inC x h rfl (.lst r)) _ ?_
      have := RepM.c (cl := cl) (G := G) (al := alw al S.length p) (n := (S ++ [Cell.lst ms]).length) S.length (by simp)
      rw [alw_new] at this
      exact this
    split at q
    · exact cellq q
    · split at q
      · rename_i ds ed
        exact q _ _ _ (g.inG x hp) (rl.inG x h) _ (.d (.lst upd_same (fun _ => x.2.1) ((r.all ed).mono (Ex.new x.1))))
      · exact cellq q
  · exact q.elim
end

/-! ### the comprehension -/
section
variable {cl : Wd} {W : WX}
theorem wipe_get : ∀ (is : List Nat) (σ : L2.St) (j : Nat), (L2.wipe σ is)[j]? = if j ∈ is ∧ j < σ.length then some none else σ[j]? := by
  intro is
  induction is with
  | nil => intro σ j; simp [L2.wipe]
  | cons i is ih =>
    intro σ j
    show ((L2.wipe σ is).set i none)[j]? = _
    rw [List.getElem?_set]
    by_cases hij : i = j
    · subst hij
      by_cases hl : i < σ.length
      · simp [wipe_length, hl]
      · simp [wipe_length, hl]
    · rw [if_neg hij, ih]
      have : j ≠ i := fun z => hij z.symm
      simp [this]
theorem wipe_agr {is vs : List Nat} {σ σ' : L2.St} (a : Agr is (L2.wipe σ vs) σ') (h : ∀ j ∈ is, j ∈ vs) : L2.wipe σ' vs = L2.wipe σ vs := by
  have hl : σ'.length = σ.length := a.1.trans (wipe_length σ vs)
  apply List.ext_getElem?
  intro j
  rw [wipe_get, hl]
  by_cases hj : j ∈ vs ∧ j < σ.length
  · rw [if_pos hj, wipe_get, if_pos hj]
  · rw [if_neg hj]
    by_cases hv : j ∈ vs
    · have : ¬ j < σ.length := fun z => hj ⟨hv, z⟩
      rw [List.getElem?_eq_none (by omega), List.getElem?_eq_none (by rw [wipe_length]; omega)]
    · exact a.2 j fun z => hv (h j z)

theorem lcGo_end {fe : Slots → Sto → R MV} {fc : Slots → Sto → R Bool} {tg : Tg} {σ : Slots} : ∀ (xs acc : List MV) (S : Sto), lcGo fe fc tg σ xs acc S = .stuck ∨ ∃ ys S', lcGo fe fc tg σ xs acc S = .ok ys S' ∧ acc.length ≤ ys.length
  | [], acc, S => .inr ⟨acc.reverse, S, rfl, by simp⟩
  | x :: xs, acc, S => by
    simp only [lcGo]
    split
    · split
      · split
        · rename_i y S1 _
          rcases lcGo_end (fe := fe) (fc := fc) (tg := tg) (σ := σ) xs (y :: acc) S1 with h | ⟨ys, S', h, hl⟩
          · exact .inl h
          · exact .inr ⟨ys, S', h, by simp at hl; omega⟩
        · exact .inl rfl
      · exact lcGo_end xs acc _
      · exact .inl rfl
    · exact .inl rfl
theorem lcGo2_end {fe : Slots → Sto → R MV} {it2 : Slots → Sto → R (List MV)} {tg tg2 : Tg} {w2 : List Nat} {wp : Slots → List Nat → Slots} {σ : Slots} : ∀ (xs acc : List MV) (S : Sto), lcGo2 fe it2 tg tg2 w2 wp σ xs acc S = .stuck ∨ ∃ ys S', lcGo2 fe it2 tg tg2 w2 wp σ xs acc S = .ok ys S' ∧ acc.length ≤ ys.length
  | [], acc, S => .inr ⟨acc.reverse, S, rfl, by simp⟩
  | x :: xs, acc, S => by
    simp only [lcGo2]
    cases eb : bindTg tg σ x S with
    | stuck => exact .inl rfl
    | exc c f S' => exact .inl rfl
    | ok σ1 S0 =>
      dsimp only
      cases ei : it2 σ1 S0 with
      | stuck => exact .inl rfl
      | exc c f S' => exact .inl rfl
      | ok ys S1 =>
        dsimp only
        rcases lcGo_end (fe := fe) (fc := fun _ S => .ok true S) (tg := tg2) (σ := wp σ1 w2) ys acc S1 with h | ⟨zs, S', h, hl⟩
        · rw [h]; exact .inl rfl
        · rw [h]
          rcases lcGo2_end (fe := fe) (it2 := it2) (tg := tg) (tg2 := tg2) (w2 := w2) (wp := wp) (σ := σ) xs zs.reverse S' with h | ⟨ys, S', h, hl2⟩
          · exact .inl h
          · exact .inr ⟨ys, S', h, by simp at hl2; omega⟩
/-- what comes behind is short enough -/
theorem sz_of {r : R (List MV)} {m : Nat} {cell : Bool} {G : Hp} {al : Nat → Addr} {S0 : Sto} {H : Hp} {ok : Hp → (Nat → Addr) → Sto → Hp → MV → Prop} {E : XK} (he : r = .stuck ∨ ∃ ys S', r = .ok ys S' ∧ m + 1 ≤ ys.length)
    (q : Pst cl G al S0 H (r.bind fun ys S2 => newL cell ys S2) ok E) : m < sizeLine := by
  rcases he with h | ⟨ys, S', h, hl⟩
  · rw [h] at q; exact q.elim
  · rw [h] at q
    simp only [R.bind_ok, newL] at q
    split at q
    · rename_i hz
      have := sz_ok hz
      omega
    · exact q.elim
/-- the test of a comprehension -/
def tCd (cl : Wd) (cd : Option (Slots → Sto → R Bool)) : TT := match cd with
  | none => tYes
  | some f => rdT cl W0 f
def cdF (cd : Option (Slots → Sto → R Bool)) : Slots → Sto → R Bool := match cd with
  | none => fun _ S => .ok true S
  | some f => f
theorem cd_of {cd : Option (Slots → Sto → R Bool)} {G : Hp} {al : Nat → Addr} {S : Sto} {τ : Slots} {σ : L2.St} {H : Hp} {Q : Bool → Hp → Prop} (rl : Rl cl G al S H) (rs : RepS cl G al S.length σ τ) (p : Pst cl G al S H (cdF cd τ S) (Bk Q) (WE W0 σ)) : tCd cl cd σ H Q := by
  cases cd with
  | none => exact p.now rl
  | some f => exact ⟨G, al, S, τ, rl, rs, p⟩
/-- the comprehension: from its items on -/
theorem lc_of {fi : Slots → Sto → R (List MV)} {fe : Slots → Sto → R MV} {cd : Option (Slots → Sto → R Bool)} {tg : Tg} {vs : List Nat} {cell : Bool} {σ : L2.St} {H : Hp} {Q : VK} (hs : ∀ j ∈ tg.sl, j ∈ vs)
    (h : rd cl W (fun τ S => (fi τ S).bind fun ms S1 => (lcGo fe (cdF cd) tg (wipeM τ vs) ms [] S1).bind fun ys S2 => newL cell ys S2) σ H Q) :
    tLc (rdI cl W fi) (rdG cl tg) (tCd cl cd) (rd cl W0 fe) vs σ H Q := by
  obtain ⟨G0, al0, S0, τ, rl0, rs0, p⟩ := h
  refine ⟨G0, al0, S0, τ, rl0, rs0, p.bind.imp fun G1 al1 S1 H1 ms g1 rl1 q J jw => fun D hD => ?_⟩
  have rs1 : RepS cl G1 al1 S1.length (L2.wipe σ vs) (wipeM τ vs) := (rs0.gr g1).wipe vs
  have jw' := jw
  refine ⟨fun i m H' => ∃ G al S acc av, m = ms.length - i ∧ i ≤ ms.length ∧ Gr G1 al1 S1 H1 G al S H' ∧ Rl cl G al S H' ∧ Out cl G al S D ∧ H' D = some (.lst av) ∧ RepMs cl G al S.length av acc.reverse ∧
      Pst cl G1 al1 S1 H1 ((lcGo fe (cdF cd) tg (wipeM τ vs) (ms.drop i) acc S).bind fun ys S2 => newL cell ys S2) (Vk cl Q) (WE W σ), ?_, ?_⟩
  · refine ⟨ms.length, G1, al1, S1, [], [], by simp, Nat.zero_le _, Gr.refl.out hD, rl1.out (Out.of rl1 hD), Out.of rl1 hD, upd_same, .nil, ?_⟩
    rw [List.drop_zero]; exact q
  · rintro i m H' ⟨G, al, S, acc, av, rfl, hi, g, rl, out, hv, ra, q⟩
    obtain ⟨jgo, jst⟩ := jw' i G al S H' rl g.fz g.len g.at_
    by_cases hlt : i < ms.length
    · right
      have e1 : ms[i]? = some ms[i] := List.getElem?_eq_getElem hlt
      rw [List.drop_eq_getElem_cons hlt] at q
      obtain ⟨go, jy⟩ := jgo _ e1
      refine ⟨go, fun H2 => ∃ m', m' < ms.length - i ∧ ∃ G al S acc av, m' = ms.length - (i + 1) ∧ i + 1 ≤ ms.length ∧ Gr G1 al1 S1 H1 G al S H2 ∧ Rl cl G al S H2 ∧ Out cl G al S D ∧ H2 D = some (.lst av) ∧ RepMs cl G al S.length av acc.reverse ∧
        Pst cl G1 al1 S1 H1 ((lcGo fe (cdF cd) tg (wipeM τ vs) (ms.drop (i + 1)) acc S).bind fun ys S2 => newL cell ys S2) (Vk cl Q) (WE W σ), fun H2 h2 => h2, fun x H'' y => ?_⟩
      obtain ⟨G2, g2, rl2, rx⟩ := jy x H'' y
      obtain ⟨out2, hv2⟩ := out.gr hv g2
      have g02 := g.trans g2
      simp only [lcGo] at q
      refine ⟨G2, al, S, wipeM τ vs, ms[i], rl2, rs1.gr g02, rx, ?_⟩
      cases eb : bindTg tg (wipeM τ vs) ms[i] S with
      | stuck => rw [eb] at q; exact q.elim
      | exc c f S' => rw [eb] at q; exact q.elim
      | ok τ1 S2 =>
        rw [eb] at q
        dsimp only at q ⊢
        intro G3 al3 H3 σ2 g3 rl3 rs2 ag
        obtain ⟨out3, hv3⟩ := out2.gr hv2 g3
        refine ⟨wipe_agr ag hs, cd_of rl3 rs2 ?_⟩
        cases ec : cdF cd τ1 S2 with
        | stuck => rw [ec] at q; exact q.elim
        | exc c f S' => rw [ec] at q; exact q.elim
        | ok b S3 =>
          rw [ec] at q
          intro G4 al4 H4 g4 rl4
          obtain ⟨out4, hv4⟩ := out3.gr hv3 g4
          have g04 := (g02.trans g3).trans g4
          show if b = true then _ else _
          cases b with
          | false =>
            rw [if_neg Bool.false_ne_true]
            dsimp only at q
            exact ⟨ms.length - (i + 1), by omega, G4, al4, S3, acc, av, rfl, hlt, g04, rl4, out4, hv4, ((ra.gr g2).gr g3).gr g4, q⟩
          | true =>
            rw [if_pos rfl]
            dsimp only at q
            refine ⟨G4, al4, S3, τ1, rl4, rs2.gr g4, ?_⟩
            cases ey : fe τ1 S3 with
            | stuck => rw [ey] at q; exact q.elim
            | exc c f S' => rw [ey] at q; exact q.elim
            | ok y S5 =>
              rw [ey] at q
              intro G5 al5 H5 g5 rl5 v rv
              obtain ⟨out5, hv5⟩ := out4.gr hv4 g5
              have hz : av.length < sizeLine := by
                rw [ra.length, List.length_reverse]
                refine sz_of ?_ q
                simpa using lcGo_end (fe := fe) (fc := cdF cd) (tg := tg) (σ := wipeM τ vs) (ms.drop (i + 1)) (y :: acc) S5
              refine ⟨av, hv5, hz, ms.length - (i + 1), by omega, G5, al5, S5, y :: acc, av ++ [v], rfl, hlt, (g04.trans g5).out hD, rl5.out out5, out5, upd_same, ?_, q⟩
              rw [List.reverse_cons]
              exact ((((ra.gr g2).gr g3).gr g4).gr g5).append (.cons rv .nil)
    · left
      have hi' : i = ms.length := by omega
      subst hi'
      refine ⟨jst rfl, ?_⟩
      rw [List.drop_length] at q
      simp only [lcGo, R.bind_ok] at q
      exact newL_in rl out hv ra g hD q
/-- what was known stays known -/
structure Gw (G : Hp) (al : Nat → Addr) (S : Sto) (G' : Hp) (al' : Nat → Addr) (S' : Sto) : Prop where
  fz : Ex G G'
  len : S.length ≤ S'.length
  at_ : ∀ i, i < S.length → al' i = al i
theorem Gw.refl {G : Hp} {al : Nat → Addr} {S : Sto} : Gw G al S G al S := ⟨Ex.refl _, Nat.le_refl _, fun _ _ => rfl⟩
theorem Gw.gr {G G1 G2 : Hp} {al al1 al2 : Nat → Addr} {S S1 S2 : Sto} {H1 H2 : Hp} (a : Gw G al S G1 al1 S1) (b : Gr G1 al1 S1 H1 G2 al2 S2 H2) : Gw G al S G2 al2 S2 :=
  ⟨a.fz.trans b.fz, Nat.le_trans a.len b.len, fun i hi => (b.at_ i (Nat.lt_of_lt_of_le hi a.len)).trans (a.at_ i hi)⟩
theorem RepS.gw {cl : Wd} {G G' : Hp} {al al' : Nat → Addr} {S S' : Sto} (g : Gw G al S G' al' S') {σ : L2.St} {τ : Slots} (h : RepS cl G al S.length σ τ) : RepS cl G' al' S'.length σ τ :=
  ⟨h.1, fun i m e => let ⟨v, a, b⟩ := h.2 i m e; ⟨v, a, b.mono g.fz g.len g.at_⟩⟩
/-- two walks -/
theorem lc2_of {fi : Slots → Sto → R (List MV)} {fe : Slots → Sto → R MV} {fi2 : Slots → Sto → R (List MV)} {tg tg2 : Tg} {vs vs2 : List Nat} {cell : Bool} {σ : L2.St} {H : Hp} {Q : VK} (hs : ∀ j ∈ tg.sl, j ∈ vs) (hs2 : ∀ j ∈ tg2.sl, j ∈ vs2)
    (h : rd cl W (fun τ S => (fi τ S).bind fun ms S1 => (lcGo2 fe fi2 tg tg2 vs2 wipeM (wipeM τ vs) ms [] S1).bind fun ys S2 => newL cell ys S2) σ H Q) :
    tLc2 (rdI cl W fi) (rdG cl tg) tYes (rdI cl W0 fi2) (rdG cl tg2) tYes (rd cl W0 fe) vs vs2 σ H Q := by
  obtain ⟨G0, al0, S0, τ, rl0, rs0, p⟩ := h
  refine ⟨G0, al0, S0, τ, rl0, rs0, p.bind.imp fun G1 al1 S1 H1 ms g1 rl1 q J jw => fun D hD => ?_⟩
  have rs1 : RepS cl G1 al1 S1.length (L2.wipe σ vs) (wipeM τ vs) := (rs0.gr g1).wipe vs
  have jw' := jw
  refine ⟨fun i m H' => ∃ G al S acc av, m = ms.length - i ∧ i ≤ ms.length ∧ Gr G1 al1 S1 H1 G al S H' ∧ Rl cl G al S H' ∧ Out cl G al S D ∧ H' D = some (.lst av) ∧ RepMs cl G al S.length av acc.reverse ∧
      Pst cl G1 al1 S1 H1 ((lcGo2 fe fi2 tg tg2 vs2 wipeM (wipeM τ vs) (ms.drop i) acc S).bind fun ys S2 => newL cell ys S2) (Vk cl Q) (WE W σ), ?_, ?_⟩
  · refine ⟨ms.length, G1, al1, S1, [], [], by simp, Nat.zero_le _, Gr.refl.out hD, rl1.out (Out.of rl1 hD), Out.of rl1 hD, upd_same, .nil, ?_⟩
    rw [List.drop_zero]; exact q
  · rintro i m H' ⟨G, al, S, acc, av, rfl, hi, g, rl, out, hv, ra, q⟩
    obtain ⟨jgo, jst⟩ := jw' i G al S H' rl g.fz g.len g.at_
    by_cases hlt : i < ms.length
    · right
      have e1 : ms[i]? = some ms[i] := List.getElem?_eq_getElem hlt
      rw [List.drop_eq_getElem_cons hlt] at q
      obtain ⟨go, jy⟩ := jgo _ e1
      refine ⟨go, fun H2 => ∃ m', m' < ms.length - i ∧ ∃ G al S acc av, m' = ms.length - (i + 1) ∧ i + 1 ≤ ms.length ∧ Gr G1 al1 S1 H1 G al S H2 ∧ Rl cl G al S H2 ∧ Out cl G al S D ∧ H2 D = some (.lst av) ∧ RepMs cl G al S.length av acc.reverse ∧
        Pst cl G1 al1 S1 H1 ((lcGo2 fe fi2 tg tg2 vs2 wipeM (wipeM τ vs) (ms.drop (i + 1)) acc S).bind fun ys S2 => newL cell ys S2) (Vk cl Q) (WE W σ), fun H2 h2 => h2, fun x H'' y => ?_⟩
      obtain ⟨G2, g2, rl2, rx⟩ := jy x H'' y
      obtain ⟨out2, hv2⟩ := out.gr hv g2
      have g02 := g.trans g2
      simp only [lcGo2] at q
      refine ⟨G2, al, S, wipeM τ vs, ms[i], rl2, rs1.gr g02, rx, ?_⟩
      cases eb : bindTg tg (wipeM τ vs) ms[i] S with
      | stuck => rw [eb] at q; exact q.elim
      | exc c f S' => rw [eb] at q; exact q.elim
      | ok τ1 S2 =>
        rw [eb] at q
        dsimp only at q ⊢
        intro G3 al3 H3 σ2 g3 rl3 rs2 ag
        obtain ⟨out3, hv3⟩ := out2.gr hv2 g3
        refine ⟨wipe_agr ag hs, ?_⟩
        unfold tYes
        dsimp only
        rw [if_pos rfl]
        refine ⟨G3, al3, S2, τ1, rl3, rs2, ?_⟩
        cases ei : fi2 τ1 S2 with
        | stuck => rw [ei] at q; exact q.elim
        | exc c f S' => rw [ei] at q; exact q.elim
        | ok ns S3 =>
          rw [ei] at q
          intro G4 al4 H4 g4 rl4 J2 jw2
          obtain ⟨out4, hv4⟩ := out3.gr hv3 g4
          have g04 := (g02.trans g3).trans g4
          have rs3 : RepS cl G4 al4 S3.length (L2.wipe σ2 vs2) (wipeM τ1 vs2) := (rs2.gr g4).wipe vs2
          refine ⟨fun j k H5 => ∃ G al S acc av, k = ns.length - j ∧ j ≤ ns.length ∧ Gw G4 al4 S3 G al S ∧ Gr G1 al1 S1 H1 G al S H5 ∧ Rl cl G al S H5 ∧ Out cl G al S D ∧ H5 D = some (.lst av) ∧ RepMs cl G al S.length av acc.reverse ∧
            Pst cl G1 al1 S1 H1 ((match lcGo fe (fun _ S => .ok true S) tg2 (wipeM τ1 vs2) (ns.drop j) acc S with
              | .ok zs S2 => lcGo2 fe fi2 tg tg2 vs2 wipeM (wipeM τ vs) (ms.drop (i + 1)) zs.reverse S2
              | _ => .stuck).bind fun ys S2 => newL cell ys S2) (Vk cl Q) (WE W σ), ?_, ?_⟩
          · refine ⟨ns.length, G4, al4, S3, acc, av, by simp, Nat.zero_le _, Gw.refl, g04, rl4, out4, hv4, ((ra.gr g2).gr g3).gr g4, ?_⟩
            rw [List.drop_zero]; exact q
          · rintro j k H5 ⟨G5, al5, S5, acc5, av5, rfl, hj, g45, g15, rl5, out5, hv5, ra5, q5⟩
            obtain ⟨jgo2, jst2⟩ := jw2 j G5 al5 S5 H5 rl5 g45.fz g45.len g45.at_
            by_cases hlt2 : j < ns.length
            · right
              have e2 : ns[j]? = some ns[j] := List.getElem?_eq_getElem hlt2
              rw [List.drop_eq_getElem_cons hlt2] at q5
              obtain ⟨go2, jy2⟩ := jgo2 _ e2
              refine ⟨go2, fun H6 => ∃ m', m' < ns.length - j ∧ ∃ G al S acc av, m' = ns.length - (j + 1) ∧ j + 1 ≤ ns.length ∧ Gw G4 al4 S3 G al S ∧ Gr G1 al1 S1 H1 G al S H6 ∧ Rl cl G al S H6 ∧ Out cl G al S D ∧ H6 D = some (.lst av) ∧ RepMs cl G al S.length av acc.reverse ∧
                Pst cl G1 al1 S1 H1 ((match lcGo fe (fun _ S => .ok true S) tg2 (wipeM τ1 vs2) (ns.drop (j + 1)) acc S with
                  | .ok zs S2 => lcGo2 fe fi2 tg tg2 vs2 wipeM (wipeM τ vs) (ms.drop (i + 1)) zs.reverse S2
                  | _ => .stuck).bind fun ys S2 => newL cell ys S2) (Vk cl Q) (WE W σ), fun H2 h2 => h2, fun x2 H6 y2 => ?_⟩
              obtain ⟨G6, g6, rl6, rx6⟩ := jy2 x2 H6 y2
              obtain ⟨out6, hv6⟩ := out5.gr hv5 g6
              have g46 := g45.gr g6
              have g16 := g15.trans g6
              simp only [lcGo] at q5
              refine ⟨G6, al5, S5, wipeM τ1 vs2, ns[j], rl6, rs3.gw g46, rx6, ?_⟩
              cases eb2 : bindTg tg2 (wipeM τ1 vs2) ns[j] S5 with
              | stuck => rw [eb2] at q5; exact q5.elim
              | exc c f S' => rw [eb2] at q5; exact q5.elim
              | ok τ3 S6 =>
                rw [eb2] at q5
                dsimp only at q5 ⊢
                intro G7 al7 H7 σ3 g7 rl7 rs7 ag7
                obtain ⟨out7, hv7⟩ := out6.gr hv6 g7
                refine ⟨wipe_agr ag7 hs2, ?_⟩
                rw [if_pos rfl]
                refine ⟨G7, al7, S6, τ3, rl7, rs7, ?_⟩
                cases ey : fe τ3 S6 with
                | stuck => rw [ey] at q5; exact q5.elim
                | exc c f S' => rw [ey] at q5; exact q5.elim
                | ok y S8 =>
                  rw [ey] at q5
                  dsimp only at q5
                  intro G8 al8 H8 g8 rl8 v rv
                  obtain ⟨out8, hv8⟩ := out7.gr hv7 g8
                  have hz : av5.length < sizeLine := by
                    rw [ra5.length, List.length_reverse]
                    refine sz_of ?_ q5
                    rcases lcGo_end (fe := fe) (fc := fun _ S => .ok true S) (tg := tg2) (σ := wipeM τ1 vs2) (ns.drop (j + 1)) (y :: acc5) S8 with h | ⟨zs, S9, h, hl⟩
                    · rw [h]; exact .inl rfl
                    · rw [h]
                      rcases lcGo2_end (fe := fe) (it2 := fi2) (tg := tg) (tg2 := tg2) (w2 := vs2) (wp := wipeM) (σ := wipeM τ vs) (ms.drop (i + 1)) zs.reverse S9 with h | ⟨ys, S', h, hl2⟩
                      · exact .inl h
                      · exact .inr ⟨ys, S', h, by simp at hl2 hl; omega⟩
                  refine ⟨av5, hv8, hz, ns.length - (j + 1), by omega, G8, al8, S8, y :: acc5, av5 ++ [v], rfl, hlt2, (g46.gr g7).gr g8, ((g16.trans g7).trans g8).out hD, rl8.out out8, out8, upd_same, ?_, q5⟩
                  · rw [List.reverse_cons]
                    exact (((ra5.gr g6).gr g7).gr g8).append (.cons rv .nil)
            · left
              have hj' : j = ns.length := by omega
              subst hj'
              refine ⟨jst2 rfl, ms.length - (i + 1), by omega, G5, al5, S5, acc5, av5, rfl, hlt, g15, rl5, out5, hv5, ra5, ?_⟩
              rw [List.drop_length] at q5
              simp only [lcGo, List.reverse_reverse] at q5
              exact q5
    · left
      have hi' : i = ms.length := by omega
      subst hi'
      refine ⟨jst rfl, ?_⟩
      rw [List.drop_length] at q
      simp only [lcGo2, R.bind_ok] at q
      exact newL_in rl out hv ra g hD q
end
end Mi
namespace Mi
open PySem L2 PyProof.Rows

section
variable {X : Cx} {cl : Wd} {W : WX}
/-- operations whose wish hangs on the slots -/
theorem pe_opE {a b : Expr} {ta tb : TE} {op : Operator} {r : XK → R2} {pos : Pos} (ho : ∀ E, OpR X (binaryOp op) (r E)) (ha : PE X a ta) (hb : PE X b tb) : PE X (.BinOp a op b pos) (fun σ H Q => tOp (r (WE W σ)) ta tb σ H Q) :=
  ⟨fun pins s σ H Q I h => (pe_op (ho (WE W σ)) ha hb).run pins s σ H Q I h⟩
theorem pe_unE {a : Expr} {ta : TE} {op : UnaryOp} {r : XK → V → Hp → VK → Prop} {pos : Pos} (ho : ∀ E, UnR X (unaryOp op) (r E)) (ha : PE X a ta) : PE X (.UnaryOp op a pos) (fun σ H Q => tUn (r (WE W σ)) ta σ H Q) :=
  ⟨fun pins s σ H Q I h => (pe_un (ho (WE W σ)) ha).run pins s σ H Q I h⟩
theorem pe_cmpE {a b : Expr} {ta tb : TE} {op : CmpOp} {r : XK → R2} {pos : Pos} (ho : ∀ E, OpR X (compareOp op) (r E)) (ha : PE X a ta) (hb : PE X b tb) (hm : behindInMarks op b = false) : PE X (.Compare a [op] [b] pos) (fun σ H Q => tOp (r (WE W σ)) ta tb σ H Q) :=
  ⟨fun pins s σ H Q I h => (pe_cmpR (ho (WE W σ)) ha hb hm).run pins s σ H Q I h⟩
theorem pt_cmpE {a b : Expr} {ta tb : TE} {op : CmpOp} {r : XK → R2} {pos : Pos} (ho : ∀ E, OpR X (compareOp op) (r E)) (ha : PE X a ta) (hb : PE X b tb) (hm : behindInMarks op b = false) : PT X (.Compare a [op] [b] pos) (fun σ H Q => tTest (tOp (r (WE W σ)) ta tb) σ H Q) :=
  ⟨fun pins s σ H Q I h => (pt_cmpR (ho (WE W σ)) ha hb hm).run pins s σ H Q I h⟩
theorem pe_ixE {a b : Expr} {ta tb : TE} {r : XK → R2} {pos : Pos} (ho : ∀ E, IxR X (r E)) (ha : PE X a ta) (hb : PE X b tb) (hm : PlainIx b) : PE X (.Subscript a b pos) (fun σ H Q => tOp (r (WE W σ)) ta tb σ H Q) :=
  ⟨fun pins s σ H Q I h => (pe_ix (ho (WE W σ)) ha hb hm).run pins s σ H Q I h⟩

theorem any_back {X : Cx} {pos : Pos} : ∀ {es : List Expr}, (∀ e ∈ es, noStar e = true) → (backTo pos (starEach es X.env)).any (·.1) = false
  | [], _ => rfl
  | e :: es, h => by
    rw [star_of (h e (by simp))]
    show (false || (backTo pos (starEach es X.env)).any (·.1)) = false
    rw [any_back fun e he => h e (by simp [he])]
    rfl

/-- a test of any expression that is no test by its form -/
theorem tt_of {f : Slots → Sto → R MV} {K : PySem.W.Frag} (hK : K = cl.K) {σ : L2.St} {H : Hp} {Q : Bool → Hp → Prop} (h : rdT cl W (fun τ S => (f τ S).bind fun v S1 => R.opt (truth S1 v) S1) σ H Q) :
    rd cl W f σ H fun x H' => ∃ k, TruV K x H' k ∧ Q k H' := by
  obtain ⟨G, al, S, τ, rl, rs, p⟩ := h
  refine ⟨G, al, S, τ, rl, rs, p.bind.imp fun G1 al1 S1 H1 m g rl1 q v rv => ?_⟩
  cases e : truth S1 m with
  | none => rw [e] at q; exact q.elim
  | some k =>
    rw [e] at q
    exact ⟨k, by rw [hK]; exact truth_ok rl1 rv e, q.now rl1⟩
theorem PT.ife {t a b : Expr} {tt ta tb : TT} {pos : Pos} (ht : PT X t tt) (ha : PT X a ta) (hb : PT X b tb) : PT X (.IfExp t a b pos) (fun σ H Q => tt σ H fun k H1 => if k = true then ta σ H1 Q else tb σ H1 Q) := by
  refine ⟨fun pins s σ H Q I h => ?_⟩
  show wpAny _ _ (PySem.isTrue t X.env (eval t X.env) >>= fun k => if k = true then PySem.isTrue a X.env (eval a X.env) else PySem.isTrue b X.env (eval b X.env)) _ _ _
  refine wpAny_bind (thn (ht.run pins s σ H _ I h) fun k s1 ⟨H1, I1, q⟩ => ?_)
  cases k with
  | true => exact ha.run pins s1 σ H1 Q I1 q
  | false => exact hb.run pins s1 σ H1 Q I1 q
theorem PT.toPW {op : BoolOp} {es : List Expr} {pos : Pos} {t : TT} (h : PT X (.BoolOp op es pos) t) : PW X (.BoolOp op es pos) t := ⟨fun _ pins s σ H Q I q => h.run pins s σ H Q I q⟩
end

/-! ### calls -/
section
variable {fs : Tx} {cl : Wd} {C : Calls} {X : Cx} {W : WX} {k : Nat}
theorem Ctx.room1 (c : Ctx fs cl C X W k) : Room (2 * k + 1) X.A := c.room.mono (Nat.le_succ _)
/-- a def runs, at A -/
theorem run_at (c : Ctx fs cl C X W k) {g : List MV → Sto → R MV} {f : Addr} {fd : FuncData} {ps : List Str} (F : FnOk X.prog X.w X.K X.mg X.base (L2N.CX X.prog X.w) (2 * k + 1) f fd ps (SpN cl g)) (hb : Binds X.K fd ps []) {A : Around} (hA : A = X.A ∨ A = X.A.in1)
    {pins : List (Addr × Obj)} {σ : L2.St} {H : Hp} {s : Shared} {Q : VK} {us : List Value} {vs : List V} (I : Inv X pins σ H s) (r : Vals vs us) (h : SpN cl g vs H Q (WE W σ)) : wpAny (model X.prog X.w) A (call (.ref f) us) (EP X pins σ Q) X.xe s := by
  have hl : us.length = ps.length := by rw [← r.length]; exact F.len _ _ _ _ h
  have b := hb s us I.kIn (by rw [List.append_nil]; exact hl)
  rw [List.append_nil] at b
  have go : Room (2 * k + 1) A → Env0 X.prog X.w X.K X.mg X.base A X.stack s H → wpAny (model X.prog X.w) A (call (.ref f) us) (EP X pins σ Q) X.xe s := fun hr e0 => by
    refine wpAny_call (codeAny_mono (F.run A X.stack s H ⟨us, []⟩ us vs Q (WE W σ) hr e0 b r h) fun r s' hq => ?_)
    cases r with
    | error e => exact L2N.passAt c.takes σ pins H s e s' I hq
    | ok fl =>
      cases fl with
      | ret u => exact I.after hq
      | next => exact False.elim hq
      | brk => exact False.elim hq
      | cont => exact False.elim hq
  rcases hA with rfl | rfl
  · exact go c.room1 I.env0
  · exact go c.room.in1 I.env0.in1
theorem sp_of {md : Md} {g : List MV → Sto → R MV} {G : Hp} {al : Nat → Addr} {S : Sto} {H : Hp} {vs : List V} {ms : List MV} {Q : VK} {E : XK} (rl : Rl cl G al S H) (r : RepMs cl G al S.length vs ms) (p : Pst cl G al S H (callM md g ms S) (Vk cl Q) E) : SpN cl g vs H Q E := callM_ok rl r p

/-- a call of a def -/
theorem pe_def (c : Ctx fs cl C X W k) {md : Md} {f : String} {xs : List Expr} {p pos : Pos} {fa : Slots → Sto → R (List MV)} (hf : fs.contains f = true) (hg : Gl X (Str.ofString f)) (hp : plainN (Str.ofString f) = true)
    (ha : PA X xs (rdA cl W fa)) (hst : ∀ e ∈ xs, noStar e = true) (h0 : xs = [] → fa = fun _ S => .ok [] S) : PE X (.Call (.Name (Str.ofString f) p) xs [] pos) (rd cl W fun τ S => (fa τ S).bind fun ms S1 => callM md (C f) ms S1) := by
  obtain ⟨a, fd, ps, hm, hk, hb, _, _, F⟩ := c.pf.call f hf
  have hd := (plain_of hp).1
  refine ⟨fun pins s σ H Q I h => ?_⟩
  refine wpAny_Call_Name_kw (ld_glob I hg hm ?_ hd)
  have q : rdA cl W fa σ H fun vs H1 => SpN cl (C f) vs H1 Q (WE W σ) := by
    obtain ⟨G, al, S, τ, rl, rs, p⟩ := h
    exact ⟨G, al, S, τ, rl, rs, p.bind.imp fun G1 al1 S1 H1 ms g rl1 q vs rv => sp_of rl1 rv q⟩
  cases xs with
  | nil =>
    have q1 : SpN cl (C f) [] H Q (WE W σ) := by
      obtain ⟨G, al, S, τ, rl, rs, p⟩ := q
      rw [h0 rfl] at p
      exact p.now rl [] .nil
    exact PySem.W.callWith_K0 I.kIn hk (run_at c F hb (.inl rfl) (us := []) (vs := []) I .nil q1)
  | cons e es =>
    exact PySem.W.callWith_K (h₀ := X.base) I.ok.mod.kin hk (thn (ha.run pos pins s σ H _ I q) fun us s1 ⟨vs, H1, I1, r, q⟩ => ⟨I1.kIn, run_at c F hb (.inl rfl) I1 r q⟩) (star_of (hst e (by simp))) (any_back fun e he => hst e (by simp [he]))

/-- a call that leaves the default -/
theorem pe_defD (c : Ctx fs cl C X W k) {md : Md} {f : String} {i : Int} {e : Expr} {es : List Expr} {p pos : Pos} {fa : Slots → Sto → R (List MV)} (hf : fs.contains f = true) (hi : fs.df.lookup f = some i) (hg : Gl X (Str.ofString f)) (hp : plainN (Str.ofString f) = true)
    (ha : PA X (e :: es) (rdA cl W fa)) (hst : ∀ y ∈ e :: es, noStar y = true) : PE X (.Call (.Name (Str.ofString f) p) (e :: es) [] pos) (rd cl W fun τ S => (fa τ S).bind fun ms S1 => callM md (C f) (ms ++ [.d (.int i)]) S1) := by
  obtain ⟨a, fd, ps, hm, hk, _, hdf, _, F⟩ := c.pf.call f hf
  obtain ⟨t, hb⟩ := hdf i hi
  refine PE.imp (pe_callSD (dvs := [.int i]) (ds := [.int i t]) (E := WE W) F c.room1 hg hm hk hb (.cons ⟨_, rfl⟩ .nil) (fun σ => L2N.passAt c.takes σ) ha (plain_of hp).1 (star_of (hst e (by simp))) (any_back fun y hy => hst y (by simp [hy]))) fun σ H Q h => ?_
  obtain ⟨G, al, S, τ, rl, rs, p⟩ := h
  exact ⟨G, al, S, τ, rl, rs, p.bind.imp fun G1 al1 S1 H1 ms g rl1 q vs rv => sp_of rl1 (rv.append (.cons (.d (.int i)) .nil)) q⟩
/-- f(k2=a, k1=b) -/
theorem pe_defK (c : Ctx fs cl C X W k) {md : Md} {f k1 k2 : String} {x y : Expr} {p pos p1 p2 : Pos} {fa fb : Slots → Sto → R MV} (hf : fs.contains f = true) (hi : fs.sw.lookup f = some (k1, k2)) (hg : Gl X (Str.ofString f)) (hp : plainN (Str.ofString f) = true)
    (ha : PE X x (rd cl W fa)) (hb : PE X y (rd cl W fb)) : PE X (.Call (.Name (Str.ofString f) p) [] [⟨some (Str.ofString k2), x, p1⟩, ⟨some (Str.ofString k1), y, p2⟩] pos) (rd cl W fun τ S => (fa τ S).bind fun u S1 => (fb τ S1).bind fun v S2 => callM md (C f) [v, u] S2) := by
  obtain ⟨a, fd, ps, hm, hk, _, _, hsw, F⟩ := c.pf.call f hf
  obtain ⟨rfl, hbd⟩ := hsw k1 k2 hi
  refine ⟨fun pins s σ H Q I h => ?_⟩
  refine wpAny_Call_Name_kw (ld_glob I hg hm ?_ (plain_of hp).1)
  have q : tCons (rd cl W fa) (tCons (rd cl W fb) tNil) σ H fun vs H1 => ∃ u v, vs = [u, v] ∧ SpN cl (C f) [v, u] H1 Q (WE W σ) := by
    obtain ⟨G, al, S, τ, rl, rs, p⟩ := h
    refine ⟨G, al, S, τ, rl, rs, p.bind.imp fun G1 al1 S1 H1 m1 g1 rl1 q u ru => ?_⟩
    refine ⟨G1, al1, S1, τ, rl1, rs.gr g1, q.bind.imp fun G2 al2 S2 H2 m2 g2 rl2 q v rv => ?_⟩
    exact ⟨u, v, rfl, sp_of rl2 (.cons rv (.cons (ru.gr g2) .nil)) q⟩
  refine PySem.W.callWith_KW0 (h₀ := X.base) I.ok.mod.kin hk rfl (thn ((pk_cons ha (pk_cons hb pk_nil)).run pos pins s σ H _ I q) fun ws s1 ⟨vs, H1, I1, r, u, v, ev, q1⟩ => ⟨I1.kIn, ?_⟩) rfl
  subst ev
  cases r with
  | cons ru r =>
    cases r with
    | cons rv r =>
      cases r
      rename_i u' v'
      show wpAny _ _ (call (.ref a) [] [(Str.ofString k2, _), (Str.ofString k1, _)]) _ _ _
      refine wpAny_call (codeAny_mono (F.run X.A X.stack s1 H1 ⟨[], [(Str.ofString k2, _), (Str.ofString k1, _)]⟩ [_, _] [v, u] Q (WE W σ) c.room1 I1.env0 (hbd s1 _ _ I1.kIn) (.cons rv (.cons ru .nil)) q1) fun r s' hq => ?_)
      cases r with
      | error e => exact L2N.passAt c.takes σ pins H1 s1 e s' I1 hq
      | ok fl =>
        cases fl with
        | ret u => exact I1.after hq
        | next => exact False.elim hq
        | brk => exact False.elim hq
        | cont => exact False.elim hq

/-! ### instances -/
/-- an instance's class stands in the table -/
theorem Pf.cls_of {prog : Program} {w : World} {K : PySem.W.Frag} {mg : Str → Option Value} {base : Heap} (p : Pf fs cl C prog w K mg base k) {c : String} {D : Addr} (h : cl.cl c = some D) : Cls K D := by
  have := (p.isf.all c D h).cl
  rw [p.kk]; exact this
/-- x.f -/
theorem pe_attr (c : Ctx fs cl C X W k) {f : String} {o : Expr} {pos : Pos} {fo : Slots → Sto → R MV} (hf : fs.fld.contains f = true) (hs : noSup o = true) (ho : PE X o (rd cl W fo)) : PE X (.Attribute o (Str.ofString f) pos) (rd cl W fun τ S => (fo τ S).bind fun x S1 => attrF f x S1) := by
  refine PE.imp (pe_fld ho (sup_of hs)) fun σ H Q ⟨G, al, S, τ, rl, rs, q⟩ => ?_
  refine ⟨G, al, S, τ, rl, rs, q.bind.imp fun G1 al1 S1 H1 m g1 rl1 q v rv => ?_⟩
  unfold attrF at q
  cases ei : insOf S1 m with
  | none => rw [ei] at q; exact q.elim
  | some y =>
    obtain ⟨cn, fl⟩ := y
    rw [ei] at q
    dsimp only at q
    cases ef : fl.lookup f with
    | none => rw [ef] at q; exact q.elim
    | some u =>
      rw [ef] at q
      obtain ⟨a, D, dx, fv, rfl, hcl, ha, r⟩ := ins_ok rl1 rv ei
      obtain ⟨x, hx, rx⟩ := r.get ef
      exact ⟨a, D, dx, fv, x, rfl, ha, c.pf.cls_of hcl, c.pf.noa f hf cn D hcl, hx, q.now rl1 x rx⟩
theorem noX_of {r : R MV} {G : Hp} {al : Nat → Addr} {S : Sto} {H : Hp} {ok : Hp → (Nat → Addr) → Sto → Hp → MV → Prop} {E E' : XK} (p : Pst cl G al S H (noX r) ok E) : Pst cl G al S H r ok E' := by
  cases r with
  | ok a S' => exact p
  | exc c f S' => exact p.elim
  | stuck => exact p
/-- the receiver and its method's promise -/
theorem meth_of {md : Md} {cs : List String} {nm : String} {G : Hp} {al : Nat → Addr} {S : Sto} {H : Hp} {v : V} {m : MV} {vs : List V} {ms : List MV} {Q : VK} {E : XK} (rl : Rl cl G al S H) (rv : RepM cl G al S.length v m) (rs : RepMs cl G al S.length vs ms)
    (p : Pst cl G al S H (methF C md cs m nm ms S) (Vk cl Q) E) : ∃ a c D dx fv, v = .ref a ∧ cs.contains c = true ∧ cl.cl c = some D ∧ H a = some (.ins D dx fv) ∧ fv.lookup (Str.ofString nm) = none ∧ SpN cl (C (c ++ "." ++ nm)) (v :: vs) H Q E := by
  unfold methF at p
  cases ei : insOf S m with
  | none => rw [ei] at p; exact p.elim
  | some y =>
    obtain ⟨cn, fl⟩ := y
    rw [ei] at p
    dsimp only at p
    split at p
    · rename_i hc
      simp only [Bool.and_eq_true, Option.isNone_iff_eq_none] at hc
      obtain ⟨a, D, dx, fv, rfl, hcl, ha, r⟩ := ins_ok rl rv ei
      exact ⟨a, cn, D, dx, fv, rfl, hc.1, hcl, ha, r.none hc.2, sp_of rl (.cons rv rs) p⟩
    · exact p.elim
theorem pass0 : Passes (L2N.CX X.prog X.w) X.nox (WE W0 []) := fun pins σ H s e s' I q =>
  L2N.passAt (X := X.nox) (W := W0) (fun u s' x => by
    obtain ⟨_, _, _, _, _, _, _, _, _, _, _, _, _, _, _, _, z⟩ := x
    exact z.elim) σ pins H s e s' I q
/-- x.f, a property -/
theorem pe_propM (c : Ctx fs cl C X W k) {md : Md} {cs : List String} {f : String} {o : Expr} {pos : Pos} {fo : Slots → Sto → R MV} (hf : cs.all (fun c => fs.pr.contains (c, f)) = true) (hs : noSup o = true) (ho : PE X o (rd cl W fo)) :
    PE X (.Attribute o (Str.ofString f) pos) (rd cl W fun τ S => (fo τ S).bind fun x S1 => noX (methF C md cs x f [] S1)) := by
  refine ⟨fun pins s σ H Q I h => ?_⟩
  refine attr_of (sup_of hs) (thn (ho.run pins s σ H _ I (un_of (op := fun x S1 => noX (methF C md cs x f [] S1)) h)) fun u s1 ⟨x, H1, I1, rx, G1, al1, S1, m, rl1, rm, q⟩ => ?_)
  obtain ⟨a, cn, D, dx, fv, rfl, hc, hcl, ha, hl, sp⟩ := meth_of rl1 rm .nil (noX_of (E' := WE W0 []) q)
  obtain rfl : u = Value.ref a := rx
  obtain ⟨D', p, g, fd, ps, hcl', hp, hb, F⟩ := c.pf.prop cn f ((List.all_eq_true.mp hf) cn (by simpa using hc))
  obtain rfl : D = D' := Option.some.inj (hcl.symm.trans hcl')
  exact getprop_ok I1 ha (c.pf.cls_of hcl) hp F c.room hb (.nil : Vals [] []) pass0 sp
/-- the method's table -/
theorem Pf.meth_at {prog : Program} {w : World} {K : PySem.W.Frag} {mg : Str → Option Value} {base : Heap} (p : Pf fs cl C prog w K mg base k) {cs : List String} {m c : String} {D : Addr} (h : cs.all (fun c => fs.ms.contains (c, m)) = true) (hc : cs.contains c = true) (hcl : cl.cl c = some D) :
    ∃ f fd ps, Meth K D (Str.ofString m) f ∧ Binds K fd ps [] ∧ OpX cl D m f ∧ FnOk prog w K mg base (L2N.CX prog w) (2 * k + 1) f fd ps (SpN cl (C (c ++ "." ++ m))) := by
  obtain ⟨D', f, fd, ps, h1, h2, h3, h4, h5⟩ := p.meth c m ((List.all_eq_true.mp h) c (by simpa using hc))
  obtain rfl : D = D' := Option.some.inj (hcl.symm.trans h1)
  exact ⟨f, fd, ps, h2, h3, h4, h5⟩
theorem all_back {pos : Pos} : ∀ {es : List Expr}, (∀ e ∈ es, noStar e = true) → (backTo pos (starEach es X.env)).all (fun x => !x.1) = true
  | [], _ => rfl
  | e :: es, h => by
    rw [star_of (h e (by simp))]
    show (!false && (backTo pos (starEach es X.env)).all (fun x => !x.1)) = true
    rw [all_back fun e he => h e (by simp [he])]
    rfl
/-- o.m(..) -/
theorem pe_methM (c : Ctx fs cl C X W k) {md : Md} {cs : List String} {m : String} {o : Expr} {xs : List Expr} {p pos : Pos} {fo : Slots → Sto → R MV} {fa : Slots → Sto → R (List MV)} (hf : cs.all (fun c => fs.ms.contains (c, m)) = true) (hs : noSup o = true) (hline : (p.endLine == pos.line) = true) (hn : xs.length < 30)
    (ho : PE X o (rd cl W fo)) (ha : PA X xs (rdA cl W fa)) (hst : ∀ e ∈ xs, noStar e = true) (h0 : xs = [] → fa = fun _ S => .ok [] S) :
    PE X (.Call (.Attribute o (Str.ofString m) p) xs [] pos) (rd cl W fun τ S => (fo τ S).bind fun x S1 => match insOf S1 x with
      | some (c, fs) => if cs.contains c && (fs.lookup m).isNone then (fa τ S1).bind fun ms S2 => callM md (C (c ++ "." ++ m)) (x :: ms) S2 else .stuck
      | none => .stuck) := by
  refine ⟨fun pins s σ H Q I ⟨G, al, S, τ, rl, rs, q⟩ => ?_⟩
  rw [arm_eval_Call, sup_of hs]
  have q' : rd cl W fo σ H fun v H1 => ∃ a cn D dx fv, v = .ref a ∧ cs.contains cn = true ∧ cl.cl cn = some D ∧ H1 a = some (.ins D dx fv) ∧ fv.lookup (Str.ofString m) = none ∧ rdA cl W fa σ H1 fun vs H2 => SpN cl (C (cn ++ "." ++ m)) (v :: vs) H2 Q (WE W σ) := by
    refine ⟨G, al, S, τ, rl, rs, q.bind.imp fun G1 al1 S1 H1 mx g1 rl1 q v rv => ?_⟩
    cases ei : insOf S1 mx with
    | none => rw [ei] at q; exact q.elim
    | some y =>
      obtain ⟨cn, fl⟩ := y
      rw [ei] at q
      dsimp only at q
      split at q
      · rename_i hc
        simp only [Bool.and_eq_true, Option.isNone_iff_eq_none] at hc
        obtain ⟨a, D, dx, fv, rfl, hcl, ha, r⟩ := ins_ok rl1 rv ei
        exact ⟨a, cn, D, dx, fv, rfl, hc.1, hcl, ha, r.none hc.2, G1, al1, S1, τ, rl1, rs.gr g1, q.bind.imp fun G2 al2 S2 H2 ms g2 rl2 q vs rvs => sp_of rl2 (.cons (rv.gr g2) rvs) q⟩
      · exact q.elim
  refine wpAny_bind (thn (ho.run pins s σ H _ I q') fun u s1 ⟨x, H1, I1, rx, a, cn, D, dx, fv, ex, hc, hcl, hh, hl, q⟩ => ?_)
  subst ex
  obtain rfl : u = Value.ref a := rx
  obtain ⟨f, fd, ps, hM, hb, _, F⟩ := c.pf.meth_at hf hc hcl
  have hform : methodCallForm (xs.length + ([] : List Keyword).length) (backTo pos (starEach xs X.env)) (backToKw pos (keywordEach [] X.env)) = true := by
    unfold methodCallForm
    have hk : backToKw pos (keywordEach [] X.env) = [] := rfl
    rw [all_back hst, hk]
    simp [hn]
  have hpos : methodCallPos true o X.env p pos = pure pos := by unfold methodCallPos; simp [hline]
  refine wpAny_bind (wpAny_standAt ?_)
  unfold methodCall
  rw [hform]
  refine wpAny_bind (wpAny_holding (getmeth_ok I1 hh (c.pf.cls_of hcl) hM hl ?_))
  refine wpAny_bind (wpAny_of_eq hpos ?_)
  cases xs with
  | nil =>
    have q1 : SpN cl (C (cn ++ "." ++ m)) [.ref a] H1 Q (WE W σ) := by
      obtain ⟨G, al, S, τ, rl, rs, p⟩ := q
      rw [h0 rfl] at p
      exact p.now rl [] .nil
    exact PySem.W.callWith_K0 (first := [.ref a]) I1.kIn hM.kp (run_at c F hb (.inl rfl) (us := [.ref a]) (vs := [.ref a]) I1 (.cons rfl .nil) q1)
  | cons e es =>
    exact PySem.W.callWith_K (first := [.ref a]) (h₀ := X.base) I.ok.mod.kin hM.kp (thn (ha.run pos pins s1 σ H1 _ I1 q) fun us s2 ⟨vs, H2, I2, r, q2⟩ => ⟨I2.kIn, run_at c F hb (.inl rfl) (us := .ref a :: us) (vs := .ref a :: vs) I2 (.cons rfl r) q2⟩) (star_of (hst e (by simp))) (any_back fun e he => hst e (by simp [he]))
/-- operators of one's own -/
theorem subC_of {e : Expr} (h : noSl e = true) (o i : Value) : subscripted e true o i = runValue (.builtin "lifetime.subscript" ⟨[o, i], []⟩) := by
  cases e <;> first | rfl | (simp [noSl] at h)
theorem opm_of {md : Md} {cs : List String} {m : String} {G : Hp} {al : Nat → Addr} {S : Sto} {H : Hp} {v w : V} {x y : MV} {Q : VK} {E : XK} (rl : Rl cl G al S H) (rv : RepM cl G al S.length v x) (rw' : RepM cl G al S.length w y)
    (p : Pst cl G al S H (opmF C md cs m x y S) (Vk cl Q) E) : ∃ a c D dx fv, v = .ref a ∧ cs.contains c = true ∧ cl.cl c = some D ∧ H a = some (.ins D dx fv) ∧ SpN cl (C (c ++ "." ++ m)) [v, w] H Q E ∧
      (m = "__getitem__" ∨ ∃ b d D' dy gv, w = .ref b ∧ cl.cl d = some D' ∧ H b = some (.ins D' dy gv) ∧ (m = "__eq__" ∨ D' = D)) := by
  unfold opmF at p
  split at p
  · rename_i ho
    obtain ⟨a, c, D, dx, fv, rfl, h1, h2, h3, h4, h5⟩ := meth_of rl rv (.cons rw' .nil) p
    refine ⟨a, c, D, dx, fv, rfl, h1, h2, h3, h5, ?_⟩
    unfold opOk at ho
    rw [Bool.or_eq_true] at ho
    rcases ho with ho | ho
    · exact .inl (by simpa using ho)
    · right
      cases ex : insOf S x with
      | none => rw [ex] at ho; cases ho
      | some z =>
        obtain ⟨c', f1⟩ := z
        cases ey : insOf S y with
        | none => rw [ex, ey] at ho; cases ho
        | some z =>
          obtain ⟨d, f2⟩ := z
          rw [ex, ey] at ho
          obtain ⟨a2, D2, _, _, e2, k2, k3, _⟩ := ins_ok rl rv ex
          obtain ⟨b, D', dy, gv, rfl, k4, k5, _⟩ := ins_ok rl rw' ey
          cases e2
          obtain rfl : D = D2 := by rw [h3] at k3; cases k3; rfl
          refine ⟨b, d, D', dy, gv, rfl, k4, k5, ?_⟩
          simp only [Bool.or_eq_true, beq_iff_eq] at ho
          rcases ho with ho | ho
          · exact .inl ho
          · subst ho
            exact .inr (Option.some.inj (k4.symm.trans k2))
  · exact p.elim
/-- e[..], e * .., e == .. -/
theorem op_getM (c : Ctx fs cl C X W k) {md : Md} {cs : List String} (hf : cs.all (fun c => fs.ms.contains (c, "__getitem__")) = true) {value slice : Expr} (hsl : noSl slice = true) {pins : List (Addr × Obj)} {s : Shared} {σ : L2.St} {H : Hp} {x y : V} {v u : Value} {Q : VK} (I : Inv X pins σ H s) (rx : RelV x v) (ry : RelV y u)
    (h : r2 cl (WE W σ) (opmF C md cs "__getitem__") x y H Q) : wpAny (model X.prog X.w) X.A (subscriptTail value slice v u) (EP X pins σ Q) X.xe s := by
  obtain ⟨G, al, S, mx, my, rl, r1, r2, p⟩ := h
  obtain ⟨a, cn, D, dx, fv, rfl, hc, hcl, hh, sp, _⟩ := opm_of rl r1 r2 p
  obtain rfl : v = Value.ref a := rx
  obtain ⟨f, fd, ps, hM, hb, ox, F⟩ := c.pf.meth_at hf hc hcl
  obtain ⟨mA, O, _⟩ := ins_get I.hok hh
  obtain ⟨od, J, _⟩ := O.look
  obtain ⟨m, hF⟩ := I.fr
  exact PySem.W.sub_K hF I.ok.mod.kin J hM.at_ (by rw [c.pf.kk]; exact ox.gi rfl) hM.fn (run_at c F hb (.inr rfl) (us := [.ref a, u]) (vs := [.ref a, y]) I (.cons rfl (.cons ry .nil)) sp) (subC_of hsl _ _)
theorem op_mulM (c : Ctx fs cl C X W k) {md : Md} {cs : List String} (hf : cs.all (fun c => fs.ms.contains (c, "__mul__")) = true) {pins : List (Addr × Obj)} {s : Shared} {σ : L2.St} {H : Hp} {x y : V} {v u : Value} {Q : VK} (I : Inv X pins σ H s) (rx : RelV x v) (ry : RelV y u)
    (h : r2 cl (WE W σ) (opmF C md cs "__mul__") x y H Q) : wpAny (model X.prog X.w) X.A (binaryOp .Mult v u) (EP X pins σ Q) X.xe s := by
  obtain ⟨G, al, S, mx, my, rl, r1, r2, p⟩ := h
  obtain ⟨a, cn, D, dx, fv, rfl, hc, hcl, hh, sp, hy⟩ := opm_of rl r1 r2 p
  obtain rfl : v = Value.ref a := rx
  obtain ⟨b, d, D', dy, gv, rfl, hd, hh2, hD⟩ := hy.resolve_left (by decide)
  obtain rfl : D' = D := hD.resolve_left (by decide)
  obtain rfl : u = Value.ref b := ry
  obtain ⟨f, fd, ps, hM, hb, ox, F⟩ := c.pf.meth_at hf hc hcl
  obtain ⟨mA, O, _⟩ := ins_get I.hok hh
  obtain ⟨od, J, _⟩ := O.look
  obtain ⟨mA', O', _⟩ := ins_get I.hok hh2
  obtain ⟨od', J', _⟩ := O'.look
  obtain ⟨m, hF⟩ := I.fr
  refine PySem.W.binop_K (op := .Mult) hF I.ok.mod.kin J J'.type (by rw [c.pf.kk]; exact ox.mu rfl) hM.at_ hM.fn ?_
  refine wpAny_mono (run_at c F hb (.inl rfl) (us := [.ref a, .ref b]) (vs := [.ref a, .ref b]) I (.cons rfl (.cons rfl .nil)) sp) (fun w s' z => ?_) fun _ _ x => x
  obtain ⟨z', H', I', rz, qz⟩ := z
  exact SlX.cmpback rz ⟨z', H', I', rz, qz⟩
theorem op_eqM (c : Ctx fs cl C X W k) {md : Md} {cs : List String} (hf : cs.all (fun c => fs.ms.contains (c, "__eq__")) = true) {pins : List (Addr × Obj)} {s : Shared} {σ : L2.St} {H : Hp} {x y : V} {v u : Value} {Q : VK} (I : Inv X pins σ H s) (rx : RelV x v) (ry : RelV y u)
    (h : r2 cl (WE W σ) (opmF C md cs "__eq__") x y H Q) : wpAny (model X.prog X.w) X.A (compareOp .Eq v u) (EP X pins σ Q) X.xe s := by
  obtain ⟨G, al, S, mx, my, rl, r1, r2, p⟩ := h
  obtain ⟨a, cn, D, dx, fv, rfl, hc, hcl, hh, sp, hy⟩ := opm_of rl r1 r2 p
  obtain rfl : v = Value.ref a := rx
  obtain ⟨b, d, D', dy, gv, rfl, hd, hh2, hD⟩ := hy.resolve_left (by decide)
  obtain rfl : u = Value.ref b := ry
  obtain ⟨f, fd, ps, hM, hb, ox, F⟩ := c.pf.meth_at hf hc hcl
  obtain ⟨mA, O, _⟩ := ins_get I.hok hh
  obtain ⟨od, J, _⟩ := O.look
  obtain ⟨mA', O', _⟩ := ins_get I.hok hh2
  obtain ⟨od', J', _⟩ := O'.look
  obtain ⟨m, hF⟩ := I.fr
  show wpAny _ _ (richCompare .Eq _ _) _ _ _
  refine PySem.W.cmp_K (op := .Eq) (tb := .ref D') c.room.units0 hF I.ok.mod.kin J J'.type (by rw [c.pf.kk]; exact (ox.eq rfl).2 d D' hd) hM.at_ hM.fn ?_
  refine wpAny_mono (run_at c F hb (.inl rfl) (us := [.ref a, .ref b]) (vs := [.ref a, .ref b]) I (.cons rfl (.cons rfl .nil)) sp) (fun w s' z => ?_) fun _ _ x => x
  obtain ⟨z', H', I', rz, qz⟩ := z
  exact SlX.cmpback rz ⟨z', H', I', rz, qz⟩
/-- len(e) -/
theorem call_lenM (c : Ctx fs cl C X W k) {md : Md} {cs : List String} (hf : cs.all (fun c => fs.ms.contains (c, "__len__")) = true) {pins : List (Addr × Obj)} {s : Shared} {σ : L2.St} {H : Hp} {x : V} {v : Value} {Q : VK} (I : Inv X pins σ H s) (rx : RelV x v)
    (h : r1 cl (WE W σ) (fun x S => lenB (methF C md cs x "__len__" [] S)) x H Q) : wpAny (model X.prog X.w) X.A (call (.builtin "len") [v]) (EP X pins σ Q) X.xe s := by
  obtain ⟨G, al, S, mx, rl, r1, p⟩ := h
  have p2 : Pst cl G al S H (methF C md cs mx "__len__" [] S) (Vk cl fun z H' => ∃ n : Int, z = .int n ∧ 0 ≤ n ∧ n < 1000000000 ∧ Q (.int n) H') (WE W σ) := by
    unfold lenB at p
    refine p.bind.imp fun G1 al1 S1 H1 m g1 rl1 q z rz => ?_
    split at q
    · rename_i n
      split at q
      · rename_i hn
        have := rz.int_inv; subst this
        exact ⟨n, rfl, hn.1, hn.2, q.now rl1 _ rz⟩
      · exact q.elim
    · exact q.elim
  obtain ⟨a, cn, D, dx, fv, rfl, hc, hcl, hh, hl, sp⟩ := meth_of rl r1 .nil p2
  obtain rfl : v = Value.ref a := rx
  obtain ⟨f, fd, ps, hM, hb, ox, F⟩ := c.pf.meth_at hf hc hcl
  obtain ⟨mA, O, _⟩ := ins_get I.hok hh
  obtain ⟨od, J, _⟩ := O.look
  obtain ⟨m, hF⟩ := I.fr
  refine PySem.W.len_K hF I.ok.mod.kin J hM.at_ hM.fn ?_
  refine wpAny_mono (run_at c F hb (.inr rfl) (us := [.ref a]) (vs := [.ref a]) I (.cons rfl .nil) sp) (fun w s' z => ?_) fun _ _ x => x
  obtain ⟨z', H', I', rz, n, rfl, h0, h1, qz⟩ := z
  obtain ⟨t, rfl⟩ := rz
  exact ⟨⟨h0, by omega⟩, .int n, H', I'.tok _, ⟨_, rfl⟩, qz⟩
theorem RepM.non_inv {G : Hp} {al : Nat → Addr} {n : Nat} {v : V} (h : RepM cl G al n v (.d .non)) : v = .non := by
  cases h with | d h => cases h; rfl
/-- C(..) -/
theorem make_of {bw : Addr → Prop} {cn : String} {D : Addr} (hcl : cl.cl cn = some D) {G : Hp} {al : Nat → Addr} {S : Sto} {H : Hp} {vs : List V} {ms : List MV} {Q : VK} {E : XK} (rl : Rl (cl.wb bw) G al S H) (r : RepMs (cl.wb bw) G al S.length vs ms)
    (p : Pst (cl.wb bw) G al S H (mkF C cn ms S) (Vk (cl.wb bw) Q) E) {x dx : Addr} (hx : H x = none) (hdx : H dx = none) (hne : dx ≠ x) :
    SpN cl (C (cn ++ ".__init__")) (.ref x :: vs) (upd (upd H dx (.own x)) x (.ins D dx [])) (fun v H2 => v = .non ∧ Q (.ref x) H2) E := by
  have hx1 : (upd H dx (.own x)) x = none := by rw [upd_ne (Ne.symm hne)]; exact hx
  have rl1 := rl.newG (o := .own x) hdx
  have g1 := Gr.newG (o := .own x) rl hdx
  have rl2 := rl1.newC (p := x) (o := .ins D dx []) (c := .ins cn []) hx1 rfl (.ins hcl upd_same .nil)
  have g2 : Gr (upd G dx (.own x)) al S (upd H dx (.own x)) (upd G dx (.own x)) (alw al S.length x) (S ++ [.ins cn []]) (upd (upd H dx (.own x)) x (.ins D dx [])) := Gr.newC hx1
  have g := g1.trans g2
  refine ⟨bw, _, _, _, .c S.length :: ms, rl2, .cons ?_ (r.gr g), ?_⟩
  · have := RepM.c (cl := cl.wb bw) (G := upd G dx (.own x)) (al := alw al S.length x) (n := (S ++ [Cell.ins cn []]).length) S.length (by simp)
    rw [alw_new] at this
    exact this
  · unfold mkF at p
    refine (p.bind.gr g).imp fun G3 al3 S3 H3 m g3 rl3 q v rv => ?_
    split at q
    · have := RepM.non_inv rv; subst this
      refine ⟨rfl, q.now rl3 _ ?_⟩
      have := RepM.c (cl := cl.wb bw) (G := G3) (al := al3) (n := S3.length) S.length (Nat.lt_of_lt_of_le (by simp) g3.len)
      rw [g3.at_ S.length (by simp), alw_new] at this
      exact this
    · exact q.elim
theorem pe_newM (c : Ctx fs cl C X W k) {md : Md} {cn : String} {e : Expr} {es : List Expr} {p pos : Pos} {fa : Slots → Sto → R (List MV)} (hf : fs.nw.contains cn = true) (hg : Gl X (Str.ofString cn)) (hp : plainN (Str.ofString cn) = true)
    (ha : PA X (e :: es) (rdA cl W fa)) (hst : ∀ y ∈ e :: es, noStar y = true) : PE X (.Call (.Name (Str.ofString cn) p) (e :: es) [] pos) (rd cl W fun τ S => (fa τ S).bind fun ms S1 => callM md (mkF C cn) ms S1) := by
  obtain ⟨D, f, fd, ps, hcl, hm, M, hb, F⟩ := c.pf.make cn hf
  refine ⟨fun pins s σ H Q I h => ?_⟩
  refine wpAny_Call_Name_kw (ld_glob I hg hm ?_ (plain_of hp).1)
  have q : rdA cl W fa σ H fun vs H1 => SpN cl (mkF C cn) vs H1 Q (WE W σ) := by
    obtain ⟨G, al, S, τ, rl, rs, p⟩ := h
    exact ⟨G, al, S, τ, rl, rs, p.bind.imp fun G1 al1 S1 H1 ms g rl1 q vs rv => sp_of rl1 rv q⟩
  refine PySem.W.callWith_K (h₀ := X.base) I.ok.mod.kin M.kp (thn (ha.run pos pins s σ H _ I q) fun us s1 ⟨vs, H1, I1, r, q⟩ => ⟨I1.kIn, ?_⟩) (star_of (hst e (by simp))) (any_back fun e he => hst e (by simp [he]))
  obtain ⟨bw, G, al, S, ms, rl, rms, q⟩ := q
  have hq := make_of (C := C) hcl rl rms q (x := s1.heap.objs.size + 1) (dx := s1.heap.objs.size) (I1.hok.fresh (Nat.le_succ _)) (I1.hok.fresh (Nat.le_refl _)) (Nat.ne_of_lt (Nat.lt_succ_self _))
  have I2 := Inv.made (C := D) I1
  have r2 : Vals (V.ref (s1.heap.objs.size + 1) :: vs) (Value.ref (s1.heap.objs.size + 1) :: us) := .cons rfl r
  have hl : (Value.ref (s1.heap.objs.size + 1) :: us).length = ps.length := by rw [← r2.length]; exact F.len _ _ _ _ hq
  have b := hb { s1 with heap := (s1.heap.push PySem.W.emptyDict).push (PySem.W.instObj D s1.heap.objs.size) } (Value.ref (s1.heap.objs.size + 1) :: us) I2.kIn (by rw [List.append_nil]; exact hl)
  rw [List.append_nil] at b
  refine wpAny_call (make_map (f := f) I1.kIn M.makes M.init (beq_iff_eq.mp M.fn) (codeAny_mono (F.run _ X.stack _ _ ⟨Value.ref (s1.heap.objs.size + 1) :: us, []⟩ (Value.ref (s1.heap.objs.size + 1) :: us) _ _ (WE W σ) (c.room.make D us [])
    (I2.env0.make D us []) b r2 hq) fun r s' hq' => ?_))
  cases r with
  | error e => exact L2N.passAt c.takes σ pins _ _ e s' I2 hq'
  | ok fl =>
    cases fl with
    | ret u =>
      obtain ⟨v, H', I3, rv, ev, q3⟩ := I2.after hq'
      subst ev
      exact ⟨rv, ⟨V.ref (s1.heap.objs.size + 1), H', I3, rfl, q3⟩⟩
    | next => exact False.elim hq'
    | brk => exact False.elim hq'
    | cont => exact False.elim hq'
end

section
variable {fs : Tx} {cl : Wd} {C : Calls} {k : Nat}
theorem sames_nil {N : List Str} {sc : Scope} : ∀ (es : Es), sames fs N sc es [] = true → evs C es = fun _ S => .ok [] S
  | .nil, _ => by funext τ S; simp only [evs]
  | .cons _ _, h => by simp [sames] at h
  | .star _ _, h => by simp [sames] at h

/-- a computation that gives truth values alone, as a test -/
theorem bl_of {W : WX} {f : Slots → Sto → R MV} (hf : ∀ τ S m S', f τ S = .ok m S' → ∃ z, m = .d (.bl z)) {σ : L2.St} {H : Hp} {Q : Bool → Hp → Prop} (q : rdT cl W (fun τ S => (f τ S).bind fun v S1 => R.opt (truth S1 v) S1) σ H Q) :
    rd cl W f σ H (fun x H' => ∃ k, x = .bl k ∧ Q k H') := by
  obtain ⟨G, al, S, τ, rl, rs, p⟩ := q
  refine ⟨G, al, S, τ, rl, rs, ?_⟩
  dsimp only at p
  cases e : f τ S with
  | stuck => rw [e] at p; exact p
  | exc c fs S' => rw [e] at p; exact p
  | ok m S' =>
    rw [e] at p
    obtain ⟨z, rfl⟩ := hf τ S m S' e
    intro G' al' H' g rl' v rv
    have := rv.bl_inv; subst this
    exact ⟨z, rfl, p G' al' H' g rl'⟩
theorem cmpF_bl {o : Cop} {x y m : MV} {S S' : Sto} (h : cmpF o x y S = .ok m S') : ∃ z, m = .d (.bl z) := by
  unfold cmpF at h
  split at h <;> (try split at h) <;> (try split at h) <;> (try (cases h; exact ⟨_, rfl⟩)) <;> cases h
theorem cmp_bl {o : Cop} {a b : E} {τ : Slots} {S S' : Sto} {m : MV} (h : ev C (.cmp o a b) τ S = .ok m S') : ∃ z, m = .d (.bl z) := by
  simp only [ev] at h
  cases e1 : ev C a τ S with
  | ok x S1 =>
    rw [e1] at h
    simp only [R.bind_ok] at h
    cases e2 : ev C b τ S1 with
    | ok y S2 =>
      rw [e2] at h
      simp only [R.bind_ok] at h
      exact cmpF_bl h
    | exc _ _ _ => rw [e2] at h; cases h
    | stuck => rw [e2] at h; cases h
  | exc _ _ _ => rw [e1] at h; cases h
  | stuck => rw [e1] at h; cases h

/-- a < b < c -/
theorem chain_of {W : WX} {fa fb fc : Slots → Sto → R MV} {o p : MV → MV → Sto → R MV} {σ : L2.St} {H : Hp} {Q : VK}
    (h : rd cl W (fun τ S => (fa τ S).bind fun x S1 => (fb τ S1).bind fun y S2 => (o x y S2).bind fun k S3 => match k with
      | .d (.bl true) => (fc τ S3).bind fun z S4 => p y z S4
      | .d (.bl false) => .ok (.d (.bl false)) S3
      | _ => .stuck) σ H Q) : tChain (r2 cl (WE W σ) o) (r2 cl (WE W σ) p) (rd cl W fa) (rd cl W fb) (rd cl W fc) σ H Q := by
  obtain ⟨G, al, S, τ, rl, rs, q⟩ := h
  refine ⟨G, al, S, τ, rl, rs, q.bind.imp fun G1 al1 S1 H1 mx g1 rl1 q x rx => ?_⟩
  refine ⟨G1, al1, S1, τ, rl1, rs.gr g1, q.bind.imp fun G2 al2 S2 H2 my g2 rl2 q y ry => ?_⟩
  refine ⟨G2, al2, S2, mx, my, rl2, rx.gr g2, ry, q.bind.imp fun G3 al3 S3 H3 mk g3 rl3 q v rv => ?_⟩
  cases mk with
  | d dd =>
    cases dd with
    | bl kk =>
      have := rv.bl_inv; subst this
      refine ⟨kk, rfl, ?_⟩
      cases kk with
      | true =>
        rw [if_pos rfl]
        exact ⟨G3, al3, S3, τ, rl3, (rs.gr g1).gr (g2.trans g3), q.bind.imp fun G4 al4 S4 H4 mz g4 rl4 q z rz => ⟨G4, al4, S4, my, mz, rl4, ry.gr (g3.trans g4), rz, q⟩⟩
      | false =>
        rw [if_neg Bool.false_ne_true]
        exact q.now rl3 _ (.d (.bl _))
    | _ => exact q.elim
  | _ => exact q.elim
theorem pe_chainE {X : Cx} {W : WX} {a b c : Expr} {ta tb tc : TE} {op op' : CmpOp} {r r' : XK → R2} {pos : Pos} (ho : ∀ E, OpR X (compareOp op) (r E)) (ho' : ∀ E, OpR X (compareOp op') (r' E)) (ha : PE X a ta) (hb : PE X b tb) (hc : PE X c tc) (hm : lastMarks [op, op'] [b, c] = false) :
    PE X (.Compare a [op, op'] [b, c] pos) (fun σ H Q => tChain (r (WE W σ)) (r' (WE W σ)) ta tb tc σ H Q) :=
  ⟨fun pins s σ H Q I h => (pe_chain (ho (WE W σ)) (ho' (WE W σ)) ha hb hc hm).run pins s σ H Q I h⟩
theorem pt_chainE {X : Cx} {W : WX} {a b c : Expr} {ta tb tc : TE} {op op' : CmpOp} {r r' : XK → R2} {pos : Pos} (ho : ∀ E, OpR X (compareOp op) (r E)) (ho' : ∀ E, OpR X (compareOp op') (r' E)) (ha : PE X a ta) (hb : PE X b tb) (hc : PE X c tc) (hm : lastMarks [op, op'] [b, c] = false) :
    PT X (.Compare a [op, op'] [b, c] pos) (fun σ H Q => tTest (tChain (r (WE W σ)) (r' (WE W σ)) ta tb tc) σ H Q) :=
  ⟨fun pins s σ H Q I h => (pt_chain (ho (WE W σ)) (ho' (WE W σ)) ha hb hc hm).run pins s σ H Q I h⟩
theorem chain_bl {o p : Cop} {a b c : E} {τ : Slots} {S S' : Sto} {m : MV} (h : ev C (.chain o p a b c) τ S = .ok m S') : ∃ z, m = .d (.bl z) := by
  simp only [ev] at h
  cases e1 : ev C a τ S with
  | ok x S1 =>
    rw [e1] at h
    simp only [R.bind_ok] at h
    cases e2 : ev C b τ S1 with
    | ok y S2 =>
      rw [e2] at h
      simp only [R.bind_ok] at h
      cases e3 : cmpF o x y S2 with
      | ok m3 S3 =>
        obtain ⟨z, rfl⟩ := cmpF_bl e3
        rw [e3] at h
        simp only [R.bind_ok] at h
        cases z with
        | false => cases h; exact ⟨_, rfl⟩
        | true =>
          simp only at h
          cases e4 : ev C c τ S3 with
          | ok z S4 =>
            rw [e4] at h
            simp only [R.bind_ok] at h
            exact cmpF_bl h
          | exc _ _ _ => rw [e4] at h; cases h
          | stuck => rw [e4] at h; cases h
      | exc _ _ _ => rw [e3] at h; cases h
      | stuck => rw [e3] at h; cases h
    | exc _ _ _ => rw [e2] at h; cases h
    | stuck => rw [e2] at h; cases h
  | exc _ _ _ => rw [e1] at h; cases h
  | stuck => rw [e1] at h; cases h

/-- and, or, not, if: by truth -/
theorem and_of {W : WX} {K : PySem.W.Frag} (hK : K = cl.K) {fa fb : Slots → Sto → R MV} {σ : L2.St} {H : Hp} {Q : VK} (h : rd cl W (fun τ S => (fa τ S).bind fun x S1 => match truth S1 x with
    | some true => fb τ S1
    | some false => .ok x S1
    | none => .stuck) σ H Q) : tAndT K (rd cl W fa) (rd cl W fb) σ H Q := by
  obtain ⟨G, al, S, τ, rl, rs, q⟩ := h
  refine ⟨G, al, S, τ, rl, rs, q.bind.imp fun G1 al1 S1 H1 mx g1 rl1 q x rx => ?_⟩
  cases e : truth S1 mx with
  | none => rw [e] at q; exact q.elim
  | some kk =>
    rw [e] at q
    refine ⟨kk, by rw [hK]; exact truth_ok rl1 rx e, ?_⟩
    cases kk with
    | true => rw [if_pos rfl]; exact ⟨G1, al1, S1, τ, rl1, rs.gr g1, q⟩
    | false => rw [if_neg Bool.false_ne_true]; exact q.now rl1 _ rx
theorem or_of {W : WX} {K : PySem.W.Frag} (hK : K = cl.K) {fa fb : Slots → Sto → R MV} {σ : L2.St} {H : Hp} {Q : VK} (h : rd cl W (fun τ S => (fa τ S).bind fun x S1 => match truth S1 x with
    | some true => .ok x S1
    | some false => fb τ S1
    | none => .stuck) σ H Q) : tOrT K (rd cl W fa) (rd cl W fb) σ H Q := by
  obtain ⟨G, al, S, τ, rl, rs, q⟩ := h
  refine ⟨G, al, S, τ, rl, rs, q.bind.imp fun G1 al1 S1 H1 mx g1 rl1 q x rx => ?_⟩
  cases e : truth S1 mx with
  | none => rw [e] at q; exact q.elim
  | some kk =>
    rw [e] at q
    refine ⟨kk, by rw [hK]; exact truth_ok rl1 rx e, ?_⟩
    cases kk with
    | true => rw [if_pos rfl]; exact q.now rl1 _ rx
    | false => rw [if_neg Bool.false_ne_true]; exact ⟨G1, al1, S1, τ, rl1, rs.gr g1, q⟩
theorem not_of {W : WX} {K : PySem.W.Frag} (hK : K = cl.K) {fa : Slots → Sto → R MV} {σ : L2.St} {H : Hp} {Q : VK} (h : rd cl W (fun τ S => (fa τ S).bind fun x S1 => match truth S1 x with
    | some k => .ok (.d (.bl (!k))) S1
    | none => .stuck) σ H Q) : tNotT K (rd cl W fa) σ H Q := by
  obtain ⟨G, al, S, τ, rl, rs, q⟩ := h
  refine ⟨G, al, S, τ, rl, rs, q.bind.imp fun G1 al1 S1 H1 mx g1 rl1 q x rx => ?_⟩
  cases e : truth S1 mx with
  | none => rw [e] at q; exact q.elim
  | some kk =>
    rw [e] at q
    exact ⟨kk, by rw [hK]; exact truth_ok rl1 rx e, q.now rl1 _ (.d (.bl _))⟩
/-- the tests' own forms -/
theorem tand_of {W : WX} {fa fb : Slots → Sto → R MV} {σ : L2.St} {H : Hp} {Q : Bool → Hp → Prop} (h : rdT cl W (fun τ S => ((fa τ S).bind fun x S1 => match truth S1 x with
    | some true => fb τ S1
    | some false => .ok x S1
    | none => .stuck).bind fun v S1 => R.opt (truth S1 v) S1) σ H Q) :
    tAnd (rdT cl W fun τ S => (fa τ S).bind fun v S1 => R.opt (truth S1 v) S1) (rdT cl W fun τ S => (fb τ S).bind fun v S1 => R.opt (truth S1 v) S1) σ H Q := by
  obtain ⟨G, al, S, τ, rl, rs, q⟩ := h
  refine ⟨G, al, S, τ, rl, rs, ?_⟩
  dsimp only at q ⊢
  cases e : fa τ S with
  | stuck => rw [e] at q; exact q
  | exc c fs S' => rw [e] at q; exact q
  | ok m S1 =>
    rw [e] at q
    simp only [R.bind_ok] at q ⊢
    cases e2 : truth S1 m with
    | none => rw [e2] at q; exact q
    | some kk =>
      rw [e2] at q
      intro G1 al1 H1 g1 rl1
      cases kk with
      | true => (unfold Bk; dsimp only; rw [if_pos rfl]; exact ⟨G1, al1, S1, τ, rl1, rs.gr g1, Pst.gr g1 q⟩)
      | false =>
        simp only [R.bind_ok, e2, R.opt_some] at q
        (unfold Bk; dsimp only; rw [if_neg Bool.false_ne_true]; exact (q G1 al1 H1 g1 rl1))
theorem tor_of {W : WX} {fa fb : Slots → Sto → R MV} {σ : L2.St} {H : Hp} {Q : Bool → Hp → Prop} (h : rdT cl W (fun τ S => ((fa τ S).bind fun x S1 => match truth S1 x with
    | some true => .ok x S1
    | some false => fb τ S1
    | none => .stuck).bind fun v S1 => R.opt (truth S1 v) S1) σ H Q) :
    tOr (rdT cl W fun τ S => (fa τ S).bind fun v S1 => R.opt (truth S1 v) S1) (rdT cl W fun τ S => (fb τ S).bind fun v S1 => R.opt (truth S1 v) S1) σ H Q := by
  obtain ⟨G, al, S, τ, rl, rs, q⟩ := h
  refine ⟨G, al, S, τ, rl, rs, ?_⟩
  dsimp only at q ⊢
  cases e : fa τ S with
  | stuck => rw [e] at q; exact q
  | exc c fs S' => rw [e] at q; exact q
  | ok m S1 =>
    rw [e] at q
    simp only [R.bind_ok] at q ⊢
    cases e2 : truth S1 m with
    | none => rw [e2] at q; exact q
    | some kk =>
      rw [e2] at q
      intro G1 al1 H1 g1 rl1
      cases kk with
      | true =>
        simp only [R.bind_ok, e2, R.opt_some] at q
        (unfold Bk; dsimp only; rw [if_pos rfl]; exact (q G1 al1 H1 g1 rl1))
      | false => (unfold Bk; dsimp only; rw [if_neg Bool.false_ne_true]; exact ⟨G1, al1, S1, τ, rl1, rs.gr g1, Pst.gr g1 q⟩)
theorem tnot_of {W : WX} {fa : Slots → Sto → R MV} {σ : L2.St} {H : Hp} {Q : Bool → Hp → Prop} (h : rdT cl W (fun τ S => ((fa τ S).bind fun x S1 => match truth S1 x with
    | some k => .ok (.d (.bl (!k))) S1
    | none => .stuck).bind fun v S1 => R.opt (truth S1 v) S1) σ H Q) :
    tNot (rdT cl W fun τ S => (fa τ S).bind fun v S1 => R.opt (truth S1 v) S1) σ H Q := by
  obtain ⟨G, al, S, τ, rl, rs, q⟩ := h
  refine ⟨G, al, S, τ, rl, rs, ?_⟩
  dsimp only at q ⊢
  cases e : fa τ S with
  | stuck => rw [e] at q; exact q
  | exc c fs S' => rw [e] at q; exact q
  | ok m S1 =>
    rw [e] at q
    simp only [R.bind_ok] at q ⊢
    cases e2 : truth S1 m with
    | none => rw [e2] at q; exact q
    | some kk =>
      rw [e2] at q
      exact q
/-- a if t else b -/
theorem if_of {W : WX} {ft fa fb : Slots → Sto → R MV} {σ : L2.St} {H : Hp} {Q : VK} (h : rd cl W (fun τ S => (ft τ S).bind fun x S1 => match truth S1 x with
    | some true => fa τ S1
    | some false => fb τ S1
    | none => .stuck) σ H Q) : tIf (rdT cl W fun τ S => (ft τ S).bind fun v S1 => R.opt (truth S1 v) S1) (rd cl W fa) (rd cl W fb) σ H Q := by
  obtain ⟨G, al, S, τ, rl, rs, q⟩ := h
  refine ⟨G, al, S, τ, rl, rs, ?_⟩
  dsimp only at q ⊢
  cases e : ft τ S with
  | stuck => rw [e] at q; exact q
  | exc c fs S' => rw [e] at q; exact q
  | ok m S1 =>
    rw [e] at q
    simp only [R.bind_ok] at q ⊢
    cases e2 : truth S1 m with
    | none => rw [e2] at q; exact q
    | some kk =>
      rw [e2] at q
      intro G1 al1 H1 g1 rl1
      cases kk with
      | true => (unfold Bk; dsimp only; rw [if_pos rfl]; exact ⟨G1, al1, S1, τ, rl1, rs.gr g1, Pst.gr g1 q⟩)
      | false => (unfold Bk; dsimp only; rw [if_neg Bool.false_ne_true]; exact ⟨G1, al1, S1, τ, rl1, rs.gr g1, Pst.gr g1 q⟩)
theorem tif_of {W : WX} {ft fa fb : Slots → Sto → R MV} {σ : L2.St} {H : Hp} {Q : Bool → Hp → Prop} (h : rdT cl W (fun τ S => ((ft τ S).bind fun x S1 => match truth S1 x with
    | some true => fa τ S1
    | some false => fb τ S1
    | none => .stuck).bind fun v S1 => R.opt (truth S1 v) S1) σ H Q) :
    (rdT cl W fun τ S => (ft τ S).bind fun v S1 => R.opt (truth S1 v) S1) σ H fun k H1 => if k = true then (rdT cl W fun τ S => (fa τ S).bind fun v S1 => R.opt (truth S1 v) S1) σ H1 Q else (rdT cl W fun τ S => (fb τ S).bind fun v S1 => R.opt (truth S1 v) S1) σ H1 Q := by
  obtain ⟨G, al, S, τ, rl, rs, q⟩ := h
  refine ⟨G, al, S, τ, rl, rs, ?_⟩
  dsimp only at q ⊢
  cases e : ft τ S with
  | stuck => rw [e] at q; exact q
  | exc c fs S' => rw [e] at q; exact q
  | ok m S1 =>
    rw [e] at q
    simp only [R.bind_ok] at q ⊢
    cases e2 : truth S1 m with
    | none => rw [e2] at q; exact q
    | some kk =>
      rw [e2] at q
      intro G1 al1 H1 g1 rl1
      cases kk with
      | true => (unfold Bk; dsimp only; rw [if_pos rfl]; exact ⟨G1, al1, S1, τ, rl1, rs.gr g1, Pst.gr g1 q⟩)
      | false => (unfold Bk; dsimp only; rw [if_neg Bool.false_ne_true]; exact ⟨G1, al1, S1, τ, rl1, rs.gr g1, Pst.gr g1 q⟩)

/-- what is shown of an expression -/
def Snd (fs : Tx) (cl : Wd) (C : Calls) (k : Nat) (m : E) : Prop := ∀ (e : Expr) (X : Cx) (W : WX), Ctx fs cl C X W k → same fs X.N X.env.scope m e = true → PE X e (rd cl W (ev C m)) ∧ PT X e (rdT cl W (evT C m))
/-- .. where the form is no test's own -/
theorem Snd.plain {m : E} {e : Expr} {X : Cx} {W : WX} (c : Ctx fs cl C X W k) (h : PE X e (rd cl W (ev C m))) (hp : ∀ whole : Sem Value, PySem.isTrue e X.env whole = do
    let v ← whole
    standAt e.pos
    holding [v] (truthy v)) : PE X e (rd cl W (ev C m)) ∧ PT X e (rdT cl W (evT C m)) :=
  ⟨h, PT.imp (pt_truth h hp) fun σ H Q q => tt_of c.pf.kk q⟩
end
end Mi
namespace Mi
open PySem L2 PyProof.Rows
section
variable {fs : Tx} {cl : Wd} {C : Calls} {k : Nat}

/-- isinstance(x, T) -/
theorem pe_isi {cl : Wd} {X : Cx} {W : WX} {x : Expr} {ty : String} {p tp pos : Pos} {fa : Slots → Sto → R MV} (hK : X.K = cl.K) (is : IsF cl) (nob : ∀ y ∈ bnames, X.mg (Str.ofString y) = none) (h4 : ["int", "bool", "str", "list", "tuple"].contains ty = true) (h2 : Gl X "isinstance") (h5 : Gl X (Str.ofString ty)) (h6 : noStar x = true) (ha : PE X x (rd cl W fa)) :
    PE X (.Call (.Name "isinstance" p) [x, .Name (Str.ofString ty) tp] [] pos) (rd cl W fun τ S => (fa τ S).bind fun v S1 => isiF ty v S1) := by
  have hm : ty ∈ ["int", "bool", "str", "list", "tuple"] := by simpa using h4
  have hn : X.mg (Str.ofString ty) = none := nob _ (by
    simp only [List.mem_cons, List.mem_nil_iff, or_false] at hm
    rcases hm with rfl | rfl | rfl | rfl | rfl <;> decide)
  have hb : bootBuiltins (Str.ofString ty) = some (.type ty) := by
    simp only [List.mem_cons, List.mem_nil_iff, or_false] at hm
    rcases hm with rfl | rfl | rfl | rfl | rfl <;> decide +kernel
  have hd : (Str.ofString ty == ("__debug__" : Str)) = false ∧ Str.ofString ty ≠ ("__name__" : Str) := by
    simp only [List.mem_cons, List.mem_nil_iff, or_false] at hm
    rcases hm with rfl | rfl | rfl | rfl | rfl <;> exact ⟨by decide, by decide⟩
  have ht : PE X (.Name (Str.ofString ty) tp) (tC (.ty ty)) := pe_bltn h5 hn hb rfl hd.2 hd.1
  have st : starEach [x, .Name (Str.ofString ty) tp] X.env = (false, eval x X.env) :: starEach [.Name (Str.ofString ty) tp] X.env := star_of h6
  refine ⟨fun pins s σ H Q I q => ?_⟩
  refine (pe_callB (call_isiM (X := X) (cl := cl) (E := WE W σ) ty hK is) h2 (nob "isinstance" (by decide)) (by decide +kernel) (pa_cons ha (pa_cons ht pa_nil) st) (by decide) (by decide) st rfl).run pins s σ H Q I ?_
  obtain ⟨G, al, S, τ, rl, rs, q⟩ := q
  exact ⟨G, al, S, τ, rl, rs, q.bind.imp fun G1 al1 S1 H1 m g1 rl1 q v rv => ⟨v, rfl, G1, al1, S1, m, rl1, rv, q⟩⟩

/-- the condition's meaning -/
def cdO (C : Calls) : Eo → Option (Slots → Sto → R Bool)
  | .no => none
  | .yes e => some (evT C e)
def rdO (cl : Wd) (W : WX) (f : Slots → Sto → R (Option Int)) : TO := fun σ H Q => ∃ G al S τ, Rl cl G al S H ∧ RepS cl G al S.length σ τ ∧ Pst cl G al S H (f τ S) (fun _ _ _ H' o => Q o H') (WE W σ)
theorem rgSz {i j c : Int} (hp : 0 < c) : Builtin.Range.rangeSize i j c = (((j - i + c - 1) / c).toNat : Int) := by
  unfold Builtin.Range.rangeSize
  rw [if_pos hp]
  split
  · have e : j - i + c - 1 = (j - i - 1) + 1 * c := by omega
    have h0 : 0 ≤ (j - i - 1) / c := Int.ediv_nonneg (by omega) (by omega)
    rw [e, Int.add_mul_ediv_right _ _ (by omega)]
    omega
  · have : (j - i + c - 1) / c ≤ 0 := by
      have h1 := Int.ediv_le_ediv hp (show j - i + c - 1 ≤ c - 1 by omega)
      have h2 : (c - 1) / c = 0 := Int.ediv_eq_zero_of_lt (by omega) (by omega)
      omega
    omega
theorem rgC_up {i j c : Int} (hp : 0 < c) (h1 : -1000000000 ≤ i) (h2 : i ≤ 1000000000) (h3 : -1000000000 ≤ j) (h4 : j ≤ 1000000000) (h5 : c ≤ 1000000000) : RgC i j c ((j - i + c - 1) / c).toNat := by
  refine ⟨by omega, by omega, ?_, ?_⟩
  · unfold Builtin.Range.small
    rw [rgSz hp]
    have e : (j - i + c - 1) / c ≤ 4000000000 := Int.le_trans (Int.ediv_le_ediv hp (show j - i + c - 1 ≤ 4000000000 * c by
      have := Int.mul_le_mul_of_nonneg_left (show (1:Int) ≤ c by omega) (show (0:Int) ≤ 4000000000 by decide)
      omega)) (by rw [Int.mul_ediv_cancel _ (by omega)]; exact Int.le_refl _)
    simp only [Builtin.Range.rangeFitsLong, Bool.and_eq_true, Bool.or_eq_true, decide_eq_true_eq, beq_iff_eq, show c > 0 from hp, if_true]
    omega
  · exact rgSz hp
theorem PO.imp {X : Cx} {e : Option Expr} {t t' : TO} (h : PO X e t) (i : ∀ σ H Q, t' σ H Q → t σ H Q) : PO X e t' := ⟨fun pins s σ H Q I q => h.run pins s σ H Q I (i _ _ _ q)⟩
theorem repL_ints {cl : Wd} {G : Hp} : ∀ is : List Int, RepL cl G (is.map V.int) (is.map D.int)
  | [] => .nil
  | i :: is => .cons (.int i) (repL_ints is)
theorem cb1_of {cl : Wd} {W : WX} {f : Slots → Sto → R MV} {op : MV → Sto → R MV} {σ : L2.St} {H : Hp} {Q : VK}
    (h : rd cl W (fun τ S => (f τ S).bind fun x S1 => op x S1) σ H Q) : tCons (rd cl W f) tNil σ H fun vs H1 => ∃ x, vs = [x] ∧ r1 cl (WE W σ) op x H1 Q := by
  obtain ⟨G, al, S, τ, rl, rs, p⟩ := h
  exact ⟨G, al, S, τ, rl, rs, p.bind.imp fun G1 al1 S1 H1 mx g1 rl1 q x rx => ⟨x, rfl, G1, al1, S1, mx, rl1, rx, q⟩⟩
mutual
theorem sound : ∀ m : E, Snd fs cl C k m
  | .var i => by
    intro e X W c h
    cases e with
    | Name x p =>
      simp only [same, Bool.and_eq_true, decide_eq_true_eq] at h
      obtain ⟨⟨h1, h2⟩, h3⟩ := h
      refine Snd.plain c (PE.imp (pe_var h1 (vis_of h2) (plain_of h3).1 (plain_of h3).2.1) fun σ H Q ⟨G, al, S, τ, rl, rs, p⟩ => ?_) fun _ => rfl
      simp only [ev] at p
      split at p
      · rename_i v e
        obtain ⟨u, e1, r1⟩ := rs.2 i v e
        exact ⟨u, e1, p.now rl u r1⟩
      · exact p.elim
    | _ => simp [same] at h
  | .int i => by
    intro e X W c h
    cases e with
    | Constant v kk p =>
      cases v with
      | int j =>
        simp only [same, decide_eq_true_eq] at h
        subst h
        exact Snd.plain c (PE.imp pe_int fun σ H Q ⟨G, al, S, τ, rl, rs, p⟩ => p.now rl _ (.d (.int _))) fun _ => rfl
      | _ => simp [same] at h
    | _ => simp [same] at h
  | .bl b => by
    intro e X W c h
    cases e with
    | Constant v kk p =>
      cases v with
      | bool j =>
        simp only [same, beq_iff_eq] at h
        subst h
        exact Snd.plain c (PE.imp pe_bl fun σ H Q ⟨G, al, S, τ, rl, rs, p⟩ => p.now rl _ (.d (.bl _))) fun _ => rfl
      | _ => simp [same] at h
    | _ => simp [same] at h
  | .non => by
    intro e X W c h
    cases e with
    | Constant v kk p =>
      cases v with
      | none => exact Snd.plain c (PE.imp pe_non fun σ H Q ⟨G, al, S, τ, rl, rs, p⟩ => p.now rl _ (.d .non)) fun _ => rfl
      | _ => simp [same] at h
    | _ => simp [same] at h
  | .str s => by
    intro e X W c h
    cases e with
    | Constant v kk p =>
      cases v with
      | str t =>
        simp only [same, beq_iff_eq] at h
        subst h
        exact Snd.plain c (PE.imp pe_str fun σ H Q ⟨G, al, S, τ, rl, rs, p⟩ => p.now rl _ (.d (.str _))) fun _ => rfl
      | _ => simp [same] at h
    | _ => simp [same] at h
  | .bin o a b => by
    intro e X W c h
    cases e with
    | BinOp x p y pos =>
      simp only [same, Bool.and_eq_true, decide_eq_true_eq] at h
      obtain ⟨⟨h1, h2⟩, h3⟩ := h
      subst h1
      have ha := (sound a x X W c h2).1
      have hb := (sound b y X W c h3).1
      exact Snd.plain c (PE.imp (pe_opE (W := W) (r := fun E => r2 cl E (binF o)) (fun E => op_bin o c.pf.kk) ha hb) fun σ H Q q => op_of q) fun _ => rfl
    | _ => simp [same] at h
  | .neg a => by
    intro e X W c h
    cases e with
    | UnaryOp op x pos =>
      cases op with
      | USub =>
        simp only [same] at h
        have ha := (sound a x X W c h).1
        exact Snd.plain c (PE.imp (pe_unE (W := W) (r := fun E => r1 cl E negF) (fun E => un_negM) ha) fun σ H Q q => un_of q) fun _ => rfl
      | _ => simp [same] at h
    | _ => simp [same] at h
  | .cmp o a b => by
    intro e X W c h
    cases e with
    | Compare x ops ys pos =>
      match ops, ys, h with
      | [p], [y], h =>
        simp only [same, Bool.and_eq_true, decide_eq_true_eq] at h
        obtain ⟨⟨⟨h1, h2⟩, h3⟩, h4⟩ := h
        subst h1
        have ha := (sound a x X W c h3).1
        have hb := (sound b y X W c h4).1
        have ho : ∀ E, OpR X (compareOp (copOf o)) (r2 cl E (cmpF o)) := fun E => op_cmp o c.pf.kk c.hu
        refine ⟨PE.imp (pe_cmpE (W := W) (r := fun E => r2 cl E (cmpF o)) ho ha hb (mark_of h2)) fun σ H Q q => op_of q, ?_⟩
        refine PT.imp (pt_cmpE (W := W) (r := fun E => r2 cl E (cmpF o)) ho ha hb (mark_of h2)) fun σ H Q q => ?_
        have q' : rd cl W (ev C (.cmp o a b)) σ H (fun x H' => ∃ k, x = .bl k ∧ Q k H') := bl_of (fun τ S m S' h => cmp_bl h) q
        exact op_of q'
      | [], _, h => simp [same] at h
      | _ :: _ :: _, _, h => simp [same] at h
      | [_], [], h => simp [same] at h
      | [_], _ :: _ :: _, h => simp [same] at h
    | _ => simp [same] at h
  | .chain o p a b c => by
    intro e X W ct h
    cases e with
    | Compare x ops ys pos =>
      match ops, ys, h with
      | [q, r], [y, z], h =>
        simp only [same, Bool.and_eq_true, decide_eq_true_eq] at h
        obtain ⟨⟨⟨⟨⟨h1, h2⟩, h3⟩, h4⟩, h5⟩, h6⟩ := h
        subst h1; subst h2
        have ha := (sound a x X W ct h4).1
        have hb := (sound b y X W ct h5).1
        have hc := (sound c z X W ct h6).1
        have ho : ∀ o E, OpR X (compareOp (copOf o)) (r2 cl E (cmpF o)) := fun o E => op_cmp o ct.pf.kk ct.hu
        have hm : lastMarks [copOf o, copOf p] [y, z] = false := mark_of h3
        refine ⟨PE.imp (pe_chainE (W := W) (r := fun E => r2 cl E (cmpF o)) (r' := fun E => r2 cl E (cmpF p)) (ho o) (ho p) ha hb hc hm) fun σ H Q q => chain_of q, ?_⟩
        refine PT.imp (pt_chainE (W := W) (r := fun E => r2 cl E (cmpF o)) (r' := fun E => r2 cl E (cmpF p)) (ho o) (ho p) ha hb hc hm) fun σ H Q q => ?_
        have q' : rd cl W (ev C (.chain o p a b c)) σ H (fun x H' => ∃ k, x = .bl k ∧ Q k H') := bl_of (fun τ S m S' h => chain_bl h) q
        exact chain_of q'
      | [], _, h => simp [same] at h
      | [_], _, h => simp [same] at h
      | _ :: _ :: _ :: _, _, h => simp [same] at h
      | [_, _], [], h => simp [same] at h
      | [_, _], [_], h => simp [same] at h
      | [_, _], _ :: _ :: _ :: _, h => simp [same] at h
    | _ => simp [same] at h
  | .and_ a b => by
    intro e X W c h
    cases e with
    | BoolOp op vs pos =>
      cases op with
      | Or => simp [same] at h
      | And =>
        match vs, h with
        | x :: y :: rest, h =>
          simp only [same, Bool.and_eq_true] at h
          obtain ⟨ha, ta⟩ := sound a x X W c h.1
          obtain ⟨hb, tb⟩ := sound b _ X W c h.2
          exact ⟨PE.imp (pe_andT ha hb) fun σ H Q q => and_of c.pf.kk q, PT.imp (pw_and ta (PT.toPW tb)).pt fun σ H Q q => tand_of q⟩
        | [], h => simp [same] at h
        | [_], h => simp [same] at h
    | _ => simp [same] at h
  | .or_ a b => by
    intro e X W c h
    cases e with
    | BoolOp op vs pos =>
      cases op with
      | And => simp [same] at h
      | Or =>
        match vs, h with
        | x :: y :: rest, h =>
          simp only [same, Bool.and_eq_true] at h
          obtain ⟨ha, ta⟩ := sound a x X W c h.1
          obtain ⟨hb, tb⟩ := sound b _ X W c h.2
          exact ⟨PE.imp (pe_orT ha hb) fun σ H Q q => or_of c.pf.kk q, PT.imp (pw_or ta (PT.toPW tb)).pt fun σ H Q q => tor_of q⟩
        | [], h => simp [same] at h
        | [_], h => simp [same] at h
    | _ => simp [same] at h
  | .one a => by
    intro e X W c h
    cases e with
    | BoolOp op vs pos =>
      match vs, h with
      | [x], h =>
        simp only [same] at h
        obtain ⟨ha, ta⟩ := sound a x X W c h
        refine ⟨pe_one ha, ?_⟩
        cases op with
        | And => exact (pw_and1 ta).pt
        | Or => exact (pw_or1 ta).pt
      | [], h => simp [same] at h
      | _ :: _ :: _, h => simp [same] at h
    | _ => simp [same] at h
  | .not_ a => by
    intro e X W c h
    cases e with
    | UnaryOp op x pos =>
      cases op with
      | Not =>
        simp only [same] at h
        obtain ⟨ha, ta⟩ := sound a x X W c h
        exact ⟨PE.imp (pe_notT ha) fun σ H Q q => not_of c.pf.kk q, PT.imp (pt_not ta) fun σ H Q q => tnot_of q⟩
      | _ => simp [same] at h
    | _ => simp [same] at h
  | .ife t a b => by
    intro e X W c h
    cases e with
    | IfExp x y z pos =>
      simp only [same, Bool.and_eq_true] at h
      obtain ⟨ht, tt⟩ := sound t x X W c h.1.1
      obtain ⟨ha, ta⟩ := sound a y X W c h.1.2
      obtain ⟨hb, tb⟩ := sound b z X W c h.2
      exact ⟨PE.imp (pe_ifExp tt ha hb) fun σ H Q q => if_of q, PT.imp (PT.ife tt ta tb) fun σ H Q q => tif_of q⟩
    | _ => simp [same] at h
  | .tup es => by
    intro e X W c h
    cases e with
    | Tuple xs kk pos =>
      simp only [same] at h
      refine Snd.plain c (PE.imp (pe_tup (soundA es xs X W c h)) fun σ H Q ⟨G, al, S, τ, rl, rs, q⟩ => ?_) fun _ => rfl
      exact ⟨G, al, S, τ, rl, rs, q.bind.imp fun G1 al1 S1 H1 ms g1 rl1 q vs rv => newT_ok rl1 rv q⟩
    | _ => simp [same] at h
  | .lst cell es => by
    intro e X W c h
    cases e with
    | List xs pos =>
      simp only [same] at h
      refine Snd.plain c (PE.imp (pe_lst (soundA es xs X W c h)) fun σ H Q ⟨G, al, S, τ, rl, rs, q⟩ => ?_) fun _ => rfl
      exact ⟨G, al, S, τ, rl, rs, q.bind.imp fun G1 al1 S1 H1 ms g1 rl1 q vs rv => newL_ok rl1 rv q⟩
    | _ => simp [same] at h
  | .ix a i => by
    intro e X W c h
    cases e with
    | Subscript x y pos =>
      simp only [same, Bool.and_eq_true] at h
      have ha := (sound a x X W c h.1.2).1
      have hb := (sound i y X W c h.2).1
      exact Snd.plain c (PE.imp (pe_ixE (W := W) (r := fun E => r2 cl E ixF) (fun E => ix_seqM c.pf.kk) ha hb (plainIx_of h.1.1)) fun σ H Q q => op_of q) fun _ => rfl
    | _ => simp [same] at h
  | .call raw f es => by
    intro e X W c h
    cases e with
    | Call g xs kws pos =>
      cases g with
      | Name g p =>
        cases kws with
        | cons _ _ => simp [same] at h
        | nil =>
          simp only [same, Bool.and_eq_true, beq_iff_eq] at h
          obtain ⟨⟨⟨⟨⟨h1, h2⟩, h3⟩, h4⟩, h5⟩, s1⟩ := h
          subst h2
          exact Snd.plain c (pe_def c h1 (gl_of h3) h4 (soundA es xs X W c h5) (List.all_eq_true.mp s1) fun z => by subst z; exact sames_nil es h5) fun _ => rfl
      | _ => simp [same] at h
    | _ => simp [same] at h
  | .blt cell b es => by
    intro e X W c h
    cases e with
    | Call g xs kws pos =>
      cases g with
      | Name g p =>
        cases kws with
        | cons _ _ => cases xs <;> simp [same] at h
        | nil =>
          cases xs with
          | nil => simp [same] at h
          | cons x xs =>
            simp only [same, Bool.and_eq_true, beq_iff_eq] at h
            obtain ⟨⟨⟨h2, h3⟩, h5⟩, s1'⟩ := h
            subst h2
            have s1 := List.all_eq_true.mp s1'
            have ha := soundA es (x :: xs) X W c h5
            have hn : X.mg (Str.ofString b.name) = none := c.pf.nob _ (by cases b <;> decide)
            have st := star_of (es := xs) (env := X.env) (s1 x (by simp))
            have an : (backTo pos (starEach xs X.env)).any (·.1) = false := any_back fun e he => s1 e (by simp [he])
            have hb := boot_any b
            refine Snd.plain c ⟨fun pins s σ H Q I q => ?_⟩ fun _ => rfl
            have r := bt_all_any (X := X) (cl := cl) (E := WE W σ) (cell := cell) b c.pf.kk c.calm
            have q' : tCB (rN cl (WE W σ) (bltF cell b)) (rdA cl W (evs C es)) σ H Q := cb_of q
            cases hty : b.isTy with
            | true =>
              rw [hty] at r hb
              exact (pe_callTy r (gl_of h3) hn hb ha (by cases b <;> decide) (by cases b <;> decide) st an).run pins s σ H Q I q'
            | false =>
              rw [hty] at r hb
              exact (pe_callB r (gl_of h3) hn hb ha (by cases b <;> decide) (by cases b <;> decide) st an).run pins s σ H Q I q'
      | _ => simp [same] at h
    | _ => simp [same] at h
  | .isi a ty => by
    intro e X W c h
    cases e with
    | Call g xs kws pos =>
      cases g with
      | Name g p =>
        match xs, kws, h with
        | [x, t], [], h =>
          cases t with
          | Name t tp =>
            simp only [same, Bool.and_eq_true, beq_iff_eq] at h
            obtain ⟨⟨⟨⟨⟨⟨h1, h2⟩, h3⟩, h4⟩, h5⟩, h6⟩, h7⟩ := h
            subst h1; subst h3
            exact Snd.plain c (pe_isi c.pf.kk c.pf.isf (fun y hy => c.pf.nob y hy) h4 (gl_of h2) (gl_of h5) h6 (sound a x X W c h7).1) fun _ => rfl
          | _ => simp [same] at h
        | [], _, h => simp [same] at h
        | [_], _, h => simp [same] at h
        | _ :: _ :: _ :: _, _, h => simp [same] at h
        | [x, t], _ :: _, h => cases t <;> simp [same] at h
      | _ => simp [same] at h
    | _ => simp [same] at h
  | .app a m => by
    intro e X W c h
    cases e with
    | Call g xs kws pos =>
      cases g with
      | Attribute o f p =>
        match xs, kws, h with
        | [y], [], h =>
          simp only [same, Bool.and_eq_true, beq_iff_eq] at h
          obtain ⟨⟨⟨⟨⟨h1, h2⟩, h3⟩, h4⟩, h5⟩, h6⟩ := h
          subst h1
          have ha := (sound a o X W c h5).1
          have hm := (sound m y X W c h6).1
          have st : starEach [y] X.env = (false, eval y X.env) :: starEach [] X.env := star_of h4
          refine Snd.plain c ⟨fun pins s σ H Q I q => ?_⟩ fun _ => rfl
          refine (pe_bm PySem.F.plainAttrs_list PySem.F.slot_list_append PySem.F.type_list_append (mt_app (X := X) (cl := cl) (E := WE W σ)) ha (pa_cons hm pa_nil st) (sup_of h2) (by rw [st]; rfl) (by rw [h3]; simp) st rfl).run pins s σ H Q I ?_
          obtain ⟨G, al, S, τ, rl, rs, q⟩ := q
          refine ⟨G, al, S, τ, rl, rs, q.bind.imp fun G1 al1 S1 H1 mx g1 rl1 q v rv => ?_⟩
          split at q
          · rename_i hl
            refine ⟨?_, G1, al1, S1, τ, rl1, rs.gr g1, q.bind.imp fun G2 al2 S2 H2 my g2 rl2 q w rw' => ⟨w, rfl, G2, al2, S2, mx, my, rl2, rv.gr g2, rw', q⟩⟩
            unfold lstC at hl
            split at hl
            · rename_i i
              split at hl
              · rename_i ms es
                cases rv with
                | c _ hi =>
                  obtain ⟨_, _, ob, h2, h3⟩ := rl1.live i _ es rfl
                  cases h3 with
                  | lst h3 => exact .inl ⟨rfl, _, SqL.of h2⟩
              · cases hl
            · cases hl
          · exact q.elim
        | [], _, h => simp [same] at h
        | _ :: _ :: _, _, h => simp [same] at h
        | [_], _ :: _, h => simp [same] at h
      | _ => simp [same] at h
    | _ => simp [same] at h
  | .lc cell elt tg it cd own => by
    intro e X W c h
    cases e with
    | ListComp x gens scope pos =>
      match gens, h with
      | [⟨t, iter, ifs, as⟩], h =>
        simp only [same, Bool.and_eq_true, List.all_eq_true, decide_eq_true_eq] at h
        obtain ⟨⟨⟨⟨⟨⟨⟨h0, h1⟩, h2⟩, h3⟩, h4⟩, h5⟩, h7⟩, h6⟩ := h
        subst h0
        have hI := soundI it iter t X W c h4
        refine Snd.plain c (PE.imp (pe_lc c.calm c.nd hI (blkOk_by h1)
          (fun s H CC cl' fp => pg_tg (cl := cl) (tg := tg) (X := X.blk s H scope (compEnvC scope cl' CC X.env) fp) c.nd c.calm c.pf.kk h5)
          (fun s H CC cl' fp => soundC cd ifs (X.blk s H scope (compEnvC scope cl' CC X.env) fp) (c.blk s H scope (compEnvC scope cl' CC X.env) fp) h7)
          (fun s H CC cl' fp => (sound elt x (X.blk s H scope (compEnvC scope cl' CC X.env) fp) W0 (c.blk s H scope (compEnvC scope cl' CC X.env) fp) h6).1) (fold_of h3)) fun σ H Q q => ?_) fun _ => rfl
        have hs : ∀ j ∈ tg.sl, j ∈ own.map (·.2) := fun j hj => by simpa using h2 j hj
        have := lc_of (cd := cdO C cd) hs (by
          cases cd with
          | no => exact q
          | yes e => exact q)
        rw [List.map_map]
        exact this
      | [], h => simp [same] at h
      | _ :: _ :: _, h => simp [same] at h
    | _ => simp [same] at h
  | .lc2 cell elt tg it tg2 it2 own own2 => by
    intro e X W c h
    cases e with
    | ListComp x gens scope pos =>
      match gens, h with
      | [⟨t, iter, [], as⟩, ⟨t2, iter2, [], as2⟩], h =>
        simp only [same, Bool.and_eq_true, List.all_eq_true, decide_eq_true_eq] at h
        obtain ⟨⟨⟨⟨⟨⟨⟨⟨⟨⟨⟨⟨h0, h01⟩, h1⟩, h2⟩, h21⟩, h22⟩, h3⟩, h31⟩, h4⟩, h5⟩, h41⟩, h51⟩, h6⟩ := h
        subst h0 h01
        have hI := soundI it iter t X W c h4
        have ho : (own.map fun p => (Str.ofString p.1, p.2)).map (·.2) = own.map (·.2) := by rw [List.map_map]; rfl
        refine Snd.plain c (PE.imp (pe_lc2 (vs1 := own2) c.calm c.nd hI (blkOk_by h1) (fun j hj => by rw [ho]; simpa using h22 j hj)
          (fun s H CC cl' fp => pg_tg (cl := cl) (tg := tg) (X := X.blk s H scope (compEnvC scope cl' CC X.env) fp) c.nd c.calm c.pf.kk h5)
          (fun _ _ _ _ _ => pts_nil)
          (fun s H CC cl' fp => soundI it2 iter2 t2 (X.blk s H scope (compEnvC scope cl' CC X.env) fp) W0 (c.blk s H scope (compEnvC scope cl' CC X.env) fp) h41)
          (fun s H CC cl' fp => pg_tg (cl := cl) (tg := tg2) (X := X.blk s H scope (compEnvC scope cl' CC X.env) fp) c.nd c.calm c.pf.kk h51)
          (fun _ _ _ _ _ => pts_nil)
          (fun s H CC cl' fp => (sound elt x (X.blk s H scope (compEnvC scope cl' CC X.env) fp) W0 (c.blk s H scope (compEnvC scope cl' CC X.env) fp) h6).1) (fold_of h3) (fun env => fold_of h31)) fun σ H Q q => ?_) fun _ => rfl
        have := lc2_of (fun j hj => by simpa using h2 j hj) (fun j hj => by simpa using h21 j hj) q
        rw [ho]
        exact this
      | [], h => simp [same] at h
      | [_], h => simp [same] at h
      | _ :: _ :: _ :: _, h => simp [same] at h
      | [⟨t, iter, _ :: _, as⟩, _], h => simp [same] at h
      | [⟨t, iter, [], as⟩, ⟨t2, iter2, _ :: _, as2⟩], h => simp [same] at h
    | _ => simp [same] at h
  | .sl cell a lo hi => by
    intro e X W c h
    simp only [same] at h
    split at h
    · rename_i x l u ei
      obtain ⟨p, q, rfl⟩ := isSl_inv ei
      simp only [Bool.and_eq_true] at h
      have ha := (sound a x X W c h.1.1).1
      have hl := soundO lo l X W c h.1.2
      have hu := soundO hi u X W c h.2
      refine Snd.plain c ⟨fun pins s σ H Q I q => ?_⟩ fun _ => rfl
      refine (pe_slice (sl_any (cl := cl) (E := WE W σ) (cell := cell) c.pf.kk) ha hl hu).run pins s σ H Q I ?_
      obtain ⟨G, al, S, τ, rl, rs, q⟩ := q
      refine ⟨G, al, S, τ, rl, rs, q.bind.imp fun G1 al1 S1 H1 mx g1 rl1 q v rv => ?_⟩
      refine ⟨G1, al1, S1, τ, rl1, rs.gr g1, q.bind.imp fun G2 al2 S2 H2 lo g2 rl2 q => ?_⟩
      exact ⟨G2, al2, S2, τ, rl2, (rs.gr g1).gr g2, q.bind.imp fun G3 al3 S3 H3 hi g3 rl3 q => ⟨G3, al3, S3, mx, rl3, (rv.gr g2).gr g3, q⟩⟩
    · cases h
  | .isc a cn => by
    intro e X W c h
    cases e with
    | Call g xs kws pos =>
      cases g with
      | Name g p =>
        match xs, kws, h with
        | [x, t], [], h =>
          cases t with
          | Name t tp =>
            simp only [same, Bool.and_eq_true, beq_iff_eq] at h
            obtain ⟨⟨⟨⟨⟨⟨⟨h1, h2⟩, h3⟩, h4⟩, h5⟩, h6⟩, h7⟩, h8⟩ := h
            subst h1; subst h3
            obtain ⟨D, hcl, hm⟩ := c.pf.cls cn h4
            have ha := (sound a x X W c h8).1
            have ht : PE X (.Name (Str.ofString cn) tp) (tC (.ref D)) := pe_glob (v := .ref D) (gl_of h5) hm rfl (plain_of h6).1
            have st : starEach [x, .Name (Str.ofString cn) tp] X.env = (false, eval x X.env) :: starEach [.Name (Str.ofString cn) tp] X.env := star_of h7
            refine Snd.plain c ⟨fun pins s σ H Q I q => ?_⟩ fun _ => rfl
            refine (pe_callB (call_iscM (X := X) (cl := cl) (E := WE W σ) cn hcl c.pf.kk c.pf.isf) (gl_of h2) (c.pf.nob "isinstance" (by decide)) (by decide +kernel) (pa_cons ha (pa_cons ht pa_nil) st) (by decide) (by decide) st rfl).run pins s σ H Q I ?_
            obtain ⟨G, al, S, τ, rl, rs, q⟩ := q
            exact ⟨G, al, S, τ, rl, rs, q.bind.imp fun G1 al1 S1 H1 m g1 rl1 q v rv => ⟨v, rfl, G1, al1, S1, m, rl1, rv, q⟩⟩
          | _ => simp [same] at h
        | [], _, h => simp [same] at h
        | [_], _, h => simp [same] at h
        | _ :: _ :: _ :: _, _, h => simp [same] at h
        | [x, t], _ :: _, h => cases t <;> simp [same] at h
      | _ => simp [same] at h
    | _ => simp [same] at h
  | .gtup x is => by
    intro e X W c h
    cases e with
    | Name y p =>
      simp only [same, Bool.and_eq_true, beq_iff_eq] at h
      obtain ⟨⟨⟨h1, h2⟩, h3⟩, h4⟩ := h
      subst h1
      obtain ⟨a, hm, ht⟩ := c.pf.gtup x is h4
      refine Snd.plain c (PE.imp (pe_glob (v := .ref a) (gl_of h2) hm rfl (plain_of h3).1) fun σ H Q ⟨G, al, S, τ, rl, rs, q⟩ => ?_) fun _ => rfl
      exact q.now rl _ (.d (.tup (by have := ht G; rw [c.pf.kk] at this; exact this) (repL_ints is)))
    | _ => simp [same] at h
  | .new md cn es => by
    intro e X W c h
    cases e with
    | Call g xs kws pos =>
      cases g with
      | Name g p =>
        cases kws with
        | cons _ _ => cases xs <;> simp [same] at h
        | nil =>
          cases xs with
          | nil => simp [same] at h
          | cons x xs =>
            simp only [same, Bool.and_eq_true, beq_iff_eq] at h
            obtain ⟨⟨⟨⟨⟨h1, h2⟩, h3⟩, h4⟩, h5⟩, s1⟩ := h
            subst h2
            exact Snd.plain c (pe_newM c h1 (gl_of h3) h4 (soundA es (x :: xs) X W c h5) (List.all_eq_true.mp s1)) fun _ => rfl
      | _ => cases xs <;> simp [same] at h
    | _ => simp [same] at h
  | .meth md cs a m es => by
    intro e X W c h
    simp only [same] at h
    split at h
    · rename_i o f p xs q ei
      have := isMe_inv ei; subst this
      simp only [Bool.and_eq_true, beq_iff_eq, decide_eq_true_eq] at h
      obtain ⟨⟨⟨⟨⟨⟨⟨h1, h2⟩, h3⟩, h4⟩, h5⟩, h6⟩, h7⟩, h8⟩ := h
      subst h1
      exact Snd.plain c (pe_methM c h2 h3 (by simpa using h4) h5 (sound a o X W c h7).1 (soundA es xs X W c h8) (List.all_eq_true.mp h6) fun z => by subst z; exact sames_nil es h8) fun _ => rfl
    · cases h
  | .attr a f => by
    intro e X W c h
    cases e with
    | Attribute o g pos =>
      simp only [same, Bool.and_eq_true, beq_iff_eq] at h
      obtain ⟨⟨⟨h1, h2⟩, h3⟩, h4⟩ := h
      subst h1
      exact Snd.plain c (pe_attr c h2 h3 (sound a o X W c h4).1) fun _ => rfl
    | _ => simp [same] at h
  | .prop md cs a f => by
    intro e X W c h
    cases e with
    | Attribute o g pos =>
      simp only [same, Bool.and_eq_true, beq_iff_eq] at h
      obtain ⟨⟨⟨h1, h2⟩, h3⟩, h4⟩ := h
      subst h1
      exact Snd.plain c (pe_propM c h2 h3 (sound a o X W c h4).1) fun _ => rfl
    | _ => simp [same] at h
  | .opm md cs m a b => by
    intro e X W c h
    simp only [same] at h
    split at h
    · rename_i x y ei
      simp only [Bool.and_eq_true] at h
      obtain ⟨⟨h1, h2⟩, h3⟩ := h
      have ha := (sound a x X W c h2).1
      have hb := (sound b y X W c h3).1
      rcases isOp_inv ei with ⟨p, rfl, rfl, hsl⟩ | ⟨p, rfl, rfl⟩ | ⟨p, rfl, rfl, hset⟩
      · refine Snd.plain c ⟨fun pins s σ H Q I q => ?_⟩ fun _ => rfl
        exact Subscript_ (binT ha hb I (op_of (op := opmF C md cs "__getitem__") q) fun v u s2 x y H2 I2 rx ry q => op_getM c h1 hsl I2 rx ry q)
      · refine Snd.plain c ⟨fun pins s σ H Q I q => ?_⟩ fun _ => rfl
        exact wpAny_BinOp (binT ha hb I (op_of (op := opmF C md cs "__mul__") q) fun v u s2 x y H2 I2 rx ry q => op_mulM c h1 I2 rx ry q)
      · refine ⟨⟨fun pins s σ H Q I q => ?_⟩, ⟨fun pins s σ H Q I q => ?_⟩⟩
        · exact wpAny_Compare1 (binT ha hb I (op_of (op := opmF C md cs "__eq__") q) fun v u s2 x y H2 I2 rx ry q => op_eqM c h1 I2 rx ry q) (mark_of hset)
        · have q' : rd cl W (ev C (.opm md cs "__eq__" a b)) σ H fun x H' => ∃ k, TruV cl.K x H' k ∧ Q k H' := tt_of rfl q
          refine wpAny_isTrue_Compare1 (thn (ha.run pins s σ H _ I (op_of (op := opmF C md cs "__eq__") q')) fun v s1 ⟨x, H1, I1, r1, q1⟩ => thn (hb.run pins s1 σ H1 _ I1 q1) fun u s2 ⟨y, H2, I2, r2, q2⟩ =>
            thn (op_eqM c h1 I2 r1 r2 q2) fun cv s3 ⟨z, H3, I3, r3, k, e, q3⟩ => ?_) (mark_of hset)
          exact tru_ok pins s3 σ H3 z cv Q I3 r3 ⟨k, by rw [c.pf.kk]; exact e, q3⟩
    · cases h
  | .lenm md cs a => by
    intro e X W c h
    cases e with
    | Call g xs kws pos =>
      cases g with
      | Name g p =>
        match xs, kws, h with
        | [x], [], h =>
          simp only [same, Bool.and_eq_true, beq_iff_eq] at h
          obtain ⟨⟨⟨⟨h1, h2⟩, h3⟩, h4⟩, h5⟩ := h
          subst h1
          have ha := (sound a x X W c h5).1
          have st : starEach [x] X.env = [(false, eval x X.env)] := star_of h4
          refine Snd.plain c ⟨fun pins s σ H Q I q => ?_⟩ fun _ => rfl
          refine wpAny_Call_Name_kw (ld_blt I (gl_of h2) (c.pf.nob "len" (by decide)) (show bootBuiltins (Str.ofString "len") = some (.builtin "len") by decide +kernel) (PyProof.Rows.callWith_builtin1 (thn ((pa_cons ha pa_nil st).run pos pins s σ H _ I (cb1_of q)) fun us s1 ⟨vs, H1, I1, r1, x, ex, q1⟩ => ?_) st rfl))
          subst ex
          cases r1 with
          | cons r rr => cases rr; exact call_lenM c h3 I1 r q1
        | [], _, h => simp [same] at h
        | _ :: _ :: _, _, h => simp [same] at h
        | [_], _ :: _, h => simp [same] at h
      | _ => simp [same] at h
    | _ => simp [same] at h
  | .glob x i => by
    intro e X W c h
    cases e with
    | Name y p =>
      simp only [same, Bool.and_eq_true, beq_iff_eq] at h
      obtain ⟨⟨⟨h1, h2⟩, h3⟩, h4⟩ := h
      subst h1
      obtain ⟨t, hm⟩ := c.pf.glob x i h4
      refine Snd.plain c (PE.imp (pe_glob (v := .int i) (gl_of h2) hm ⟨_, rfl⟩ (plain_of h3).1) fun σ H Q ⟨G, al, S, τ, rl, rs, q⟩ => ?_) fun _ => rfl
      exact q.now rl _ (.d (.int i))
    | _ => simp [same] at h
  | .calld raw f es i => by
    intro e X W c h
    cases e with
    | Call g xs kws pos =>
      cases g with
      | Name g p =>
        cases kws with
        | cons _ _ => cases xs <;> simp [same] at h
        | nil =>
          cases xs with
          | nil => simp [same] at h
          | cons x xs =>
            simp only [same, Bool.and_eq_true, beq_iff_eq, decide_eq_true_eq] at h
            obtain ⟨⟨⟨⟨⟨⟨h1, h2⟩, h3⟩, h4⟩, h5⟩, h6⟩, s1⟩ := h
            subst h2
            exact Snd.plain c (pe_defD c h1 h5 (gl_of h3) h4 (soundA es (x :: xs) X W c h6) (List.all_eq_true.mp s1)) fun _ => rfl
      | _ => cases xs <;> simp [same] at h
    | _ => simp [same] at h
  | .callsw raw f k1 k2 a b => by
    intro e X W c h
    cases e with
    | Call g xs kws pos =>
      cases g with
      | Name g p =>
        cases xs with
        | cons _ _ => simp [same] at h
        | nil =>
          simp only [same] at h
          split at h
          · rename_i n1 x n2 y ei
            obtain ⟨p1, p2, rfl⟩ := isKw_inv ei
            simp only [Bool.and_eq_true, beq_iff_eq, decide_eq_true_eq] at h
            obtain ⟨⟨⟨⟨⟨⟨⟨⟨h1, h2⟩, h3⟩, h4⟩, h5⟩, h6⟩, h7⟩, h8⟩, h9⟩ := h
            subst h2; subst h5; subst h6
            exact Snd.plain c (pe_defK c h1 h7 (gl_of h3) h4 (sound a x X W c h8).1 (sound b y X W c h9).1) fun _ => rfl
          · cases h
      | _ => cases xs <;> simp [same] at h
    | _ => simp [same] at h
theorem soundA : ∀ (es : Es) (xs : List Expr) (X : Cx) (W : WX), Ctx fs cl C X W k → sames fs X.N X.env.scope es xs = true → PA X xs (rdA cl W (evs C es))
  | .nil, [], X, W, c, h => PA.imp pa_nil fun σ H Q ⟨G, al, S, τ, rl, rs, q⟩ => q.now rl _ .nil
  | .nil, _ :: _, X, W, c, h => by simp [sames] at h
  | .cons _ _, [], X, W, c, h => by simp [sames] at h
  | .cons e r, x :: xs, X, W, c, h => by
    simp only [sames, Bool.and_eq_true] at h
    have ha := (sound e x X W c h.1.2).1
    have hr := soundA r xs X W c h.2
    refine PA.imp (pa_cons ha hr (star_of h.1.1)) fun σ H Q ⟨G, al, S, τ, rl, rs, q⟩ => ?_
    refine ⟨G, al, S, τ, rl, rs, q.bind.imp fun G1 al1 S1 H1 m g1 rl1 q v rv => ?_⟩
    refine ⟨G1, al1, S1, τ, rl1, rs.gr g1, q.bind.imp fun G2 al2 S2 H2 ms g2 rl2 q vs rvs => ?_⟩
    exact q.now rl2 _ (.cons (rv.gr g2) rvs)
  | .star _ _, [], X, W, c, h => by simp [sames] at h
  | .star e r, x :: xs, X, W, c, h => by
    cases x with
    | Starred x p =>
      simp only [sames, Bool.and_eq_true] at h
      have ha := (sound e x X W c h.1).1
      have hr := soundA r xs X W c h.2
      refine PA.imp (StX.pa_star ha hr) fun σ H Q ⟨G, al, S, τ, rl, rs, q⟩ => ?_
      refine ⟨G, al, S, τ, rl, rs, q.bind.imp fun G1 al1 S1 H1 m g1 rl1 q v rv => ?_⟩
      cases em : items S1 m with
      | none => rw [em] at q; exact q.elim
      | some ms =>
        rw [em] at q
        obtain ⟨a, vs, rfl, hv, rr⟩ := items_ok rl1 rv em
        refine ⟨a, vs, rfl, ?_, G1, al1, S1, τ, rl1, rs.gr g1, q.bind.imp fun G2 al2 S2 H2 ns g2 rl2 q ws rws => q.now rl2 _ ((rr.gr g2).append rws)⟩
        rcases hv with hv | hv
        · exact .inr (SqL.of hv)
        · exact .inl (by rw [c.pf.kk]; exact hv)
    | _ => simp [sames] at h
theorem soundO : ∀ (o : Eo) (e : Option Expr) (X : Cx) (W : WX), Ctx fs cl C X W k → sameO fs X.N X.env.scope o e = true → PO X e (rdO cl W (evO C o))
  | .no, none, X, W, c, h => Mi.PO.imp po_none fun σ H Q ⟨G, al, S, τ, rl, rs, q⟩ => q.now rl
  | .no, some _, X, W, c, h => by simp [sameO] at h
  | .yes _, none, X, W, c, h => by simp [sameO] at h
  | .yes m, some e, X, W, c, h => by
    simp only [sameO] at h
    refine Mi.PO.imp (po_some (sound m e X W c h).1) fun σ H Q ⟨G, al, S, τ, rl, rs, q⟩ => ?_
    refine ⟨G, al, S, τ, rl, rs, q.bind.imp fun G1 al1 S1 H1 mx g1 rl1 q v rv => ?_⟩
    split at q
    · rename_i i
      have := rv.int_inv; subst this
      exact ⟨i, rfl, q.now rl1⟩
    · exact q.elim
theorem soundC : ∀ (o : Eo) (es : List Expr) (X : Cx), Ctx fs cl C X W0 k → sameC fs X.N X.env.scope o es = true → PTs X es (tCd cl (cdO C o))
  | .no, [], X, c, h => pts_nil
  | .no, _ :: _, X, c, h => by simp [sameC] at h
  | .yes _, [], X, c, h => by simp [sameC] at h
  | .yes _, _ :: _ :: _, X, c, h => by simp [sameC] at h
  | .yes m, [e], X, c, h => by
    simp only [sameC] at h
    exact pts_one (sound m e X W0 c h).2
theorem soundI : ∀ (it : It) (e tg : Expr) (X : Cx) (W : WX), Ctx fs cl C X W k → sameIt fs X.N X.env.scope it tg e = true → PI X tg e (rdI cl W (evI C it))
  | .seq m, e, tg, X, W, c, h => by
    simp only [sameIt] at h
    exact pi_seq c.pf.kk (sound m e X W c h).1
  | .range1 m, e, tg, X, W, c, h => by
    cases e with
    | Call g xs kws pos =>
      cases g with
      | Name g p =>
        match xs, kws, h with
        | [x], [], h =>
          simp only [sameIt, Bool.and_eq_true, beq_iff_eq] at h
          obtain ⟨⟨⟨h1, h2⟩, h3⟩, h4⟩ := h
          subst h1
          have ha := (sound m x X W c h4).1
          have st : starEach [x] X.env = [(false, eval x X.env)] := star_of h3
          refine PI.imp (pi_range1 (gl_of h2) (c.pf.nob "range" (by decide)) (pa_cons ha pa_nil st) st) fun σ H Rr ⟨G, al, S, τ, rl, rs, q⟩ => ?_
          refine ⟨G, al, S, τ, rl, rs, q.bind.imp fun G1 al1 S1 H1 mx g1 rl1 q v rv => ?_⟩
          split at q
          · rename_i j
            split at q
            · rename_i hj
              have := rv.int_inv; subst this
              have hj' : -1000000000 ≤ j ∧ j ≤ 1000000000 := of_decide_eq_true hj
              refine ⟨j, rfl, by omega, by omega, ?_⟩
              have := q.now rl1 _ (jw_range (cl := cl) (G := G1) (al := al1) (n := S1.length) (lo := 0) (hi := j))
              rw [Int.sub_zero] at this
              exact this
            · exact q.elim
          · exact q.elim
        | [], _, h => simp [sameIt] at h
        | _ :: _ :: _, _, h => simp [sameIt] at h
        | [_], _ :: _, h => simp [sameIt] at h
      | _ => simp [sameIt] at h
    | _ => simp [sameIt] at h
  | .range2 a b, e, tg, X, W, c, h => by
    cases e with
    | Call g xs kws pos =>
      cases g with
      | Name g p =>
        match xs, kws, h with
        | [x, y], [], h =>
          simp only [sameIt, Bool.and_eq_true, beq_iff_eq] at h
          obtain ⟨⟨⟨⟨⟨h1, h2⟩, h3⟩, h3'⟩, h4⟩, h5⟩ := h
          subst h1
          have ha := (sound a x X W c h4).1
          have hb := (sound b y X W c h5).1
          have st2 : starEach [y] X.env = [(false, eval y X.env)] := star_of h3'
          have st1 : starEach [x, y] X.env = (false, eval x X.env) :: starEach [y] X.env := star_of h3
          have st : starEach [x, y] X.env = [(false, eval x X.env), (false, eval y X.env)] := by rw [st1, st2]
          refine PI.imp (pi_range2 (gl_of h2) (c.pf.nob "range" (by decide)) (pa_cons ha (pa_cons hb pa_nil st2) st1) st st2) fun σ H Rr ⟨G, al, S, τ, rl, rs, q⟩ => ?_
          refine ⟨G, al, S, τ, rl, rs, q.bind.imp fun G1 al1 S1 H1 mx g1 rl1 q v rv => ?_⟩
          refine ⟨G1, al1, S1, τ, rl1, rs.gr g1, q.bind.imp fun G2 al2 S2 H2 my g2 rl2 q w rw' => ?_⟩
          split at q
          · rename_i i j _
            split at q
            · rename_i hj
              have := rv.int_inv; subst this
              have := rw'.int_inv; subst this
              rw [Bool.and_eq_true] at hj
              have hi' : -1000000000 ≤ i ∧ i ≤ 1000000000 := of_decide_eq_true hj.1
              have hj' : -1000000000 ≤ j ∧ j ≤ 1000000000 := of_decide_eq_true hj.2
              exact ⟨i, j, rfl, ⟨by omega, by omega, by omega, by omega⟩, q.now rl2 _ jw_range⟩
            · exact q.elim
          · exact q.elim
        | [], _, h => simp [sameIt] at h
        | [_], _, h => simp [sameIt] at h
        | _ :: _ :: _ :: _, _, h => simp [sameIt] at h
        | [_, _], _ :: _, h => simp [sameIt] at h
      | _ => simp [sameIt] at h
    | _ => simp [sameIt] at h
  | .range3 a b d, e, tg, X, W, c, h => by
    cases e with
    | Call g xs kws pos =>
      cases g with
      | Name g p =>
        match xs, kws, h with
        | [x, y, z], [], h =>
          simp only [sameIt, Bool.and_eq_true, beq_iff_eq] at h
          obtain ⟨⟨⟨⟨⟨⟨⟨h1, h2⟩, h3⟩, h31⟩, h32⟩, h4⟩, h5⟩, h6⟩ := h
          subst h1
          have ha := (sound a x X W c h4).1
          have hb := (sound b y X W c h5).1
          have hd := (sound d z X W c h6).1
          have st3 : starEach [z] X.env = [(false, eval z X.env)] := star_of h32
          have st2 : starEach [y, z] X.env = (false, eval y X.env) :: starEach [z] X.env := star_of h31
          have st1 : starEach [x, y, z] X.env = (false, eval x X.env) :: starEach [y, z] X.env := star_of h3
          refine PI.imp (pi_range3 (gl_of h2) (c.pf.nob "range" (by decide)) (pa_cons ha (pa_cons hb (pa_cons hd pa_nil st3) st2) st1) st1 (by rw [st2, st3]; rfl)) fun σ H Rr ⟨G, al, S, τ, rl, rs, q⟩ => ?_
          refine ⟨G, al, S, τ, rl, rs, q.bind.imp fun G1 al1 S1 H1 mx g1 rl1 q v rv => ?_⟩
          refine ⟨G1, al1, S1, τ, rl1, rs.gr g1, q.bind.imp fun G2 al2 S2 H2 my g2 rl2 q w rw' => ?_⟩
          refine ⟨G2, al2, S2, τ, rl2, (rs.gr g1).gr g2, q.bind.imp fun G3 al3 S3 H3 mz g3 rl3 q u ru => ?_⟩
          split at q
          · rename_i i j l _ _
            split at q
            · rename_i hj
              have := rv.int_inv; subst this
              have := rw'.int_inv; subst this
              have := ru.int_inv; subst this
              simp only [Bool.and_eq_true, decide_eq_true_eq] at hj
              obtain ⟨⟨⟨hi, hj⟩, hl⟩, hp⟩ := hj
              have hi' : -1000000000 ≤ i ∧ i ≤ 1000000000 := of_decide_eq_true hi
              have hj' : -1000000000 ≤ j ∧ j ≤ 1000000000 := of_decide_eq_true hj
              have hl' : -1000000000 ≤ l ∧ l ≤ 1000000000 := of_decide_eq_true hl
              exact ⟨i, j, l, _, rfl, rgC_up hp hi'.1 hi'.2 hj'.1 hj'.2 hl'.2, q.now rl3 _ jw_range3⟩
            · exact q.elim
          · exact q.elim
        | [], _, h => simp [sameIt] at h
        | [_], _, h => simp [sameIt] at h
        | [_, _], _, h => simp [sameIt] at h
        | _ :: _ :: _ :: _ :: _, _, h => simp [sameIt] at h
        | [_, _, _], _ :: _, h => simp [sameIt] at h
      | _ => simp [sameIt] at h
    | _ => simp [sameIt] at h
  | .enum m, e, tg, X, W, c, h => by
    cases tg with
    | Tuple elts kk tpos =>
      cases e with
      | Call g xs kws pos =>
        cases g with
        | Name g p =>
          match xs, kws, h with
          | [x], [], h =>
            simp only [sameIt, Bool.and_eq_true, beq_iff_eq] at h
            obtain ⟨⟨⟨h1, h2⟩, h3⟩, h4⟩ := h
            subst h1
            have ha := (sound m x X W c h4).1
            have st : starEach [x] X.env = [(false, eval x X.env)] := star_of h3
            refine PI.imp (pi_enum2 (gl_of h2) (c.pf.nob "enumerate" (by decide)) (pa_cons ha pa_nil st) st) fun σ H Rr ⟨G, al, S, τ, rl, rs, q⟩ => ?_
            refine ⟨G, al, S, τ, rl, rs, q.bind.imp fun G1 al1 S1 H1 mx g1 rl1 q v rv => ?_⟩
            obtain ⟨G2, S2, ms, a, vs, kk, e2, g2, rl2, rfl, hv, r2⟩ := walked_ok rl1 rv q.bind
            rw [e2] at q
            exact ⟨kk, a, vs, rfl, hv.sq c.pf.kk rl2.ex, q G2 al1 H1 g2 rl2 _ (jw_enum c.pf.kk hv r2)⟩
          | [], _, h => simp [sameIt] at h
          | _ :: _ :: _, _, h => simp [sameIt] at h
          | [_], _ :: _, h => simp [sameIt] at h
        | _ => simp [sameIt] at h
      | _ => simp [sameIt] at h
    | _ => cases e <;> simp [sameIt] at h
  | .zip a b, e, tg, X, W, c, h => by
    cases tg with
    | Tuple elts kk tpos =>
      cases e with
      | Call g xs kws pos =>
        cases g with
        | Name g p =>
          match xs, kws, h with
          | [x, y], [], h =>
            simp only [sameIt, Bool.and_eq_true, beq_iff_eq] at h
            obtain ⟨⟨⟨⟨⟨h1, h2⟩, h3⟩, h3'⟩, h4⟩, h5⟩ := h
            subst h1
            have ha := (sound a x X W c h4).1
            have hb := (sound b y X W c h5).1
            have st2 : starEach [y] X.env = [(false, eval y X.env)] := star_of h3'
            have st1 : starEach [x, y] X.env = (false, eval x X.env) :: starEach [y] X.env := star_of h3
            refine PI.imp (pi_zip2 (gl_of h2) (c.pf.nob "zip" (by decide)) (pa_cons ha (pa_cons hb pa_nil st2) st1) st1 (by rw [st2]; rfl)) fun σ H Rr ⟨G, al, S, τ, rl, rs, q⟩ => ?_
            refine ⟨G, al, S, τ, rl, rs, q.bind.imp fun G1 al1 S1 H1 mx g1 rl1 q v rv => ?_⟩
            refine ⟨G1, al1, S1, τ, rl1, rs.gr g1, q.bind.imp fun G2 al2 S2 H2 my g2 rl2 q w rw' => ?_⟩
            obtain ⟨G3, S3, ms, a1, vs, kk, e3, g3, rl3, rfl, hv, r3⟩ := walked_ok rl2 (rv.gr g2) q.bind
            rw [e3] at q
            simp only [R.bind_ok] at q
            have q3 := q.gr g3
            obtain ⟨G4, S4, ns, b1, ws, ll, e4, g4, rl4, rfl, hw, r4⟩ := walked_ok rl3 (rw'.gr g3) q3.bind
            rw [e4] at q3
            exact ⟨kk, ll, a1, b1, vs, ws, rfl, (hv.mono g4.fz).sq c.pf.kk rl4.ex, hw.sq c.pf.kk rl4.ex, q3 G4 al2 H2 g4 rl4 _ (jw_zip c.pf.kk (hv.mono g4.fz) (r3.gr g4) hw r4)⟩
          | [], _, h => simp [sameIt] at h
          | [_], _, h => simp [sameIt] at h
          | _ :: _ :: _ :: _, _, h => simp [sameIt] at h
          | [_, _], _ :: _, h => simp [sameIt] at h
        | _ => simp [sameIt] at h
      | _ => simp [sameIt] at h
    | _ => cases e <;> simp [sameIt] at h
end
end
end Mi
namespace Mi
open PySem L2 PyProof.Rows

/-! ### except suites -/
def sameHa (fs : Tx) (N : List Str) (sc : Scope) (slot : Option Nat) (yes : List String) : Ha → Expr → Bool
  | .non, .Constant .none _ _ => true
  | .bl b, .Constant (.bool c) _ _ => b == c
  | .int i, .Constant (.int j) _ _ => decide (i = j)
  | .str s, .Constant (.str t) _ _ => t == Str.ofString s
  | .fl f, .Attribute (.Name z _) a _ => match slot with
      | some i => decide (N[i]? = some z) && visC sc z && plainN z && (a == Str.ofString f) && yes.all (fun c => fs.xf.contains (c, f))
      | none => false
  | _, _ => false
def sameHas (fs : Tx) (N : List Str) (sc : Scope) (slot : Option Nat) (yes : List String) : List Ha → List Expr → Bool
  | [], [] => true
  | x :: xs, y :: ys => noStar y && sameHa fs N sc slot yes x y && sameHas fs N sc slot yes xs ys
  | _, _ => false
def isNum : Expr → Option (Str × Expr × Expr)
  | .BoolOp .And [.Call (.Name g _) [x] [] _, y] _ => some (g, x, y)
  | _ => none
theorem isNum_inv {e : Expr} {g : Str} {x y : Expr} (h : isNum e = some (g, x, y)) : ∃ p q r, e = .BoolOp .And [.Call (.Name g p) [x] [] q, y] r := by
  unfold isNum at h
  split at h
  · cases h; exact ⟨_, _, _, rfl⟩
  · cases h
def isEqi : Expr → Option (Expr × Int)
  | .Compare x [.Eq] [.Constant (.int j) _ _] _ => some (x, j)
  | _ => none
theorem isEqi_inv {e : Expr} {x : Expr} {j : Int} (h : isEqi e = some (x, j)) : ∃ k p q, e = .Compare x [.Eq] [.Constant (.int j) k p] q := by
  unfold isEqi at h
  split at h
  · cases h; exact ⟨_, _, _, rfl⟩
  · cases h
def sameEqi (fs : Tx) (N : List Str) (sc : Scope) (slot : Option Nat) (yes : List String) (f : String) (i : Int) (e : Expr) : Bool := match isEqi e with
  | some (x, j) => decide (i = j) && sameHa fs N sc slot yes (.fl f) x
  | none => false
def sameHx (fs : Tx) (N : List Str) (sc : Scope) (slot : Option Nat) (yes : List String) : Hx → Expr → Bool
  | .a x, y => sameHa fs N sc slot yes x y
  | .lst xs, .List ys _ => decide (xs.length ≤ 100) && sameHas fs N sc slot yes xs ys
  | .tup xs, .Tuple ys _ _ => decide (xs.length ≤ 100) && sameHas fs N sc slot yes xs ys
  | .eqi f i, e => sameEqi fs N sc slot yes f i e
  | .num g f i, e => match isNum e with
      | some (h, x, y) => (h == Str.ofString g) && glC sc h && plainN h && fs.hg.contains g && noStar x && sameHa fs N sc slot yes (.fl f) x && sameEqi fs N sc slot yes f i y
      | none => false
  | _, _ => false

/-- what a suite's value wants -/
def tH (cl : Wd) (a : Addr) (cls : Value) (d : Option Addr) (yes : List String) (slot : Option Nat) (g : List (String × D) → Option D) : TE := fun σ H Q =>
  ∃ G al S c fs x, Rl cl G al S H ∧ XRep cl G H c fs cls d ∧ yes.contains c = true ∧ g fs = some x ∧ (∀ i, slot = some i → i < σ.length → σ[i]? = some (some (.ref a))) ∧
    ∀ G' al' H' v, Gr G al S H G' al' S H' → Rl cl G' al' S H' → Rep cl G' v x → Q v H'
/-- the same, where nothing is made -/
def tHa (cl : Wd) (a : Addr) (cls : Value) (d : Option Addr) (yes : List String) (slot : Option Nat) (g : List (String × D) → Option D) : TE := fun σ H Q =>
  ∃ G al S c fs x, Rl cl G al S H ∧ XRep cl G H c fs cls d ∧ yes.contains c = true ∧ g fs = some x ∧ (∀ i, slot = some i → i < σ.length → σ[i]? = some (some (.ref a))) ∧ ∀ v, Rep cl G v x → Q v H
def tHas (cl : Wd) (a : Addr) (cls : Value) (d : Option Addr) (yes : List String) (slot : Option Nat) (g : List (String × D) → Option (List D)) : TA := fun σ H Q =>
  ∃ G al S c fs x, Rl cl G al S H ∧ XRep cl G H c fs cls d ∧ yes.contains c = true ∧ g fs = some x ∧ (∀ i, slot = some i → i < σ.length → σ[i]? = some (some (.ref a))) ∧ ∀ v, RepL cl G v x → Q v H

section
variable {fs : Tx} {cl : Wd} {C : Calls} {k : Nat} {X : Cx} {W : WX} {a : Addr} {oe : Obj} {cls : Value} {d : Option Addr} {pn : List (Addr × Obj)} {slot : Option Nat} {yes : List String}
theorem ph_a (c : Ctx fs cl C X W k) (hz : L2N.Zn cls d oe) (hf : ∃ vs, oe.data = .fields vs) {x : Ha} {y : Expr} (h : sameHa fs X.N X.env.scope slot yes x y = true) :
    PE (X.suite a ((a, oe) :: pn)) y (tHa cl a cls d yes slot fun l => haD l x) := by
  cases x with
  | non =>
    cases y with
    | Constant z j p =>
      cases z with
      | none => exact PE.imp pe_non fun σ H Q ⟨G, al, S, cn, l, x, rl, xr, hy, e, hs, q⟩ => by cases e; exact q _ .non
      | _ => simp [sameHa] at h
    | _ => simp [sameHa] at h
  | bl b =>
    cases y with
    | Constant z j p =>
      cases z with
      | bool b' =>
        simp only [sameHa, beq_iff_eq] at h
        subst h
        exact PE.imp pe_bl fun σ H Q ⟨G, al, S, cn, l, x, rl, xr, hy, e, hs, q⟩ => by cases e; exact q _ (.bl _)
      | _ => simp [sameHa] at h
    | _ => simp [sameHa] at h
  | int i =>
    cases y with
    | Constant z j p =>
      cases z with
      | int b' =>
        simp only [sameHa, decide_eq_true_eq] at h
        subst h
        exact PE.imp pe_int fun σ H Q ⟨G, al, S, cn, l, x, rl, xr, hy, e, hs, q⟩ => by cases e; exact q _ (.int _)
      | _ => simp [sameHa] at h
    | _ => simp [sameHa] at h
  | str s =>
    cases y with
    | Constant z j p =>
      cases z with
      | str b' =>
        simp only [sameHa, beq_iff_eq] at h
        subst h
        exact PE.imp pe_str fun σ H Q ⟨G, al, S, cn, l, x, rl, xr, hy, e, hs, q⟩ => by cases e; exact q _ (.str _)
      | _ => simp [sameHa] at h
    | _ => simp [sameHa] at h
  | fl f =>
    cases y with
    | Attribute o at' p =>
      cases o with
      | Name z zp =>
        cases slot with
        | none => simp [sameHa] at h
        | some i =>
          simp only [sameHa, Bool.and_eq_true, decide_eq_true_eq, beq_iff_eq] at h
          obtain ⟨⟨⟨⟨h1, h2⟩, h3⟩, h4⟩, h5⟩ := h
          subst h4
          refine ⟨fun pins s σ H Q I q => ?_⟩
          obtain ⟨G, al, S, cn, l, x, rl, xr, hy, e, hs, q⟩ := q
          cases xr with
          | bare _ => simp [haD] at e
          | @flds _ dd v f' x' hc hd hv =>
            have ef : f = f' ∧ x' = x := by
              simp only [haD, List.lookup] at e
              split at e
              · rename_i he; exact ⟨eq_of_beq he, by simpa using e⟩
              · cases e
            obtain ⟨rfl, rfl⟩ := ef
            have hx : fs.xf.contains (cn, f) = true := by
              rw [List.all_eq_true] at h5
              exact h5 cn (by simpa using hy)
            obtain ⟨A, hA, T⟩ := c.pf.xf cn f hx
            rw [hc] at hA; cases hA
            have hi : i < σ.length := by
              rw [I.len]
              exact (List.getElem?_eq_some_iff.mp h1).1
            exact (pe_xf (X := X) T hz.zc hf (pe_var (X := X.suite a ((a, oe) :: pn)) (i := i) h1 (vis_of h2) (plain_of h3).1 (plain_of h3).2.1) rfl).run pins s σ H Q I ⟨.ref a, hs i rfl hi, rfl, rfl, dd, v, rfl, hd, q v hv⟩
      | _ => simp [sameHa] at h
    | _ => simp [sameHa] at h
theorem ph_as (c : Ctx fs cl C X W k) (hz : L2N.Zn cls d oe) (hf : ∃ vs, oe.data = .fields vs) : ∀ {xs : List Ha} {ys : List Expr}, sameHas fs X.N X.env.scope slot yes xs ys = true → PA (X.suite a ((a, oe) :: pn)) ys (tHas cl a cls d yes slot fun l => haDs l xs)
  | [], [], _ => PA.imp pa_nil fun σ H Q ⟨G, al, S, cn, l, x, rl, xr, hy, e, hs, q⟩ => by
    simp [haDs] at e; subst e; exact q _ .nil
  | [], _ :: _, h => by simp [sameHas] at h
  | _ :: _, [], h => by simp [sameHas] at h
  | x :: xs, y :: ys, h => by
    simp only [sameHas, Bool.and_eq_true] at h
    refine PA.imp (pa_cons (ph_a c hz hf h.1.2) (ph_as c hz hf h.2) (star_of h.1.1)) fun σ H Q ⟨G, al, S, cn, l, zs, rl, xr, hy, e, hs, q⟩ => ?_
    have e : haDs l (x :: xs) = some zs := e
    simp only [haDs] at e
    cases e1 : haD l x with
    | none => rw [e1] at e; cases e
    | some z =>
      rw [e1] at e
      cases e2 : haDs l xs with
      | none => rw [e2] at e; cases e
      | some zs' =>
        rw [e2] at e
        cases e
        exact ⟨G, al, S, cn, l, z, rl, xr, hy, e1, hs, fun v rv => ⟨G, al, S, cn, l, zs', rl, xr, hy, e2, hs, fun vs rvs => q _ (.cons rv rvs)⟩⟩
theorem mapM_len {l : List (String × D)} : ∀ {xs : List Ha} {ys : List D}, haDs l xs = some ys → ys.length = xs.length
  | [], ys, e => by simp [haDs] at e; subst e; rfl
  | x :: xs, ys, e => by
    simp only [haDs] at e
    cases e1 : haD l x with
    | none => rw [e1] at e; cases e
    | some z =>
      rw [e1] at e
      cases e2 : haDs l xs with
      | none => rw [e2] at e; cases e
      | some zs => rw [e2] at e; cases e; simp [mapM_len e2]
/-- e.f == i -/
theorem ph_eqi (c : Ctx fs cl C X W k) (hz : L2N.Zn cls d oe) (hf : ∃ vs, oe.data = .fields vs) {f : String} {i : Int} {y : Expr} (h : sameEqi fs X.N X.env.scope slot yes f i y = true) :
    PE (X.suite a ((a, oe) :: pn)) y (tHa cl a cls d yes slot fun l => hxD l (.eqi f i)) := by
  unfold sameEqi at h
  split at h
  · rename_i x j ei
    obtain ⟨kk, p, q, rfl⟩ := isEqi_inv ei
    simp only [Bool.and_eq_true, decide_eq_true_eq] at h
    obtain ⟨rfl, h⟩ := h
    refine PE.imp (pe_cmpR op_eq (ph_a c hz hf h) pe_int rfl) fun σ H Q ⟨G, al, S, cn, l, z, rl, xr, hy, e, hs, q⟩ => ?_
    simp only [hxD] at e
    split at e
    · rename_i jj el
      cases e
      refine ⟨G, al, S, cn, l, .int jj, rl, xr, hy, el, hs, fun v rv => ?_⟩
      cases rv
      refine ⟨rfl, q _ ?_⟩
      have : (decide (V.int jj = V.int i)) = decide (jj = i) := by simp
      rw [this]
      exact .bl _
    · cases e
  · cases h
/-- a value of a suite -/
theorem ph_x (c : Ctx fs cl C X W k) (hz : L2N.Zn cls d oe) (hf : ∃ vs, oe.data = .fields vs) {x : Hx} {y : Expr} (h : sameHx fs X.N X.env.scope slot yes x y = true) :
    PE (X.suite a ((a, oe) :: pn)) y (tH cl a cls d yes slot fun l => hxD l x) := by
  cases x with
  | a x =>
    refine PE.imp (ph_a c hz hf (show sameHa fs X.N X.env.scope slot yes x y = true from by cases y <;> exact h)) fun σ H Q ⟨G, al, S, cn, l, z, rl, xr, hy, e, hs, q⟩ => ?_
    exact ⟨G, al, S, cn, l, z, rl, xr, hy, e, hs, fun v rv => q G al H v Gr.refl rl rv⟩
  | eqi f i =>
    refine PE.imp (ph_eqi c hz hf (show sameEqi fs X.N X.env.scope slot yes f i y = true from by cases y <;> exact h)) fun σ H Q ⟨G, al, S, cn, l, z, rl, xr, hy, e, hs, q⟩ => ?_
    exact ⟨G, al, S, cn, l, z, rl, xr, hy, e, hs, fun v rv => q G al H v Gr.refl rl rv⟩
  | lst xs =>
    cases y with
    | List ys p =>
      simp only [sameHx, Bool.and_eq_true, decide_eq_true_eq] at h
      refine PE.imp (pe_lst (ph_as c hz hf h.2)) fun σ H Q ⟨G, al, S, cn, l, z, rl, xr, hy, e, hs, q⟩ => ?_
      simp only [hxD, Option.map_eq_some_iff] at e
      obtain ⟨zs, e1, rfl⟩ := e
      refine ⟨G, al, S, cn, l, zs, rl, xr, hy, e1, hs, fun vs rvs => ⟨?_, fun p hp => ?_⟩⟩
      · rw [rvs.length, mapM_len e1, sizeLine_eq]; omega
      · exact q _ _ _ _ (Gr.newG rl hp) (rl.newG hp) (.lst upd_same (fun _ => rl.nbw hp) (rvs.mono (Ex.new (rl.ex.back hp))))
    | _ => simp [sameHx] at h
  | tup xs =>
    cases y with
    | Tuple ys _ p =>
      simp only [sameHx, Bool.and_eq_true, decide_eq_true_eq] at h
      refine PE.imp (pe_tup (ph_as c hz hf h.2)) fun σ H Q ⟨G, al, S, cn, l, z, rl, xr, hy, e, hs, q⟩ => ?_
      simp only [hxD, Option.map_eq_some_iff] at e
      obtain ⟨zs, e1, rfl⟩ := e
      refine ⟨G, al, S, cn, l, zs, rl, xr, hy, e1, hs, fun vs rvs => ⟨?_, fun p hp => ?_⟩⟩
      · rw [rvs.length, mapM_len e1, sizeLine_eq]; omega
      · exact q _ _ _ _ (Gr.newG rl hp) (rl.newG hp) (.tup (SqT.of upd_same) (rvs.mono (Ex.new (rl.ex.back hp))))
    | _ => simp [sameHx] at h
  | num g f i =>
    have hh : (match isNum y with
      | some (h, x, y) => (h == Str.ofString g) && glC X.env.scope h && plainN h && fs.hg.contains g && noStar x && sameHa fs X.N X.env.scope slot yes (.fl f) x && sameEqi fs X.N X.env.scope slot yes f i y
      | none => false) = true := by cases y <;> exact h
    split at hh
    · rename_i gg x y en
      obtain ⟨p, q, r, rfl⟩ := isNum_inv en
      simp only [Bool.and_eq_true, beq_iff_eq] at hh
      obtain ⟨⟨⟨⟨⟨⟨h1, h2⟩, h3⟩, h4⟩, h5⟩, h6⟩, h7⟩ := hh
      subst h1
      obtain ⟨af, fd, ps, hm, hk, hb, F⟩ := c.pf.hg g h4
      have hot : L2H.HotC (X.suite a ((a, oe) :: pn)) := by
        obtain ⟨vs, hd⟩ := hf
        exact ⟨(a, oe), ⟨rfl, vs, hd, hz.2.2 vs hd⟩, List.mem_cons_self⟩
      have hr : L2H.RoomH 1 (X.suite a ((a, oe) :: pn)).A := L2H.RoomH.mono (k := 2 * k + 2) ⟨c.room.dp, c.room.un⟩ (by omega)
      have st : starEach [x] (X.suite a ((a, oe) :: pn)).env = (false, eval x X.env) :: starEach [] X.env := star_of h5
      have hx : ∀ σ, PassesAt (L2N.CX X.prog X.w) (X.suite a ((a, oe) :: pn)) σ (fun _ _ _ => False) := fun σ _ _ _ e s' I cc => by
        obtain ⟨_, _, _, _, _, _, _, _, _, _, _, _, z⟩ := cc
        exact z
      have hg : Gl (X.suite a ((a, oe) :: pn)) (Str.ofString g) := gl_of (X := X) h2
      refine PE.imp (pe_andT (L2H.pe_callH (X := X.suite a ((a, oe) :: pn)) (E := fun _ _ _ _ => False) F hr hot hg hm hk hb hx (pa_cons (ph_a c hz hf h6) pa_nil st) (plain_of h3).1 st rfl) (pe_one (ph_eqi c hz hf h7))) fun σ H Q ⟨G, al, S, cn, l, z, rl, xr, hy, e, hs, q⟩ => ?_
      have e' : hxD l (.num g f i) = some z := e
      simp only [hxD] at e'
      split at e'
      · rename_i jj el
        refine ⟨G, al, S, cn, l, .int jj, rl, xr, hy, el, hs, fun v rv => ?_⟩
        cases rv
        refine ⟨cl.bw, jj, G, al, S, rfl, rl, fun G1 al1 H1 g1 rl1 => ⟨true, rfl, ?_⟩⟩
        rw [if_pos rfl]
        exact ⟨G1, al1, S, cn, l, z, rl1, xr.gr rl g1, hy, e, hs, fun v rv => q G1 al1 H1 v g1 rl1 rv⟩
      · cases e'
    · cases hh
end
end Mi
namespace Mi
open PySem L2 PyProof.Rows

def noComp : Expr → Bool
  | .ListComp _ _ _ _ => false
  | .SetComp _ _ _ _ => false
  | .DictComp _ _ _ _ _ => false
  | _ => true
def noTup : Expr → Bool
  | .Tuple _ _ _ => false
  | _ => true
def fnK (sc : Scope) : Bool := match sc.kind with
  | .function => true
  | _ => false
def parC (sc : Scope) (x : Str) (px : Pos) (y : Str) (py : Pos) (a b : Expr) : Bool :=
  fnK sc && decide (sc.names.lookup x = some .local) && decide (sc.names.lookup y = some .local) && (px.line == py.line) && !(x == y) && noStar a && noStar b && !(foldedForSure 8 a && foldedForSure 8 b) && !(constantsAlone 8 a && constantsAlone 8 b)

def isPar : List Expr → Expr → Option (Str × Pos × Str × Pos × Expr × Expr)
  | [.Tuple [.Name y py, .Name z pz] _ _], .Tuple [u, v] _ _ => some (y, py, z, pz, u, v)
  | _, _ => none
theorem isPar_inv {ts : List Expr} {x : Expr} {y z : Str} {py pz : Pos} {u v : Expr} (h : isPar ts x = some (y, py, z, pz, u, v)) : ∃ kt pt k2 pt2, ts = [.Tuple [.Name y py, .Name z pz] kt pt] ∧ x = .Tuple [u, v] k2 pt2 := by
  unfold isPar at h
  split at h
  · cases h; exact ⟨_, _, _, _, rfl, rfl⟩
  · cases h
def isSub : List Expr → Option (Expr × Expr × Pos)
  | [.Subscript o k p] => some (o, k, p)
  | _ => none
theorem isSub_inv {ts : List Expr} {o k : Expr} {p : Pos} (h : isSub ts = some (o, k, p)) : ts = [.Subscript o k p] := by
  unfold isSub at h
  split at h
  · cases h; rfl
  · cases h

def isAt : List Expr → Option (Expr × Str × Pos)
  | [.Attribute o f p] => some (o, f, p)
  | _ => none
theorem isAt_inv {ts : List Expr} {o : Expr} {f : Str} {p : Pos} (h : isAt ts = some (o, f, p)) : ts = [.Attribute o f p] := by
  unfold isAt at h
  split at h
  · cases h; rfl
  · cases h
def isAt2 : List Expr → Option (Expr × Str × Pos × Expr × Str × Pos)
  | [.Tuple [.Attribute o f p, .Attribute o2 f2 p2] _ _] => some (o, f, p, o2, f2, p2)
  | _ => none
theorem isAt2_inv {ts : List Expr} {o o2 : Expr} {f f2 : Str} {p p2 : Pos} (h : isAt2 ts = some (o, f, p, o2, f2, p2)) : ∃ kt pt, ts = [.Tuple [.Attribute o f p, .Attribute o2 f2 p2] kt pt] := by
  unfold isAt2 at h
  split at h
  · cases h; exact ⟨_, _, rfl⟩
  · cases h
def sameHd (fs : Tx) (N : List Str) (sc : Scope) : List Hd → List ExceptHandler → Bool
  | [], [] => true
  | h :: r, .ExceptHandler (some (.Name x _)) n [.Return (some y) _] _ :: zs => (x == Str.ofString h.cls) && glC sc x && plainN x && !h.yes.isEmpty && h.yes.all (fun c => fs.xm.contains (c, h.cls, true)) && h.no.all (fun c => fs.xm.contains (c, h.cls, false)) &&
      (match h.slot, n with
        | none, none => true
        | some i, some m => decide (N[i]? = some m) && decide (sc.names.lookup m = some .local)
        | _, _ => false) && sameHx fs N sc h.slot h.yes h.hx y && sameHd fs N sc r zs
  | _, _ => false
def isRs : Option Expr → Option (Str × List Expr)
  | some (.Call (.Name g _) xs [] _) => some (g, xs)
  | _ => none
theorem isRs_inv {e : Option Expr} {g : Str} {xs : List Expr} (h : isRs e = some (g, xs)) : ∃ p q, e = some (.Call (.Name g p) xs [] q) := by
  unfold isRs at h
  split at h
  · cases h; exact ⟨_, _, rfl⟩
  · cases h

mutual
def sameS (fs : Tx) (N : List Str) (sc : Scope) : Sm → Stmt → Bool
  | .asg tg e, .Assign [t] x _ => fnK sc && sameTg (fun _ => true) N sc tg t && same fs N sc e x && (match tg with
      | .nm _ => true
      | _ => noTup x && noComp x)
  | .par i j a b, .Assign ts t _ => match isPar ts t with
      | some (x, px, y, py, u, v) => decide (N[i]? = some x) && decide (N[j]? = some y) && decide (i ≠ j) && parC sc x px y py u v && same fs N sc a u && same fs N sc b v
      | none => false
  | .setix a i e, .Assign ts x _ => match isSub ts with
      | some (o, k, _) => noSl k && same fs N sc a o && same fs N sc i k && same fs N sc e x && noComp x
      | none => false
  | .expr e, .Expr x _ => noComp x && same fs N sc e x
  | .ret e, .Return (some x) _ => same fs N sc e x
  | .retn, .Return none _ => true
  | .aug i o e, .AugAssign (.Name x _) p y _ => decide (p = opOf o) && (decide (o = .add) || decide (o = .sub) || decide (o = .mul)) && nmC (fun _ => true) N sc i x && same fs N sc e y
  | .fld a f e, .Assign ts x _ => match isAt ts with
      | some (o, g, _) => (g == Str.ofString f) && fs.fld.contains f && same fs N sc a o && same fs N sc e x && noComp x
      | none => false
  | .fld2 a f b g e, .Assign ts x _ => match isAt2 ts with
      | some (o, f1, _, o2, f2, _) => (f1 == Str.ofString f) && (f2 == Str.ofString g) && fs.fld.contains f && fs.fld.contains g && same fs N sc a o && same fs N sc b o2 && same fs N sc e x && noComp x && noTup x
      | none => false
  | .ifs t a b, .If x ys zs _ => same fs N sc t x && sameB fs N sc a ys && sameB fs N sc b zs
  | .for_ tg it body, .For t x ys [] _ => noSet x && sameTg (fun _ => true) N sc tg t && sameIt fs N sc it t x && sameB fs N sc body ys
  | .while_ t body, .While x ys [] _ => same fs N sc t x && sameB fs N sc body ys
  | .raise_ c e f, .Raise x none _ => match isRs x with
      | some (g, [y]) => (g == Str.ofString c) && glC sc g && plainN g && noStar y && fs.xf.contains (c, f) && same fs N sc e y
      | _ => false
  | .raise0 c, .Raise x none _ => match isRs x with
      | some (g, []) => (g == Str.ofString c) && glC sc g && plainN g && fs.x0.contains c
      | _ => false
  | .try_ body hs, .Try ys zs [] [] _ => sameB fs N sc body ys && sameHd fs N sc hs zs && !hs.isEmpty
  | _, _ => false
def sameB (fs : Tx) (N : List Str) (sc : Scope) : Sms → List Stmt → Bool
  | .nil, [] => true
  | .cons s r, x :: xs => sameS fs N sc s x && sameB fs N sc r xs
  | .wipe _ r, xs => sameB fs N sc r xs
  | _, _ => false
end

/-- what is wanted of a statement's outcome -/
def PstF (cl : Wd) (W : WX) (D : Ends) (G : Hp) (al : Nat → Addr) (S : Sto) (H : Hp) (r : F) : Prop := match r with
  | .next τ' S' => ∀ G' al' H' σ', Gr G al S H G' al' S' H' → Rl cl G' al' S' H' → RepS cl G' al' S'.length σ' τ' → D.nx σ' H'
  | .brk τ' S' => ∀ G' al' H' σ', Gr G al S H G' al' S' H' → Rl cl G' al' S' H' → RepS cl G' al' S'.length σ' τ' → D.bk σ' H'
  | .cont τ' S' => ∀ G' al' H' σ', Gr G al S H G' al' S' H' → Rl cl G' al' S' H' → RepS cl G' al' S'.length σ' τ' → D.ct σ' H'
  | .ret m S' => ∀ G' al' H' v, Gr G al S H G' al' S' H' → Rl cl G' al' S' H' → RepM cl G' al' S'.length v m → D.rt v H'
  | .exc c fs τ' S' => ∀ G' al' H' σ' cv d, Gr G al S H G' al' S' H' → Rl cl G' al' S' H' → RepS cl G' al' S'.length σ' τ' → XRep cl G' H' c fs cv d → W cv d σ' H'
  | .stuck => False
def rdS (cl : Wd) (W : WX) (f : Slots → Sto → F) : TS := fun D σ H => ∃ G al S τ, Rl cl G al S H ∧ RepS cl G al S.length σ τ ∧ PstF cl W D G al S H (f τ S)

section
variable {cl : Wd} {W : WX} {D : Ends} {G G1 : Hp} {al al1 : Nat → Addr} {S S1 : Sto} {H H1 : Hp} {r : F}
theorem PstF.gr (g : Gr G al S H G1 al1 S1 H1) (h : PstF cl W D G al S H r) : PstF cl W D G1 al1 S1 H1 r := by
  cases r with
  | next τ' S' => exact fun G' al' H' σ' g' => h G' al' H' σ' (g.trans g')
  | brk τ' S' => exact fun G' al' H' σ' g' => h G' al' H' σ' (g.trans g')
  | cont τ' S' => exact fun G' al' H' σ' g' => h G' al' H' σ' (g.trans g')
  | ret τ' S' => exact fun G' al' H' σ' g' => h G' al' H' σ' (g.trans g')
  | exc c fs τ' S' => exact fun G' al' H' σ' cv d g' => h G' al' H' σ' cv d (g.trans g')
  | stuck => exact h
/-- an expression, then the rest -/
theorem PstF.toF {α : Type} {e : R α} {τ : Slots} {σ : L2.St} {kk : α → Sto → F} (rs : RepS cl G al S.length σ τ) (h : PstF cl W D G al S H (e.toF τ kk)) :
    Pst cl G al S H e (fun G1 al1 S1 H1 a => PstF cl W D G1 al1 S1 H1 (kk a S1)) (WE W σ) := by
  cases e with
  | ok a S' => exact fun G' al' H' g' r' => PstF.gr g' h
  | exc c fs S' => exact fun G' al' H' cv d g' r' x => h G' al' H' σ cv d g' r' (rs.gr g') x
  | stuck => exact h
end

/-- the side conditions of an assignment -/
theorem swaps_of {t e : Expr} {line : Nat} {env : Env} (h : noComp e = true) : swapsWith e (some t) line env = pure false := by
  cases e <;> first | rfl | (simp [noComp] at h)
theorem swaps_none {e : Expr} {line : Nat} {env : Env} (h : noComp e = true) : swapsWith e none line env = pure false := by
  cases e <;> first | rfl | (simp [noComp] at h)
theorem swapsS_of {t e : Expr} {line : Nat} {env : Env} (h : noComp e = true) : swapsWithSole [t] e line env = pure false := swaps_of h
theorem swst_name {x : Str} {p : Pos} {e : Expr} {env : Env} : swappedStores [.Name x p] e env = pure none := by
  cases e <;> rfl
theorem swst_sub {o k : Expr} {p : Pos} {e : Expr} {env : Env} : swappedStores [.Subscript o k p] e env = pure none := by
  cases e <;> rfl
theorem swst_tup {ts : List Expr} {k : Nat} {p : Pos} {e : Expr} {env : Env} (h : noTup e = true) : swappedStores [.Tuple ts k p] e env = pure none := by
  cases e <;> first | rfl | (simp [noTup] at h)
theorem assign_sub {o k : Expr} {p : Pos} {env : Env} (h : noSl k = true) (v : Value) : assign (.Subscript o k p) env v = (do
    let ov ← holding [v] (eval o env)
    let iv ← holding [v, ov] (eval k env)
    standAt p
    holding [v, ov, iv] (setItem ov iv v)
    release [v, ov, iv] []) := by
  cases k <;> first | rfl | (simp [noSl] at h)
theorem fnK_of {sc : Scope} (h : fnK sc = true) : sc.kind = .function := by
  unfold fnK at h
  split at h
  · assumption
  · cases h
theorem par_of {env : Env} {x y : Str} {px py pt pt2 : Pos} {kt k2 : Nat} {a b : Expr} (h : parC env.scope x px y py a b = true) :
    swappedStores [.Tuple [.Name x px, .Name y py] kt pt] (.Tuple [a, b] k2 pt2) env = pure (some [x, y]) := by
  simp only [parC, Bool.and_eq_true, decide_eq_true_eq, Bool.not_eq_true', beq_iff_eq, Bool.and_eq_false_imp, beq_eq_false_iff_ne] at h
  obtain ⟨⟨⟨⟨⟨⟨⟨⟨h1, h2⟩, h3⟩, h4⟩, h5⟩, h6⟩, h7⟩, h8⟩, h9⟩ := h
  have hk := fnK_of h1
  have hb : env.blockKind = .function := by unfold Env.blockKind; rw [hk]; rfl
  have sa : (match a with | .Starred .. => true | _ => false) = false := by cases a <;> first | rfl | (simp [noStar] at h6)
  have sb : (match b with | .Starred .. => true | _ => false) = false := by cases b <;> first | rfl | (simp [noStar] at h7)
  have k1 : env.kindOf x = some .local := h2
  have k2 : env.kindOf y = some .local := h3
  have f8 : (foldedForSure 8 a && foldedForSure 8 b) = false := by
    cases e : foldedForSure 8 a with
    | false => rfl
    | true => rw [Bool.true_and]; exact h8 e
  have f9 : (constantsAlone 8 a && constantsAlone 8 b) = false := by
    cases e : constantsAlone 8 a with
    | false => rfl
    | true => rw [Bool.true_and]; exact h9 e
  have ne : (x == y) = false := by simpa using h5
  have ne' : (y == x) = false := by simpa using fun z => h5 z.symm
  simp [swappedStores, hb, k1, k2, h4, sa, sb, f8, f9, List.eraseDups_cons, ne, ne', Expr.pos]
  intro z
  exfalso
  rcases z with z | z
  · cases a <;> first | (simp [noStar] at h6; done) | (simp at z)
  · cases b <;> first | (simp [noStar] at h7; done) | (simp at z)

section
variable {fs : Tx} {cl : Wd} {C : Calls} {k fu : Nat}
/-- a def's own frame -/
structure Top (X : Cx) : Prop where
  fn : X.fn = fun _ => true
  st : X.stack = X.env :: X.outer
  fr : X.env.frame = some X.env.locals
/-- a statement runs as it reads -/
def SndS (fs : Tx) (cl : Wd) (C : Calls) (k fu : Nat) (m : Sm) : Prop := ∀ (st : Stmt) (X : Cx) (W : WX), Ctx fs cl C X W k → Top X → sameS fs X.N X.env.scope m st = true → PS X st (rdS cl W (ex C fu m))
def SndB (fs : Tx) (cl : Wd) (C : Calls) (k fu : Nat) (m : Sms) : Prop := ∀ (st : List Stmt) (X : Cx) (W : WX), Ctx fs cl C X W k → Top X → sameB fs X.N X.env.scope m st = true → PSs X st (rdS cl W (exs C fu m))

theorem asg_of {W : WX} {D : Ends} {f : Slots → Sto → R MV} {tg : Tg} {σ : L2.St} {H : Hp} (h : rdS cl W (fun τ S => (f τ S).toF τ fun v S1 => match bindTg tg τ v S1 with
    | .ok σ1 S2 => .next σ1 S2
    | _ => .stuck) D σ H) : tAsg (rd cl W f) (rdG cl tg) D σ H := by
  obtain ⟨G, al, S, τ, rl, rs, p⟩ := h
  refine ⟨G, al, S, τ, rl, rs, (PstF.toF rs p).imp fun G1 al1 S1 H1 m g1 rl1 q v rv => ?_⟩
  refine ⟨G1, al1, S1, τ, m, rl1, rs.gr g1, rv, ?_⟩
  cases e : bindTg tg τ m S1 with
  | stuck => rw [e] at q; exact q.elim
  | exc c f S' => rw [e] at q; exact q.elim
  | ok τ' S2 =>
    rw [e] at q
    exact fun G' al' H' σ' g rl' rs' _ => q G' al' H' σ' g rl' rs'

/-- the for's walk -/
theorem for_of {W : WX} {D : Ends} {fi : Slots → Sto → R (List MV)} {fb : Slots → Sto → F} {tg : Tg} {σ : L2.St} {H : Hp} (h : rdS cl W (fun τ S => (fi τ S).toF τ fun ms S1 => forGo tg fb ms τ S1) D σ H) :
    tFor (rdI cl W fi) (rdG cl tg) (rdS cl W fb) D σ H := by
  obtain ⟨G0, al0, S0, τ, rl0, rs0, p⟩ := h
  refine ⟨G0, al0, S0, τ, rl0, rs0, (PstF.toF rs0 p).imp fun G1 al1 S1 H1 ms g1 rl1 q J jw => ?_⟩
  refine ⟨fun i m σ' H' => ∃ G al S τ', m = ms.length - i ∧ i ≤ ms.length ∧ Gr G1 al1 S1 H1 G al S H' ∧ Rl cl G al S H' ∧ RepS cl G al S.length σ' τ' ∧ PstF cl W D G al S H' (forGo tg fb (ms.drop i) τ' S), ?_, ?_⟩
  · exact ⟨ms.length, G1, al1, S1, τ, by simp, Nat.zero_le _, Gr.refl, rl1, rs0.gr g1, by rw [List.drop_zero]; exact q⟩
  · rintro i m σ' H' ⟨G, al, S, τ', rfl, hi, g, rl, rs, q⟩
    obtain ⟨jgo, jst⟩ := jw i G al S H' rl g.fz g.len g.at_
    by_cases hlt : i < ms.length
    · right
      have e1 : ms[i]? = some ms[i] := List.getElem?_eq_getElem hlt
      rw [List.drop_eq_getElem_cons hlt] at q
      obtain ⟨go, jy⟩ := jgo _ e1
      refine ⟨go, fun σ2 H2 => ∃ G al S τ', i + 1 ≤ ms.length ∧ Gr G1 al1 S1 H1 G al S H2 ∧ Rl cl G al S H2 ∧ RepS cl G al S.length σ2 τ' ∧ PstF cl W D G al S H2 (forGo tg fb (ms.drop (i + 1)) τ' S),
        fun σ2 H2 ⟨G, al, S, τ', a1, a2, a3, a4, a5⟩ => ⟨ms.length - (i + 1), by omega, G, al, S, τ', rfl, a1, a2, a3, a4, a5⟩, fun x H'' y => ?_⟩
      obtain ⟨G2, g2, rl2, rx⟩ := jy x H'' y
      have g02 := g.trans g2
      simp only [forGo] at q
      refine ⟨G2, al, S, τ', ms[i], rl2, rs.gr g2, rx, ?_⟩
      cases eb : bindTg tg τ' ms[i] S with
      | stuck => rw [eb] at q; exact q.elim
      | exc c f S' => rw [eb] at q; exact q.elim
      | ok τ1 S2 =>
        rw [eb] at q
        dsimp only at q ⊢
        intro G3' al3' H3' σ2 g3' rl3' rs2 _
        refine ⟨G3', al3', S2, τ1, rl3', rs2, ?_⟩
        have q2 := PstF.gr g3' (PstF.gr g2 q)
        have g02 := g02.trans g3'
        cases e : fb τ1 S2 with
        | next τ2 S2 =>
          rw [e] at q2
          exact fun G3 al3 H3 σ3 g3 rl3 rs3 => ⟨G3, al3, S2, τ2, hlt, g02.trans g3, rl3, rs3, PstF.gr g3 q2⟩
        | cont τ2 S2 =>
          rw [e] at q2
          exact fun G3 al3 H3 σ3 g3 rl3 rs3 => ⟨G3, al3, S2, τ2, hlt, g02.trans g3, rl3, rs3, PstF.gr g3 q2⟩
        | brk τ2 S2 => rw [e] at q2; exact q2
        | ret v S2 => rw [e] at q2; exact q2
        | exc c fs τ2 S2 => rw [e] at q2; exact q2
        | stuck => rw [e] at q2; exact q2
    · left
      have hi' : i = ms.length := by omega
      subst hi'
      refine ⟨jst rfl, ?_⟩
      rw [List.drop_length] at q
      exact q G al H' σ' Gr.refl rl rs

/-- the while's walk -/
theorem wh_of {W : WX} {D : Ends} {ft : Slots → Sto → R Bool} {fb : Slots → Sto → F} {σ : L2.St} {H : Hp} (h : rdS cl W (whGo ft fb fu) D σ H) : tWhile (rdT cl W ft) (rdS cl W fb) D σ H := by
  obtain ⟨G0, al0, S0, τ, rl0, rs0, p⟩ := h
  refine ⟨fun m σ' H' => ∃ G al S τ', Rl cl G al S H' ∧ RepS cl G al S.length σ' τ' ∧ PstF cl W D G al S H' (whGo ft fb m τ' S), ⟨fu, G0, al0, S0, τ, rl0, rs0, p⟩, ?_⟩
  rintro m σ' H' ⟨G, al, S, τ', rl, rs, q⟩
  cases m with
  | zero => exact q.elim
  | succ m =>
    simp only [whGo] at q
    refine ⟨G, al, S, τ', rl, rs, (PstF.toF rs q).imp fun G1 al1 S1 H1 b g1 rl1 q => ?_⟩
    unfold Bk
    cases b with
    | false =>
      rw [if_neg Bool.false_ne_true]
      exact q G1 al1 H1 σ' Gr.refl rl1 (rs.gr g1)
    | true =>
      rw [if_pos rfl]
      simp only [if_true] at q
      refine ⟨fun σ2 H2 => ∃ G al S τ', Rl cl G al S H2 ∧ RepS cl G al S.length σ2 τ' ∧ PstF cl W D G al S H2 (whGo ft fb m τ' S), fun σ2 H2 x => ⟨m, Nat.lt_succ_self m, x⟩, G1, al1, S1, τ', rl1, rs.gr g1, ?_⟩
      cases e : fb τ' S1 with
      | next τ2 S2 => rw [e] at q; exact fun G3 al3 H3 σ3 g3 rl3 rs3 => ⟨G3, al3, S2, τ2, rl3, rs3, PstF.gr g3 q⟩
      | cont τ2 S2 => rw [e] at q; exact fun G3 al3 H3 σ3 g3 rl3 rs3 => ⟨G3, al3, S2, τ2, rl3, rs3, PstF.gr g3 q⟩
      | brk τ2 S2 => rw [e] at q; exact q
      | ret v S2 => rw [e] at q; exact q
      | exc c fs τ2 S2 => rw [e] at q; exact q
      | stuck => rw [e] at q; exact q
end
end Mi
namespace Mi
open PySem L2 PyProof.Rows
section
variable {fs : Tx} {cl : Wd} {C : Calls} {k fu : Nat}

/-- an assignment to a name: by the comprehension's own rule where the text has it so -/
theorem asg_name {X : Cx} {W : WX} {m : E} {i : Nat} {x : Str} {e : Expr} {px pos : Pos} (c : Ctx fs cl C X W k) (hk : X.env.scope.kind = .function) (n1 : X.N[i]? = some x) (n2 : L2.Loc X.env.scope x) (n3 : X.fn x = true ∨ X.env.scope.names.lookup x = some .local) (h : same fs X.N X.env.scope m e = true) :
    PS X (.Assign [.Name x px] e pos) (tAsg (rd cl W (ev C m)) (gName i)) := by
  by_cases hn : noComp e = true
  · exact ps_set c.nd n1 n2 (sound m e X W c h).1 (swaps_of hn) n3
  · have he := (sound m e X W c h).1
    cases e with
    | ListComp y gens scope lp =>
      have sw : swapsWith (.ListComp y gens scope lp) (some (.Name x px)) pos.line X.env = pure (X.env.blockKind == .function && X.env.kindOf x == some .local && px.line == (Expr.ListComp y gens scope lp).pos.line
        && !(scope.names.any fun (n, k) => n == x && (k == .local || k == .cell))) := rfl
      cases hb : (X.env.blockKind == .function && X.env.kindOf x == some .local && px.line == (Expr.ListComp y gens scope lp).pos.line
        && !(scope.names.any fun (n, k) => n == x && (k == .local || k == .cell))) with
      | false => rw [hb] at sw; exact ps_set c.nd n1 n2 he sw n3
      | true =>
        rw [hb] at sw
        simp only [Bool.and_eq_true, beq_iff_eq] at hb
        have hl : X.env.scope.names.lookup x = some .local := hb.1.1.2
        cases m with
        | lc cell elt tg it cd own =>
          match gens, h, sw with
          | [⟨t, iter, ifs, as⟩], h, sw =>
            simp only [same, Bool.and_eq_true, List.all_eq_true, decide_eq_true_eq] at h
            obtain ⟨⟨⟨⟨⟨⟨⟨h0, h1⟩, h2⟩, h3⟩, h4⟩, h5⟩, h7⟩, h6⟩ := h
            subst h0
            have hI := soundI it iter t X W c h4
            refine PS.imp (ps_setLc c.calm c.nd n1 hl sw hI (blkOk_by h1)
              (fun s H CC cl' fp => pg_tg (cl := cl) (tg := tg) (X := X.blk s H scope (compEnvC scope cl' CC X.env) fp) c.nd c.calm c.pf.kk h5)
              (fun s H CC cl' fp => soundC cd ifs (X.blk s H scope (compEnvC scope cl' CC X.env) fp) (c.blk s H scope (compEnvC scope cl' CC X.env) fp) h7)
              (fun s H CC cl' fp => (sound elt y (X.blk s H scope (compEnvC scope cl' CC X.env) fp) W0 (c.blk s H scope (compEnvC scope cl' CC X.env) fp) h6).1) (fold_of h3)) fun D σ H q => ?_
            have hs : ∀ j ∈ tg.sl, j ∈ own.map (·.2) := fun j hj => by simpa using h2 j hj
            have := lc_of (cd := cdO C cd) hs (by
              cases cd with
              | no => exact q
              | yes e => exact q)
            rw [List.map_map]
            exact this
          | [], h, _ => simp [same] at h
          | _ :: _ :: _, h, _ => simp [same] at h
        | lc2 cell elt tg it tg2 it2 own own2 =>
          match gens, h, sw with
          | [⟨t, iter, [], as⟩, ⟨t2, iter2, [], as2⟩], h, sw =>
            simp only [same, Bool.and_eq_true, List.all_eq_true, decide_eq_true_eq] at h
            obtain ⟨⟨⟨⟨⟨⟨⟨⟨⟨⟨⟨⟨h0, h01⟩, h1⟩, h2⟩, h21⟩, h22⟩, h3⟩, h31⟩, h4⟩, h5⟩, h41⟩, h51⟩, h6⟩ := h
            subst h0 h01
            have hI := soundI it iter t X W c h4
            have ho : (own.map fun p => (Str.ofString p.1, p.2)).map (·.2) = own.map (·.2) := by rw [List.map_map]; rfl
            refine PS.imp (ps_setLc2 (vs1 := own2) c.calm c.nd n1 hl sw hI (blkOk_by h1) (fun j hj => by rw [ho]; simpa using h22 j hj)
              (fun s H CC cl' fp => pg_tg (cl := cl) (tg := tg) (X := X.blk s H scope (compEnvC scope cl' CC X.env) fp) c.nd c.calm c.pf.kk h5)
              (fun _ _ _ _ _ => pts_nil)
              (fun s H CC cl' fp => soundI it2 iter2 t2 (X.blk s H scope (compEnvC scope cl' CC X.env) fp) W0 (c.blk s H scope (compEnvC scope cl' CC X.env) fp) h41)
              (fun s H CC cl' fp => pg_tg (cl := cl) (tg := tg2) (X := X.blk s H scope (compEnvC scope cl' CC X.env) fp) c.nd c.calm c.pf.kk h51)
              (fun _ _ _ _ _ => pts_nil)
              (fun s H CC cl' fp => (sound elt y (X.blk s H scope (compEnvC scope cl' CC X.env) fp) W0 (c.blk s H scope (compEnvC scope cl' CC X.env) fp) h6).1) (fold_of h3) (fun env => fold_of h31)) fun D σ H q => ?_
            have := lc2_of (fun j hj => by simpa using h2 j hj) (fun j hj => by simpa using h21 j hj) q
            rw [ho]
            exact this
          | [], h, _ => simp [same] at h
          | [_], h, _ => simp [same] at h
          | _ :: _ :: _ :: _, h, _ => simp [same] at h
          | [⟨t, iter, _ :: _, as⟩, _], h, _ => simp [same] at h
          | [⟨t, iter, [], as⟩, ⟨t2, iter2, _ :: _, as2⟩], h, _ => simp [same] at h
        | sl _ _ _ _ => simp [same, isSl] at h
        | meth _ _ _ _ _ => simp [same, isMe] at h
        | opm _ _ _ _ _ => simp [same, isOp] at h
        | _ => simp [same] at h
    | SetComp _ _ _ _ => cases m <;> simp [same, isSl, isMe, isOp] at h
    | DictComp _ _ _ _ _ => cases m <;> simp [same, isSl, isMe, isOp] at h
    | _ => exact absurd rfl hn

/-- the clauses' readings -/
def claOf (cl : Wd) (B : Value) (h : Hd) : Cla := ⟨B, h.slot, fun a cls d D σ H => tH cl a cls d h.yes h.slot (fun l => hxD l h.hx) σ H D.rt⟩
theorem hds_ok {X : Cx} {W : WX} (c : Ctx fs cl C X W k) : ∀ (hs : List Hd) (zs : List ExceptHandler), sameHd fs X.N X.env.scope hs zs = true → ∃ Bs : List Value, Bs.length = hs.length ∧
    ClsOk X zs ((Bs.zip hs).map fun p => claOf cl p.1 p.2) ∧
    ∀ (cn : String) (l : List (String × D)) (cv : Value) (d : Option Addr) (D : Ends) (G : Hp) (al : Nat → Addr) (S : Sto) (H : Hp) (σ : L2.St) (τ : Slots), Rl cl G al S H → RepS cl G al S.length σ τ → XRep cl G H cn l cv d → PstF cl W D G al S H (hdGo cn l τ S hs) →
      wCl X.K W D ((Bs.zip hs).map fun p => claOf cl p.1 p.2) cv d σ H
  | [], [], _ => ⟨[], rfl, .nil, fun cn l cv d D G al S H σ τ rl rs xr p => p G al H σ cv d Gr.refl rl rs xr⟩
  | [], _ :: _, h => by simp [sameHd] at h
  | h :: r, [], hh => by simp [sameHd] at hh
  | h :: r, z :: zs, hh => by
    unfold sameHd at hh
    split at hh
    · rename_i e1 e2; cases e1
    · rename_i h' r' x px n y py pz zs' e1 e2
      cases e1
      cases e2
      simp only [Bool.and_eq_true, beq_iff_eq, Bool.not_eq_true'] at hh
      obtain ⟨⟨⟨⟨⟨⟨⟨⟨h1, h2⟩, h3⟩, h4⟩, h5⟩, h6⟩, h7⟩, h8⟩, h9⟩ := hh
      subst h1
      rw [List.all_eq_true] at h5 h6
      obtain ⟨c0, hc0⟩ : ∃ c0, c0 ∈ h.yes := by
        cases q : h.yes with
        | nil => rw [q] at h4; simp at h4
        | cons a l => exact ⟨a, by simp⟩
      obtain ⟨_, B, _, _, hB, _⟩ := c.pf.xm c0 h.cls true (h5 c0 hc0)
      obtain ⟨Bs, hl, ok, go⟩ := hds_ok c r zs h9
      have nm : Names X (Str.ofString h.cls) (.ref B) := ⟨gl_of h2, (plain_of h3).1, .inl hB⟩
      have su : ∀ (a : Addr) (oe : Obj) (cls : Value) (d : Option Addr) (pn : List (Addr × Obj)), L2N.Zn cls d oe → (∃ vs, oe.data = .fields vs) → PSs (X.suite a ((a, oe) :: pn)) [.Return (some y) py] ((claOf cl (.ref B) h).ts a cls d) :=
        fun a oe cls d pn hz hf => pss_one (PS.imp (ps_ret (ph_x c hz hf h8)) fun D σ H q => q)
      have xmA : ∀ cn b A', cl.xc cn = some A' → fs.xm.contains (cn, h.cls, b) = true → PySem.W.exmOne X.K (.ref A') (.ref B) = some b := fun cn b A' hA' hx => by
        obtain ⟨A, B', hA, _, hB', e⟩ := c.pf.xm cn h.cls b hx
        rw [hA'] at hA; cases hA
        rw [hB] at hB'; cases hB'
        exact e
      refine ⟨.ref B :: Bs, by simp [hl], ?_, fun cn l cv d D G al S H σ τ rl rs xr p => ?_⟩
      · cases hs : h.slot with
        | none =>
          cases n with
          | none => exact .one (y := claOf cl (.ref B) h) hs nm su ok
          | some m => rw [hs] at h7; simp at h7
        | some i =>
          cases n with
          | none => rw [hs] at h7; simp at h7
          | some m =>
            rw [hs] at h7
            simp only [Bool.and_eq_true, decide_eq_true_eq] at h7
            exact .as (y := claOf cl (.ref B) h) hs h7.1 h7.2 nm su ok
      · have hcv : ∃ A', cl.xc cn = some A' ∧ cv = .ref A' := by
          cases xr with
          | bare h => exact ⟨_, h, rfl⟩
          | flds h _ _ => exact ⟨_, h, rfl⟩
        obtain ⟨A', hA', rfl⟩ := hcv
        simp only [hdGo] at p
        split at p
        · rename_i hy
          refine ⟨true, xmA cn true A' hA' (h5 cn (by simpa using hy)), fun _ a na => ?_, fun z => by cases z⟩
          split at p
          · rename_i x ex
            refine ⟨G, al, S, cn, l, x, rl, xr, hy, ex, fun i hi hlt => ?_, fun G' al' H' v g rl' rv => ?_⟩
            · have hi : h.slot = some i := hi
              show (slotOf h.slot a σ)[i]? = _
              have hlt : i < (slotOf h.slot a σ).length := hlt
              rw [hi] at hlt ⊢
              simp only [slotOf] at hlt ⊢
              rw [List.getElem?_set_self (by simpa using hlt)]
            · have hrt : (endsOf h.slot D).rt = D.rt := by cases h.slot <;> rfl
              show (endsOf h.slot D).rt v H'
              rw [hrt]
              exact p G' al' H' v g rl' (.d rv)
          · exact p.elim
        · split at p
          · rename_i hn
            exact ⟨false, xmA cn false A' hA' (h6 cn (by simpa using hn)), (fun z => by cases z), fun _ => go cn l _ d D G al S H σ τ rl rs xr p⟩
          · exact p.elim
    · cases hh

theorem Ctx.tr {X : Cx} {W W' : WX} (c : Ctx fs cl C X W k) {pn : List (Addr × Obj)} {xe : Value → Shared → Prop} (tk : L2N.Takes (X.tr pn xe) W') (po : PassesOwn (model X.prog X.w) X.A X.env xe) : Ctx fs cl C (X.tr pn xe) W' k :=
  ⟨c.pf, c.room, c.calm, tk, po, c.nd⟩
/-- forgetting slots -/
theorem RepS.wipeL {G : Hp} {al : Nat → Addr} {n : Nat} : ∀ (is : List Nat) {σ : L2.St} {τ : Slots}, RepS cl G al n σ τ → RepS cl G al n σ (wipeM τ is)
  | [], _, _, h => h
  | i :: is, σ, τ, h => by
    have ih := RepS.wipeL is h
    show RepS cl G al n σ ((wipeM τ is).set i none)
    refine ⟨by simp [ih.1], fun j m e => ?_⟩
    by_cases hj : i = j
    · subst hj
      by_cases hi : i < (wipeM τ is).length
      · rw [List.getElem?_set_self hi] at e; cases e
      · rw [List.getElem?_eq_none (by simpa using Nat.le_of_not_lt hi)] at e; cases e
    · rw [List.getElem?_set_ne hj] at e
      exact ih.2 j m e
def augI (o : Bop) (x y : Int) : Option Int := match o with
  | .add => some (x + y)
  | .sub => some (x - y)
  | .mul => if mulOk x y then some (x * y) else none
  | _ => none
theorem aug_eq {i : Nat} {o : Bop} {e : E} {τ : Slots} {S : Sto} : ex C fu (.aug i o e) τ S = match τ[i]? with
    | some (some (.d (.int x))) => (ev C e τ S).toF τ fun v S1 => match v with
      | .d (.int y) => match augI o x y with
        | some z => .next (τ.set i (some (.d (.int z)))) S1
        | none => .stuck
      | _ => .stuck
    | _ => .stuck := by
  simp only [ex]
  cases hq : τ[i]? with
  | none => rfl
  | some q =>
    cases q with
    | none => rfl
    | some m =>
      cases m with
      | d x =>
        cases x with
        | int x =>
          dsimp only
          congr 1
          funext v S1
          cases v with
          | d y =>
            cases y with
            | int y =>
              cases o <;> dsimp only [augI]
              split <;> rfl
            | _ => rfl
          | _ => rfl
        | _ => rfl
      | _ => rfl
/-- o.f = v -/
def gFld (K : PySem.W.Frag) (ta : TE) (f : Str) : TG := fun v σ H Q => ta σ H fun x H2 => ∃ a C dx fs, x = .ref a ∧ H2 a = some (.ins C dx fs) ∧ Cls K C ∧ NoAttr K C f ∧ fs.length < 1000 ∧ Q σ (upd H2 a (.ins C dx (putF f v fs)))
theorem pg_attr {X : Cx} {o : Expr} {f : Str} {pos : Pos} {ta : TE} (ha : PE X o ta) : PG X (.Attribute o f pos) (gFld X.K ta f) := by
  refine ⟨fun pins s σ H v u Q I r h => ?_⟩
  show wpAny _ _ (do
    let ov ← holding [u] (eval o X.env)
    standAt pos.atName
    holding [u, ov] (setAttr ov f u)
    release [u, ov] []) _ _ _
  refine wpAny_bind (wpAny_holding (thn (ha.run pins s σ H _ I h) fun ov s1 ⟨x, H1, I1, rx, a, C, dx, fs, ex, ea, c, n, l, q⟩ => ?_))
  subst ex
  obtain rfl : ov = Value.ref a := rx
  refine wpAny_bind (wpAny_standAt (wpAny_bind (wpAny_holding (setattr_ok I1 ea c n l r fun s3 I3 => ?_))))
  exact wpAny_release ⟨σ, _, I3, q⟩
theorem fld_of {X : Cx} {W : WX} (c : Ctx fs cl C X W k) {f : String} (hf : fs.fld.contains f = true) {G H : Hp} {al : Nat → Addr} {S : Sto} {o v : V} {mo mv : MV} {ok : Hp → (Nat → Addr) → Sto → Hp → Unit → Prop} {E : XK} (rl : Rl cl G al S H) (ro : RepM cl G al S.length o mo) (rv : RepM cl G al S.length v mv)
    (q : Pst cl G al S H (fldF mo f mv S) ok E) : ∃ a C dx fv, o = .ref a ∧ H a = some (.ins C dx fv) ∧ Cls X.K C ∧ NoAttr X.K C (Str.ofString f) ∧ fv.length < 1000 ∧
      ∃ G' al' S', Rl cl G' al' S' (upd H a (.ins C dx (putF (Str.ofString f) v fv))) ∧ Gr G al S H G' al' S' (upd H a (.ins C dx (putF (Str.ofString f) v fv))) ∧ ok G' al' S' (upd H a (.ins C dx (putF (Str.ofString f) v fv))) () := by
  unfold fldF at q
  split at q
  · rename_i id
    cases hc : S[id]? with
    | none => rw [hc] at q; exact q.elim
    | some cc =>
      rw [hc] at q
      cases cc with
      | ins cn fl =>
        dsimp only at q
        split at q
        · rename_i hlt
          cases ro with
          | c _ hi =>
            obtain ⟨_, _, ob, h2, h3⟩ := rl.live id _ hc rfl
            cases h3 with
            | ins hcl hd hr =>
              rename_i C dx fv
              have hlv : Lv S id := ⟨_, hc, rfl⟩
              have rl' := rl.write (c := .ins cn (putM f mv fl)) (o := .ins C dx (putF (Str.ofString f) v fv)) hlv rfl (.ins hcl hd (RepFM.put rv hr))
              have g' : Gr G al S H G al (S.set id (.ins cn (putM f mv fl))) (upd H (al id) (.ins C dx (putF (Str.ofString f) v fv))) := Gr.write rl hlv
              exact ⟨al id, C, dx, fv, rfl, h2, c.pf.cls_of hcl, c.pf.noa f hf cn C hcl, by rw [hr.length]; omega, G, al, _, rl', g', q _ _ _ g' rl'⟩
        · exact q.elim
      | _ => exact q.elim
  · exact q.elim
mutual
theorem soundS : ∀ m : Sm, SndS fs cl C k fu m
  | .asg tg e => by
    intro st X W c hf h
    cases st with
    | Assign ts x pos =>
      match ts, h with
      | [t], h =>
        simp only [sameS, Bool.and_eq_true] at h
        obtain ⟨⟨⟨h1, h2⟩, h3⟩, h4⟩ := h
        rw [← hf.fn] at h2
        cases tg with
        | nm i =>
          cases t with
          | Name y p =>
            obtain ⟨n1, n2, n3⟩ := nm_of (show nmC X.fn X.N X.env.scope i y = true from h2)
            refine PS.imp (asg_name (W := W) (m := e) c (fnK_of h1) n1 n2 n3 h3) fun D σ H q => ?_
            obtain ⟨G, al, S, τ, rl, rs, p⟩ := q
            exact ⟨G, al, S, τ, rl, rs, (PstF.toF rs p).imp fun G1 al1 S1 H1 m g1 rl1 q v rv => q G1 al1 H1 _ Gr.refl rl1 ((rs.gr g1).set rv i)⟩
          | _ => simp [sameTg] at h2
        | tp is =>
          simp only [Bool.and_eq_true] at h4
          have hg := pg_tg (cl := cl) c.nd c.calm c.pf.kk h2
          cases t with
          | Tuple us kk p => exact PS.imp (ps_asg (sound e x X W c h3).1 hg (swapsS_of h4.2) (swst_tup h4.1) rfl) fun D σ H q => asg_of q
          | _ => simp [sameTg] at h2
        | st is j =>
          simp only [Bool.and_eq_true] at h4
          have hg := pg_tg (cl := cl) c.nd c.calm c.pf.kk h2
          cases t with
          | Tuple us kk p => exact PS.imp (ps_asg (sound e x X W c h3).1 hg (swapsS_of h4.2) (swst_tup h4.1) rfl) fun D σ H q => asg_of q
          | _ => simp [sameTg] at h2
      | [], h => simp [sameS] at h
      | _ :: _ :: _, h => simp [sameS] at h
    | _ => simp [sameS] at h
  | .par i j a b => by
    intro st X W c hf h
    cases st with
    | Assign ts x pos =>
      simp only [sameS] at h
      split at h
      · rename_i y py z pz u v ei
        obtain ⟨kt, pt, k2, pt2, rfl, rfl⟩ := isPar_inv ei
        simp only [Bool.and_eq_true, decide_eq_true_eq] at h
        obtain ⟨⟨⟨⟨⟨h1, h2⟩, h3⟩, h4⟩, h5⟩, h6⟩ := h
        have hw := par_of (kt := kt) (pt := pt) (k2 := k2) (pt2 := pt2) h4
        simp only [parC, Bool.and_eq_true, decide_eq_true_eq] at h4
        obtain ⟨⟨⟨⟨⟨⟨⟨⟨p1, p2⟩, p3⟩, p4⟩, p5⟩, p6⟩, p7⟩, p8⟩, p9⟩ := h4
        have ha := (sound a u X W c h5).1
        have hb := (sound b v X W c h6).1
        refine PS.imp (ps_par c.calm c.nd h1 h2 h3 p2 p3 (pa_cons ha (pa_cons hb pa_nil (star_of p7)) (star_of p6)) hw rfl) fun D σ H q => ?_
        obtain ⟨G, al, S, τ, rl, rs, p⟩ := q
        refine ⟨G, al, S, τ, rl, rs, (PstF.toF rs p).imp fun G1 al1 S1 H1 m g1 rl1 q v rv => ?_⟩
        refine ⟨G1, al1, S1, τ, rl1, rs.gr g1, (PstF.toF (rs.gr g1) q).imp fun G2 al2 S2 H2 m2 g2 rl2 q w rw' => ?_⟩
        exact ⟨v, w, rfl, q G2 al2 H2 _ Gr.refl rl2 ((((rs.gr g1).gr g2).set (rv.gr g2) i).set rw' j)⟩
      · cases h
    | _ => simp [sameS] at h
  | .setix a i e => by
    intro st X W c hf h
    cases st with
    | Assign ts x pos =>
      simp only [sameS] at h
      split at h
      · rename_i o kx sp ei
        have := isSub_inv ei; subst this
        simp only [Bool.and_eq_true] at h
        obtain ⟨⟨⟨⟨h0, h1⟩, h2⟩, h3⟩, h4⟩ := h
        have ha := (sound a o X W c h1).1
        have hi := (sound i kx X W c h2).1
        have he := (sound e x X W c h3).1
        refine ⟨fun pins s σ H D I q => ?_⟩
        have hg := pg_sub (pos := sp) ha hi (set_cell (X := X) (cl := cl) (E := WE W σ)) (assign_sub h0)
        refine (ps_asg he hg (swapsS_of h4) swst_sub rfl).run pins s σ H D I ?_
        obtain ⟨G, al, S, τ, rl, rs, p⟩ := q
        refine ⟨G, al, S, τ, rl, rs, (PstF.toF rs p).imp fun G1 al1 S1 H1 mv g1 rl1 q v rv => ?_⟩
        refine ⟨G1, al1, S1, τ, rl1, rs.gr g1, (PstF.toF (rs.gr g1) q).imp fun G2 al2 S2 H2 mo g2 rl2 q o ro => ?_⟩
        have rs2 := (rs.gr g1).gr g2
        refine ⟨G2, al2, S2, τ, rl2, rs2, (PstF.toF rs2 q).imp fun G3 al3 S3 H3 mi g3 rl3 q ii ri => ?_⟩
        have rs3 := rs2.gr g3
        exact ⟨G3, al3, S3, mo, mi, mv, rl3, ro.gr g3, ri, (rv.gr g2).gr g3, (PstF.toF rs3 q).imp fun G4 al4 S4 H4 _ g4 rl4 q => q G4 al4 H4 σ Gr.refl rl4 (rs3.gr g4)⟩
      · cases h
    | _ => simp [sameS] at h
  | .retn => by
    intro st X W c hf h
    cases st with
    | Return v pos =>
      cases v with
      | none =>
        refine PS.imp ps_retN fun D σ H q => ?_
        obtain ⟨G, al, S, τ, rl, rs, p⟩ := q
        exact p G al H _ Gr.refl rl (.d .non)
      | some x => simp [sameS] at h
    | _ => simp [sameS] at h
  | .swap _ _ _ _ _ _ => by
    intro st X W c hf h
    cases st <;> simp [sameS] at h
  | .aug i o e => by
    intro st X W c hf h
    cases st with
    | AugAssign t p y pos =>
      cases t with
      | Name x px =>
        simp only [sameS, Bool.and_eq_true, Bool.or_eq_true, decide_eq_true_eq] at h
        obtain ⟨⟨⟨h1, h2⟩, h3⟩, h4⟩ := h
        subst h1
        rw [← hf.fn] at h3
        obtain ⟨n1, n2, n3⟩ := nm_of h3
        have he := (sound e y X W c h4).1
        have go : ∀ (ti : TIp) (f : Int → Int → R MV), PIp X (opOf o) ti → (∀ (x y : Int) (H : Hp) (Q : VK) (G : Hp) (al : Nat → Addr) (S : Sto), Rl cl G al S H → (∀ z, augI o x y = some z → Q (.int z) H) → augI o x y ≠ none → ti (.int x) (.int y) H Q) →
            PS X (.AugAssign (.Name x px) (opOf o) y pos) (rdS cl W (ex C fu (.aug i o e))) := fun ti f hi hq => by
          refine PS.imp (ps_aug c.nd n1 n2 he hi n3) fun D σ H ⟨G, al, S, τ, rl, rs, p⟩ => ?_
          rw [aug_eq] at p
          split at p
          · rename_i x es
            obtain ⟨u, e1, r1⟩ := rs.2 i _ es
            have := r1.int_inv; subst this
            refine ⟨_, e1, G, al, S, τ, rl, rs, (PstF.toF rs p).imp fun G1 al1 S1 H1 m g1 rl1 q v rv => ?_⟩
            split at q
            · rename_i y
              have := rv.int_inv; subst this
              split at q
              · rename_i z ez
                exact hq x y H1 _ G1 al1 S1 rl1 (fun z' e' => by rw [ez] at e'; cases e'; exact q G1 al1 H1 _ Gr.refl rl1 ((rs.gr g1).set (.d (.int z)) i)) (by rw [ez]; simp)
              · exact q.elim
            · exact q.elim
          · exact p.elim
        rcases h2 with (rfl | rfl) | rfl
        · exact go _ (fun _ _ => .stuck) ip_add fun x y H Q G al S rl hz _ => ⟨x, y, rfl, rfl, hz _ rfl⟩
        · exact go _ (fun _ _ => .stuck) ip_sub fun x y H Q G al S rl hz _ => ⟨x, y, rfl, rfl, hz _ rfl⟩
        · refine go (fun x y H Q => ∃ i j, x = .int i ∧ y = .int j ∧ mulOk i j = true ∧ Q (.int (i * j)) H) (fun _ _ => .stuck) ?_ fun x y H Q G al S rl hz hn => ?_
          · intro pins s σ H x y v u Q I r1 r2 h
            obtain ⟨i, j, rfl, rfl, hm, q⟩ := h
            obtain ⟨t, rfl⟩ := r1
            obtain ⟨t', rfl⟩ := r2
            exact PyProof.Rows.imul_int ⟨.int _, H, I.tok _, ⟨_, rfl⟩, q⟩ (CMulW.ok (of_decide_eq_true hm : _ + _ < _))
          · cases hm : mulOk x y with
            | false => simp [augI, hm] at hn
            | true => exact ⟨x, y, rfl, rfl, hm, hz _ (by simp [augI, hm])⟩
      | _ => simp [sameS] at h
    | _ => simp [sameS] at h
  | .fld a f e => by
    intro st X W c hf h
    cases st with
    | Assign ts x pos =>
      simp only [sameS] at h
      split at h
      · rename_i o g sp ei
        have := isAt_inv ei; subst this
        simp only [Bool.and_eq_true, beq_iff_eq] at h
        obtain ⟨⟨⟨⟨h0, h1⟩, h2⟩, h3⟩, h4⟩ := h
        subst h0
        have ha := (sound a o X W c h2).1
        have he := (sound e x X W c h3).1
        refine PS.imp (ps_fld ha he (swaps_of h4)) fun D σ H ⟨G, al, S, τ, rl, rs, p⟩ => ?_
        refine ⟨G, al, S, τ, rl, rs, (PstF.toF rs p).imp fun G1 al1 S1 H1 mv g1 rl1 q v rv => ?_⟩
        refine ⟨G1, al1, S1, τ, rl1, rs.gr g1, (PstF.toF (rs.gr g1) q).imp fun G2 al2 S2 H2 mo g2 rl2 q o ro => ?_⟩
        have rs2 := (rs.gr g1).gr g2
        obtain ⟨a, D', dx, fv, rfl, ha, hc, hn, hl, G3, al3, S3, rl3, g3, q3⟩ := fld_of c h1 rl2 ro (rv.gr g2) (PstF.toF rs2 q)
        exact ⟨a, D', dx, fv, rfl, ha, hc, hn, hl, q3 G3 al3 _ σ Gr.refl rl3 (rs2.gr g3)⟩
      · cases h
    | _ => simp [sameS] at h
  | .fld2 a f b g e => by
    intro st X W c hf h
    cases st with
    | Assign ts x pos =>
      simp only [sameS] at h
      split at h
      · rename_i o f1 p1 o2 f2 p2 ei
        obtain ⟨kt, pt, rfl⟩ := isAt2_inv ei
        simp only [Bool.and_eq_true, beq_iff_eq] at h
        obtain ⟨⟨⟨⟨⟨⟨⟨⟨h0, h01⟩, h1⟩, h11⟩, h2⟩, h21⟩, h3⟩, h4⟩, h5⟩ := h
        subst h0 h01
        have ha := (sound a o X W c h2).1
        have hb := (sound b o2 X W c h21).1
        have he := (sound e x X W c h3).1
        have hg : PG X (.Tuple [.Attribute o (Str.ofString f) p1, .Attribute o2 (Str.ofString g) p2] kt pt) _ := pg_tup (n := 2) c.calm (pgs_cons (pg_attr (f := Str.ofString f) (pos := p1) ha) (pgs_cons (pg_attr (f := Str.ofString g) (pos := p2) hb) pgs_nil))
        refine PS.imp (ps_asg he hg (swapsS_of h4) (swst_tup h5) rfl) fun D σ H ⟨G, al, S, τ, rl, rs, p⟩ => ?_
        refine ⟨G, al, S, τ, rl, rs, (PstF.toF rs p).imp fun G1 al1 S1 H1 mv g1 rl1 q v rv => ?_⟩
        split at q
        · rename_i mx my et
          obtain ⟨at_, vs, rfl, hv, rr⟩ := titems_ok rl1 rv et
          cases rr with
          | cons rx rr =>
            cases rr with
            | cons ry rr =>
              cases rr
              refine ⟨at_, _, rfl, by rw [c.pf.kk]; exact hv, rfl, _, _, rfl, ?_⟩
              refine ⟨G1, al1, S1, τ, rl1, rs.gr g1, (PstF.toF (rs.gr g1) q).imp fun G2 al2 S2 H2 mo g2 rl2 q o ro => ?_⟩
              have rs2 := (rs.gr g1).gr g2
              obtain ⟨a, D', dx, fv, rfl, ha, hc, hn, hl, G3, al3, S3, rl3, g3, q3⟩ := fld_of c h1 rl2 ro (rx.gr g2) (PstF.toF rs2 q)
              refine ⟨a, D', dx, fv, rfl, ha, hc, hn, hl, _, _, rfl, ?_⟩
              have rs3 := rs2.gr g3
              refine ⟨G3, al3, S3, τ, rl3, rs3, (PstF.toF rs3 q3).imp fun G4 al4 S4 H4 mo g4 rl4 q o ro => ?_⟩
              have rs4 := rs3.gr g4
              obtain ⟨a, D', dx, fv, rfl, ha, hc, hn, hl, G5, al5, S5, rl5, g5, q5⟩ := fld_of c h11 rl4 ro (((ry.gr g2).gr g3).gr g4) (PstF.toF rs4 q)
              exact ⟨a, D', dx, fv, rfl, ha, hc, hn, hl, rfl, q5 G5 al5 _ σ Gr.refl rl5 (rs4.gr g5)⟩
        · exact q.elim
      · cases h
    | _ => simp [sameS] at h
  | .expr e => by
    intro st X W c hf h
    cases st with
    | Expr x pos =>
      simp only [sameS, Bool.and_eq_true] at h
      refine PS.imp (ps_expr (sound e x X W c h.2).1 (swaps_none h.1)) fun D σ H q => ?_
      obtain ⟨G, al, S, τ, rl, rs, p⟩ := q
      exact ⟨G, al, S, τ, rl, rs, (PstF.toF rs p).imp fun G1 al1 S1 H1 m g1 rl1 q v rv => q G1 al1 H1 σ Gr.refl rl1 (rs.gr g1)⟩
    | _ => simp [sameS] at h
  | .ret e => by
    intro st X W c hf h
    cases st with
    | Return v pos =>
      cases v with
      | none => simp [sameS] at h
      | some x =>
        simp only [sameS] at h
        refine PS.imp (ps_ret (sound e x X W c h).1) fun D σ H q => ?_
        obtain ⟨G, al, S, τ, rl, rs, p⟩ := q
        exact ⟨G, al, S, τ, rl, rs, (PstF.toF rs p).imp fun G1 al1 S1 H1 m g1 rl1 q v rv => q G1 al1 H1 v Gr.refl rl1 rv⟩
    | _ => simp [sameS] at h
  | .ifs t a b => by
    intro st X W c hf h
    cases st with
    | If x ys zs pos =>
      simp only [sameS, Bool.and_eq_true] at h
      refine PS.imp (ps_if (sound t x X W c h.1.1).2 (soundB a ys X W c hf h.1.2) (soundB b zs X W c hf h.2)) fun D σ H q => ?_
      obtain ⟨G, al, S, τ, rl, rs, p⟩ := q
      refine ⟨G, al, S, τ, rl, rs, (PstF.toF rs p).imp fun G1 al1 S1 H1 b g1 rl1 q => ?_⟩
      unfold Bk
      cases b with
      | true => rw [if_pos rfl]; exact ⟨G1, al1, S1, τ, rl1, rs.gr g1, q⟩
      | false => rw [if_neg Bool.false_ne_true]; exact ⟨G1, al1, S1, τ, rl1, rs.gr g1, q⟩
    | _ => simp [sameS] at h
  | .for_ tg it body => by
    intro st X W c hf h
    cases st with
    | For t x ys oe pos =>
      cases oe with
      | cons _ _ => simp [sameS] at h
      | nil =>
        simp only [sameS, Bool.and_eq_true] at h
        obtain ⟨⟨⟨h1, h2⟩, h3⟩, h4⟩ := h
        rw [← hf.fn] at h2
        exact PS.imp (ps_for c.own c.calm (soundI it x t X W c h3) (pg_tg (cl := cl) c.nd c.calm c.pf.kk h2) (soundB body ys X W c hf h4) (fold_of h1)) fun D σ H q => for_of q
    | _ => simp [sameS] at h
  | .while_ t body => by
    intro st X W c hf h
    cases st with
    | While x ys oe pos =>
      cases oe with
      | cons _ _ => simp [sameS] at h
      | nil =>
        simp only [sameS, Bool.and_eq_true] at h
        exact PS.imp (ps_while c.own (sound t x X W c h.1).2 (soundB body ys X W c hf h.2)) fun D σ H q => wh_of q
    | _ => simp [sameS] at h
  | .raise_ cn e f => by
    intro st X W c hf h
    cases st with
    | Raise x cs pos =>
      cases cs with
      | some _ => simp [sameS] at h
      | none =>
        simp only [sameS] at h
        split at h
        · rename_i g y ei
          obtain ⟨p, q, rfl⟩ := isRs_inv ei
          simp only [Bool.and_eq_true, beq_iff_eq] at h
          obtain ⟨⟨⟨⟨⟨h1, h2⟩, h3⟩, h4⟩, h5⟩, h6⟩ := h
          subst h1
          obtain ⟨A, hA, T⟩ := c.pf.xf cn f h5
          have st : starEach [y] X.env = [(false, eval y X.env)] := star_of h4
          have he := (sound e y X W c h6).1
          refine PS.imp (L2N.ps_raise c.calm c.takes (pmk_x T c.room1 (pa_cons he pa_nil st) (gl_of h2) (plain_of h3).1 st)) fun D σ H q => ?_
          obtain ⟨G, al, S, τ, rl, rs, p⟩ := q
          refine ⟨G, al, S, τ, rl, rs, (PstF.toF rs p).imp fun G1 al1 S1 H1 m g1 rl1 q v rv => ⟨v, rfl, fun d hd => ?_⟩⟩
          split at q
          · rename_i x
            cases rv with
            | d rx =>
              have g2 : Gr G1 al1 S1 H1 G1 al1 S1 (upd H1 d (.xd [(Str.ofString f, v)])) := Gr.junk hd
              have rl2 : Rl cl G1 al1 S1 (upd H1 d (.xd [(Str.ofString f, v)])) := rl1.junk hd
              exact q G1 al1 _ σ _ _ g2 rl2 (rs.gr g1) (.flds hA upd_same rx)
          · exact q.elim
        · cases h
    | _ => simp [sameS] at h
  | .raise0 cn => by
    intro st X W c hf h
    cases st with
    | Raise x cs pos =>
      cases cs with
      | some _ => simp [sameS] at h
      | none =>
        simp only [sameS] at h
        split at h
        · rename_i g ei
          obtain ⟨p, q, rfl⟩ := isRs_inv ei
          simp only [Bool.and_eq_true, beq_iff_eq] at h
          obtain ⟨⟨⟨h1, h2⟩, h3⟩, h4⟩ := h
          subst h1
          obtain ⟨A, hA, hm, hx, hk, hb, ht⟩ := c.pf.x0 cn h4
          refine PS.imp (L2N.ps_raise c.calm c.takes (pmk_x0 hx hm hk (raises_own hb ht) (gl_of h2) (plain_of h3).1)) fun D σ H q => ?_
          obtain ⟨G, al, S, τ, rl, rs, p⟩ := q
          exact p G al H σ _ _ Gr.refl rl rs (.bare hA)
        · cases h
    | _ => simp [sameS] at h
  | .try_ body hs => by
    intro st X W c hf h
    cases st with
    | Try ys zs oe fb pos =>
      match oe, fb, h with
      | [], [], h =>
        simp only [sameS, Bool.and_eq_true] at h
        obtain ⟨⟨h1, h2⟩, h3⟩ := h
        obtain ⟨Bs, hl, ok, go⟩ := hds_ok c hs zs h2
        match zs, hs, h2, h3, ok, go with
        | [], [], _, h3, _, _ => simp at h3
        | [], _ :: _, h2, _, _, _ => simp [sameHd] at h2
        | z :: zs, hs, h2, h3, ok, go =>
          refine PS.imp (ps_tryM hf.st hf.fr c.nd c.takes (fun W' pn xe tk po => soundB body ys (X.tr pn xe) W' (c.tr tk po) ⟨hf.fn, hf.st, hf.fr⟩ h1) ok) fun D σ H q => ?_
          obtain ⟨G, al, S, τ, rl, rs, p⟩ := q
          refine ⟨G, al, S, τ, rl, rs, ?_⟩
          simp only [ex] at p
          cases e : exs C fu body τ S with
          | exc cn l τ1 S1 =>
            rw [e] at p
            intro G' al' H' σ' cv d g rl' rs' xr
            exact go cn l cv d D G' al' S1 H' σ' τ1 rl' rs' xr (PstF.gr g p)
          | next τ1 S1 => rw [e] at p; exact p
          | ret v S1 => rw [e] at p; exact p
          | brk τ1 S1 => rw [e] at p; exact p
          | cont τ1 S1 => rw [e] at p; exact p
          | stuck => rw [e] at p; exact p
      | [], _ :: _, h => simp [sameS] at h
      | _ :: _, _, h => simp [sameS] at h
    | _ => simp [sameS] at h
theorem soundB : ∀ m : Sms, SndB fs cl C k fu m
  | .wipe is r => by
    intro st X W c hf h
    simp only [sameB] at h
    refine PSs.imp (soundB r st X W c hf h) fun D σ H ⟨G, al, S, τ, rl, rs, p⟩ => ?_
    exact ⟨G, al, S, wipeM τ is, rl, rs.wipeL is, p⟩
  | .nil => by
    intro st X W c hf h
    cases st with
    | cons _ _ => simp [sameB] at h
    | nil => exact PSs.imp pss_nil fun D σ H ⟨G, al, S, τ, rl, rs, p⟩ => p G al H σ Gr.refl rl rs
  | .cons s r => by
    intro st X W c hf h
    cases st with
    | nil => simp [sameB] at h
    | cons x xs =>
      simp only [sameB, Bool.and_eq_true] at h
      refine PSs.imp (pss_cons (soundS s x X W c hf h.1) (soundB r xs X W c hf h.2)) fun D σ H ⟨G, al, S, τ, rl, rs, p⟩ => ?_
      refine ⟨G, al, S, τ, rl, rs, ?_⟩
      simp only [exs] at p
      cases e : ex C fu s τ S with
      | next τ1 S1 => rw [e] at p; exact fun G' al' H' σ' g rl' rs' => ⟨G', al', S1, τ1, rl', rs', PstF.gr g p⟩
      | ret v S1 => rw [e] at p; exact p
      | brk τ1 S1 => rw [e] at p; exact p
      | cont τ1 S1 => rw [e] at p; exact p
      | exc c fs τ1 S1 => rw [e] at p; exact p
      | stuck => rw [e] at p; exact p
end
end
end Mi
namespace Mi
open PySem L2 PyProof.Rows

def allP {α : Type} (P : α → Prop) : List α → Prop
  | [] => True
  | x :: r => P x ∧ allP P r
theorem allP.mem {α : Type} {P : α → Prop} : ∀ {l : List α} {x : α}, allP P l → x ∈ l → P x
  | _ :: _, _, h, m => by
    rcases List.mem_cons.mp m with e | e
    · rw [e]; exact h.1
    · exact h.2.mem e
/-- a def as it stands -/
structure Fn (K : PySem.W.Frag) (x qual : Str) (st : Stmt) (f : Addr) (fd : FuncData) : Prop where
  ex : ∃ (oc : Value) (od : Option Addr) (dV kV doc pm : Value) (an : Option Addr) (cdv ct : Value) (osl : Array (Option Value)),
    fd = PySem.W.fnOf x qual (defArgs st) (defBody st) (defScope st) dV kV doc pm an cdv ct ∧ K.lookup f = some ⟨oc, od, .func fd, osl⟩ ∧ PySem.W.codeIn K cdv qual = true
  kp : PySem.W.keepIn K (.ref f) = true
/-- a def's body is the mini def's -/
def Bd (fs : Tx) (K : PySem.W.Frag) (d : Df) (a : Addr) (fd : FuncData) : Prop := ∃ (x qual : Str) (st : Stmt), Fn K x qual st a fd ∧ FnScope (d.names.map Str.ofString) ((d.names.take d.np).map Str.ofString) (defScope st) ∧
  Binds K fd ((d.names.take d.np).map Str.ofString) [] ∧ sameB fs (d.names.map Str.ofString) (defScope st) d.body (defBody st) = true ∧ d.np ≤ d.names.length
/-- a def of the text is the mini def -/
def DfOk (fs : Tx) (K : PySem.W.Frag) (mg : Str → Option Value) (f : String) (d : Df) : Prop := ∃ (a : Addr) (fd : FuncData),
  Bd fs K d a fd ∧ mg (Str.ofString f) = some (.ref a) ∧ PySem.W.keepIn K (.ref a) = true ∧
  (∀ i, fs.df.lookup f = some i → ∃ t, Binds K fd ((d.names.take d.np).map Str.ofString) [.int i t]) ∧
  (∀ k1 k2, fs.sw.lookup f = some (k1, k2) → (d.names.take d.np).map Str.ofString = [Str.ofString k1, Str.ofString k2] ∧ ∀ (s : Shared) (u v : Value), K.In s.heap → BindsTo s fd ⟨[], [(Str.ofString k2, u), (Str.ofString k1, v)]⟩ [(Str.ofString k1, v), (Str.ofString k2, u)])
def MtOk (fs : Tx) (cl : Wd) (K : PySem.W.Frag) (c m : String) (d : Df) : Prop := ∃ D f fd, cl.cl c = some D ∧ Meth K D (Str.ofString m) f ∧ OpX cl D m f ∧ Bd fs K d f fd
def PrOk (fs : Tx) (cl : Wd) (K : PySem.W.Frag) (c m : String) (d : Df) : Prop := ∃ D p f fd, cl.cl c = some D ∧ PropOf K D (Str.ofString m) p f ∧ Bd fs K d f fd
def NwOk (fs : Tx) (cl : Wd) (K : PySem.W.Frag) (mg : Str → Option Value) (c : String) (d : Df) : Prop := ∃ D f fd, cl.cl c = some D ∧ mg (Str.ofString c) = some (.ref D) ∧ Mk K D f ∧ Bd fs K d f fd
/-- the test for numbers -/
def numB (x : Str) (sc : Scope) : List Stmt → Bool
  | [.Return (some (.BoolOp .And [.Call (.Name f _) [.Name a _, .Name b _] [] _, .UnaryOp .Not (.Call (.Name g _) [.Name c _, .Name d _] [] _) _] _)) _] =>
    (f == ("isinstance" : Str)) && (g == ("isinstance" : Str)) && (a == x) && (c == x) && (b == ("int" : Str)) && (d == ("bool" : Str)) && visC sc x && plainN x && glC sc "isinstance" && glC sc "int" && glC sc "bool"
  | _ => false
/-- what the text tells beside its defs -/
structure Pk (fs : Tx) (cl : Wd) (prog : Program) (K : PySem.W.Frag) (mg : Str → Option Value) : Prop where
  kk : K = cl.K
  nob : ∀ x ∈ bnames, mg (Str.ofString x) = none
  glob : allP (fun p => ∃ t, mg (Str.ofString p.1) = some (.int p.2 t)) fs.gl
  gtup : allP (fun p => ∃ a, mg (Str.ofString p.1) = some (.ref a) ∧ ∀ H : Hp, SqT K H a (p.2.map V.int)) fs.gt
  isf : IsF cl
  noa : allP (fun f => ∀ c D, cl.cl c = some D → NoAttr K D (Str.ofString f)) fs.fld
  cls : allP (fun c => ∃ D, cl.cl c = some D ∧ mg (Str.ofString c) = some (.ref D)) fs.cls
  xf : allP (fun p => ∃ A, cl.xc p.1 = some A ∧ XcT prog K mg (Str.ofString p.1) (Str.ofString p.2) A) fs.xf
  x0 : allP (fun c => ∃ A, cl.xc c = some A ∧ mg (Str.ofString c) = some (.ref A) ∧ PySem.W.excIn K A [.type "ValueError", .type "Exception", .type "BaseException", .type "object"] "ValueError.__new__" = true ∧
    PySem.W.keepIn K (.ref A) = true ∧ PySem.W.subIn K (.ref A) (.type "BaseException") = some true ∧ PySem.W.typeIn K (.ref A) = some (.type "type")) fs.x0
  xm : allP (fun p => ∃ A B, cl.xc p.1 = some A ∧ cl.xc p.2.1 = some B ∧ mg (Str.ofString p.2.1) = some (.ref B) ∧ PySem.W.exmOne K (.ref A) (.ref B) = some p.2.2) fs.xm
  hg : allP (fun g => ∃ (qual : Str) (st : Stmt) (a : Addr) (fd : FuncData) (x : Str), Fn K (Str.ofString g) qual st a fd ∧ mg (Str.ofString g) = some (.ref a) ∧ FnScope [x] [x] (defScope st) ∧ Binds K fd [x] [] ∧ numB x (defScope st) (defBody st) = true) fs.hg

section
variable {cl : Wd} {prog : Program} {w : World} {K : PySem.W.Frag} {mg : Str → Option Value} {base : Heap}
theorem num_ok {name qual : Str} {st : Stmt} {a : Addr} {fd : FuncData} {x : Str} (hK : K = cl.K) (is : IsF cl) (nob : ∀ x ∈ bnames, mg (Str.ofString x) = none) (F : Fn K name qual st a fd) (S : FnScope [x] [x] (defScope st)) (h : numB x (defScope st) (defBody st) = true) :
    L2H.FnH prog w K mg base (L2N.CX prog w) 1 a fd [x] (fun vs H Q _ => ∃ (bw : Addr → Prop) (i : Int) (G : Hp) (al : Nat → Addr) (S : Sto), vs = [.int i] ∧ Rl (cl.wb bw) G al S H ∧ ∀ G' al' H', Gr G al S H G' al' S H' → Rl (cl.wb bw) G' al' S H' → Q (.bl true) H') := by
  obtain ⟨oc, od, dV, kV, doc, pm, an, cdv, ct, osl, rfl, lk, hcd⟩ := F.ex
  refine L2H.fn_ofH (k := 0) lk hcd S (fun vs H Q E ⟨_, i, _, _, _, e, _⟩ => by rw [e]; rfl) fun A outer s H vs Q E p hot hr hsp => ?_
  obtain ⟨bw, i, G, al, S0, rfl, rl, q⟩ := hsp
  unfold numB at h
  split at h
  · rename_i f1 _ a1 _ b1 _ _ f2 _ c1 _ d1 _ _ _ _ _ eb
    simp only [Bool.and_eq_true, beq_iff_eq] at h
    obtain ⟨⟨⟨⟨⟨⟨⟨⟨⟨⟨rfl, rfl⟩, rfl⟩, rfl⟩, rfl⟩, rfl⟩, h1⟩, h2⟩, h3⟩, h4⟩, h5⟩ := h
    let X : Cx := L2H.cxH (L2N.CX prog w) prog w K mg base [c1] qual (defScope st) a cdv A outer s H E p
    have hv : ∀ pp, PE X (.Name c1 pp) (rd (cl.wb bw) W0 fun τ S => match τ[0]? with
        | some (some v) => .ok v S
        | _ => .stuck) := fun pp => PE.imp (pe_var (X := X) (i := 0) rfl (vis_of h1) (plain_of h2).1 (plain_of h2).2.1) fun σ H Q ⟨G, al, S, τ, rl, rs, p⟩ => by
      dsimp only at p
      split at p
      · rename_i v e
        obtain ⟨u, e1, r1⟩ := rs.2 0 v e
        exact ⟨u, e1, p.now rl u r1⟩
      · exact p.elim
    have g1 : Gl X "isinstance" := gl_of (X := X) h3
    have g2 : Gl X (Str.ofString "int") := gl_of (X := X) h4
    have g3 : Gl X (Str.ofString "bool") := gl_of (X := X) h5
    rw [eb]
    refine ⟨_, pss_one (ps_ret (pe_andT (pe_isi (cl := cl.wb bw) (X := X) (ty := "int") hK (is.wb bw) nob (by decide) g1 g2 rfl (hv _)) (pe_one (PE.imp (pe_notT (pe_isi (cl := cl.wb bw) (X := X) (ty := "bool") hK (is.wb bw) nob (by decide) g1 g3 rfl (hv _))) fun σ H Q q => not_of (cl := cl.wb bw) (K := X.K) hK q)))), ?_⟩
    refine and_of (cl := cl.wb bw) (W := W0) (σ := L2.start [c1] [V.int i]) (H := H) (Q := Q) hK ⟨G, al, S0, [some (.d (.int i))], rl, ⟨rfl, fun j m e => ?_⟩, ?_⟩
    · cases j with
      | zero => cases e; exact ⟨_, rfl, .d (.int i)⟩
      | succ j => simp at e
    · show Pst (cl.wb bw) _ _ _ _ (R.ok (MV.d (.bl true)) S0) _ _
      intro G' al' H' g rl' v rv
      have := rv.bl_inv; subst this
      exact q G' al' H' g rl'
  · cases h
end

section
variable {cl : Wd} {G H : Hp} {al : Nat → Addr} {S : Sto}
theorem repS_start {n : Nat} {vs : List V} {ms : List MV} (r : RepMs cl G al n vs ms) (N : List Str) (m : Nat) (hN : N.length = m) : RepS cl G al n (start N vs) (ms.map some ++ List.replicate (m - ms.length) none) := by
  have hl := r.length
  refine ⟨by simp [L2.start, hl, hN], fun i mv e => ?_⟩
  by_cases hi : i < ms.length
  · rw [List.getElem?_append_left (by simpa using hi), List.getElem?_map] at e
    cases q : ms[i]? with
    | none => rw [q] at e; cases e
    | some m' =>
      rw [q] at e
      cases e
      obtain ⟨v, h1, h2⟩ := r.get q
      refine ⟨v, ?_, h2⟩
      unfold L2.start
      rw [List.getElem?_append_left (by simpa [hl] using hi), List.getElem?_map, h1]
      rfl
  · rw [List.getElem?_append_right (by simpa using Nat.le_of_not_lt hi)] at e
    rw [List.getElem?_replicate] at e
    split at e <;> cases e
end

section
variable {fs : Tx} {cl : Wd} {prog : Program} {w : World} {K : PySem.W.Frag} {mg : Str → Option Value} {base : Heap} {P : String → Option Df} {fu : Nat}
theorem run_len {C : Calls} {d : Df} {ms : List MV} {S : Sto} (h : run C fu d ms S ≠ .stuck) : ms.length = d.np := by
  unfold run at h
  split at h
  · assumption
  · exact absurd rfl h
/-- what run wants of the body -/
theorem run_post {C : Calls} {d : Df} {E : XK} {Q : VK} {G H : Hp} {al : Nat → Addr} {S S0 : Sto} {ms : List MV} (ok : Hp → (Nat → Addr) → Sto → Hp → MV → Prop) (h : Pst cl G al S H (run C fu d ms S0) ok E)
    (hok : ∀ m S' G' al' H', Gr G al S H G' al' S' H' → Rl cl G' al' S' H' → ok G' al' S' H' m → ∀ v, RepM cl G' al' S'.length v m → Q v H') :
    PstF cl (fun c d _ H => E c d H) { nx := fun _ H' => Q .non H', rt := Q } G al S H (exs C fu d.body (ms.map some ++ List.replicate (d.names.length - ms.length) none) S0) := by
  unfold run at h
  split at h
  · split at h
    · rename_i e; rw [e]; exact fun G' al' H' v g r rv => hok _ _ _ _ _ g r (h G' al' H' g r) v rv
    · rename_i e; rw [e]; exact fun G' al' H' σ' g r rs => hok _ _ _ _ _ g r (h G' al' H' g r) _ (.d .non)
    · rename_i e; rw [e]; exact fun G' al' H' σ' cv d g r rs x => h G' al' H' cv d g r x
    · exact h.elim
  · exact h.elim
theorem def_step {f : String} {d : Df} {n : Nat} {a : Addr} {fd : FuncData} (ih : Pf fs cl (callN P fu n) prog w K mg base n) (hd : P f = some d) (hb : Bd fs K d a fd) :
    FnOk prog w K mg base (L2N.CX prog w) (2 * (n + 1) + 1) a fd ((d.names.take d.np).map Str.ofString) (SpN cl (callN P fu (n + 1) f)) := by
  obtain ⟨x, qual, st, F, sc, _, hs, hnp⟩ := hb
  have hlen : ((d.names.take d.np).map Str.ofString).length = d.np := by simp [Nat.min_eq_left hnp]
  obtain ⟨oc, od, dV, kV, doc, pm, an, cdv, ct, osl, rfl, lk, hcd⟩ := F.ex
  refine fn_of (k := 2 * n + 2) lk hcd sc (fun vs H Q E h => ?_) (fun A outer s H vs Q E hr h => ?_)
  · rw [hlen]
    obtain ⟨bw, G, al, S, ms, rl, rv, q⟩ := h
    simp only [callN, hd] at q
    rw [rv.length]
    exact run_len (fu := fu) (C := callN P fu n) (S := S) fun z => by rw [z] at q; exact q
  · obtain ⟨bw, G, al, S, ms, rl, rv, q⟩ := h
    refine ⟨rdS (cl.wb bw) (fun c d _ H => E c d H) (exs (callN P fu n) fu d.body), ?_, ?_⟩
    · exact soundB d.body _ _ _ ⟨ih.wb bw, hr, rfl, L2N.takes_of rfl rfl rfl rfl, passes_of rfl, sc.nd⟩ ⟨rfl, rfl, rfl⟩ hs
    · simp only [callN, hd] at q
      have hnm : (d.names.map Str.ofString).length = d.names.length := by simp
      exact ⟨G, al, S, _, rl, repS_start rv _ _ hnm, run_post _ q fun m S' G' al' H' g r k v rv => k v rv⟩
/-- all defs keep their promises -/
structure Tie (fs : Tx) (cl : Wd) (K : PySem.W.Frag) (mg : Str → Option Value) (P : String → Option Df) : Prop where
  fn : allP (fun f => ∃ d, P f = some d ∧ DfOk fs K mg f d) fs.fs
  mt : allP (fun p => ∃ d, P (p.1 ++ "." ++ p.2) = some d ∧ MtOk fs cl K p.1 p.2 d) fs.ms
  pr : allP (fun p => ∃ d, P (p.1 ++ "." ++ p.2) = some d ∧ PrOk fs cl K p.1 p.2 d) fs.pr
  nw : allP (fun c => ∃ d, P (c ++ ".__init__") = some d ∧ NwOk fs cl K mg c d) fs.nw
theorem defs_ok (pk : Pk fs cl prog K mg) (tie : Tie fs cl K mg P) : ∀ n : Nat, Pf fs cl (callN P fu n) prog w K mg base n := by
  have rest : ∀ (n : Nat), (∀ f d a fd, P f = some d → Bd fs K d a fd → FnOk prog w K mg base (L2N.CX prog w) (2 * n + 1) a fd ((d.names.take d.np).map Str.ofString) (SpN cl (callN P fu n f))) → Pf fs cl (callN P fu n) prog w K mg base n := fun n h =>
    { kk := pk.kk
      call := fun f hf => by
        obtain ⟨d, hd, a, fd, hb, hm, hk, h1, h2⟩ := tie.fn.mem (x := f) (by simpa [Tx.contains] using hf)
        exact ⟨a, fd, _, hm, hk, hb.choose_spec.choose_spec.choose_spec.2.2.1, h1, h2, h f d a fd hd hb⟩
      meth := fun c m hm => by
        obtain ⟨d, hd, D, f, fd, h1, h2, h3, hb⟩ := tie.mt.mem (x := (c, m)) (by simpa using hm)
        exact ⟨D, f, fd, _, h1, h2, hb.choose_spec.choose_spec.choose_spec.2.2.1, h3, h _ d f fd hd hb⟩
      prop := fun c m hm => by
        obtain ⟨d, hd, D, p, f, fd, h1, h2, hb⟩ := tie.pr.mem (x := (c, m)) (by simpa using hm)
        exact ⟨D, p, f, fd, _, h1, h2, hb.choose_spec.choose_spec.choose_spec.2.2.1, h _ d f fd hd hb⟩
      make := fun c hm => by
        obtain ⟨d, hd, D, f, fd, h1, h2, h3, hb⟩ := tie.nw.mem (x := c) (by simpa using hm)
        exact ⟨D, f, fd, _, h1, h2, h3, hb.choose_spec.choose_spec.choose_spec.2.2.1, h _ d f fd hd hb⟩
      cls := fun c hc => pk.cls.mem (x := c) (by simpa using hc)
      isf := pk.isf
      noa := fun f hf => pk.noa.mem (x := f) (by simpa using hf)
      gtup := fun x is hx => pk.gtup.mem (x := (x, is)) (by simpa using hx)
      nob := pk.nob, glob := fun x i hx => pk.glob.mem (x := (x, i)) (by simpa using hx), xf := fun c f hx => pk.xf.mem (x := (c, f)) (by simpa using hx), x0 := fun c hx => pk.x0.mem (by simpa using hx),
      xm := fun c h b hx => pk.xm.mem (x := (c, h, b)) (by simpa using hx),
      hg := fun g hx => by
        obtain ⟨qual, st, a, fd, x, F, hm, S, hb, hn⟩ := pk.hg.mem (x := g) (by simpa using hx)
        exact ⟨a, fd, [x], hm, F.kp, hb, num_ok pk.kk pk.isf pk.nob F S hn⟩ }
  intro n
  induction n with
  | zero =>
    refine rest 0 fun f d a fd hd hb => ⟨fun vs H Q E h => ?_, fun A outer s H args us vs Q E _ _ _ _ h => ?_⟩
    · obtain ⟨_, _, _, _, _, _, _, q⟩ := h; exact q.elim
    · obtain ⟨_, _, _, _, _, _, _, q⟩ := h; exact q.elim
  | succ n ih => exact rest (n + 1) fun f d a fd hd hb => def_step ih hd hb
end

/-! ### the law -/
/-- the law's promise, from the mini law -/
theorem law_sp {cl : Wd} {C : Calls} {ns : List Int} {S' : Sto} {H : Hp} {a : Addr} (hS : SqL cl.K H a (ns.map V.int)) (h : C "law" [.d (.scr ns)] [] = .ok (.d (.bl true)) S') :
    SpN cl (C "law") [.ref a] H (fun v _ => v = .bl true) (fun _ _ _ => False) := by
  refine ⟨fun _ => False, H, fun _ => 0, [], [.d (.scr ns)], ⟨Ex.refl H, fun i c e => by simp at e, fun i d e => by simp at e, fun i ms e => by simp at e, fun i j ⟨c, e, _⟩ => by simp at e, fun a h => h.elim⟩, .cons (.d (.scr hS)) .nil, ?_⟩
  rw [h]
  intro G' al' H' _ _ v rv
  exact rv.bl_inv
theorem walk {l : PySem.W.OpenLaw} {q : Program} {loose : List Str} {XP : (Str → Option Value) → Heap → Prop} {YP : World → Heap → Prop} {d : DefRec} {K : Params → PySem.W.Frag} {x : Str} {C : Calls} {k : Nat} (hk : k ≤ 200) (hn : l.most = some 63) (hdf : d.params.defaults = [])
    (hY : ∀ (w : World) (h : Heap), YP w h → (K w.params).In h) (hC : ∀ ns : List Int, ns.length ≤ 63 → (∀ z ∈ ns, Builtin.Int.intBits z ≤ 1048576) → ∃ S', C "law" [.d (.scr ns)] [] = .ok (.d (.bl true)) S') (cl : Params → Wd) (hcl : ∀ p, (cl p).K = K p)
    (F : ∀ (w : World) (mg : Str → Option Value) (fa : Addr) (h : Heap), (K w.params).In h → h.Ns mainGlobals mg → mg d.name = some (.ref fa) →
      ∃ fd : FuncData, (∀ (s : Shared) (u : Value), BindsTo s fd ⟨[u], []⟩ [(x, u)]) ∧ ∀ base : Heap, (K w.params).In base → base.Ns mainGlobals mg → FnOk l.prog w (K w.params) mg base (L2N.CX l.prog w) k fa fd [x] (SpN (cl w.params) (C "law"))) :
    PySem.W.WalkO q loose XP YP l.row.toRowW d [] (fun f vs => PySem.call f vs) :=
  L2.walk_ofB (n := 63) (k := k) (x := x) (CX := fun w => L2N.CX l.prog w) (sp := fun w => SpN (cl w.params) (C "law")) hn (by decide) hdf
    ((⟨rfl, by decide, by decide⟩ : Room 200 callerA).mono hk) hY F (fun w H a ns hl hb _ hS => let ⟨S', e⟩ := hC ns hl hb; law_sp (by rw [hcl]; exact hS) e) fun w H s e s' z => by
      obtain ⟨_, _, _, _, _, _, _, _, _, _, _, _, q⟩ := z
      exact q
end Mi
namespace Mi
open PySem L2 PyProof.Rows
/-- a name of the module that is a class -/
def clOf (K : PySem.W.Frag) (c : String) : Option Addr := match PySem.W.nsIn K mainGlobals (Str.ofString c) with
  | some (some (.ref a)) => some a
  | _ => none
theorem clOf_of {K : PySem.W.Frag} {c : String} {a : Addr} (h : PySem.W.nsIn K mainGlobals (Str.ofString c) = some (some (.ref a))) : clOf K c = some a := by unfold clOf; rw [h]
/-- the world of a text: its classes cs -/
def wdOf (cs : List String) (K : PySem.W.Frag) : Wd := ⟨K, fun c => if cs.contains c then clOf K c else none, clOf K, fun _ => False⟩
theorem wd_cl {cs : List String} {K : PySem.W.Frag} {c : String} {a : Addr} (hc : cs.contains c = true) (h : PySem.W.nsIn K mainGlobals (Str.ofString c) = some (some (.ref a))) : (wdOf cs K).cl c = some a := by
  show (if cs.contains c then clOf K c else none) = some a
  rw [if_pos hc]; exact clOf_of h
theorem wd_inv {cs : List String} {K : PySem.W.Frag} {c : String} {a : Addr} (h : (wdOf cs K).cl c = some a) : c ∈ cs ∧ clOf K c = some a := by
  have h : (if cs.contains c then clOf K c else none) = some a := h
  split at h
  · rename_i hc; exact ⟨by simpa using hc, h⟩
  · cases h
theorem fn_mk {K : PySem.W.Frag} {x qual : Str} {st : Stmt} {f : Addr} {oc : Value} {od : Option Addr} {dV kV doc pm : Value} {an : Option Addr} {cdv ct : Value} {osl : Array (Option Value)}
    (l : K.lookup f = some ⟨oc, od, .func (PySem.W.fnOf x qual (defArgs st) (defBody st) (defScope st) dV kV doc pm an cdv ct), osl⟩) (c : PySem.W.codeIn K cdv qual = true) (k : PySem.W.keepIn K (.ref f) = true) :
    Fn K x qual st f (PySem.W.fnOf x qual (defArgs st) (defBody st) (defScope st) dV kV doc pm an cdv ct) :=
  ⟨⟨oc, od, dV, kV, doc, pm, an, cdv, ct, osl, rfl, l, c⟩, k⟩
theorem binds_nil {K : PySem.W.Frag} {fd : FuncData} {ps : List Str} (h : ∀ (s : Shared) (us : List Value), K.In s.heap → us.length = ps.length → BindsTo s fd ⟨us, []⟩ (ps.zip us)) : Binds K fd ps [] := fun s us X hl => by
  rw [List.append_nil] at hl ⊢
  exact h s us X hl
theorem binds_one {K : PySem.W.Frag} {fd : FuncData} {ps : List Str} {d : Value} (h : ∀ (s : Shared) (us : List Value), K.In s.heap → us.length + 1 = ps.length → BindsTo s fd ⟨us, []⟩ (ps.zip (us ++ [d]))) : Binds K fd ps [d] := fun s us X hl => h s us X (by simpa using hl)
/-- an error of the class A meets the clause of the class B -/
theorem exm_of {K : PySem.W.Frag} {A B : Addr} {b : Bool} (h1 : PySem.W.subIn K (.ref B) (.type "BaseException") = some true) (h2 : PySem.W.isClsIn K B = true) (h3 : PySem.W.typeIn K (.ref B) = some (.type "type")) (h4 : PySem.W.subIn K (.ref A) (.ref B) = some b) :
    PySem.W.exmOne K (.ref A) (.ref B) = some b := by
  have e1 : (PySem.W.subIn K (.ref B) (.type "BaseException") == some true) = true := by rw [h1] <;> rfl
  have e2 : ((PySem.W.clsIn K B).isSome && PySem.W.typeIn K (.ref B) == some (.type "type")) = true := by
    have h2' : (PySem.W.clsIn K B).isSome = true := h2
    rw [h2', h3] <;> rfl
  show (if (PySem.W.subIn K (.ref B) (.type "BaseException") == some true) = true then (if ((PySem.W.clsIn K B).isSome && PySem.W.typeIn K (.ref B) == some (.type "type")) = true then PySem.W.subIn K (.ref A) (.ref B) else none) else none) = some b
  rw [if_pos e1, if_pos e2]
  exact h4
/-- the j-th statement of a class -/
def methS (j : Nat) : Stmt → Stmt
  | .ClassDef _ _ _ body _ _ _ _ _ _ _ => body.getD j (.Pass ⟨0, 0, 0, 0⟩)
  | s => s
/-- the defs by name -/
def Prog (l : List (String × Df)) : String → Option Df := fun f => l.lookup f
theorem isF_none {cl : Wd} (h : ∀ c, cl.cl c = none) : IsF cl where
  all := fun c C e => by rw [h] at e; exact nomatch e
  bi := fun c C e => by rw [h] at e; exact nomatch e
  ib := fun c C e => by rw [h] at e; exact nomatch e
  cc := fun c C d D e => by rw [h] at e; exact nomatch e
end Mi
namespace Mi
open PySem L2 PyProof.Rows
def Fu : Nat := 10 ^ 1000
def LV : Nat := 12
def d_divisor_b0 : Sms := (.cons (.par 0 1 (.var 1) (.bin .mod (.var 0) (.var 1)))
    .nil)
def d_divisor : Df := ⟨["one", "other"], 2, (.cons (.par 0 1 (.blt false .abs (.cons (.var 0) .nil)) (.blt false .abs (.cons (.var 1) .nil)))
    (.cons (.while_ (.cmp .ne (.var 1) (.int 0)) d_divisor_b0)
    (.cons (.ret (.var 0))
    .nil)))⟩
def d_ratio : Df := ⟨["top", "bottom", "part"], 2, (.cons (.ifs (.cmp .eq (.var 1) (.int 0)) (.cons (.raise_ "BadRatio" (.var 1) "bottom")
    .nil) .nil)
    (.cons (.asg (.nm 2) (.call (.bor []) "divisor" (.cons (.var 0) (.cons (.var 1) .nil))))
    (.cons (.ifs (.cmp .lt (.var 1) (.int 0)) (.cons (.asg (.nm 2) (.neg (.var 2)))
    .nil) .nil)
    (.cons (.ret (.tup (.cons (.bin .fdiv (.var 0) (.var 2)) (.cons (.bin .fdiv (.var 1) (.var 2)) .nil))))
    .nil))))⟩
def d_plus : Df := ⟨["one", "other"], 2, (.cons (.ret (.call (.bor []) "ratio" (.cons (.bin .add (.bin .mul (.ix (.var 0) (.int 0)) (.ix (.var 1) (.int 1))) (.bin .mul (.ix (.var 1) (.int 0)) (.ix (.var 0) (.int 1)))) (.cons (.bin .mul (.ix (.var 0) (.int 1)) (.ix (.var 1) (.int 1))) .nil))))
    .nil)⟩
def d_minus : Df := ⟨["one", "other"], 2, (.cons (.ret (.call (.bor []) "ratio" (.cons (.bin .sub (.bin .mul (.ix (.var 0) (.int 0)) (.ix (.var 1) (.int 1))) (.bin .mul (.ix (.var 1) (.int 0)) (.ix (.var 0) (.int 1)))) (.cons (.bin .mul (.ix (.var 0) (.int 1)) (.ix (.var 1) (.int 1))) .nil))))
    .nil)⟩
def d_times : Df := ⟨["one", "other"], 2, (.cons (.ret (.call (.bor []) "ratio" (.cons (.bin .mul (.ix (.var 0) (.int 0)) (.ix (.var 1) (.int 0))) (.cons (.bin .mul (.ix (.var 0) (.int 1)) (.ix (.var 1) (.int 1))) .nil))))
    .nil)⟩
def d_over : Df := ⟨["one", "other"], 2, (.cons (.ifs (.cmp .eq (.ix (.var 1) (.int 0)) (.int 0)) (.cons (.raise_ "BadRatio" (.int 0) "bottom")
    .nil) .nil)
    (.cons (.ret (.call (.bor []) "ratio" (.cons (.bin .mul (.ix (.var 0) (.int 0)) (.ix (.var 1) (.int 1))) (.cons (.bin .mul (.ix (.var 0) (.int 1)) (.ix (.var 1) (.int 0))) .nil))))
    .nil))⟩
def d_compare : Df := ⟨["one", "other", "left", "right"], 2, (.cons (.par 2 3 (.bin .mul (.ix (.var 0) (.int 0)) (.ix (.var 1) (.int 1))) (.bin .mul (.ix (.var 1) (.int 0)) (.ix (.var 0) (.int 1))))
    (.cons (.ret (.bin .sub (.blt false .int (.cons (.cmp .gt (.var 2) (.var 3)) .nil)) (.blt false .int (.cons (.cmp .lt (.var 2) (.var 3)) .nil))))
    .nil))⟩
def d_common_b0 : Sms := (.cons (.asg (.nm 1) (.bin .mul (.bin .fdiv (.var 1) (.call (.bor []) "divisor" (.cons (.var 1) (.cons (.var 3) .nil)))) (.var 3)))
    .nil)
def d_common : Df := ⟨["ratios", "unit", "top", "bottom"], 1, (.cons (.asg (.nm 1) (.int 1))
    (.cons (.for_ (.tp [2, 3]) (.seq (.var 0)) d_common_b0)
    (.cons (.ret (.tup (.cons (.var 1) (.cons (.lc false (.bin .mul (.var 2) (.bin .fdiv (.var 1) (.var 3))) (.tp [2, 3]) (.seq (.var 0)) .no [("top", 2), ("bottom", 3)]) .nil))))
    .nil)))⟩
def d_total : Df := ⟨["ratios", "unit", "tops"], 1, (.cons (.asg (.tp [1, 2]) (.call (.bor []) "common" (.cons (.var 0) .nil)))
    (.cons (.ret (.call (.bor []) "ratio" (.cons (.blt false .sum (.cons (.var 2) .nil)) (.cons (.var 1) .nil))))
    .nil))⟩
def l_pool : Df := ⟨["_law_script"], 1, (.cons (.ret (.lst true (.cons (.int 0) (.cons (.int 0) (.cons (.blt false .list (.cons (.var 0) .nil)) .nil)))))
    .nil)⟩
def l_take : Df := ⟨["_law_pool_here", "_law_many", "_law_at", "_law_cell", "_law_mixed", "_law_digit"], 2, (.cons (.ifs (.cmp .eq (.ix (.var 0) (.int 1)) (.int 0)) (.cons (.asg (.nm 2) (.ix (.var 0) (.int 0)))
    (.cons (.setix (.var 0) (.int 0) (.bin .add (.var 2) (.int 1)))
    (.cons (.asg (.nm 3) (.ix (.bin .add (.ix (.var 0) (.int 2)) (.lst false (.cons (.int 0) .nil))) (.bin .mod (.blt false .int (.cons (.var 2) .nil)) (.blt false .max (.cons (.int 1) (.cons (.blt false .len (.cons (.ix (.var 0) (.int 2)) .nil)) .nil))))))
    (.cons (.asg (.nm 4) (.bin .mod (.bin .pow (.bin .add (.bin .add (.bin .mod (.blt false .int (.cons (.var 3) .nil)) (.int 2147483647)) (.bin .mul (.int 7919) (.var 2))) (.int 13)) (.int 5)) (.int 2147483647)))
    (.cons (.asg (.nm 4) (.bin .mod (.bin .pow (.bin .add (.bin .add (.var 4) (.bin .mul (.int 104729) (.var 2))) (.int 29)) (.int 3)) (.int 2147483629)))
    (.cons (.ifs (.cmp .lt (.var 3) (.bin .pow (.int 10) (.int 18))) (.cons (.ret (.bin .mod (.bin .fdiv (.var 4) (.int 11)) (.var 1)))
    .nil) .nil)
    (.cons (.setix (.var 0) (.int 1) (.var 3))
    .nil))))))) .nil)
    (.cons (.asg (.nm 5) (.bin .mod (.blt false .int (.cons (.ix (.var 0) (.int 1)) .nil)) (.var 1)))
    (.cons (.setix (.var 0) (.int 1) (.bin .fdiv (.ix (.var 0) (.int 1)) (.var 1)))
    (.cons (.ret (.var 5))
    .nil))))⟩
def l_is_number : Df := ⟨["_law_thing"], 1, (.cons (.ret (.and_ (.isi (.var 0) "int") (.one (.not_ (.isi (.var 0) "bool")))))
    .nil)⟩
def l_divisor_b0 : Sms := (.cons (.par 3 4 (.var 4) (.bin .mod (.blt false .int (.cons (.var 3) .nil)) (.var 4)))
    .nil)
def l_divisor_b1 : Sms := (.cons (.asg (.nm 3) (.blt false .abs (.cons (.var 2) .nil)))
    (.cons (.asg (.nm 4) (.var 1))
    (.cons (.while_ (.cmp .ne (.var 4) (.int 0)) l_divisor_b0)
    (.cons (.asg (.nm 1) (.var 3))
    .nil))))
def l_divisor : Df := ⟨["_law_numbers", "_law_found", "_law_number", "_law_one", "_law_other"], 1, (.cons (.asg (.nm 1) (.int 0))
    (.cons (.for_ (.nm 2) (.seq (.var 0)) l_divisor_b1)
    (.cons (.ret (.var 1))
    .nil)))⟩
def l_ratio : Df := ⟨["_law_up", "_law_down", "_law_part"], 2, (.cons (.asg (.nm 2) (.call (.bor []) "_law_divisor" (.cons (.lst false (.cons (.var 0) (.cons (.var 1) .nil))) .nil)))
    (.cons (.ifs (.cmp .lt (.var 1) (.int 0)) (.cons (.asg (.nm 2) (.neg (.var 2)))
    .nil) .nil)
    (.cons (.ret (.tup (.cons (.bin .fdiv (.var 0) (.var 2)) (.cons (.bin .fdiv (.var 1) (.var 2)) .nil))))
    .nil)))⟩
def l_integer : Df := ⟨["_law_pool_here", "_law_size"], 1, (.cons (.asg (.nm 1) (.ix (.lst false (.cons (.int 3) (.cons (.int 12) (.cons (.int 1000) (.cons (.bin .pow (.int 10) (.int 29)) .nil))))) (.call (.bor [true]) "_law_take" (.cons (.var 0) (.cons (.int 4) .nil)))))
    (.cons (.ret (.bin .sub (.call (.bor [true]) "_law_take" (.cons (.var 0) (.cons (.bin .add (.bin .mul (.int 2) (.var 1)) (.int 1)) .nil))) (.var 1)))
    .nil))⟩
def l_refused : Df := ⟨["_law_up", "e"], 1, (.cons (.try_ (.cons (.expr (.call (.bor []) "ratio" (.cons (.var 0) (.cons (.int 0) .nil))))
    .nil) [⟨"BadRatio", some 1, ["BadRatio"], [], (.num "_law_is_number" "bottom" 0)⟩])
    (.cons (.ret (.bl false))
    .nil))⟩
def l_over : Df := ⟨["_law_one", "_law_other", "e"], 2, (.cons (.try_ (.cons (.ret (.call (.bor []) "over" (.cons (.var 0) (.cons (.var 1) .nil))))
    .nil) [⟨"BadRatio", some 2, ["BadRatio"], [], (.a (.fl "bottom"))⟩])
    .nil)⟩
def l_in_terms : Df := ⟨["_law_one", "_law_up", "_law_down"], 3, (.cons (.ifs (.or_ (.not_ (.isi (.var 0) "tuple")) (.or_ (.cmp .ne (.blt false .len (.cons (.var 0) .nil)) (.int 2)) (.or_ (.not_ (.call (.bor []) "_law_is_number" (.cons (.ix (.var 0) (.int 0)) .nil))) (.one (.not_ (.call (.bor []) "_law_is_number" (.cons (.ix (.var 0) (.int 1)) .nil))))))) (.cons (.ret (.bl false))
    .nil) .nil)
    (.cons (.ret (.cmp .eq (.var 0) (.call (.bor []) "_law_ratio" (.cons (.var 1) (.cons (.var 2) .nil)))))
    .nil))⟩
def l_two_right : Df := ⟨["_law_one", "_law_other", "_law_across", "_law_back", "_law_down", "_law_told"], 2, (.cons (.asg (.nm 2) (.bin .mul (.ix (.var 0) (.int 0)) (.ix (.var 1) (.int 1))))
    (.cons (.asg (.nm 3) (.bin .mul (.ix (.var 1) (.int 0)) (.ix (.var 0) (.int 1))))
    (.cons (.asg (.nm 4) (.bin .mul (.ix (.var 0) (.int 1)) (.ix (.var 1) (.int 1))))
    (.cons (.ifs (.not_ (.call (.bor []) "_law_in_terms" (.cons (.call (.bor []) "plus" (.cons (.var 0) (.cons (.var 1) .nil))) (.cons (.bin .add (.var 2) (.var 3)) (.cons (.var 4) .nil))))) (.cons (.ret (.bl false))
    .nil) .nil)
    (.cons (.ifs (.not_ (.call (.bor []) "_law_in_terms" (.cons (.call (.bor []) "minus" (.cons (.var 0) (.cons (.var 1) .nil))) (.cons (.bin .sub (.var 2) (.var 3)) (.cons (.var 4) .nil))))) (.cons (.ret (.bl false))
    .nil) .nil)
    (.cons (.ifs (.not_ (.call (.bor []) "_law_in_terms" (.cons (.call (.bor []) "times" (.cons (.var 0) (.cons (.var 1) .nil))) (.cons (.bin .mul (.ix (.var 0) (.int 0)) (.ix (.var 1) (.int 0))) (.cons (.var 4) .nil))))) (.cons (.ret (.bl false))
    .nil) .nil)
    (.cons (.ifs (.and_ (.cmp .eq (.ix (.var 1) (.int 0)) (.int 0)) (.one (.cmp .ne (.call (.bor []) "_law_over" (.cons (.var 0) (.cons (.var 1) .nil))) (.int 0)))) (.cons (.ret (.bl false))
    .nil) .nil)
    (.cons (.ifs (.and_ (.cmp .ne (.ix (.var 1) (.int 0)) (.int 0)) (.one (.not_ (.call (.bor []) "_law_in_terms" (.cons (.call (.bor []) "over" (.cons (.var 0) (.cons (.var 1) .nil))) (.cons (.var 2) (.cons (.var 3) .nil))))))) (.cons (.ret (.bl false))
    .nil) .nil)
    (.cons (.asg (.nm 5) (.call (.bor []) "compare" (.cons (.var 0) (.cons (.var 1) .nil))))
    (.cons (.ret (.and_ (.call (.bor []) "_law_is_number" (.cons (.var 5) .nil)) (.one (.cmp .eq (.var 5) (.bin .sub (.blt false .int (.cons (.cmp .gt (.var 2) (.var 3)) .nil)) (.blt false .int (.cons (.cmp .lt (.var 2) (.var 3)) .nil)))))))
    .nil))))))))))⟩
def d_law_b0 : Sms := (.cons (.ifs (.not_ (.call (.bor []) "_law_two_right" (.cons (.var 7) (.cons (.var 9) .nil)))) (.cons (.ret (.bl false))
    .nil) .nil)
    .nil)
def d_law_b1 : Sms := (.cons (.for_ (.nm 9) (.seq (.bin .add (.var 2) (.lst false (.cons (.tup (.cons (.int 0) (.cons (.int 1) .nil))) .nil)))) d_law_b0)
    .nil)
def d_law_b2 : Sms := (.cons (.asg (.nm 6) (.lst true (.cons (.call (.bor [true]) "_law_integer" (.cons (.var 1) .nil)) (.cons (.call (.bor [true]) "_law_integer" (.cons (.var 1) .nil)) .nil))))
    (.cons (.ifs (.cmp .eq (.ix (.var 6) (.int 1)) (.int 0)) (.cons (.setix (.var 6) (.int 1) (.bin .sub (.neg (.int 1)) (.var 5)))
    .nil) .nil)
    (.cons (.asg (.nm 7) (.call (.bor []) "ratio" (.cons (.ix (.var 6) (.int 0)) (.cons (.ix (.var 6) (.int 1)) .nil))))
    (.cons (.ifs (.or_ (.not_ (.call (.bor []) "_law_in_terms" (.cons (.var 7) (.cons (.ix (.var 6) (.int 0)) (.cons (.ix (.var 6) (.int 1)) .nil))))) (.one (.not_ (.call (.bor []) "_law_in_terms" (.cons (.calld (.bor []) "ratio" (.cons (.ix (.var 6) (.int 0)) .nil) 1) (.cons (.ix (.var 6) (.int 0)) (.cons (.int 1) .nil))))))) (.cons (.ret (.bl false))
    .nil) .nil)
    (.cons (.ifs (.or_ (.cmp .ne (.callsw (.bor []) "ratio" "top" "bottom" (.ix (.var 6) (.int 1)) (.ix (.var 6) (.int 0))) (.var 7)) (.one (.not_ (.call (.bor []) "_law_refused" (.cons (.ix (.var 6) (.int 0)) .nil))))) (.cons (.ret (.bl false))
    .nil) .nil)
    (.cons (.expr (.app (.var 2) (.var 7)))
    (.cons (.asg (.nm 3) (.bin .add (.bin .mul (.var 3) (.ix (.var 6) (.int 1))) (.bin .mul (.var 4) (.ix (.var 6) (.int 0)))))
    (.cons (.asg (.nm 4) (.bin .mul (.var 4) (.ix (.var 6) (.int 1))))
    .nil))))))))
def d_law : Df := ⟨["_law_script", "_law_pool_here", "_law_made", "_law_up", "_law_down", "_law_k", "_law_pair", "_law_one", "_law_given", "_law_other"], 1, (.cons (.asg (.nm 1) (.call (.own []) "_law_pool" (.cons (.var 0) .nil)))
    (.cons (.asg (.nm 2) (.lst true .nil))
    (.cons (.asg (.nm 3) (.int 0))
    (.cons (.asg (.nm 4) (.int 1))
    (.cons (.for_ (.nm 5) (.range1 (.bin .add (.int 1) (.call (.bor [true]) "_law_take" (.cons (.var 1) (.cons (.int 6) .nil))))) d_law_b2)
    (.cons (.asg (.nm 8) (.blt false .list (.cons (.var 2) .nil)))
    (.cons (.for_ (.nm 7) (.seq (.var 2)) d_law_b1)
    (.cons (.ifs (.or_ (.not_ (.call (.bor []) "_law_in_terms" (.cons (.call (.bor []) "total" (.cons (.var 8) .nil)) (.cons (.var 3) (.cons (.var 4) .nil))))) (.one (.cmp .ne (.call (.bor []) "total" (.cons (.blt false .tuple (.cons (.var 2) .nil)) .nil)) (.call (.bor []) "total" (.cons (.var 8) .nil))))) (.cons (.ret (.bl false))
    .nil) .nil)
    (.cons (.ret (.and_ (.cmp .eq (.var 8) (.var 2)) (.one (.cmp .eq (.call (.bor []) "total" (.cons (.lst false .nil) .nil)) (.tup (.cons (.int 0) (.cons (.int 1) .nil)))))))
    .nil)))))))))⟩
def d_is_integer : Df := ⟨["value"], 1, (.cons (.ret (.and_ (.isi (.var 0) "int") (.one (.not_ (.isi (.var 0) "bool")))))
    .nil)⟩
def d_lowest_b0 : Sms := (.cons (.asg (.nm 1) (.call (.bor []) "divisor" (.cons (.var 1) (.cons (.var 2) .nil))))
    .nil)
def d_lowest : Df := ⟨["numbers", "part", "number"], 1, (.cons (.asg (.nm 1) (.int 0))
    (.cons (.for_ (.nm 2) (.seq (.var 0)) d_lowest_b0)
    (.cons (.ret (.ife (.cmp .eq (.var 1) (.int 0)) (.blt false .list (.cons (.var 0) .nil)) (.lc false (.bin .fdiv (.var 2) (.var 1)) (.nm 2) (.seq (.var 0)) .no [("number", 2)])))
    .nil)))⟩
def d_is_number_of : Df := ⟨["value", "count"], 2, (.cons (.ret (.and_ (.call (.bor []) "is_integer" (.cons (.var 0) .nil)) (.one (.chain .le .lt (.int 0) (.var 0) (.var 1)))))
    .nil)⟩
def d_check_unit : Df := ⟨["unit"], 1, (.cons (.ifs (.or_ (.not_ (.call (.bor []) "is_integer" (.cons (.var 0) .nil))) (.one (.cmp .lt (.var 0) (.int 1)))) (.cons (.raise_ "BadUnit" (.var 0) "unit")
    .nil) .nil)
    .nil)⟩
def d_check_rows_b0 : Sms := (.cons (.asg (.nm 4) (.and_ (.cmp .eq (.blt false .len (.cons (.var 3) .nil)) (.blt false .len (.cons (.ix (.var 1) (.int 0)) .nil))) (.one (.blt false .all (.cons (.lc false (.and_ (.call (.bor []) "is_integer" (.cons (.var 5) .nil)) (.one (.cmp .ge (.var 5) (.int 0)))) (.nm 5) (.seq (.var 3)) .no [("item", 5)]) .nil)))))
    (.cons (.ifs (.or_ (.not_ (.var 4)) (.one (.cmp .ne (.blt false .sum (.cons (.var 3) .nil)) (.var 0)))) (.cons (.raise_ "BadRow" (.var 2) "index")
    .nil) .nil)
    .nil))
def d_check_rows : Df := ⟨["unit", "rows", "index", "row", "right", "item"], 2, (.cons (.for_ (.tp [2, 3]) (.enum (.var 1)) d_check_rows_b0)
    .nil)⟩
def d_in_lowest_terms : Df := ⟨["unit", "rows", "width", "base", "items", "row", "item", "start"], 2, (.cons (.asg (.nm 2) (.blt false .len (.cons (.ix (.var 1) (.int 0)) .nil)))
    (.cons (.asg (.st [3] 4) (.call (.bor []) "lowest" (.cons (.lst false (.cons (.var 0) (.star (.lc2 false (.var 6) (.nm 5) (.seq (.var 1)) (.nm 6) (.seq (.var 5)) [("row", 5), ("item", 6)] [6]) .nil))) .nil)))
    (.cons (.ret (.tup (.cons (.var 3) (.cons (.lc false (.sl false (.var 4) (.yes (.var 7)) (.yes (.bin .add (.var 7) (.var 2)))) (.nm 7) (.range3 (.int 0) (.blt false .len (.cons (.var 4) .nil)) (.var 2)) .no [("start", 7)]) .nil))))
    .nil)))⟩
def d_Experiment__init : Df := ⟨["self", "unit", "rows"], 3, (.cons (.expr (.call (.bor []) "check_unit" (.cons (.var 1) .nil)))
    (.cons (.ifs (.not_ (.chain .le .le (.int 1) (.blt false .len (.cons (.var 2) .nil)) (.glob "MOST_STATES" 4))) (.cons (.raise_ "BadSize" (.blt false .len (.cons (.var 2) .nil)) "size")
    .nil) .nil)
    (.cons (.expr (.call (.bor []) "check_rows" (.cons (.var 1) (.cons (.var 2) .nil))))
    (.cons (.fld2 (.var 0) "unit" (.var 0) "grid" (.call (.bor []) "in_lowest_terms" (.cons (.var 1) (.cons (.var 2) .nil))))
    (.cons (.fld (.var 0) "states" (.blt false .len (.cons (.var 2) .nil)))
    (.cons (.fld (.var 0) "signals" (.blt false .len (.cons (.ix (.var 2) (.int 0)) .nil)))
    .nil))))))⟩
def d_Experiment_rows : Df := ⟨["self", "row"], 1, (.cons (.ret (.lc false (.blt false .list (.cons (.var 1) .nil)) (.nm 1) (.seq (.attr (.var 0) "grid")) .no [("row", 1)]))
    .nil)⟩
def d_Experiment__len : Df := ⟨["self"], 1, (.cons (.ret (.blt false .len (.cons (.ix (.attr (.var 0) "grid") (.int 0)) .nil)))
    .nil)⟩
def d_Experiment__getitem : Df := ⟨["self", "at", "state", "signal"], 2, (.cons (.asg (.tp [2, 3]) (.var 1))
    (.cons (.ifs (.not_ (.call (.bor []) "is_number_of" (.cons (.var 2) (.cons (.blt false .len (.cons (.attr (.var 0) "grid") .nil)) .nil)))) (.cons (.raise_ "NoState" (.var 2) "state")
    .nil) .nil)
    (.cons (.ifs (.not_ (.call (.bor []) "is_number_of" (.cons (.var 3) (.cons (.blt false .len (.cons (.ix (.attr (.var 0) "grid") (.int 0)) .nil)) .nil)))) (.cons (.raise_ "NoSignal" (.var 3) "signal")
    .nil) .nil)
    (.cons (.ret (.call (.bor []) "ratio" (.cons (.ix (.ix (.attr (.var 0) "grid") (.var 2)) (.var 3)) (.cons (.attr (.var 0) "unit") .nil))))
    .nil))))⟩
def d_Experiment__eq : Df := ⟨["self", "other"], 2, (.cons (.ret (.and_ (.isc (.var 1) "Experiment") (.and_ (.cmp .eq (.attr (.var 0) "unit") (.attr (.var 1) "unit")) (.one (.cmp .eq (.attr (.var 0) "grid") (.attr (.var 1) "grid"))))))
    .nil)⟩
def d_check_states : Df := ⟨["states"], 1, (.cons (.ifs (.or_ (.not_ (.call (.bor []) "is_integer" (.cons (.var 0) .nil))) (.one (.not_ (.chain .le .le (.int 1) (.var 0) (.glob "MOST_STATES" 4))))) (.cons (.raise_ "BadSize" (.var 0) "size")
    .nil) .nil)
    .nil)⟩
def d_uninformative : Df := ⟨["states", "state"], 1, (.cons (.expr (.call (.bor []) "check_states" (.cons (.var 0) .nil)))
    (.cons (.ret (.new (.bor []) "Experiment" (.cons (.int 1) (.cons (.lc false (.lst false (.cons (.int 1) .nil)) (.nm 1) (.range1 (.var 0)) .no [("state", 1)]) .nil))))
    .nil))⟩
def d_revealing : Df := ⟨["states", "state", "signal"], 1, (.cons (.expr (.call (.bor []) "check_states" (.cons (.var 0) .nil)))
    (.cons (.ret (.new (.bor []) "Experiment" (.cons (.int 1) (.cons (.lc false (.lc false (.blt false .int (.cons (.cmp .eq (.var 2) (.var 1)) .nil)) (.nm 2) (.range1 (.var 0)) .no [("signal", 2)]) (.nm 1) (.range1 (.var 0)) .no [("state", 1)]) .nil))))
    .nil))⟩
def d_two_signals_b0 : Sms := (.cons (.ifs (.or_ (.not_ (.call (.bor []) "is_integer" (.cons (.var 3) .nil))) (.one (.not_ (.chain .le .le (.int 0) (.var 3) (.var 0))))) (.cons (.raise_ "BadRow" (.var 2) "index")
    .nil) .nil)
    .nil)
def d_two_signals : Df := ⟨["unit", "hits", "index", "hit"], 2, (.cons (.expr (.call (.bor []) "check_unit" (.cons (.var 0) .nil)))
    (.cons (.ifs (.not_ (.chain .le .le (.int 1) (.blt false .len (.cons (.var 1) .nil)) (.glob "MOST_STATES" 4))) (.cons (.raise_ "BadSize" (.blt false .len (.cons (.var 1) .nil)) "size")
    .nil) .nil)
    (.cons (.for_ (.tp [2, 3]) (.enum (.var 1)) d_two_signals_b0)
    (.cons (.ret (.new (.bor []) "Experiment" (.cons (.var 0) (.cons (.lc false (.lst false (.cons (.var 3) (.cons (.bin .sub (.var 0) (.var 3)) .nil))) (.nm 3) (.seq (.var 1)) .no [("hit", 3)]) .nil))))
    .nil))))⟩
def l_lowest_b0 : Sms := (.cons (.asg (.nm 2) (.bin .add (.var 2) (.var 3)))
    .nil)
def l_lowest : Df := ⟨["_law_unit", "_law_rows", "_law_numbers", "_law_row", "_law_part", "_law_item"], 2, (.cons (.asg (.nm 2) (.lst false (.cons (.var 0) .nil)))
    (.cons (.for_ (.nm 3) (.seq (.var 1)) l_lowest_b0)
    (.cons (.asg (.nm 4) (.call (.bor []) "_law_divisor" (.cons (.var 2) .nil)))
    (.cons (.ret (.lst false (.cons (.bin .fdiv (.var 0) (.var 4)) (.cons (.lc false (.lc false (.bin .fdiv (.var 5) (.var 4)) (.nm 5) (.seq (.var 3)) .no [("_law_item", 5)]) (.nm 3) (.seq (.var 1)) .no [("_law_row", 3)]) .nil))))
    .nil))))⟩
def l_of : Df := ⟨["_law_thing"], 1, (.cons (.ret (.lst false (.cons (.attr (.var 0) "unit") (.cons (.meth (.bor []) ["Experiment"] (.var 0) "rows" .nil) .nil))))
    .nil)⟩
def l_made : Df := ⟨["_law_kind", "_law_states", "_law_unit", "_law_hits", "error"], 4, (.cons (.try_ (.cons (.ifs (.cmp .eq (.var 0) (.int 0)) (.cons (.ret (.call (.bor []) "_law_of" (.cons (.call (.bor []) "uninformative" (.cons (.var 1) .nil)) .nil)))
    .nil) .nil)
    (.cons (.ifs (.cmp .eq (.var 0) (.int 1)) (.cons (.ret (.call (.bor []) "_law_of" (.cons (.call (.bor []) "revealing" (.cons (.var 1) .nil)) .nil)))
    .nil) .nil)
    (.cons (.ret (.call (.bor []) "_law_of" (.cons (.call (.bor []) "two_signals" (.cons (.var 2) (.cons (.var 3) .nil))) .nil)))
    .nil))) [⟨"BadUnit", some 4, ["BadUnit"], ["BadRatio", "BadRow", "BadSize", "NoSignal", "NoState"], (.lst [(.str "unit"), (.fl "unit")])⟩, ⟨"BadSize", some 4, ["BadSize"], ["BadRatio", "BadRow", "BadUnit", "NoSignal", "NoState"], (.lst [(.str "size"), (.fl "size")])⟩, ⟨"BadRow", some 4, ["BadRow"], ["BadRatio", "BadSize", "BadUnit", "NoSignal", "NoState"], (.lst [(.str "row"), (.fl "index")])⟩])
    .nil)⟩
def d_law_2_b0 : Sms := (.cons (.asg (.nm 8) (.call (.bor []) "_law_due" (.cons (.var 7) (.cons (.var 3) (.cons (.var 4) (.cons (.var 5) .nil))))))
    (.cons (.ifs (.or_ (.cmp .ne (.call (.bor []) "_law_made" (.cons (.var 7) (.cons (.var 3) (.cons (.var 4) (.cons (.var 5) .nil))))) (.var 8)) (.one (.cmp .ne (.call (.bor []) "_law_made" (.cons (.var 7) (.cons (.var 3) (.cons (.var 4) (.cons (.blt false .tuple (.cons (.var 5) .nil)) .nil))))) (.var 8)))) (.cons (.ret (.bl false))
    .nil) .nil)
    .nil))
def d_law_2 : Df := ⟨["_law_script", "_law_pool_here", "_law_wild", "_law_states", "_law_unit", "_law_hits", "_law_kept", "_law_kind", "_law_due_here", "_law_k"], 1, (.cons (.asg (.nm 1) (.call (.own []) "_law_pool" (.cons (.var 0) .nil)))
    (.cons (.asg (.nm 2) (.cmp .eq (.call (.bor [true]) "_law_take" (.cons (.var 1) (.cons (.int 4) .nil))) (.int 0)))
    (.cons (.asg (.nm 3) (.bin .sub (.call (.bor [true]) "_law_take" (.cons (.var 1) (.cons (.int 8) .nil))) (.int 1)))
    (.cons (.asg (.nm 4) (.bin .add (.int 1) (.call (.bor [true]) "_law_take" (.cons (.var 1) (.cons (.int 1000) .nil)))))
    (.cons (.asg (.nm 5) (.lc true (.call (.bor [true]) "_law_take" (.cons (.var 1) (.cons (.bin .add (.var 4) (.int 1)) .nil))) (.nm 9) (.range1 (.bin .add (.int 1) (.call (.bor [true]) "_law_take" (.cons (.var 1) (.cons (.int 4) .nil))))) .no [("_law_k", 9)]))
    (.cons (.ifs (.var 2) (.cons (.asg (.nm 4) (.ix (.lst false (.cons (.int 0) (.cons (.neg (.int 1)) (.cons (.bl true) (.cons .non (.cons (.var 4) .nil)))))) (.call (.bor [true]) "_law_take" (.cons (.var 1) (.cons (.int 5) .nil)))))
    (.cons (.asg (.nm 3) (.ix (.lst false (.cons (.bl true) (.cons .non (.cons (.var 3) .nil)))) (.call (.bor [true]) "_law_take" (.cons (.var 1) (.cons (.int 3) .nil)))))
    (.cons (.asg (.nm 5) (.lc true (.bin .sub (.call (.bor [true]) "_law_take" (.cons (.var 1) (.cons (.int 12) .nil))) (.int 3)) (.nm 9) (.range1 (.call (.bor [true]) "_law_take" (.cons (.var 1) (.cons (.int 6) .nil)))) .no [("_law_k", 9)]))
    (.cons (.ifs (.and_ (.cmp .ne (.var 5) (.lst false .nil)) (.one (.cmp .eq (.call (.bor [true]) "_law_take" (.cons (.var 1) (.cons (.int 4) .nil))) (.int 0)))) (.cons (.setix (.var 5) (.call (.bor [true]) "_law_take" (.cons (.var 1) (.cons (.blt false .len (.cons (.var 5) .nil)) .nil))) (.ix (.lst false (.cons (.bl true) (.cons .non (.cons (.str "1") .nil)))) (.call (.bor [true]) "_law_take" (.cons (.var 1) (.cons (.int 3) .nil)))))
    .nil) .nil)
    .nil)))) .nil)
    (.cons (.asg (.nm 6) (.blt false .list (.cons (.var 5) .nil)))
    (.cons (.for_ (.nm 7) (.seq (.lst false (.cons (.int 0) (.cons (.int 1) (.cons (.int 2) (.cons (.int 1) (.cons (.int 0) .nil))))))) d_law_2_b0)
    (.cons (.ifs (.or_ (.opm (.bor []) ["Experiment"] "__eq__" (.call (.bor []) "uninformative" (.cons (.int 1) .nil)) (.call (.bor []) "uninformative" (.cons (.int 2) .nil))) (.one (.opm (.bor []) ["Experiment"] "__eq__" (.call (.bor []) "uninformative" (.cons (.int 2) .nil)) (.call (.bor []) "revealing" (.cons (.int 2) .nil))))) (.cons (.ret (.bl false))
    .nil) .nil)
    (.cons (.ifs (.not_ (.opm (.bor []) ["Experiment"] "__eq__" (.call (.bor []) "revealing" (.cons (.int 1) .nil)) (.call (.bor []) "uninformative" (.cons (.int 1) .nil)))) (.cons (.ret (.bl false))
    .nil) .nil)
    (.cons (.ret (.cmp .eq (.var 5) (.var 6)))
    .nil)))))))))))⟩
def d_check_same_states : Df := ⟨["experiments", "e"], 1, (.cons (.ifs (.blt false .any (.cons (.lc false (.cmp .ne (.attr (.var 1) "states") (.attr (.ix (.var 0) (.int 0)) "states")) (.nm 1) (.seq (.var 0)) .no [("e", 1)]) .nil)) (.cons (.raise0 "Mismatch")
    .nil) .nil)
    .nil)⟩
def d_check_count : Df := ⟨["count"], 1, (.cons (.ifs (.cmp .gt (.var 0) (.glob "MOST_SIGNALS" 64)) (.cons (.raise_ "TooMany" (.var 0) "count")
    .nil) .nil)
    .nil)⟩
def d_pairs : Df := ⟨["one", "other", "left", "right"], 2, (.cons (.ret (.lc2 false (.bin .mul (.var 2) (.var 3)) (.nm 2) (.seq (.var 0)) (.nm 3) (.seq (.var 1)) [("left", 2), ("right", 3)] [3]))
    .nil)⟩
def d_both : Df := ⟨["one", "other", "left", "right"], 2, (.cons (.expr (.call (.bor []) "check_same_states" (.cons (.lst false (.cons (.var 0) (.cons (.var 1) .nil))) .nil)))
    (.cons (.expr (.call (.bor []) "check_count" (.cons (.bin .mul (.attr (.var 0) "signals") (.attr (.var 1) "signals")) .nil)))
    (.cons (.ret (.new (.bor []) "Experiment" (.cons (.bin .mul (.attr (.var 0) "unit") (.attr (.var 1) "unit")) (.cons (.lc false (.call (.bor []) "pairs" (.cons (.var 2) (.cons (.var 3) .nil))) (.tp [2, 3]) (.zip (.meth (.bor []) ["Experiment"] (.var 0) "rows" .nil) (.meth (.bor []) ["Experiment"] (.var 1) "rows" .nil)) .no [("left", 2), ("right", 3)]) .nil))))
    .nil)))⟩
def d_again_b0 : Sms := (.cons (.asg (.nm 4) (.call (.bor []) "both" (.cons (.var 4) (.cons (.var 0) .nil))))
    .nil)
def d_again_b1 : Sms := (.cons (.aug 2 .mul (.attr (.var 0) "signals"))
    .nil)
def d_again : Df := ⟨["e", "times", "count", "done", "found"], 2, (.cons (.ifs (.or_ (.not_ (.call (.bor []) "is_integer" (.cons (.var 1) .nil))) (.one (.not_ (.chain .le .le (.int 0) (.var 1) (.glob "MOST_TIMES" 6))))) (.cons (.raise_ "BadTimes" (.var 1) "times")
    .nil) .nil)
    (.cons (.asg (.nm 2) (.int 1))
    (.cons (.for_ (.nm 3) (.range1 (.var 1)) d_again_b1)
    (.cons (.expr (.call (.bor []) "check_count" (.cons (.var 2) .nil)))
    (.cons (.asg (.nm 4) (.call (.bor []) "uninformative" (.cons (.attr (.var 0) "states") .nil)))
    (.cons (.for_ (.nm 3) (.range1 (.var 1)) d_again_b0)
    (.cons (.ret (.var 4))
    .nil)))))))⟩
def l_row_b0 : Sms := (.cons (.asg (.nm 6) (.call (.bor [true]) "_law_take" (.cons (.var 0) (.cons (.bin .add (.var 4) (.int 1)) .nil))))
    (.cons (.expr (.app (.var 3) (.var 6)))
    (.cons (.asg (.nm 4) (.bin .sub (.var 4) (.var 6)))
    .nil)))
def l_row : Df := ⟨["_law_pool_here", "_law_unit", "_law_many", "_law_row_here", "_law_rest", "_law_k", "_law_part", "_law_start"], 3, (.cons (.asg (.nm 3) (.lst true .nil))
    (.cons (.asg (.nm 4) (.var 1))
    (.cons (.for_ (.nm 5) (.range1 (.bin .sub (.var 2) (.int 1))) l_row_b0)
    (.cons (.expr (.app (.var 3) (.var 4)))
    (.cons (.asg (.nm 7) (.call (.bor [true]) "_law_take" (.cons (.var 0) (.cons (.var 2) .nil))))
    (.cons (.ret (.bin .add (.sl false (.var 3) (.yes (.var 7)) .no) (.sl false (.var 3) .no (.yes (.var 7)))))
    .nil))))))⟩
def l_rows : Df := ⟨["_law_pool_here", "_law_lines", "_law_many", "_law_unit", "_law_k"], 4, (.cons (.ret (.lc false (.call (.bor [true]) "_law_row" (.cons (.var 0) (.cons (.var 3) (.cons (.var 2) .nil)))) (.nm 4) (.range1 (.var 1)) .no [("_law_k", 4)]))
    .nil)⟩
def l_table : Df := ⟨["_law_pool_here", "_law_lines", "_law_most", "_law_unit_most", "_law_unit"], 4, (.cons (.asg (.nm 4) (.bin .add (.int 1) (.call (.bor [true]) "_law_take" (.cons (.var 0) (.cons (.var 3) .nil)))))
    (.cons (.ret (.lst false (.cons (.var 4) (.cons (.call (.bor [true]) "_law_rows" (.cons (.var 0) (.cons (.var 1) (.cons (.bin .add (.int 1) (.call (.bor [true]) "_law_take" (.cons (.var 0) (.cons (.var 2) .nil)))) (.cons (.var 4) .nil))))) .nil))))
    .nil))⟩
def l_pairs_b0 : Sms := (.cons (.asg (.nm 4) (.bin .add (.var 4) (.lc false (.bin .mul (.var 5) (.var 6)) (.nm 6) (.seq (.ix (.ix (.var 1) (.int 1)) (.var 3))) .no [("_law_right", 6)])))
    .nil)
def l_pairs_b1 : Sms := (.cons (.asg (.nm 4) (.lst false .nil))
    (.cons (.for_ (.nm 5) (.seq (.ix (.ix (.var 0) (.int 1)) (.var 3))) l_pairs_b0)
    (.cons (.expr (.app (.var 2) (.var 4)))
    .nil)))
def l_pairs : Df := ⟨["_law_one", "_law_other", "_law_rows_here", "_law_state", "_law_row_here", "_law_left", "_law_right"], 2, (.cons (.asg (.nm 2) (.lst true .nil))
    (.cons (.for_ (.nm 3) (.range1 (.blt false .len (.cons (.ix (.var 0) (.int 1)) .nil))) l_pairs_b1)
    (.cons (.ret (.call (.bor []) "_law_lowest" (.cons (.bin .mul (.ix (.var 0) (.int 0)) (.ix (.var 1) (.int 0))) (.cons (.var 2) .nil))))
    .nil)))⟩
def l_shows : Df := ⟨["_law_thing", "_law_table_here", "_law_unit", "_law_rows_here"], 2, (.cons (.asg (.tp [2, 3]) (.call (.bor []) "_law_lowest" (.cons (.ix (.var 1) (.int 0)) (.cons (.ix (.var 1) (.int 1)) .nil))))
    (.cons (.ret (.and_ (.cmp .eq (.attr (.var 0) "unit") (.var 2)) (.one (.cmp .eq (.meth (.bor []) ["Experiment"] (.var 0) "rows" .nil) (.var 3)))))
    .nil))⟩
def l_told : Df := ⟨["_law_e", "_law_f", "error"], 2, (.cons (.try_ (.cons (.ret (.call (.bor []) "_law_of" (.cons (.call (.bor []) "both" (.cons (.var 0) (.cons (.var 1) .nil))) .nil)))
    .nil) [⟨"Mismatch", none, ["Mismatch"], ["BadRatio", "BadRow", "BadSize", "BadTimes", "BadUnit", "NoSignal", "NoState", "TooMany"], (.a (.str "mismatch"))⟩, ⟨"TooMany", some 2, ["TooMany"], ["BadRatio", "BadRow", "BadSize", "BadTimes", "BadUnit", "Mismatch", "NoSignal", "NoState"], (.lst [(.str "many"), (.fl "count")])⟩])
    .nil)⟩
def l_again : Df := ⟨["_law_e", "_law_repeats", "error"], 2, (.cons (.try_ (.cons (.ret (.call (.bor []) "_law_of" (.cons (.call (.bor []) "again" (.cons (.var 0) (.cons (.var 1) .nil))) .nil)))
    .nil) [⟨"BadTimes", some 2, ["BadTimes"], ["BadRatio", "BadRow", "BadSize", "BadUnit", "Mismatch", "NoSignal", "NoState", "TooMany"], (.lst [(.str "times"), (.fl "times")])⟩, ⟨"TooMany", some 2, ["TooMany"], ["BadRatio", "BadRow", "BadSize", "BadTimes", "BadUnit", "Mismatch", "NoSignal", "NoState"], (.lst [(.str "many"), (.fl "count")])⟩])
    .nil)⟩
def l_due_b0 : Sms := (.cons (.asg (.nm 4) (.call (.bor []) "_law_pairs" (.cons (.var 4) (.cons (.var 0) .nil))))
    (.wipe [3] .nil))
def l_due_b1 : Sms := (.cons (.asg (.nm 2) (.bin .mul (.var 2) (.blt false .len (.cons (.ix (.ix (.var 0) (.int 1)) (.int 0)) .nil))))
    (.wipe [3] .nil))
def l_due : Df := ⟨["_law_table_here", "_law_repeats", "_law_count", "_law_k", "_law_found", "_law_state"], 2, (.cons (.ifs (.or_ (.not_ (.call (.bor []) "_law_is_number" (.cons (.var 1) .nil))) (.or_ (.cmp .lt (.var 1) (.int 0)) (.one (.cmp .gt (.var 1) (.int 6))))) (.cons (.ret (.lst false (.cons (.str "times") (.cons (.var 1) .nil))))
    .nil) .nil)
    (.cons (.asg (.nm 2) (.int 1))
    (.cons (.for_ (.nm 3) (.range1 (.var 1)) l_due_b1)
    (.cons (.ifs (.cmp .gt (.var 2) (.int 64)) (.cons (.ret (.lst false (.cons (.str "many") (.cons (.var 2) .nil))))
    .nil) .nil)
    (.cons (.asg (.nm 4) (.lst false (.cons (.int 1) (.cons (.lc false (.lst false (.cons (.int 1) .nil)) (.nm 5) (.seq (.ix (.var 0) (.int 1))) .no [("_law_state", 5)]) .nil))))
    (.cons (.for_ (.nm 3) (.range1 (.var 1)) l_due_b0)
    (.cons (.ret (.var 4))
    .nil)))))))⟩
def w_k16_b0 : Sms := (.cons (.ifs (.cmp .ne (.call (.bor []) "_law_again" (.cons (.var 7) (.cons (.var 11) .nil))) (.call (.bor []) "_law_due" (.cons (.var 5) (.cons (.var 11) .nil)))) (.cons (.ret (.bl false))
    .nil) .nil)
    (.wipe [11] .nil))
def w_k16_k15 : Sms := .nil
def w_k16_t14 : Sm := (.ret (.call (.bor []) "_law_shows" (.cons (.var 7) (.cons (.var 5) .nil))))
def w_k16_k14 : Sms := .cons w_k16_t14 w_k16_k15
def w_k16_t13 : Sm := (.for_ (.nm 11) (.seq (.lst false (.cons (.call (.bor [true]) "_law_take" (.cons (.var 1) (.cons (.int 4) .nil))) (.cons (.bin .sub (.call (.bor [true]) "_law_take" (.cons (.var 1) (.cons (.int 9) .nil))) (.int 1)) (.cons (.int 0) (.cons (.bl true) (.cons .non .nil))))))) w_k16_b0)
def w_k16_k13 : Sms := .cons w_k16_t13 w_k16_k14
def w_k16_t12 : Sm := (.ifs (.and_ (.var 3) (.one (.not_ (.var 2)))) (.cons (.asg (.nm 9) (.call (.bor []) "both" (.cons (.var 6) (.cons (.var 7) .nil))))
    (.cons (.asg (.nm 10) (.bin .mul (.attr (.var 9) "signals") (.blt false .len (.cons (.ix (.ix (.var 4) (.int 1)) (.int 0)) .nil))))
    (.cons (.asg (.nm 8) (.lst false (.cons (.str "many") (.cons (.var 10) .nil))))
    (.cons (.ifs (.cmp .le (.var 10) (.int 64)) (.cons (.asg (.nm 8) (.call (.bor []) "_law_pairs" (.cons (.call (.bor []) "_law_of" (.cons (.var 9) .nil)) (.cons (.var 4) .nil))))
    .nil) .nil)
    (.cons (.ifs (.cmp .ne (.call (.bor []) "_law_told" (.cons (.var 9) (.cons (.var 6) .nil))) (.var 8)) (.cons (.ret (.bl false))
    .nil) .nil)
    .nil))))) .nil)
def w_k16_k12 : Sms := .cons w_k16_t12 w_k16_k13
def w_k16_t11 : Sm := (.ifs (.and_ (.var 3) (.one (.var 2))) (.cons (.asg (.nm 9) (.call (.bor []) "again" (.cons (.new (.bor []) "Experiment" (.cons (.int 1) (.cons (.lc false (.lst false (.cons (.int 1) (.cons (.int 0) .nil))) (.nm 12) (.seq (.ix (.var 4) (.int 1))) .no [("_law_state", 12)]) .nil))) (.cons (.int 6) .nil))))
    (.cons (.ifs (.cmp .ne (.call (.bor []) "_law_told" (.cons (.var 9) (.cons (.var 7) .nil))) (.str "mismatch")) (.cons (.ret (.bl false))
    .nil) .nil)
    .nil)) .nil)
def w_k16_k11 : Sms := .cons w_k16_t11 w_k16_k12
def w_k16_t10 : Sm := (.ifs (.or_ (.cmp .ne (.call (.bor []) "_law_told" (.cons (.var 6) (.cons (.var 7) .nil))) (.var 8)) (.or_ (.not_ (.call (.bor []) "_law_shows" (.cons (.var 6) (.cons (.var 4) .nil)))) (.one (.not_ (.call (.bor []) "_law_shows" (.cons (.var 7) (.cons (.var 5) .nil))))))) (.cons (.ret (.bl false))
    .nil) .nil)
def w_k16_k10 : Sms := .cons w_k16_t10 w_k16_k11
def w_k16_t9 : Sm := (.ifs (.not_ (.var 2)) (.cons (.asg (.nm 8) (.call (.bor []) "_law_pairs" (.cons (.var 4) (.cons (.var 5) .nil))))
    .nil) .nil)
def w_k16_k9 : Sms := .cons w_k16_t9 w_k16_k10
def w_k16_t8 : Sm := (.asg (.nm 8) (.str "mismatch"))
def w_k16_k8 : Sms := .cons w_k16_t8 w_k16_k9
def w_k16_t7 : Sm := (.asg (.nm 7) (.new (.bor []) "Experiment" (.cons (.ix (.var 5) (.int 0)) (.cons (.ix (.var 5) (.int 1)) .nil))))
def w_k16_k7 : Sms := .cons w_k16_t7 w_k16_k8
def w_k16_t6 : Sm := (.asg (.nm 6) (.new (.bor []) "Experiment" (.cons (.ix (.var 4) (.int 0)) (.cons (.ix (.var 4) (.int 1)) .nil))))
def w_k16_k6 : Sms := .cons w_k16_t6 w_k16_k7
def w_k16_t5 : Sm := (.ifs (.var 2) (.cons (.asg (.nm 5) (.call (.bor [true]) "_law_table" (.cons (.var 1) (.cons (.bin .add (.int 1) (.bin .mod (.blt false .int (.cons (.blt false .len (.cons (.ix (.var 4) (.int 1)) .nil)) .nil)) (.int 4))) (.cons (.int 6) (.cons (.int 60) .nil))))))
    .nil) .nil)
def w_k16_k5 : Sms := .cons w_k16_t5 w_k16_k6
def w_k16_t4 : Sm := (.asg (.nm 5) (.call (.bor [true]) "_law_table" (.cons (.var 1) (.cons (.blt false .len (.cons (.ix (.var 4) (.int 1)) .nil)) (.cons (.int 6) (.cons (.int 60) .nil))))))
def w_k16_k4 : Sms := .cons w_k16_t4 w_k16_k5
def w_k16_t3 : Sm := (.asg (.nm 4) (.call (.bor [true]) "_law_table" (.cons (.var 1) (.cons (.bin .add (.int 1) (.call (.bor [true]) "_law_take" (.cons (.var 1) (.cons (.int 4) .nil)))) (.cons (.int 6) (.cons (.int 60) .nil))))))
def w_k16_k3 : Sms := .cons w_k16_t3 w_k16_k4
def w_k16_t2 : Sm := (.asg (.nm 3) (.cmp .eq (.call (.bor [true]) "_law_take" (.cons (.var 1) (.cons (.int 4) .nil))) (.int 0)))
def w_k16_k2 : Sms := .cons w_k16_t2 w_k16_k3
def w_k16_t1 : Sm := (.asg (.nm 2) (.cmp .eq (.call (.bor [true]) "_law_take" (.cons (.var 1) (.cons (.int 8) .nil))) (.int 0)))
def w_k16_k1 : Sms := .cons w_k16_t1 w_k16_k2
def w_k16_t0 : Sm := (.asg (.nm 1) (.call (.own []) "_law_pool" (.cons (.var 0) .nil)))
def w_k16_k0 : Sms := .cons w_k16_t0 w_k16_k1
def w_k16 : Df := ⟨["_law_script", "_law_pool_here", "_law_unlike", "_law_wide", "_law_one", "_law_other", "_law_e", "_law_f", "_law_due_here", "_law_long", "_law_count", "_law_repeats", "_law_state"], 1, w_k16_k0⟩
def l_lowest_2_b0 : Sms := (.cons (.asg (.nm 2) (.bin .add (.var 2) (.var 3)))
    (.wipe [3] .nil))
def l_lowest_2 : Df := ⟨["_law_unit", "_law_rows_here", "_law_numbers", "_law_row_here", "_law_part", "_law_item"], 2, (.cons (.asg (.nm 2) (.lst false (.cons (.var 0) .nil)))
    (.cons (.for_ (.nm 3) (.seq (.var 1)) l_lowest_2_b0)
    (.cons (.asg (.nm 4) (.call (.bor []) "_law_divisor" (.cons (.var 2) .nil)))
    (.cons (.ret (.lst false (.cons (.bin .fdiv (.var 0) (.var 4)) (.cons (.lc false (.lc false (.bin .fdiv (.var 5) (.var 4)) (.nm 5) (.seq (.var 3)) .no [("_law_item", 5)]) (.nm 3) (.seq (.var 1)) .no [("_law_row_here", 3)]) .nil))))
    .nil))))⟩
end Mi
namespace Mi
open PySem L2

@[simp] theorem freeze_d (n : Nat) (x : D) (S : Sto) : freeze n (.d x) S = .ok x S := by cases n <;> rfl
@[simp] theorem freezeL_nil (f : MV → Sto → R D) (S : Sto) : freezeL f [] S = .ok [] S := rfl
@[simp] theorem freezeL_cons (f : MV → Sto → R D) (v : MV) (r : List MV) (S : Sto) : freezeL f (v :: r) S = (f v S).bind fun d S1 => (freezeL f r S1).bind fun ds S2 => .ok (d :: ds) S2 := rfl
theorem freezeL_d (n : Nat) : ∀ (ds : List D) (S : Sto), freezeL (freeze n) (ds.map .d) S = .ok ds S
  | [], S => rfl
  | d :: ds, S => by simp [freezeL_d n ds S]
@[simp] theorem deep_d (ex : List Nat) (n : Nat) (S : Sto) (x : D) : deep ex n S (.d x) = some x := by cases n <;> rfl
theorem deepL_d (ex : List Nat) (n : Nat) (S : Sto) : ∀ ds : List D, deepL (deep ex n S) (ds.map .d) = some ds
  | [] => rfl
  | d :: ds => by simp [deepL, deepL_d ex n S ds]
@[simp] theorem allD_nil : allD [] = some [] := rfl
@[simp] theorem allD_d (x : D) (r : List MV) : allD (.d x :: r) = (allD r).map (x :: ·) := rfl
@[simp] theorem allD_map : ∀ ds : List D, allD (ds.map .d) = some ds
  | [] => rfl
  | d :: ds => by simp [allD_map ds]

@[simp] theorem allD_app : ∀ (ds : List D) (ms : List MV), allD (ds.map .d ++ ms) = (allD ms).map (ds ++ ·)
  | [], ms => by simp
  | d :: ds, ms => by
    simp only [List.map_cons, List.cons_append, allD_d, allD_app ds ms]
    cases allD ms <;> rfl
theorem rfl' {α : Sort _} {a : α} : a = a := by
  cases (trivial : True)
  rfl
section
variable (C : Calls) (fu : Nat) (σ : Slots) (S : Sto)
@[simp] theorem ev_var (i : Nat) : ev C (.var i) σ S = match σ[i]? with
    | some (some v) => .ok v S
    | _ => .stuck := rfl'
@[simp] theorem ev_int (i : Int) : ev C (.int i) σ S = .ok (.d (.int i)) S := rfl'
@[simp] theorem ev_bl (b : Bool) : ev C (.bl b) σ S = .ok (.d (.bl b)) S := rfl'
@[simp] theorem ev_non : ev C .non σ S = .ok (.d .non) S := rfl'
@[simp] theorem ev_str (s : String) : ev C (.str s) σ S = .ok (.d (.str (Str.ofString s))) S := rfl'
@[simp] theorem ev_bin (o : Bop) (a b : E) : ev C (.bin o a b) σ S = (ev C a σ S).bind fun x S1 => (ev C b σ S1).bind fun y S2 => binF o x y S2 := rfl'
@[simp] theorem ev_neg (a : E) : ev C (.neg a) σ S = (ev C a σ S).bind fun x S1 => negF x S1 := rfl'
@[simp] theorem ev_cmp (o : Cop) (a b : E) : ev C (.cmp o a b) σ S = (ev C a σ S).bind fun x S1 => (ev C b σ S1).bind fun y S2 => cmpF o x y S2 := rfl'
@[simp] theorem ev_chain (o p : Cop) (a b c : E) : ev C (.chain o p a b c) σ S = (ev C a σ S).bind fun x S1 => (ev C b σ S1).bind fun y S2 => (cmpF o x y S2).bind fun k S3 => match k with
    | .d (.bl true) => (ev C c σ S3).bind fun z S4 => cmpF p y z S4
    | .d (.bl false) => .ok (.d (.bl false)) S3
    | _ => .stuck := rfl'
@[simp] theorem ev_and (a b : E) : ev C (.and_ a b) σ S = (ev C a σ S).bind fun x S1 => match truth S1 x with
    | some true => ev C b σ S1
    | some false => .ok x S1
    | none => .stuck := rfl'
@[simp] theorem ev_or (a b : E) : ev C (.or_ a b) σ S = (ev C a σ S).bind fun x S1 => match truth S1 x with
    | some true => .ok x S1
    | some false => ev C b σ S1
    | none => .stuck := rfl'
@[simp] theorem ev_one (a : E) : ev C (.one a) σ S = ev C a σ S := rfl'
@[simp] theorem ev_not (a : E) : ev C (.not_ a) σ S = (ev C a σ S).bind fun x S1 => match truth S1 x with
    | some k => .ok (.d (.bl (!k))) S1
    | none => .stuck := rfl'
@[simp] theorem ev_ife (t a b : E) : ev C (.ife t a b) σ S = (ev C t σ S).bind fun x S1 => match truth S1 x with
    | some true => ev C a σ S1
    | some false => ev C b σ S1
    | none => .stuck := rfl'
@[simp] theorem ev_tup (es : Es) : ev C (.tup es) σ S = (evs C es σ S).bind fun ms S1 => newT ms S1 := rfl'
@[simp] theorem ev_lst (cell : Bool) (es : Es) : ev C (.lst cell es) σ S = (evs C es σ S).bind fun ms S1 => newL cell ms S1 := rfl'
@[simp] theorem ev_ix (a i : E) : ev C (.ix a i) σ S = (ev C a σ S).bind fun x S1 => (ev C i σ S1).bind fun k S2 => ixF x k S2 := rfl'
@[simp] theorem ev_call (md : Md) (f : String) (es : Es) : ev C (.call md f es) σ S = (evs C es σ S).bind fun ms S1 => callM md (C f) ms S1 := rfl'
@[simp] theorem ev_calld (md : Md) (f : String) (es : Es) (i : Int) : ev C (.calld md f es i) σ S = (evs C es σ S).bind fun ms S1 => callM md (C f) (ms ++ [.d (.int i)]) S1 := rfl'
@[simp] theorem ev_callsw (md : Md) (f k1 k2 : String) (a b : E) : ev C (.callsw md f k1 k2 a b) σ S = (ev C a σ S).bind fun x S1 => (ev C b σ S1).bind fun y S2 => callM md (C f) [y, x] S2 := rfl'
@[simp] theorem ev_new (md : Md) (c : String) (es : Es) : ev C (.new md c es) σ S = (evs C es σ S).bind fun ms S1 => callM md (mkF C c) ms S1 := rfl'
@[simp] theorem ev_meth (md : Md) (cs : List String) (a : E) (m : String) (es : Es) : ev C (.meth md cs a m es) σ S = (ev C a σ S).bind fun x S1 => match insOf S1 x with
    | some (c, fs) => if cs.contains c && (fs.lookup m).isNone then (evs C es σ S1).bind fun ms S2 => callM md (C (c ++ "." ++ m)) (x :: ms) S2 else .stuck
    | none => .stuck := rfl'
@[simp] theorem ev_attr (a : E) (f : String) : ev C (.attr a f) σ S = (ev C a σ S).bind fun x S1 => attrF f x S1 := rfl'
@[simp] theorem ev_prop (md : Md) (cs : List String) (a : E) (f : String) : ev C (.prop md cs a f) σ S = (ev C a σ S).bind fun x S1 => noX (methF C md cs x f [] S1) := rfl'
@[simp] theorem ev_opm (md : Md) (cs : List String) (m : String) (a b : E) : ev C (.opm md cs m a b) σ S = (ev C a σ S).bind fun x S1 => (ev C b σ S1).bind fun y S2 => opmF C md cs m x y S2 := rfl'
@[simp] theorem ev_lenm (md : Md) (cs : List String) (a : E) : ev C (.lenm md cs a) σ S = (ev C a σ S).bind fun x S1 => lenB (methF C md cs x "__len__" [] S1) := rfl'
@[simp] theorem ev_glob (x : String) (i : Int) : ev C (.glob x i) σ S = .ok (.d (.int i)) S := rfl'
@[simp] theorem ev_gtup (x : String) (is : List Int) : ev C (.gtup x is) σ S = .ok (.d (.tup (is.map .int))) S := rfl'
@[simp] theorem ev_isc (a : E) (c : String) : ev C (.isc a c) σ S = (ev C a σ S).bind fun x S1 => iscF c x S1 := rfl'
@[simp] theorem ev_sl (cell : Bool) (a : E) (lo hi : Eo) : ev C (.sl cell a lo hi) σ S = (ev C a σ S).bind fun x S1 => (evO C lo σ S1).bind fun l S2 => (evO C hi σ S2).bind fun h S3 => slF cell x l h S3 := rfl'
@[simp] theorem evO_no : evO C .no σ S = .ok none S := rfl'
@[simp] theorem evO_yes (e : E) : evO C (.yes e) σ S = (ev C e σ S).bind fun v S1 => match v with
    | .d (.int i) => .ok (some i) S1
    | _ => .stuck := rfl'
theorem evC_no : evC C .no = fun _ S => .ok true S := rfl'
@[simp] theorem evC_no' : evC C .no σ S = .ok true S := rfl'
@[simp] theorem evC_yes (e : E) : evC C (.yes e) σ S = (ev C e σ S).bind fun v S1 => R.opt (truth S1 v) S1 := rfl'
@[simp] theorem ev_blt (cell : Bool) (b : Bl) (es : Es) : ev C (.blt cell b es) σ S = (evs C es σ S).bind fun ms S1 => bltF cell b ms S1 := rfl'
@[simp] theorem ev_isi (a : E) (ty : String) : ev C (.isi a ty) σ S = (ev C a σ S).bind fun x S1 => isiF ty x S1 := rfl'
@[simp] theorem ev_app (a e : E) : ev C (.app a e) σ S = (ev C a σ S).bind fun x S1 => if lstC S1 x then (ev C e σ S1).bind fun y S2 => appF x y S2 else .stuck := rfl'
@[simp] theorem ev_lc (cell : Bool) (elt : E) (tg : Tg) (it : It) (cd : Eo) (own : List (String × Nat)) : ev C (.lc cell elt tg it cd own) σ S = (evI C it σ S).bind fun ms S1 =>
      (lcGo (ev C elt) (evC C cd) tg (wipeM σ (own.map (·.2))) ms [] S1).bind fun ys S2 => newL cell ys S2 := rfl'
@[simp] theorem ev_lc2 (cell : Bool) (elt : E) (tg : Tg) (it : It) (tg2 : Tg) (it2 : It) (own : List (String × Nat)) (own2 : List Nat) : ev C (.lc2 cell elt tg it tg2 it2 own own2) σ S = (evI C it σ S).bind fun ms S1 =>
      (lcGo2 (ev C elt) (evI C it2) tg tg2 own2 wipeM (wipeM σ (own.map (·.2))) ms [] S1).bind fun ys S2 => newL cell ys S2 := rfl'
@[simp] theorem evs_nil : evs C .nil σ S = .ok [] S := rfl'
@[simp] theorem evs_cons (e : E) (r : Es) : evs C (.cons e r) σ S = (ev C e σ S).bind fun v S1 => (evs C r σ S1).bind fun vs S2 => .ok (v :: vs) S2 := rfl'
@[simp] theorem evs_star (e : E) (r : Es) : evs C (.star e r) σ S = (ev C e σ S).bind fun v S1 => match items S1 v with
    | some ms => (evs C r σ S1).bind fun vs S2 => .ok (ms ++ vs) S2
    | none => .stuck := rfl'
@[simp] theorem evI_enum (e : E) : evI C (.enum e) σ S = (ev C e σ S).bind fun v S1 => (walked v S1).bind fun ms S2 => .ok (enumL 0 ms) S2 := rfl'
@[simp] theorem evI_zip (a b : E) : evI C (.zip a b) σ S = (ev C a σ S).bind fun v S1 => (ev C b σ S1).bind fun w S2 => (walked v S2).bind fun xs S3 => (walked w S3).bind fun ys S4 => .ok (zipL xs ys) S4 := rfl'
@[simp] theorem evI_range3 (a b c : E) : evI C (.range3 a b c) σ S = (ev C a σ S).bind fun v S1 => (ev C b σ S1).bind fun w S2 => (ev C c σ S2).bind fun u S3 => match v, w, u with
    | .d (.int i), .d (.int j), .d (.int k) => if rgOk i && rgOk j && rgOk k && decide (0 < k) then .ok (range3L i j k) S3 else .stuck
    | _, _, _ => .stuck := rfl'
@[simp] theorem evI_seq (e : E) : evI C (.seq e) σ S = (ev C e σ S).bind fun v S1 => walked v S1 := rfl'
@[simp] theorem evI_range1 (e : E) : evI C (.range1 e) σ S = (ev C e σ S).bind fun v S1 => match v with
    | .d (.int j) => if rgOk j then .ok (rangeL 0 j) S1 else .stuck
    | _ => .stuck := rfl'
@[simp] theorem evI_range2 (a b : E) : evI C (.range2 a b) σ S = (ev C a σ S).bind fun v S1 => (ev C b σ S1).bind fun w S2 => match v, w with
    | .d (.int i), .d (.int j) => if rgOk i && rgOk j then .ok (rangeL i j) S2 else .stuck
    | _, _ => .stuck := rfl'
@[simp] theorem evT_eq (m : E) : evT C m σ S = (ev C m σ S).bind fun v S1 => R.opt (truth S1 v) S1 := rfl'
@[simp] theorem ex_asg (tg : Tg) (e : E) : ex C fu (.asg tg e) σ S = (ev C e σ S).toF σ fun v S1 => match bindTg tg σ v S1 with
    | .ok σ1 S2 => .next σ1 S2
    | _ => .stuck := rfl'
@[simp] theorem ex_fld (a : E) (f : String) (e : E) : ex C fu (.fld a f e) σ S = (ev C e σ S).toF σ fun v S1 => (ev C a σ S1).toF σ fun x S2 => (fldF x f v S2).toF σ fun _ S3 => .next σ S3 := rfl'
@[simp] theorem ex_fld2 (a : E) (f : String) (b : E) (g : String) (e : E) : ex C fu (.fld2 a f b g e) σ S = (ev C e σ S).toF σ fun v S1 => match titems v with
    | some [x, y] => (ev C a σ S1).toF σ fun o S2 => (fldF o f x S2).toF σ fun _ S3 => (ev C b σ S3).toF σ fun p S4 => (fldF p g y S4).toF σ fun _ S5 => .next σ S5
    | _ => .stuck := rfl'
@[simp] theorem ex_retn : ex C fu .retn σ S = .ret (.d .non) S := rfl'
@[simp] theorem ex_raise (c : String) (e : E) (f : String) : ex C fu (.raise_ c e f) σ S = (ev C e σ S).toF σ fun v S1 => match v with
    | .d d => .exc c [(f, d)] σ S1
    | _ => .stuck := rfl'
@[simp] theorem ex_raise0 (c : String) : ex C fu (.raise0 c) σ S = .exc c [] σ S := rfl'
@[simp] theorem ex_try (b : Sms) (hs : List Hd) : ex C fu (.try_ b hs) σ S = match exs C fu b σ S with
    | .exc c fs σ1 S1 => hdGo c fs σ1 S1 hs
    | f => f := rfl'
@[simp] theorem exs_wipe (is : List Nat) (r : Sms) : exs C fu (.wipe is r) σ S = exs C fu r (wipeM σ is) S := rfl'
@[simp] theorem ex_par (i j : Nat) (a b : E) : ex C fu (.par i j a b) σ S = (ev C a σ S).toF σ fun v S1 => (ev C b σ S1).toF σ fun w S2 => .next ((σ.set i (some v)).set j (some w)) S2 := rfl'
@[simp] theorem ex_setix (a i e : E) : ex C fu (.setix a i e) σ S = (ev C e σ S).toF σ fun v S1 => (ev C a σ S1).toF σ fun x S2 => (ev C i σ S2).toF σ fun k S3 => (setF x k v S3).toF σ fun _ S4 => .next σ S4 := rfl'
@[simp] theorem ex_expr (e : E) : ex C fu (.expr e) σ S = (ev C e σ S).toF σ fun _ S1 => .next σ S1 := rfl'
@[simp] theorem ex_ret (e : E) : ex C fu (.ret e) σ S = (ev C e σ S).toF σ fun v S1 => .ret v S1 := rfl'
@[simp] theorem ex_ifs (t : E) (a b : Sms) : ex C fu (.ifs t a b) σ S = (evT C t σ S).toF σ fun k S1 => if k then exs C fu a σ S1 else exs C fu b σ S1 := rfl'
@[simp] theorem ex_for (tg : Tg) (it : It) (body : Sms) : ex C fu (.for_ tg it body) σ S = (evI C it σ S).toF σ fun ms S1 => forGo tg (exs C fu body) ms σ S1 := rfl'
@[simp] theorem ex_while (t : E) (body : Sms) : ex C fu (.while_ t body) σ S = whGo (evT C t) (exs C fu body) fu σ S := rfl'
@[simp] theorem exs_nil : exs C fu .nil σ S = .next σ S := rfl'
@[simp] theorem exs_cons (s : Sm) (r : Sms) : exs C fu (.cons s r) σ S = (ex C fu s σ S).seq fun σ1 S1 => exs C fu r σ1 S1 := rfl'
@[simp] theorem forGo_nil (tg : Tg) (b : Slots → Sto → F) : forGo tg b [] σ S = .next σ S := rfl'
theorem forGo_cons (tg : Tg) (b : Slots → Sto → F) (x : MV) (xs : List MV) : forGo tg b (x :: xs) σ S = match bindTg tg σ x S with
      | .ok σ1 S1 => match b σ1 S1 with
        | .next σ2 S2 => forGo tg b xs σ2 S2
        | .cont σ2 S2 => forGo tg b xs σ2 S2
        | .brk σ2 S2 => .next σ2 S2
        | f => f
      | _ => .stuck := rfl'
theorem whGo_succ (t : Slots → Sto → R Bool) (b : Slots → Sto → F) (n : Nat) : whGo t b (n + 1) σ S = (t σ S).toF σ fun k S1 => if k then match b σ S1 with
      | .next σ2 S2 => whGo t b n σ2 S2
      | .cont σ2 S2 => whGo t b n σ2 S2
      | .brk σ2 S2 => .next σ2 S2
      | f => f
    else .next σ S1 := rfl'
@[simp] theorem bindTg_nm (i : Nat) (v : MV) : bindTg (.nm i) σ v S = .ok (σ.set i (some v)) S := rfl'
@[simp] theorem bindTg_tp (is : List Nat) (xs : List D) : bindTg (.tp is) σ (.d (.tup xs)) S = if xs.length = is.length then .ok (setAll σ is (xs.map .d)) S else .stuck := by
  simp [bindTg, items]
@[simp] theorem bindTg_tpl (is : List Nat) (t : Bool) (xs : List D) : bindTg (.tp is) σ (.d (.lst t xs)) S = if xs.length = is.length then .ok (setAll σ is (xs.map .d)) S else .stuck := by
  simp [bindTg, items]
@[simp] theorem bindTg_tpt (is : List Nat) (xs : List MV) : bindTg (.tp is) σ (.t xs) S = if xs.length = is.length then .ok (setAll σ is xs) S else .stuck := by
  simp [bindTg, items]
@[simp] theorem setAll_nil (ms : List MV) : setAll σ [] ms = σ := by cases ms <;> rfl
@[simp] theorem setAll_cons (i : Nat) (is : List Nat) (m : MV) (ms : List MV) : setAll σ (i :: is) (m :: ms) = setAll (σ.set i (some m)) is ms := rfl'
@[simp] theorem binF_int (o : Bop) (i j : Int) : binF o (.d (.int i)) (.d (.int j)) S = match binD o (.int i) (.int j) with
    | some z => .ok (.d z) S
    | none => .stuck := rfl'
@[simp] theorem binF_cat (t u : Bool) (xs ys : List D) : binF .add (.d (.lst t xs)) (.d (.lst u ys)) S = if szOk (xs.length + ys.length) then newL false ((xs ++ ys).map .d) S else .stuck := by
  simp [binF, litems]
@[simp] theorem cmpF_d (o : Cop) (x y : D) (h1 : o ≠ .is_) (h2 : o ≠ .isn) : cmpF o (.d x) (.d y) S = match cmpD o x y with
    | some z => .ok (.d (.bl z)) S
    | none => .stuck := by
  cases o <;> first | rfl | exact absurd rfl h1 | exact absurd rfl h2
@[simp] theorem cmpF_is (x : D) : cmpF .is_ (.d x) (.d .non) S = .ok (.d (.bl (isNon x))) S := rfl'
@[simp] theorem cmpF_isn (x : D) : cmpF .isn (.d x) (.d .non) S = .ok (.d (.bl (!isNon x))) S := rfl'
@[simp] theorem binD_add (i j : Int) : binD .add (.int i) (.int j) = some (.int (i + j)) := rfl'
@[simp] theorem binD_sub (i j : Int) : binD .sub (.int i) (.int j) = some (.int (i - j)) := rfl'
@[simp] theorem binD_mul (i j : Int) : binD .mul (.int i) (.int j) = if mulOk i j then some (.int (i * j)) else none := rfl'
@[simp] theorem binD_fdiv (i j : Int) : binD .fdiv (.int i) (.int j) = if divOk j then some (.int (i.fdiv j)) else none := rfl'
@[simp] theorem binD_mod (i j : Int) : binD .mod (.int i) (.int j) = if j ≠ 0 then some (.int (i.fmod j)) else none := rfl'
@[simp] theorem binD_pow (i j : Int) : binD .pow (.int i) (.int j) = if powOk i j then some (.int (i ^ j.toNat)) else none := rfl'
@[simp] theorem cmpD_lt (i j : Int) : cmpD .lt (.int i) (.int j) = some (decide (i < j)) := rfl'
@[simp] theorem cmpD_le (i j : Int) : cmpD .le (.int i) (.int j) = some (decide (i ≤ j)) := rfl'
@[simp] theorem cmpD_gt (i j : Int) : cmpD .gt (.int i) (.int j) = some (decide (j < i)) := rfl'
@[simp] theorem cmpD_ge (i j : Int) : cmpD .ge (.int i) (.int j) = some (decide (j ≤ i)) := rfl'
@[simp] theorem cmpD_eqI (i j : Int) : cmpD .eq (.int i) (.int j) = some (decide (i = j)) := rfl'
@[simp] theorem cmpD_neI (i j : Int) : cmpD .ne (.int i) (.int j) = some (!decide (i = j)) := rfl'
theorem cmpD_eq (a b : D) : cmpD .eq a b = if dep 8 a && dep 8 b then some (eqD a b) else none := by cases a <;> rfl
theorem cmpD_ne (a b : D) : cmpD .ne a b = if dep 8 a && dep 8 b then some (!eqD a b) else none := by cases a <;> rfl
@[simp] theorem truth_bl (b : Bool) : truth S (.d (.bl b)) = some b := rfl'
@[simp] theorem truth_non : truth S (.d .non) = some false := rfl'
@[simp] theorem truth_int (i : Int) : truth S (.d (.int i)) = some (i != 0) := rfl'
@[simp] theorem negF_int (i : Int) : negF (.d (.int i)) S = .ok (.d (.int (-i))) S := rfl'
@[simp] theorem items_lst (t : Bool) (xs : List D) : items S (.d (.lst t xs)) = some (xs.map .d) := rfl'
@[simp] theorem items_tup (xs : List D) : items S (.d (.tup xs)) = some (xs.map .d) := rfl'
@[simp] theorem items_t (xs : List MV) : items S (.t xs) = some xs := rfl'
theorem items_c (i : Nat) : items S (.c i) = match S[i]? with
    | some (.lst ms) => some ms
    | some (.fl ms) => some ms
    | some (.froz (.lst _ xs)) => some (xs.map .d)
    | _ => none := rfl'
theorem items_live {i : Nat} {ms : List MV} (h : S[i]? = some (.lst ms)) : items S (.c i) = some ms := by rw [items_c, h]
@[simp] theorem ixF_int (x : MV) (k : Int) : ixF x (.d (.int k)) S = match items S x with
    | some ms => match L2.atI ms k with
      | some m => .ok m S
      | none => .stuck
    | none => .stuck := by unfold ixF; cases items S x <;> rfl
@[simp] theorem bltF_abs (c : Bool) (i : Int) : bltF c .abs [.d (.int i)] S = .ok (.d (.int (if i < 0 then -i else i))) S := rfl'
@[simp] theorem bltF_int (c : Bool) (i : Int) : bltF c .int [.d (.int i)] S = .ok (.d (.int i)) S := rfl'
@[simp] theorem bltF_intb (c : Bool) (k : Bool) : bltF c .int [.d (.bl k)] S = .ok (.d (.int (if k = true then 1 else 0))) S := rfl'
@[simp] theorem bltF_max (c : Bool) (i j : Int) : bltF c .max [.d (.int i), .d (.int j)] S = .ok (.d (.int (if j > i then j else i))) S := rfl'
@[simp] theorem bltF_len (c : Bool) (v : MV) : bltF c .len [v] S = match items S v with
    | some ms => .ok (.d (.int ms.length)) S
    | none => .stuck := rfl'
@[simp] theorem bltF_list (c : Bool) (v : MV) (h : ∀ ns, v ≠ .d (.scr ns)) : bltF c .list [v] S = match items S v with
    | some ms => newL c ms S
    | none => .stuck := by
  cases v with
  | d x => cases x <;> first | rfl | exact absurd rfl (h _)
  | c i => rfl
  | t ms => rfl
@[simp] theorem bltF_listS (c : Bool) (ns : List Int) : bltF c .list [.d (.scr ns)] S = newL c (ns.map fun n => .d (.int n)) S := rfl'
@[simp] theorem bltF_tup (c : Bool) (v : MV) : bltF c .tuple [v] S = match items S v with
    | some ms => newT ms S
    | none => .stuck := rfl'
@[simp] theorem bltF_sum (c : Bool) (v : MV) : bltF c .sum [v] S = match (items S v).bind intsOf with
    | some is => .ok (.d (.int is.sum)) S
    | none => .stuck := rfl'
theorem newL_d (xs : List D) (h : szOk xs.length = true) : newL false (xs.map .d) S = .ok (.d (.lst false xs)) S := by simp [newL, h]
theorem newL_c (ms : List MV) (h : szOk ms.length = true) : newL true ms S = .ok (.c S.length) (S ++ [.lst ms]) := by simp [newL, h]
theorem newT_d (xs : List D) (h : szOk xs.length = true) : newT (xs.map .d) S = .ok (.d (.tup xs)) S := by simp [newT, h, tupV]
@[simp] theorem walked_lst (t : Bool) (xs : List D) : walked (.d (.lst t xs)) S = .ok (xs.map .d) S := rfl'
@[simp] theorem walked_tup (xs : List D) : walked (.d (.tup xs)) S = .ok (xs.map .d) S := rfl'
end

/-! ### sizes -/
theorem mulOk_of {i j : Int} {a b : Nat} (ha : i.natAbs < 2 ^ a) (hb : j.natAbs < 2 ^ b) (h : a + b ≤ 900000 := by decide) : mulOk i j = true := by
  have l : ∀ {n k : Nat}, n < 2 ^ k → n.log2 ≤ k := fun {n k} h => by
    by_cases h0 : n = 0
    · subst h0; simp
    · have := (Nat.log2_lt h0).mpr h; omega
  have h1 := l ha
  have h2 := l hb
  unfold mulOk
  exact decide_eq_true (by omega)
theorem divOk_of {j : Int} {b : Nat} (h0 : j ≠ 0) (hb : j.natAbs < 2 ^ b) (h : b ≤ 8000 := by decide) : divOk j = true := by
  unfold divOk
  refine decide_eq_true ⟨h0, ?_⟩
  have : j.natAbs ≠ 0 := by omega
  have := (Nat.log2_lt this).mpr hb
  omega
theorem powOk_of {i j : Int} (h0 : 0 ≤ j) (h1 : j ≤ 1000000) (hb : i.natAbs < 2 ^ 64) : powOk i j = true := decide_eq_true ⟨h0, h1, hb⟩
theorem szOk_of {n : Nat} (h : n ≤ 1000000) : szOk n = true := decide_eq_true h

/-! ### calls -/
theorem callN_eq {P : String → Option Df} {fu n : Nat} {f : String} {d : Df} (h : P f = some d) : callN P fu (n + 1) f = run (callN P fu n) fu d := by
  funext vs S
  simp only [callN, h]
@[simp] theorem lentIx_nil (vs : List MV) : lentIx [] vs = some [] := by cases vs <;> rfl
theorem argsIn_d (S : Sto) (ex : List Nat) (k : Nat) : ∀ ds : List D, argsIn S ex k [] (ds.map .d) = some (ds.map .d)
  | [] => rfl
  | d :: ds => by simp [argsIn, argsIn_d S ex k ds]
theorem argsIn_deep (S : Sto) (ex : List Nat) (k : Nat) : ∀ (vs : List MV) (ds : List D), deepL (deep ex 4 S) vs = some ds → argsIn S ex k [] vs = some (ds.map .d)
  | [], ds, h => by cases h; rfl
  | v :: vs, ds, h => by
    simp only [deepL] at h
    cases e : deep ex 4 S v with
    | none => rw [e] at h; cases h
    | some d =>
      rw [e] at h
      cases e2 : deepL (deep ex 4 S) vs with
      | none => rw [e2] at h; cases h
      | some ds' =>
        rw [e2] at h
        cases h
        simp only [argsIn, e, argsIn_deep S ex k vs ds' e2, Option.map_some, List.map_cons]
/-- a call of data: what it gives -/
theorem bor_ok {g : List MV → Sto → R MV} {vs : List MV} {ds : List D} {S S2 S3 : Sto} {v : MV} {r : D} (ha : deepL (deep [] 4 S) vs = some ds) (h : g (ds.map .d) [] = .ok v S2) (hf : freeze 4 v S2 = .ok r S3) (hc : clean r = true) : callM (.bor []) g vs S = .ok (.d r) S := by
  simp only [callM, callB, lentIx_nil, argsIn_deep S [] 0 vs ds ha, lentS, h, hf, hc, if_true, putBack]
theorem bor_exc {g : List MV → Sto → R MV} {vs : List MV} {ds : List D} {S S2 : Sto} {c : String} {fs : List (String × D)} (ha : deepL (deep [] 4 S) vs = some ds) (h : g (ds.map .d) [] = .exc c fs S2) (hc : cleanF fs = true) : callM (.bor []) g vs S = .exc c fs S := by
  simp only [callM, callB, lentIx_nil, argsIn_deep S [] 0 vs ds ha, lentS, h, hc, if_true, putBack]
/-- .. of arguments that are data -/
theorem bor_d {g : List MV → Sto → R MV} {ds : List D} {S S2 S3 : Sto} {v : MV} {r : D} (h : g (ds.map .d) [] = .ok v S2) (hf : freeze 4 v S2 = .ok r S3) (hc : clean r = true) : callM (.bor []) g (ds.map .d) S = .ok (.d r) S := bor_ok (deepL_d [] 4 S ds) h hf hc
theorem bor_dx {g : List MV → Sto → R MV} {ds : List D} {S S2 : Sto} {c : String} {fs : List (String × D)} (h : g (ds.map .d) [] = .exc c fs S2) (hc : cleanF fs = true) : callM (.bor []) g (ds.map .d) S = .exc c fs S := bor_exc (deepL_d [] 4 S ds) h hc
/-- arguments that are read -/
theorem bor_deep {g : List MV → Sto → R MV} {vs : List MV} {ds : List D} {S : Sto} (ha : deepL (deep [] 4 S) vs = some ds) : callM (.bor []) g vs S = callM (.bor []) g (ds.map .d) S := by
  simp only [callM, callB, lentIx_nil, argsIn_deep S [] 0 vs ds ha, argsIn_d]
theorem run_ret {C : Calls} {fu : Nat} {d : Df} {vs : List MV} {S S' : Sto} {v : MV} (hl : vs.length = d.np) (h : exs C fu d.body (vs.map some ++ List.replicate (d.names.length - vs.length) none) S = .ret v S') : run C fu d vs S = .ok v S' := by
  unfold run
  rw [if_pos hl, h]

theorem run_exc {C : Calls} {fu : Nat} {d : Df} {vs : List MV} {S S' : Sto} {c : String} {fs : List (String × D)} {σ : Slots} (hl : vs.length = d.np) (h : exs C fu d.body (vs.map some ++ List.replicate (d.names.length - vs.length) none) S = .exc c fs σ S') : run C fu d vs S = .exc c fs S' := by
  unfold run
  rw [if_pos hl, h]
theorem run_next {C : Calls} {fu : Nat} {d : Df} {vs : List MV} {S S' : Sto} {σ : Slots} (hl : vs.length = d.np) (h : exs C fu d.body (vs.map some ++ List.replicate (d.names.length - vs.length) none) S = .next σ S') : run C fu d vs S = .ok (.d .non) S' := by
  unfold run
  rw [if_pos hl, h]
/-! ### the pool and its draws -/
/-- ints as data -/
def iD (ns : List Int) : List D := ns.map D.int
@[simp] theorem iD_nil : iD [] = [] := rfl
@[simp] theorem iD_cons (n : Int) (ns : List Int) : iD (n :: ns) = .int n :: iD ns := rfl
@[simp] theorem iD_length (ns : List Int) : (iD ns).length = ns.length := by simp [iD]
/-- the pool: at, held, the script's numbers -/
def pl (a h : Int) (ns : List Int) : Cell := .lst [.d (.int a), .d (.int h), .d (.lst false (iD ns))]
end Mi
namespace Mi
open PySem L2
/-! ### indices -/
theorem atI_nat {α : Type} (xs : List α) (k : Nat) (h : k < xs.length) : L2.atI xs (k : Int) = xs[k]? := by
  unfold L2.atI L2.ixN
  rw [if_pos (by omega), if_pos (by omega)]
  simp
theorem atI_int {α : Type} (xs : List α) (k : Int) (h0 : 0 ≤ k) (h : k < xs.length) : L2.atI xs k = xs[k.toNat]? := by
  obtain ⟨n, rfl⟩ := Int.eq_ofNat_of_zero_le h0
  rw [atI_nat xs n (by omega)]
  simp
@[simp] theorem atI_0 {α : Type} (x : α) (xs : List α) : L2.atI (x :: xs) 0 = some x := by
  rw [show (0 : Int) = ((0 : Nat) : Int) from rfl, atI_nat _ _ (by simp)]; rfl
@[simp] theorem atI_1 {α : Type} (x y : α) (xs : List α) : L2.atI (x :: y :: xs) 1 = some y := by
  rw [show (1 : Int) = ((1 : Nat) : Int) from rfl, atI_nat _ _ (by simp)]; rfl
@[simp] theorem atI_2 {α : Type} (x y z : α) (xs : List α) : L2.atI (x :: y :: z :: xs) 2 = some z := by
  rw [show (2 : Int) = ((2 : Nat) : Int) from rfl, atI_nat _ _ (by simp)]; rfl
@[simp] theorem atI_3 {α : Type} (x y z w : α) (xs : List α) : L2.atI (x :: y :: z :: w :: xs) 3 = some w := by
  rw [show (3 : Int) = ((3 : Nat) : Int) from rfl, atI_nat _ _ (by simp)]; rfl
@[simp] theorem ixN_0 (n : Nat) : L2.ixN (n + 1) 0 = some 0 := by
  unfold L2.ixN; rw [if_pos (by omega), if_pos (by omega)]; rfl
@[simp] theorem ixN_1 (n : Nat) : L2.ixN (n + 2) 1 = some 1 := by
  unfold L2.ixN; rw [if_pos (by omega), if_pos (by omega)]; rfl
@[simp] theorem setF_c (id : Nat) (k : Int) (v : MV) (S : Sto) : setF (.c id) (.d (.int k)) v S = match S[id]? with
    | some (.lst ms) => match L2.ixN ms.length k with
      | some j => .ok () (S.set id (.lst (ms.set j v)))
      | none => .stuck
    | _ => .stuck := rfl

/-! ### the greatest common divisor -/
theorem gcd_step {a b : Int} (ha : 0 ≤ a) (hb : 0 ≤ b) : Int.gcd b (a % b) = Int.gcd a b := by
  obtain ⟨m, rfl⟩ := Int.eq_ofNat_of_zero_le ha
  obtain ⟨n, rfl⟩ := Int.eq_ofNat_of_zero_le hb
  rw [← Int.natCast_emod]
  show Nat.gcd n (m % n) = Nat.gcd m n
  rw [Nat.gcd_comm m n, Nat.gcd_rec n m, Nat.gcd_comm]
theorem gcd_loop {C : Calls} {fu : Nat} : ∀ (n : Nat) (a b : Int) (S : Sto), 0 ≤ a → 0 ≤ b → b.toNat < n →
    whGo (evT C (.cmp .ne (.var 1) (.int 0))) (exs C fu d_divisor_b0) n [some (.d (.int a)), some (.d (.int b))] S = .next [some (.d (.int (Int.gcd a b))), some (.d (.int 0))] S
  | 0, a, b, S, _, _, h => by omega
  | n + 1, a, b, S, ha, hb, h => by
    by_cases h0 : b = 0
    · subst h0
      simp [whGo_succ]
      omega
    · have hm := Int.emod_lt_of_pos a (show 0 < b by omega)
      have hm0 := Int.emod_nonneg a h0
      have e : a.fmod b = a % b := Int.fmod_eq_emod_of_nonneg a hb
      have ih := gcd_loop (C := C) (fu := fu) n b (a % b) S hb hm0 (by omega)
      rw [gcd_step ha hb] at ih
      simp [whGo_succ, h0, e, ih, d_divisor_b0]
      simpa [d_divisor_b0] using ih
theorem abs_nat (a : Int) : (if a < 0 then -a else a) = (a.natAbs : Int) := by split <;> omega
theorem run_divisor {C : Calls} {a b : Int} {S : Sto} {fu : Nat} (hb : b.natAbs < fu) : run C fu d_divisor [.d (.int a), .d (.int b)] S = .ok (.d (.int (Int.gcd a b))) S := by
  refine run_ret rfl ?_
  have h := gcd_loop (C := C) (fu := fu) fu (a.natAbs : Int) (b.natAbs : Int) S (by omega) (by omega) (by omega)
  have e : Int.gcd (a.natAbs : Int) (b.natAbs : Int) = Int.gcd a b := by simp [Int.gcd]
  rw [e] at h
  simp [d_divisor, abs_nat, h]

/-! ### draws -/
/-- the cell that is looked at -/
theorem cell_ok (ns : List Int) (a : Int) (ha : 0 ≤ a) : ∃ z : Int, L2.atI ((iD ns ++ [D.int 0]).map MV.d) (a.fmod (if ((ns.length : Int) > 1) then (ns.length : Int) else 1)) = some (.d (.int z)) := by
  unfold iD
  have hm : (0 : Int) < (if ((ns.length : Int) > 1) then (ns.length : Int) else 1) := by split <;> omega
  rw [Int.fmod_eq_emod_of_nonneg a (by omega)]
  have h0 := Int.emod_nonneg a (show (if ((ns.length : Int) > 1) then (ns.length : Int) else 1) ≠ 0 by omega)
  have h1 := Int.emod_lt_of_pos a hm
  have hl : a % (if ((ns.length : Int) > 1) then (ns.length : Int) else 1) < ((ns.map D.int ++ [D.int 0]).map MV.d).length := by
    simp only [List.length_map, List.length_append, List.length_cons, List.length_nil]
    split at h1 <;> split <;> omega
  rw [atI_int _ _ h0 hl]
  have : (a % (if ((ns.length : Int) > 1) then (ns.length : Int) else 1)).toNat < ns.length + 1 := by simp at hl; omega
  generalize (a % (if ((ns.length : Int) > 1) then (ns.length : Int) else 1)).toNat = k at this
  by_cases hk : k < ns.length
  · exact ⟨ns[k], by simp [List.getElem?_append, hk]⟩
  · have : k = ns.length := by omega
    subst this
    exact ⟨0, by simp⟩
/-- a draw: a number below many; the pool goes on -/
theorem run_take {C : Calls} {fu : Nat} (a h : Int) (ns : List Int) (T : Sto) (many : Int) (ha : 0 ≤ a) (hA : a ≤ 1000000) (hns : ns.length ≤ 1000) (hm : 0 < many) (hb : many.natAbs < 2 ^ 8000) :
    ∃ (r a' h' : Int), 0 ≤ r ∧ r < many ∧ 0 ≤ a' ∧ a' ≤ a + 1 ∧ run C fu l_take [.c 0, .d (.int many)] (pl a h ns :: T) = .ok (.d (.int r)) (pl a' h' ns :: T) := by
  have hd : divOk many = true := divOk_of (by omega) hb (by decide)
  have hn0 : many ≠ 0 := by omega
  have rng : ∀ x : Int, 0 ≤ x.fmod many ∧ x.fmod many < many := fun x => by
    rw [Int.fmod_eq_emod_of_nonneg x (by omega)]
    exact ⟨Int.emod_nonneg x hn0, Int.emod_lt_of_pos x hm⟩
  have later : ∀ x a' : Int, 0 ≤ a' → a' ≤ a + 1 → ∃ (r a'' h' : Int), 0 ≤ r ∧ r < many ∧ 0 ≤ a'' ∧ a'' ≤ a + 1 ∧ (R.ok (MV.d (D.int (x.fmod many))) (pl a' (x.fdiv many) ns :: T) : R MV) = .ok (.d (.int r)) (pl a'' h' ns :: T) :=
    fun x a' h0 h1 => ⟨_, a', _, (rng x).1, (rng x).2, h0, h1, rfl⟩
  obtain ⟨z, hz⟩ := cell_ok ns a ha
  have hsz : szOk (ns.length + 1) = true := szOk_of (by omega)
  by_cases hh : h = 0
  · subst hh
    have pw1 : powOk (z.fmod 2147483647 + 7919 * a + 13) 5 = true := by
      have h1 : z.fmod 2147483647 = z % 2147483647 := Int.fmod_eq_emod_of_nonneg z (by omega)
      have h2 := Int.emod_nonneg z (show (2147483647 : Int) ≠ 0 by omega)
      have h3 := Int.emod_lt_of_pos z (show (0 : Int) < 2147483647 by omega)
      rw [h1]
      exact powOk_of (by omega) (by omega) (by omega)
    have ml : ∀ c : Int, 0 ≤ c → c < 1000000 → mulOk c a = true := fun c h0 h1 => mulOk_of (a := 64) (b := 64) (by omega) (by omega)
    have m1 := ml 7919 (by omega) (by omega)
    have m2 := ml 104729 (by omega) (by omega)
    generalize hx : ((z.fmod 2147483647 + 7919 * a + 13) ^ 5).fmod 2147483647 = x
    have hx0 : 0 ≤ x ∧ x < 2147483647 := by
      rw [← hx, Int.fmod_eq_emod_of_nonneg _ (by omega)]
      exact ⟨Int.emod_nonneg _ (by omega), Int.emod_lt_of_pos _ (by omega)⟩
    have pw2 : powOk (x + 104729 * a + 29) 3 = true := powOk_of (by omega) (by omega) (by omega)
    have pw3 : powOk 10 18 = true := by decide
    have d11 : divOk 11 = true := by decide
    have hz' := hz
    simp at hz'
    have hsz' : ns.length + 1 ≤ 1000000 := by omega
    have hnz : ¬ (if 1 < (ns.length : Int) then (ns.length : Int) else 1) = 0 := by split <;> omega
    by_cases hc : z < 10 ^ 18
    · have hc' : z < 1000000000000000000 := hc
      refine ⟨((((x + 104729 * a + 29) ^ 3).fmod 2147483629).fdiv 11).fmod many, a + 1, 0, (rng _).1, (rng _).2, by omega, by omega, ?_⟩
      refine run_ret rfl ?_
      simp [l_take, pl, newL, szOk, hn0, hd, hz', hnz, hsz', pw1, pw2, pw3, m1, m2, hx, d11, hc', items_c]
    · have hc' : ¬ z < 1000000000000000000 := hc
      obtain ⟨r, a', h', q1, q2, q3, q4, e⟩ := later z (a + 1) (by omega) (by omega)
      refine ⟨r, a', h', q1, q2, q3, q4, ?_⟩
      rw [← e]
      refine run_ret rfl ?_
      simp [l_take, pl, newL, szOk, hn0, hd, hz', hnz, hsz', pw1, pw2, pw3, m1, m2, hx, d11, hc', items_c]
  · obtain ⟨r, a', h', q1, q2, q3, q4, e⟩ := later h a ha (by omega)
    refine ⟨r, a', h', q1, q2, q3, q4, ?_⟩
    rw [← e]
    refine run_ret rfl ?_
    simp [l_take, pl, hh, hn0, hd, items_c]
end Mi
namespace Mi
open PySem L2
/-! ### bounds -/
@[irreducible] def Bn (k : Nat) (x : Int) : Prop := x.natAbs < 2 ^ k
theorem Bn.lt {k : Nat} {x : Int} (h : Bn k x) : x.natAbs < 2 ^ k := by unfold Bn at h; exact h
theorem Bn.mk {k : Nat} {x : Int} (h : x.natAbs < 2 ^ k) : Bn k x := by unfold Bn; exact h
theorem Bn.mono {j k : Nat} {x : Int} (h : Bn j x) (hk : j ≤ k) : Bn k x := .mk <| Nat.lt_of_lt_of_le h.lt (Nat.pow_le_pow_right (by decide) hk)
theorem Bn.mul {j k : Nat} {x y : Int} (hx : Bn j x) (hy : Bn k y) : Bn (j + k) (x * y) := by
  unfold Bn at *
  rw [Int.natAbs_mul, Nat.pow_add]
  exact Nat.mul_lt_mul'' hx hy
theorem Bn.add {k : Nat} {x y : Int} (hx : Bn k x) (hy : Bn k y) : Bn (k + 1) (x + y) := by
  unfold Bn at *
  rw [Nat.pow_succ]
  omega
theorem Bn.sub {k : Nat} {x y : Int} (hx : Bn k x) (hy : Bn k y) : Bn (k + 1) (x - y) := by
  unfold Bn at *
  rw [Nat.pow_succ]
  omega
theorem Bn.neg {k : Nat} {x : Int} (hx : Bn k x) : Bn k (-x) := by unfold Bn at *; rw [Int.natAbs_neg]; exact hx
theorem Bn.fdiv {k : Nat} {x : Int} (hx : Bn k x) (y : Int) : Bn k (x.fdiv y) := by
  unfold Bn at *
  by_cases hy : y = 0
  · subst hy; simp; exact Nat.lt_of_le_of_lt (Nat.zero_le _) hx
  · have h1 := Int.fdiv_eq_ediv (a := x) (b := y)
    have : (x.fdiv y).natAbs ≤ x.natAbs := by
      rw [Int.natAbs_fdiv_le_natAbs x y |> fun h => show (x.fdiv y).natAbs ≤ x.natAbs ↔ True from ⟨fun _ => trivial, fun _ => h⟩]
      trivial
    omega
theorem Bn.gcd {k : Nat} {a b : Int} (h : Bn k a) (h' : Bn k b) : Bn k (Int.gcd a b : Int) := by
  unfold Bn at *
  by_cases h0 : a.natAbs = 0
  · have : a = 0 := by omega
    subst this; simpa [Int.gcd] using h'
  · exact Nat.lt_of_le_of_lt (Nat.le_of_dvd (by omega) (by simpa [Int.gcd] using Nat.gcd_dvd_left a.natAbs b.natAbs)) h
theorem mulB {i j : Int} {a b : Nat} (ha : Bn a i) (hb : Bn b j) (h : a + b ≤ 900000 := by decide) : mulOk i j = true := mulOk_of ha.lt hb.lt h
theorem divB {j : Int} {b : Nat} (h0 : j ≠ 0) (hb : Bn b j) (h : b ≤ 8000 := by decide) : divOk j = true := divOk_of h0 hb.lt h
theorem Bn.fu {x : Int} (h : Bn 3000 x) : x.natAbs < Fu := Nat.lt_of_lt_of_le h.lt (by decide +kernel)

/-! ### calls of defs -/
theorem spc {P : String → Option Df} {n : Nat} {f : String} {d : Df} {ds : List D} {r : D} {S S2 : Sto} (hp : P f = some d) (h : run (callN P Fu n) Fu d (ds.map .d) [] = .ok (.d r) S2) (hc : clean r = true) :
    callM (.bor []) (callN P Fu (n + 1) f) (ds.map .d) S = .ok (.d r) S := by
  rw [callN_eq hp]
  exact bor_d h (freeze_d _ _ _) hc
theorem spx {P : String → Option Df} {n : Nat} {f : String} {d : Df} {ds : List D} {c : String} {fs : List (String × D)} {S S2 : Sto} (hp : P f = some d) (h : run (callN P Fu n) Fu d (ds.map .d) [] = .exc c fs S2) (hc : cleanF fs = true) :
    callM (.bor []) (callN P Fu (n + 1) f) (ds.map .d) S = .exc c fs S := by
  rw [callN_eq hp]
  exact bor_dx h hc
/-- one cell is lent -/
theorem lend1 {g : List MV → Sto → R MV} {vs : List MV} {ds : List D} {S S2 S3 : Sto} {i : Nat} {c c' : Cell} {v : MV} {r : D} (hi : S[i]? = some c) (hc : c.ok = true) (ha : deepL (deep [i] 4 S) vs = some ds)
    (h : g (.c 0 :: ds.map .d) [c] = .ok v S2) (hf : freeze 4 v S2 = .ok r S3) (hr : clean r = true) (h3 : S3.head? = some c') (hc' : c'.ok = true) : callM (.bor [true]) g (.c i :: vs) S = .ok (.d r) (S.set i c') := by
  have e1 : lentIx [true] (.c i :: vs) = some [i] := by simp [lentIx]
  have e2 : argsIn S [i] 0 [true] (.c i :: vs) = some (.c 0 :: ds.map .d) := by simp [argsIn, argsIn_deep S [i] 1 vs ds ha]
  have e3 : lentS S [i] = some [c] := by simp [lentS, hi, hc]
  have e4 : putBack [i] S3 S = some (S.set i c') := by
    cases S3 with
    | nil => cases h3
    | cons x r => cases h3; simp [putBack, hc']
  simp only [callM, callB, e1, e2, e3, h, hf, hr, if_true, e4]
theorem pl_ok (a h : Int) (ns : List Int) : (pl a h ns).ok = true := by
  have : ∀ ns : List Int, cleans (iD ns) = true := fun ns => by
    induction ns with
    | nil => rfl
    | cons n ns ih => simpa [cleans, clean] using ih
  simp [pl, Cell.ok, dataL, clean, this]
/-- draws from the pool -/
def SpTake (C : Calls) : Prop := ∀ (S : Sto) (i : Nat) (a h : Int) (ns : List Int) (many : Int), S[i]? = some (pl a h ns) → 0 ≤ a → a ≤ 1000000 → ns.length ≤ 1000 → 0 < many → Bn 8000 many →
  ∃ r a' h', 0 ≤ r ∧ r < many ∧ 0 ≤ a' ∧ a' ≤ a + 1 ∧ callM (.bor [true]) (C "_law_take") [.c i, .d (.int many)] S = .ok (.d (.int r)) (S.set i (pl a' h' ns))
theorem spTake {P : String → Option Df} {n : Nat} (hp : P "_law_take" = some l_take) : SpTake (callN P Fu (n + 1)) := by
  intro S i a h ns many hi ha hA hns hm hb
  obtain ⟨r, a', h', q1, q2, q3, q4, e⟩ := run_take (C := callN P Fu n) (fu := Fu) a h ns [] many ha hA hns hm hb.lt
  refine ⟨r, a', h', q1, q2, q3, q4, ?_⟩
  rw [callN_eq hp]
  exact lend1 (ds := [.int many]) hi (pl_ok _ _ _) (by simp [deepL]) e (freeze_d _ _ _) rfl rfl (pl_ok _ _ _)

/-! ### ratios -/
def SpDiv (C : Calls) : Prop := ∀ (a b : Int) (S : Sto), Bn 3000 b → callM (.bor []) (C "divisor") [.d (.int a), .d (.int b)] S = .ok (.d (.int (Int.gcd a b))) S
theorem spDiv {P : String → Option Df} {n : Nat} (hp : P "divisor" = some d_divisor) : SpDiv (callN P Fu (n + 1)) := fun a b S hb => spc (ds := [.int a, .int b]) hp (run_divisor hb.fu) rfl
/-- what a ratio is divided by -/
def rp (t b : Int) : Int := if b < 0 then -(Int.gcd t b : Int) else Int.gcd t b
def rT (t b : Int) : Int := t.fdiv (rp t b)
def rB (t b : Int) : Int := b.fdiv (rp t b)
def rat (t b : Int) : D := .tup [.int (rT t b), .int (rB t b)]
theorem rp_ne {t b : Int} (h : b ≠ 0) : rp t b ≠ 0 := by
  have : Int.gcd t b ≠ 0 := by
    intro z
    rw [Int.gcd_eq_zero_iff] at z
    exact h z.2
  unfold rp
  split <;> omega
theorem rp_bn {k : Nat} {t b : Int} (ht : Bn k t) (hb : Bn k b) : Bn k (rp t b) := by
  unfold rp
  split
  · exact (ht.gcd hb).neg
  · exact ht.gcd hb
def SpRatio (C : Calls) : Prop := (∀ (t b : Int) (S : Sto), b ≠ 0 → Bn 3000 t → Bn 3000 b → callM (.bor []) (C "ratio") [.d (.int t), .d (.int b)] S = .ok (.d (rat t b)) S) ∧
  ∀ (t : Int) (S : Sto), callM (.bor []) (C "ratio") [.d (.int t), .d (.int 0)] S = .exc "BadRatio" [("bottom", .int 0)] S
theorem spRatio {P : String → Option Df} {n : Nat} (hp : P "ratio" = some d_ratio) (hd : SpDiv (callN P Fu n)) : SpRatio (callN P Fu (n + 1)) := by
  refine ⟨fun t b S h0 ht hb => spc (S2 := []) (ds := [.int t, .int b]) hp (run_ret rfl ?_) rfl, fun t S => spx (S2 := []) (ds := [.int t, .int 0]) hp (run_exc (σ := [some (.d (.int t)), some (.d (.int 0)), none]) rfl ?_) rfl⟩
  · have h1 := hd t b [] hb
    have h2 : divOk (rp t b) = true := divB (rp_ne h0) (rp_bn ht hb)
    by_cases hn : b < 0
    · have e : rp t b = -(Int.gcd t b : Int) := by simp [rp, hn]
      rw [e] at h2
      simp [d_ratio, h0, h1, hn, h2, newT, szOk, tupV, rat, rT, rB, e]
    · have e : rp t b = (Int.gcd t b : Int) := by simp [rp, hn]
      rw [e] at h2
      simp [d_ratio, h0, h1, hn, h2, newT, szOk, tupV, rat, rT, rB, e]
  · simp [d_ratio]
end Mi
namespace Mi
open PySem L2
def tp (a b : Int) : D := .tup [.int a, .int b]
theorem rat_tp (t b : Int) : rat t b = tp (rT t b) (rB t b) := rfl
section
variable {P : String → Option Df} {n : Nat}
def SpPlus (C : Calls) : Prop := ∀ (a b c d : Int) (S : Sto), b ≠ 0 → d ≠ 0 → Bn 1000 a → Bn 1000 b → Bn 1000 c → Bn 1000 d → callM (.bor []) (C "plus") [.d (tp a b), .d (tp c d)] S = .ok (.d (rat (a * d + c * b) (b * d))) S
theorem spPlus (hp : P "plus" = some d_plus) (hr : SpRatio (callN P Fu n)) : SpPlus (callN P Fu (n + 1)) := fun a b c d S hb hd ba bb bc bd => by
  refine spc (S2 := []) (ds := [tp a b, tp c d]) hp (run_ret rfl ?_) rfl
  have m1 := mulB ba bd
  have m2 := mulB bc bb
  have m3 := mulB bb bd
  have h := hr.1 (a * d + c * b) (b * d) [] (Int.mul_ne_zero hb hd) ((ba.mul bd).add (bc.mul bb) |>.mono (by decide)) ((bb.mul bd).mono (by decide))
  simp [d_plus, tp, m1, m2, m3, h]
def SpMinus (C : Calls) : Prop := ∀ (a b c d : Int) (S : Sto), b ≠ 0 → d ≠ 0 → Bn 1000 a → Bn 1000 b → Bn 1000 c → Bn 1000 d → callM (.bor []) (C "minus") [.d (tp a b), .d (tp c d)] S = .ok (.d (rat (a * d - c * b) (b * d))) S
theorem spMinus (hp : P "minus" = some d_minus) (hr : SpRatio (callN P Fu n)) : SpMinus (callN P Fu (n + 1)) := fun a b c d S hb hd ba bb bc bd => by
  refine spc (S2 := []) (ds := [tp a b, tp c d]) hp (run_ret rfl ?_) rfl
  have m1 := mulB ba bd
  have m2 := mulB bc bb
  have m3 := mulB bb bd
  have h := hr.1 (a * d - c * b) (b * d) [] (Int.mul_ne_zero hb hd) ((ba.mul bd).sub (bc.mul bb) |>.mono (by decide)) ((bb.mul bd).mono (by decide))
  simp [d_minus, tp, m1, m2, m3, h]
def SpTimes (C : Calls) : Prop := ∀ (a b c d : Int) (S : Sto), b ≠ 0 → d ≠ 0 → Bn 1000 a → Bn 1000 b → Bn 1000 c → Bn 1000 d → callM (.bor []) (C "times") [.d (tp a b), .d (tp c d)] S = .ok (.d (rat (a * c) (b * d))) S
theorem spTimes (hp : P "times" = some d_times) (hr : SpRatio (callN P Fu n)) : SpTimes (callN P Fu (n + 1)) := fun a b c d S hb hd ba bb bc bd => by
  refine spc (S2 := []) (ds := [tp a b, tp c d]) hp (run_ret rfl ?_) rfl
  have m1 := mulB ba bc
  have m3 := mulB bb bd
  have h := hr.1 (a * c) (b * d) [] (Int.mul_ne_zero hb hd) ((ba.mul bc).mono (by decide)) ((bb.mul bd).mono (by decide))
  simp [d_times, tp, m1, m3, h]
def SpOver (C : Calls) : Prop := (∀ (a b c d : Int) (S : Sto), b ≠ 0 → c ≠ 0 → Bn 1000 a → Bn 1000 b → Bn 1000 c → Bn 1000 d → callM (.bor []) (C "over") [.d (tp a b), .d (tp c d)] S = .ok (.d (rat (a * d) (b * c))) S) ∧
  ∀ (x : D) (d : Int) (S : Sto), callM (.bor []) (C "over") [.d x, .d (tp 0 d)] S = .exc "BadRatio" [("bottom", .int 0)] S
theorem spOver (hp : P "over" = some d_over) (hr : SpRatio (callN P Fu n)) : SpOver (callN P Fu (n + 1)) := by
  refine ⟨fun a b c d S hb hc ba bb bc bd => ?_, fun x d S => ?_⟩
  · refine spc (S2 := []) (ds := [tp a b, tp c d]) hp (run_ret rfl ?_) rfl
    have m1 := mulB ba bd
    have m3 := mulB bb bc
    have h := hr.1 (a * d) (b * c) [] (Int.mul_ne_zero hb hc) ((ba.mul bd).mono (by decide)) ((bb.mul bc).mono (by decide))
    simp [d_over, tp, m1, m3, h, hc]
  · exact spx (S2 := []) (ds := [x, tp 0 d]) hp (run_exc (σ := [some (.d x), some (.d (tp 0 d))]) rfl (by simp [d_over, tp])) rfl
/-- int(x > y) - int(x < y) -/
def cmp3 (x y : Int) : Int := (if y < x then 1 else 0) - (if x < y then 1 else 0)
def SpCompare (C : Calls) : Prop := ∀ (a b c d : Int) (S : Sto), Bn 1000 a → Bn 1000 b → Bn 1000 c → Bn 1000 d → callM (.bor []) (C "compare") [.d (tp a b), .d (tp c d)] S = .ok (.d (.int (cmp3 (a * d) (c * b)))) S
theorem spCompare (hp : P "compare" = some d_compare) : SpCompare (callN P Fu (n + 1)) := fun a b c d S ba bb bc bd => by
  refine spc (S2 := []) (ds := [tp a b, tp c d]) hp (run_ret rfl ?_) rfl
  have m1 := mulB ba bd
  have m2 := mulB bc bb
  simp [d_compare, tp, m1, m2, cmp3]
/-! ### the law's own -/
def SpNum (C : Calls) : Prop := ∀ (i : Int) (S : Sto), callM (.bor []) (C "_law_is_number") [.d (.int i)] S = .ok (.d (.bl true)) S
theorem spNum (hp : P "_law_is_number" = some l_is_number) : SpNum (callN P Fu (n + 1)) := fun i S => spc (S2 := []) (ds := [.int i]) hp (run_ret rfl (by simp [l_is_number, isiF, tyD, isiT])) rfl
/-- the divisor of a list -/
def gcdL (ns : List Int) : Nat := ns.foldl (fun g n => Int.gcd n g) 0
theorem gcd_loop2 {C : Calls} {fu : Nat} {x0 x1 x2 : Option MV} : ∀ (n : Nat) (a b : Int) (S : Sto), 0 ≤ a → 0 ≤ b → b.toNat < n →
    whGo (evT C (.cmp .ne (.var 4) (.int 0))) (exs C fu l_divisor_b0) n [x0, x1, x2, some (.d (.int a)), some (.d (.int b))] S = .next [x0, x1, x2, some (.d (.int (Int.gcd a b))), some (.d (.int 0))] S
  | 0, a, b, S, _, _, h => by omega
  | n + 1, a, b, S, ha, hb, h => by
    by_cases h0 : b = 0
    · subst h0
      simp [whGo_succ]
      omega
    · have hm := Int.emod_lt_of_pos a (show 0 < b by omega)
      have hm0 := Int.emod_nonneg a h0
      have e : a.fmod b = a % b := Int.fmod_eq_emod_of_nonneg a hb
      have ih := gcd_loop2 (C := C) (fu := fu) (x0 := x0) (x1 := x1) (x2 := x2) n b (a % b) S hb hm0 (by omega)
      rw [gcd_step ha hb] at ih
      simp [whGo_succ, h0, e, l_divisor_b0]
      simpa [l_divisor_b0] using ih
theorem div_for {C : Calls} {X : Option MV} {S : Sto} : ∀ (ns : List Int) (g : Nat) (x2 x3 x4 : Option MV), (∀ n ∈ ns, Bn 3000 n) → Bn 3000 (g : Int) → ∃ y2 y3 y4,
    forGo (.nm 2) (exs C Fu l_divisor_b1) ((iD ns).map .d) [X, some (.d (.int (g : Int))), x2, x3, x4] S = .next [X, some (.d (.int ((ns.foldl (fun g n => Int.gcd n g) g : Nat) : Int))), y2, y3, y4] S
  | [], g, x2, x3, x4, _, _ => ⟨x2, x3, x4, rfl⟩
  | n :: ns, g, x2, x3, x4, h, hg => by
    have hl := gcd_loop2 (C := C) (fu := Fu) (x0 := X) (x1 := some (.d (.int (g : Int)))) (x2 := some (.d (.int n))) Fu (n.natAbs : Int) (g : Int) S (by omega) (by omega) (by have := hg.fu; omega)
    have e : Int.gcd (n.natAbs : Int) (g : Int) = Int.gcd n g := by simp [Int.gcd]
    rw [e] at hl
    obtain ⟨y2, y3, y4, ih⟩ := div_for (C := C) (X := X) (S := S) ns (Int.gcd n g) (some (.d (.int n))) (some (.d (.int (Int.gcd n g)))) (some (.d (.int 0))) (fun m hm => h m (by simp [hm])) ((h n (by simp)).gcd hg)
    refine ⟨y2, y3, y4, ?_⟩
    rw [List.foldl_cons, ← ih]
    simp only [iD_cons, List.map_cons]
    rw [forGo_cons]
    simp [abs_nat, l_divisor_b1, hl]
def SpLdiv (C : Calls) : Prop := ∀ (t : Bool) (ns : List Int) (S : Sto), (∀ n ∈ ns, Bn 3000 n) → callM (.bor []) (C "_law_divisor") [.d (.lst t (iD ns))] S = .ok (.d (.int (gcdL ns))) S
theorem spLdiv (hp : P "_law_divisor" = some l_divisor) : SpLdiv (callN P Fu (n + 1)) := fun t ns S h => by
  refine spc (S2 := []) (ds := [.lst t (iD ns)]) hp (run_ret rfl ?_) rfl
  obtain ⟨y2, y3, y4, e⟩ := div_for (C := callN P Fu n) (X := some (.d (.lst t (iD ns)))) (S := []) ns 0 none none none h (by unfold Bn; simp; exact Nat.pow_pos (by decide))
  have e' : (((0 : Nat) : Int)) = 0 := rfl
  rw [e'] at e
  simp [l_divisor, e, gcdL]
theorem gcdL_two (u w : Int) : gcdL [u, w] = Int.gcd u w := by simp [gcdL, Int.gcd, Nat.gcd_comm]
def SpLratio (C : Calls) : Prop := ∀ (u w : Int) (S : Sto), w ≠ 0 → Bn 3000 u → Bn 3000 w → callM (.bor []) (C "_law_ratio") [.d (.int u), .d (.int w)] S = .ok (.d (rat u w)) S
theorem spLratio (hp : P "_law_ratio" = some l_ratio) (hd : SpLdiv (callN P Fu n)) : SpLratio (callN P Fu (n + 1)) := fun t b S h0 ht hb => by
  refine spc (S2 := []) (ds := [.int t, .int b]) hp (run_ret rfl ?_) rfl
  have h1 := hd false [t, b] [] (by simp [ht, hb])
  rw [gcdL_two] at h1
  have h2 : divOk (rp t b) = true := divB (rp_ne h0) (rp_bn ht hb)
  by_cases hn : b < 0
  · have e : rp t b = -(Int.gcd t b : Int) := by simp [rp, hn]
    rw [e] at h2
    simp at h1
    simp [l_ratio, h0, h1, hn, h2, newT, newL, szOk, tupV, rat, rT, rB, e]
  · have e : rp t b = (Int.gcd t b : Int) := by simp [rp, hn]
    rw [e] at h2
    simp at h1
    simp [l_ratio, h0, h1, hn, h2, newT, newL, szOk, tupV, rat, rT, rB, e]
theorem eq_tp (a b c d : Int) : cmpD .eq (tp a b) (tp c d) = some (a == c && b == d) := by
  rw [cmpD_eq]; simp [tp, dep, depL, eqD, eqDs]
theorem ne_tp (a b c d : Int) : cmpD .ne (tp a b) (tp c d) = some (!(a == c && b == d)) := by
  rw [cmpD_ne]; simp [tp, dep, depL, eqD, eqDs]
def SpTerms (C : Calls) : Prop := ∀ (u w : Int) (S : Sto), w ≠ 0 → Bn 3000 u → Bn 3000 w → callM (.bor []) (C "_law_in_terms") [.d (rat u w), .d (.int u), .d (.int w)] S = .ok (.d (.bl true)) S
theorem spTerms (hp : P "_law_in_terms" = some l_in_terms) (hn : SpNum (callN P Fu n)) (hr : SpLratio (callN P Fu n)) : SpTerms (callN P Fu (n + 1)) := fun u w S h0 hu hw => by
  refine spc (S2 := []) (ds := [rat u w, .int u, .int w]) hp (run_ret rfl ?_) rfl
  have h1 := hr u w [] h0 hu hw
  have h2 := eq_tp (rT u w) (rB u w) (rT u w) (rB u w)
  have n1 := hn (rT u w) []
  have n2 := hn (rB u w) []
  rw [rat_tp] at h1 ⊢
  simp [l_in_terms, isiF, isiT, tyD, h1, n1, n2, h2]
  simp [tp] at h1 h2 ⊢
  simp [tyD, h1, h2, n1, n2]
end
end Mi
namespace Mi
open PySem L2
theorem lcGo_map {el : Slots → Sto → R MV} {cd : Slots → Sto → R Bool} {tg : Tg} {σ : Slots} {S : Sto} (f : MV → MV) : ∀ (xs acc : List MV), (∀ x ∈ xs, ∃ σ1, bindTg tg σ x S = .ok σ1 S ∧ cd σ1 S = .ok true S ∧ el σ1 S = .ok (f x) S) → lcGo el cd tg σ xs acc S = .ok (acc.reverse ++ xs.map f) S
  | [], acc, _ => by simp [lcGo]
  | x :: xs, acc, h => by
    obtain ⟨σ1, h1, h2, h3⟩ := h x (by simp)
    have ih := lcGo_map (el := el) (cd := cd) (tg := tg) (σ := σ) (S := S) f xs (f x :: acc) (fun y hy => h y (by simp [hy]))
    simp only [lcGo, h1, h2, h3, ih]
    simp
/-- .. over any list, by its members -/
theorem lcGo_of {α : Type} {el : Slots → Sto → R MV} {cd : Slots → Sto → R Bool} {tg : Tg} {σ : Slots} {S : Sto} (v : α → MV) (f : α → MV) : ∀ (xs : List α) (acc : List MV), (∀ x ∈ xs, ∃ σ1, bindTg tg σ (v x) S = .ok σ1 S ∧ cd σ1 S = .ok true S ∧ el σ1 S = .ok (f x) S) → lcGo el cd tg σ (xs.map v) acc S = .ok (acc.reverse ++ xs.map f) S
  | [], acc, _ => by simp [lcGo]
  | x :: xs, acc, h => by
    obtain ⟨σ1, h1, h2, h3⟩ := h x (by simp)
    have ih := lcGo_of (el := el) (cd := cd) (tg := tg) (σ := σ) (S := S) v f xs (f x :: acc) (fun y hy => h y (by simp [hy]))
    simp only [List.map_cons, lcGo, h1, h2, h3, ih]
    simp
def pD (ps : List (Int × Int)) : List D := ps.map fun p => tp p.1 p.2
def cuF (u : Int) (ps : List (Int × Int)) : Int := ps.foldl (fun u p => u.fdiv (Int.gcd u p.2) * p.2) u
theorem gcd_ne {u b : Int} (hb : b ≠ 0) : (Int.gcd u b : Int) ≠ 0 := by
  intro z
  have : Int.gcd u b = 0 := by omega
  rw [Int.gcd_eq_zero_iff] at this
  exact hb this.2
section
variable {P : String → Option Df} {n : Nat}
theorem com_for {C : Calls} (hd : SpDiv C) {X : Option MV} {S : Sto} : ∀ (ps : List (Int × Int)) (k : Nat) (u : Int) (x2 x3 : Option MV), (∀ p ∈ ps, p.2 ≠ 0 ∧ Bn 100 p.2) → Bn k u → k + 100 * ps.length ≤ 2900 → ∃ y2 y3,
    forGo (.tp [2, 3]) (exs C Fu d_common_b0) ((pD ps).map .d) [X, some (.d (.int u)), x2, x3] S = .next [X, some (.d (.int (cuF u ps))), y2, y3] S ∧ Bn (k + 100 * ps.length) (cuF u ps)
  | [], k, u, x2, x3, _, hu, _ => ⟨x2, x3, rfl, hu.mono (by simp)⟩
  | p :: ps, k, u, x2, x3, h, hu, hk => by
    obtain ⟨h0, hb⟩ := h p (by simp)
    simp only [List.length_cons] at hk
    have hd1 := hd u p.2 S (hb.mono (by decide))
    have hg : divOk (Int.gcd u p.2 : Int) = true := divB (gcd_ne h0) ((hu.mono (show k ≤ 3000 by omega)).gcd (hb.mono (show 100 ≤ 3000 by decide)))
    have hm : mulOk (u.fdiv (Int.gcd u p.2)) p.2 = true := mulB (hu.fdiv _) hb (by omega)
    have hu2 : Bn (k + 100) (u.fdiv (Int.gcd u p.2) * p.2) := (hu.fdiv _).mul hb
    obtain ⟨y2, y3, ih, hB⟩ := com_for hd ps (k + 100) (u.fdiv (Int.gcd u p.2) * p.2) (some (.d (.int p.1))) (some (.d (.int p.2))) (fun q hq => h q (by simp [hq])) hu2 (by omega)
    refine ⟨y2, y3, ?_, ?_⟩
    · have e : cuF u (p :: ps) = cuF (u.fdiv (Int.gcd u p.2) * p.2) ps := rfl
      rw [e, ← ih]
      simp only [pD, List.map_cons]
      rw [forGo_cons]
      simp [tp, d_common_b0, hd1, hg, hm]
    · have e : cuF u (p :: ps) = cuF (u.fdiv (Int.gcd u p.2) * p.2) ps := rfl
      rw [e]
      exact hB.mono (by simp; omega)
/-- a list or tuple with these items -/
def Seq (x : D) (ds : List D) : Prop := (∃ t, x = .lst t ds) ∨ x = .tup ds
theorem Seq.walked {x : D} {ds : List D} (h : Seq x ds) (S : Sto) : walked (.d x) S = .ok (ds.map .d) S := by
  rcases h with ⟨t, rfl⟩ | rfl <;> rfl
def topsL (ps : List (Int × Int)) : List Int := ps.map fun p => p.1 * (cuF 1 ps).fdiv p.2
def SpCommon (C : Calls) : Prop := ∀ (x : D) (ps : List (Int × Int)) (S : Sto), Seq x (pD ps) → ps.length ≤ 20 → (∀ p ∈ ps, p.2 ≠ 0 ∧ Bn 100 p.1 ∧ Bn 100 p.2) → callM (.bor []) (C "common") [.d x] S = .ok (.d (.tup [.int (cuF 1 ps), .lst false (iD (topsL ps))])) S
theorem cleans_iD : ∀ ns : List Int, cleans (iD ns) = true
  | [] => rfl
  | n :: ns => by simpa [cleans, clean] using cleans_iD ns
theorem spCommon (hp : P "common" = some d_common) (hd : SpDiv (callN P Fu n)) : SpCommon (callN P Fu (n + 1)) := fun x ps S hx hl h => by
  refine spc (S2 := []) (ds := [x]) hp (run_ret rfl ?_) (by simp [clean, cleans, cleans_iD])
  obtain ⟨y2, y3, e, hB⟩ := com_for hd (X := some (.d x)) (S := []) ps 1 1 none none (fun p hp => ⟨(h p hp).1, (h p hp).2.2⟩) (by unfold Bn; decide) (by omega)
  have hw := hx.walked []
  have hB' : Bn 2101 (cuF 1 ps) := hB.mono (by omega)
  have hc := lcGo_of (el := ev (callN P Fu n) (.bin .mul (.var 2) (.bin .fdiv (.var 1) (.var 3)))) (cd := evC (callN P Fu n) .no) (tg := .tp [2, 3]) (σ := [some (.d x), some (.d (.int (cuF 1 ps))), none, none]) (S := [])
    (fun p : Int × Int => MV.d (tp p.1 p.2)) (fun p => .d (.int (p.1 * (cuF 1 ps).fdiv p.2))) ps [] (fun p hp => by
      have hp' := h p hp
      have hdv : divOk p.2 = true := divB hp'.1 hp'.2.2
      have hml : mulOk p.1 ((cuF 1 ps).fdiv p.2) = true := mulB hp'.2.1 (hB'.fdiv _)
      exact ⟨_, by simp [tp]; rfl, rfl, by simp [hdv, hml]⟩)
  have e2 : (pD ps).map MV.d = ps.map fun p => MV.d (tp p.1 p.2) := by simp [pD]
  rw [e2] at hw e
  have e3 : (ps.map fun p => MV.d (.int (p.1 * (cuF 1 ps).fdiv p.2))) = (iD (topsL ps)).map MV.d := by simp [iD, topsL]
  have hz : (ps.length ≤ 1000000) := by omega
  simp only [List.reverse_nil, List.nil_append, e3] at hc
  simp [d_common, hw, e, wipeM]
  simp [hc, newL, newT, szOk, tupV, topsL, hz]
end
end Mi
namespace Mi
open PySem L2
theorem intsOf_map : ∀ ns : List Int, intsOf ((iD ns).map .d) = some ns
  | [] => rfl
  | n :: ns => by
    have := intsOf_map ns
    simp only [iD_cons, List.map_cons, intsOf, this, Option.map_some]
theorem Bn.sum {k : Nat} : ∀ {ns : List Int}, (∀ n ∈ ns, Bn k n) → Bn (k + ns.length) ns.sum
  | [], _ => by unfold Bn; simp; exact Nat.pow_pos (by decide)
  | n :: ns, h => by
    have ih := Bn.sum (k := k) (ns := ns) fun m hm => h m (by simp [hm])
    have h1 : Bn (k + ns.length) n := (h n (by simp)).mono (by omega)
    have := h1.add ih
    simpa [Nat.add_assoc] using this
theorem fdiv_pos {a b : Int} (ha : 0 < a) (hb : 0 < b) (h : b ∣ a) : 0 < a.fdiv b := by
  obtain ⟨c, rfl⟩ := h
  rw [Int.mul_fdiv_cancel_left _ (by omega)]
  rcases Int.lt_or_le 0 c with h | h
  · exact h
  · exfalso
    have : b * c ≤ 0 := Int.mul_nonpos_of_nonneg_of_nonpos (by omega) h
    omega
theorem cuF_pos : ∀ (ps : List (Int × Int)) (u : Int), 0 < u → (∀ p ∈ ps, 0 < p.2) → 0 < cuF u ps
  | [], u, h, _ => h
  | p :: ps, u, h, hp => by
    have h2 := hp p (by simp)
    refine cuF_pos ps _ ?_ fun q hq => hp q (by simp [hq])
    refine Int.mul_pos (fdiv_pos h ?_ (Int.gcd_dvd_left ..)) h2
    have := gcd_ne (u := u) (b := p.2) (by omega)
    omega
section
variable {P : String → Option Df} {n : Nat}
def SpTotal (C : Calls) : Prop := ∀ (x : D) (ps : List (Int × Int)) (S : Sto), Seq x (pD ps) → ps.length ≤ 20 → (∀ p ∈ ps, 0 < p.2 ∧ Bn 100 p.1 ∧ Bn 100 p.2) → callM (.bor []) (C "total") [.d x] S = .ok (.d (rat (topsL ps).sum (cuF 1 ps))) S
theorem spTotal (hp : P "total" = some d_total) (hd : SpDiv (callN P Fu n)) (hc : SpCommon (callN P Fu n)) (hr : SpRatio (callN P Fu n)) : SpTotal (callN P Fu (n + 1)) := fun x ps S hx hl h => by
  refine spc (S2 := []) (ds := [x]) hp (run_ret rfl ?_) rfl
  have hc1 := hc x ps [] hx hl (fun p hp => ⟨by have := (h p hp).1; omega, (h p hp).2⟩)
  obtain ⟨_, _, _, hB⟩ := com_for hd (X := none) (S := []) ps 1 1 none none (fun p hp => ⟨by have := (h p hp).1; omega, (h p hp).2.2⟩) (by unfold Bn; decide) (by omega)
  have hB' : Bn 2101 (cuF 1 ps) := hB.mono (by omega)
  have hu : 0 < cuF 1 ps := cuF_pos ps 1 (by decide) fun p hp => (h p hp).1
  have hs : Bn 3000 (topsL ps).sum := by
    have : Bn (2201 + (topsL ps).length) (topsL ps).sum := Bn.sum fun m hm => by
      simp only [topsL, List.mem_map] at hm
      obtain ⟨p, hp, rfl⟩ := hm
      exact ((h p hp).2.1.mul (hB'.fdiv _)).mono (by decide)
    exact this.mono (by simp [topsL]; omega)
  have hr1 := hr.1 (topsL ps).sum (cuF 1 ps) [] (by omega) hs (hB'.mono (by decide))
  simp [d_total, hc1, intsOf_map, hr1]
/-- a drawn integer -/
def SpInteger (C : Calls) : Prop := ∀ (S : Sto) (i : Nat) (a h : Int) (ns : List Int), S[i]? = some (pl a h ns) → 0 ≤ a → a + 2 ≤ 1000000 → ns.length ≤ 1000 →
  ∃ z a' h', Bn 98 z ∧ 0 ≤ a' ∧ a' ≤ a + 2 ∧ callM (.bor [true]) (C "_law_integer") [.c i] S = .ok (.d (.int z)) (S.set i (pl a' h' ns))
theorem spInteger (hp : P "_law_integer" = some l_integer) (ht : SpTake (callN P Fu n)) : SpInteger (callN P Fu (n + 1)) := fun S i a h ns hi h0 h1 hns => by
  obtain ⟨r, a1, h1', q1, q2, q3, q4, e1⟩ := ht [pl a h ns] 0 a h ns 4 rfl h0 (by omega) hns (by decide) (by unfold Bn; decide)
  have key : ∀ z : Int, 0 < z → z ≤ 10 ^ 29 → r = 0 ∧ z = 3 ∨ r = 1 ∧ z = 12 ∨ r = 2 ∧ z = 1000 ∨ r = 3 ∧ z = 10 ^ 29 →
      ∃ z a' h', Bn 98 z ∧ 0 ≤ a' ∧ a' ≤ a + 2 ∧ callM (.bor [true]) (callN P Fu (n + 1) "_law_integer") [.c i] S = .ok (.d (.int z)) (S.set i (pl a' h' ns)) := fun z z0 z1 hz => by
    obtain ⟨r2, a2, h2, p1, p2, p3, p4, e2⟩ := ht [pl a1 h1' ns] 0 a1 h1' ns (2 * z + 1) rfl q3 (by omega) hns (by omega) (.mk <| Nat.lt_of_lt_of_le (show (2 * z + 1).natAbs < 2 ^ 99 by omega) (Nat.pow_le_pow_right (by decide) (by decide)))
    refine ⟨r2 - z, a2, h2, by unfold Bn; omega, p3, by omega, ?_⟩
    rw [callN_eq hp]
    have m1 : mulOk 2 z = true := mulOk_of (a := 2) (b := 98) (by decide) (by omega)
    have pw : powOk 10 29 = true := by decide
    refine lend1 (ds := []) (v := .d (.int (r2 - z))) (S2 := [pl a2 h2 ns]) hi (pl_ok _ _ _) rfl (run_ret rfl ?_) (freeze_d _ _ _) rfl rfl (pl_ok _ _ _)
    simp at e1 e2
    rcases hz with ⟨hr, hz⟩ | ⟨hr, hz⟩ | ⟨hr, hz⟩ | ⟨hr, hz⟩ <;> subst hr <;> subst hz <;> simp at e2 m1 <;> simp [l_integer, newL, szOk, pw, m1, e1, e2]
  have hr : r = 0 ∨ r = 1 ∨ r = 2 ∨ r = 3 := by omega
  rcases hr with hr | hr | hr | hr
  · exact key 3 (by decide) (by decide) (.inl ⟨hr, rfl⟩)
  · exact key 12 (by decide) (by decide) (.inr (.inl ⟨hr, rfl⟩))
  · exact key 1000 (by decide) (by decide) (.inr (.inr (.inl ⟨hr, rfl⟩)))
  · exact key (10 ^ 29) (by decide) (by decide) (.inr (.inr (.inr ⟨hr, rfl⟩)))
def SpRefused (C : Calls) : Prop := ∀ (u : Int) (S : Sto), callM (.bor []) (C "_law_refused") [.d (.int u)] S = .ok (.d (.bl true)) S
theorem spRefused (hp : P "_law_refused" = some l_refused) (hr : SpRatio (callN P Fu n)) : SpRefused (callN P Fu (n + 1)) := fun u S => by
  refine spc (S2 := []) (ds := [.int u]) hp (run_ret rfl ?_) rfl
  have h1 := hr.2 u []
  simp [l_refused, h1, hdGo, hxD]
def SpLover (C : Calls) : Prop := ∀ (x : D) (d : Int) (S : Sto), callM (.bor []) (C "_law_over") [.d x, .d (tp 0 d)] S = .ok (.d (.int 0)) S
theorem spLover (hp : P "_law_over" = some l_over) (hr : SpOver (callN P Fu n)) : SpLover (callN P Fu (n + 1)) := fun x d S => by
  refine spc (S2 := []) (ds := [x, tp 0 d]) hp (run_ret rfl ?_) rfl
  have h1 := hr.2 x d []
  simp [l_over, h1, hdGo, hxD, haD]
def SpTwo (C : Calls) : Prop := ∀ (a b c d : Int) (S : Sto), b ≠ 0 → d ≠ 0 → Bn 100 a → Bn 100 b → Bn 100 c → Bn 100 d → callM (.bor []) (C "_law_two_right") [.d (tp a b), .d (tp c d)] S = .ok (.d (.bl true)) S
theorem spTwo (hp : P "_law_two_right" = some l_two_right) (h1 : SpPlus (callN P Fu n)) (h2 : SpMinus (callN P Fu n)) (h3 : SpTimes (callN P Fu n)) (h4 : SpOver (callN P Fu n)) (h5 : SpLover (callN P Fu n)) (h6 : SpCompare (callN P Fu n)) (h7 : SpNum (callN P Fu n)) (h8 : SpTerms (callN P Fu n)) : SpTwo (callN P Fu (n + 1)) := fun a b c d S hb hd ba bb bc bd => by
  refine spc (S2 := []) (ds := [tp a b, tp c d]) hp (run_ret rfl ?_) rfl
  have B : ∀ {x : Int}, Bn 100 x → Bn 1000 x := fun h => h.mono (by decide)
  have hbd := Int.mul_ne_zero hb hd
  have w : ∀ {x y : Int}, Bn 100 x → Bn 100 y → Bn 200 (x * y) := fun hx hy => hx.mul hy
  have p1 := h1 a b c d [] hb hd (B ba) (B bb) (B bc) (B bd)
  have t1 := h8 (a * d + c * b) (b * d) [] hbd (((w ba bd).add (w bc bb)).mono (by decide)) ((w bb bd).mono (by decide))
  have p2 := h2 a b c d [] hb hd (B ba) (B bb) (B bc) (B bd)
  have t2 := h8 (a * d - c * b) (b * d) [] hbd (((w ba bd).sub (w bc bb)).mono (by decide)) ((w bb bd).mono (by decide))
  have p3 := h3 a b c d [] hb hd (B ba) (B bb) (B bc) (B bd)
  have t3 := h8 (a * c) (b * d) [] hbd ((w ba bc).mono (by decide)) ((w bb bd).mono (by decide))
  have p6 := h6 a b c d [] (B ba) (B bb) (B bc) (B bd)
  have n6 := h7 (cmp3 (a * d) (c * b)) []
  simp only [cmp3] at n6
  have m1 := mulB ba bd
  have m2 := mulB bc bb
  have m3 := mulB bb bd
  have m4 := mulB ba bc
  by_cases hc : c = 0
  · subst hc
    have p4 := h5 (tp a b) d []
    simp only [tp] at p1 p2 p3 p4 p6 t1 t2 t3
    simp [l_two_right, tp, m1, m2, m3, m4] at p1 p2 p3 p4 p6 t1 t2 t3 n6 ⊢
    simp [p1, p2, p3, p4, p6, t1, t2, t3, n6, cmp3, m1, m2, m3, m4]
  · have p4 := h4.1 a b c d [] hb hc (B ba) (B bb) (B bc) (B bd)
    have t4 := h8 (a * d) (c * b) [] (Int.mul_ne_zero hc hb) ((w ba bd).mono (by decide)) ((w bc bb).mono (by decide))
    rw [Int.mul_comm b c] at p4
    simp only [tp] at p1 p2 p3 p4 p6
    simp [l_two_right, tp, m1, m2, m3, m4, p1, p2, p3, p4, p6, t1, t2, t3, t4, n6, hc, cmp3]
end
end Mi
namespace Mi
open PySem L2
/-! ### lowest terms are one's own -/
theorem rp_dvd_l (t b : Int) : rp t b ∣ t := by
  unfold rp
  split
  · exact Int.neg_dvd.mpr (Int.gcd_dvd_left ..)
  · exact Int.gcd_dvd_left ..
theorem rp_dvd_r (t b : Int) : rp t b ∣ b := by
  unfold rp
  split
  · exact Int.neg_dvd.mpr (Int.gcd_dvd_right ..)
  · exact Int.gcd_dvd_right ..
theorem rp_abs (t b : Int) : (rp t b).natAbs = Int.gcd t b := by
  unfold rp
  split <;> simp
theorem rT_mul (t b : Int) : rp t b * rT t b = t := by
  unfold rT
  by_cases h : rp t b = 0
  · have := rp_dvd_l t b
    rw [h] at this ⊢
    have := Int.zero_dvd.mp this
    subst this
    simp
  · obtain ⟨c, hc⟩ := rp_dvd_l t b
    have : t.fdiv (rp t b) = c := by
      have h2 : (rp t b * c).fdiv (rp t b) = c := Int.mul_fdiv_cancel_left _ h
      rw [← hc] at h2; exact h2
    rw [this]; exact hc.symm
theorem rB_mul (t b : Int) : rp t b * rB t b = b := by
  unfold rB
  by_cases h : rp t b = 0
  · have := rp_dvd_r t b
    rw [h] at this ⊢
    have := Int.zero_dvd.mp this
    subst this
    simp
  · obtain ⟨c, hc⟩ := rp_dvd_r t b
    have : b.fdiv (rp t b) = c := by
      have h2 : (rp t b * c).fdiv (rp t b) = c := Int.mul_fdiv_cancel_left _ h
      rw [← hc] at h2; exact h2
    rw [this]; exact hc.symm
theorem rB_pos {t b : Int} (h : b ≠ 0) : 0 < rB t b := by
  have h1 := rB_mul t b
  have h2 := rp_ne (t := t) h
  have h3 : (b < 0 → rp t b < 0) ∧ (¬ b < 0 → 0 < rp t b) := by
    have g : 0 < (Int.gcd t b : Int) := by
      have := gcd_ne (u := t) h
      omega
    unfold rp
    constructor
    · intro z; rw [if_pos z]; omega
    · intro z; rw [if_neg z]; exact g
  rcases Int.lt_or_le 0 (rB t b) with z | z
  · exact z
  · exfalso
    by_cases hb : b < 0
    · have := Int.mul_nonneg_of_nonpos_of_nonpos (Int.le_of_lt (h3.1 hb)) z
      omega
    · have := Int.mul_nonpos_of_nonneg_of_nonpos (Int.le_of_lt (h3.2 hb)) z
      omega
theorem r_cop {t b : Int} (h : b ≠ 0) : Int.gcd (rT t b) (rB t b) = 1 := by
  have h1 : Int.gcd (rp t b * rT t b) (rp t b * rB t b) = (rp t b).natAbs * Int.gcd (rT t b) (rB t b) := Int.gcd_mul_left ..
  rw [rT_mul, rB_mul, rp_abs] at h1
  have h2 : 0 < Int.gcd t b := Nat.pos_of_ne_zero fun z => by
    have := gcd_ne (u := t) h
    omega
  exact Nat.eq_of_mul_eq_mul_left h2 (by omega)
theorem dvd_cop {a b c : Int} (h : a ∣ b * c) (hg : Int.gcd a b = 1) : a ∣ c := by
  have h1 : a.natAbs ∣ b.natAbs * c.natAbs := by rw [← Int.natAbs_mul]; exact Int.natAbs_dvd_natAbs.mpr h
  have h2 : Nat.Coprime a.natAbs b.natAbs := hg
  exact Int.natAbs_dvd_natAbs.mp (h2.dvd_of_dvd_mul_left h1)
theorem rat_eq {a b c d : Int} (hb : b ≠ 0) (hd : d ≠ 0) (h : a * d = c * b) : rat a b = rat c d := by
  have key : rT a b * rB c d = rT c d * rB a b := by
    have hp := rp_ne (t := a) hb
    have hq := rp_ne (t := c) hd
    refine Int.eq_of_mul_eq_mul_left (Int.mul_ne_zero hp hq) ?_
    have e1 : rp a b * rp c d * (rT a b * rB c d) = (rp a b * rT a b) * (rp c d * rB c d) := by
      simp [Int.mul_assoc, Int.mul_comm, Int.mul_left_comm]
    have e2 : rp a b * rp c d * (rT c d * rB a b) = (rp c d * rT c d) * (rp a b * rB a b) := by
      simp [Int.mul_assoc, Int.mul_comm, Int.mul_left_comm]
    rw [e1, e2, rT_mul, rB_mul, rT_mul, rB_mul]
    exact h
  have p1 := rB_pos (t := a) hb
  have p2 := rB_pos (t := c) hd
  have c1 := r_cop (t := a) hb
  have c2 := r_cop (t := c) hd
  have d1 : (rB a b) ∣ (rB c d) := by
    refine dvd_cop (a := rB a b) (b := rT a b) (c := rB c d) ?_ (by rw [Int.gcd_comm]; exact c1)
    exact ⟨rT c d, by rw [key, Int.mul_comm]⟩
  have d2 : (rB c d) ∣ (rB a b) := by
    refine dvd_cop (a := rB c d) (b := rT c d) (c := rB a b) ?_ (by rw [Int.gcd_comm]; exact c2)
    exact ⟨rT a b, by rw [← key, Int.mul_comm]⟩
  have e : rB a b = rB c d := Int.le_antisymm (Int.le_of_dvd p2 d1) (Int.le_of_dvd p1 d2)
  have e2 : rT a b = rT c d := by
    rw [e] at key
    exact Int.eq_of_mul_eq_mul_right (by omega) key
  simp [rat, e, e2]
theorem rT_bn {k : Nat} {t b : Int} (h : Bn k t) : Bn k (rT t b) := h.fdiv _
theorem rB_bn {k : Nat} {t b : Int} (h : Bn k b) : Bn k (rB t b) := h.fdiv _
/-! ### sums -/
/-- pairs, added up -/
def ud (s : Int × Int) (qs : List (Int × Int)) : Int × Int := qs.foldl (fun s q => (s.1 * q.2 + s.2 * q.1, s.2 * q.2)) s
def low (qs : List (Int × Int)) : List (Int × Int) := qs.map fun q => (rT q.1 q.2, rB q.1 q.2)
def prodB (qs : List (Int × Int)) : Int := qs.foldl (fun s q => s * q.2) 1
theorem ud_eq (U : Int) : ∀ (qs : List (Int × Int)) (u d : Int), (∀ q ∈ qs, q.2 ≠ 0 ∧ rB q.1 q.2 ∣ U) → ∃ pp : Int, ((∀ q ∈ qs, q.2 ≠ 0) → pp ≠ 0) ∧ (ud (u, d) qs).2 = d * pp ∧ (ud (u, d) qs).1 * U = (u * U + d * ((low qs).map fun p => p.1 * U.fdiv p.2).sum) * pp
  | [], u, d, _ => ⟨1, fun _ => by decide, by simp [ud], by simp [ud, low]⟩
  | q :: qs, u, d, h => by
    obtain ⟨h0, hU⟩ := h q (by simp)
    obtain ⟨pp, e0, e1, e2⟩ := ud_eq U qs (u * q.2 + d * q.1) (d * q.2) (fun p hp => h p (by simp [hp]))
    have eu : ud (u, d) (q :: qs) = ud (u * q.2 + d * q.1, d * q.2) qs := rfl
    refine ⟨q.2 * pp, fun z => Int.mul_ne_zero h0 (e0 fun p hp => z p (by simp [hp])), by rw [eu, e1, Int.mul_assoc], ?_⟩
    rw [eu, e2]
    have k1 : rT q.1 q.2 * q.2 = q.1 * rB q.1 q.2 := by
      have a1 := rT_mul q.1 q.2
      have a2 := rB_mul q.1 q.2
      have : rT q.1 q.2 * (rp q.1 q.2 * rB q.1 q.2) = (rp q.1 q.2 * rT q.1 q.2) * rB q.1 q.2 := by
        simp [Int.mul_assoc, Int.mul_comm, Int.mul_left_comm]
      rw [a1, a2] at this
      exact this
    obtain ⟨c, hc⟩ := hU
    have hB : rB q.1 q.2 ≠ 0 := by have := rB_pos (t := q.1) h0; omega
    have k2 : U.fdiv (rB q.1 q.2) = c := by
      have : (rB q.1 q.2 * c).fdiv (rB q.1 q.2) = c := Int.mul_fdiv_cancel_left _ hB
      rw [← hc] at this; exact this
    have k3 : rT q.1 q.2 * c * q.2 = q.1 * U := by
      rw [hc, ← Int.mul_assoc, ← k1]
      simp [Int.mul_assoc, Int.mul_comm, Int.mul_left_comm]
    simp only [low, List.map_cons, List.sum_cons, k2]
    generalize ((List.map (fun q => (rT q.1 q.2, rB q.1 q.2)) qs).map fun p => p.1 * U.fdiv p.2).sum = Z
    rw [← Int.mul_assoc]
    congr 1
    have : d * (rT q.1 q.2 * c + Z) * q.2 = d * (rT q.1 q.2 * c * q.2) + d * Z * q.2 := by
      simp [Int.mul_add, Int.add_mul, Int.mul_assoc]
    rw [Int.add_mul, Int.add_mul, this, k3]
    simp [Int.mul_assoc, Int.mul_comm, Int.mul_left_comm, Int.add_assoc, Int.add_comm, Int.add_left_comm, Int.mul_add, Int.add_mul]
/-- each bottom divides the unit -/
theorem cuF_dvd : ∀ (ps : List (Int × Int)) (u : Int), (∀ p ∈ ps, p.2 ≠ 0) → u ∣ cuF u ps ∧ ∀ p ∈ ps, p.2 ∣ cuF u ps
  | [], u, _ => ⟨Int.dvd_refl u, fun p hp => by simp at hp⟩
  | p :: ps, u, h => by
    obtain ⟨h1, h2⟩ := cuF_dvd ps (u.fdiv (Int.gcd u p.2) * p.2) (fun q hq => h q (by simp [hq]))
    have hg := gcd_ne (u := u) (h p (by simp))
    have e : cuF u (p :: ps) = cuF (u.fdiv (Int.gcd u p.2) * p.2) ps := rfl
    rw [e]
    refine ⟨Int.dvd_trans ?_ h1, fun q hq => ?_⟩
    · obtain ⟨x, hx⟩ := Int.gcd_dvd_left (a := u) (b := p.2)
      obtain ⟨y, hy⟩ := Int.gcd_dvd_right (a := u) (b := p.2)
      refine ⟨y, ?_⟩
      have : u.fdiv (Int.gcd u p.2) = x := by
        have h3 : ((Int.gcd u p.2 : Int) * x).fdiv (Int.gcd u p.2) = x := Int.mul_fdiv_cancel_left _ hg
        rw [← hx] at h3; exact h3
      rw [this]
      conv => lhs; arg 2; rw [hy]
      rw [← Int.mul_assoc, Int.mul_comm x, ← hx]
    · rcases List.mem_cons.mp hq with rfl | hq
      · exact Int.dvd_trans ⟨u.fdiv (Int.gcd u q.2), Int.mul_comm ..⟩ h1
      · exact h2 q hq
theorem total_eq {qs : List (Int × Int)} (h : ∀ q ∈ qs, q.2 ≠ 0) : rat (topsL (low qs)).sum (cuF 1 (low qs)) = rat (ud (0, 1) qs).1 (ud (0, 1) qs).2 ∧ (ud (0, 1) qs).2 ≠ 0 := by
  have hb : ∀ p ∈ low qs, p.2 ≠ 0 := fun p hp => by
    simp only [low, List.mem_map] at hp
    obtain ⟨q, hq, rfl⟩ := hp
    have := rB_pos (t := q.1) (h q hq)
    simp; omega
  have hpos : ∀ p ∈ low qs, 0 < p.2 := fun p hp => by
    simp only [low, List.mem_map] at hp
    obtain ⟨q, hq, rfl⟩ := hp
    exact rB_pos (h q hq)
  obtain ⟨_, hd⟩ := cuF_dvd (low qs) 1 hb
  have hU := cuF_pos (low qs) 1 (by decide) hpos
  obtain ⟨pp, e0, e1, e2⟩ := ud_eq (cuF 1 (low qs)) qs 0 1 (fun q hq => ⟨h q hq, hd (rT q.1 q.2, rB q.1 q.2) (by simp only [low, List.mem_map]; exact ⟨q, hq, rfl⟩)⟩)
  have hn : (ud (0, 1) qs).2 ≠ 0 := by rw [e1]; simpa using e0 h
  refine ⟨rat_eq (by omega) hn ?_, hn⟩
  rw [e2, e1]
  simp [topsL]
end Mi
namespace Mi
open PySem L2
theorem forGo_inv {tg : Tg} {body : Slots → Sto → F} (I : Slots → Sto → Prop) : ∀ (xs : List MV), (∀ x ∈ xs, ∀ σ S, I σ S → ∃ σ1 S1 σ2 S2, bindTg tg σ x S = .ok σ1 S1 ∧ body σ1 S1 = .next σ2 S2 ∧ I σ2 S2) → ∀ σ S, I σ S → ∃ σ' S', forGo tg body xs σ S = .next σ' S' ∧ I σ' S'
  | [], _, σ, S, h => ⟨σ, S, rfl, h⟩
  | x :: xs, hx, σ, S, h => by
    obtain ⟨σ1, S1, σ2, S2, e1, e2, h2⟩ := hx x (by simp) σ S h
    obtain ⟨σ', S', e, h'⟩ := forGo_inv I xs (fun y hy => hx y (by simp [hy])) σ2 S2 h2
    exact ⟨σ', S', by rw [forGo_cons, e1]; simp only [e2, e], h'⟩
theorem enumL_d : ∀ (ds : List D) (k : Nat) (v : MV), v ∈ enumL k (ds.map .d) → ∃ (i : Nat) (d : D), ds[i]? = some d ∧ v = .d (.tup [.int ((k + i : Nat) : Int), d])
  | [], k, v, h => by simp [enumL] at h
  | d :: ds, k, v, h => by
    simp only [List.map_cons, enumL, List.mem_cons] at h
    rcases h with rfl | h
    · exact ⟨0, d, rfl, by simp [tupV]⟩
    · obtain ⟨i, d', h1, h2⟩ := enumL_d ds (k + 1) v h
      exact ⟨i + 1, d', by simpa using h1, by rw [h2]; congr 5; omega⟩
section
variable {P : String → Option Df} {n : Nat}
/-! ### integers -/
/-- what is_integer tells -/
def isInt : D → Bool
  | .int _ => true
  | _ => false
def SpInt (C : Calls) : Prop := ∀ (x : D) (S : Sto), dep 8 x = true → callM (.bor []) (C "is_integer") [.d x] S = .ok (.d (.bl (isInt x))) S
theorem spInt (hp : P "is_integer" = some d_is_integer) : SpInt (callN P Fu (n + 1)) := fun x S hx => by
  refine spc (S2 := []) (ds := [x]) hp (run_ret rfl ?_) rfl
  cases x <;> first | (simp [d_is_integer, isiF, tyD, isiT, isInt]; done) | (simp [dep] at hx)
/-! ### lowest -/
def gcdF (g : Nat) (ns : List Int) : Nat := ns.foldl (fun g n => Int.gcd n g) g
theorem gcdF_bn {k : Nat} : ∀ (ns : List Int) (g : Nat), (∀ n ∈ ns, Bn k n) → Bn k (g : Int) → Bn k (gcdF g ns : Int)
  | [], g, _, h => h
  | n :: ns, g, h, hg => gcdF_bn ns _ (fun k hk => h k (by simp [hk])) ((h n (by simp)).gcd hg)
theorem low_for {C : Calls} (hd : SpDiv C) {X : Option MV} {S : Sto} : ∀ (ns : List Int) (g : Nat) (x2 : Option MV), (∀ n ∈ ns, Bn 3000 n) → ∃ y2,
    forGo (.nm 2) (exs C Fu d_lowest_b0) ((iD ns).map .d) [X, some (.d (.int (g : Int))), x2] S = .next [X, some (.d (.int (gcdF g ns : Nat))), y2] S
  | [], g, x2, _ => ⟨x2, rfl⟩
  | n :: ns, g, x2, h => by
    obtain ⟨y2, ih⟩ := low_for hd (X := X) (S := S) ns (Int.gcd n g) (some (.d (.int n))) (fun k hk => h k (by simp [hk]))
    refine ⟨y2, ?_⟩
    have hd1 := hd (g : Int) n S (h n (by simp))
    rw [Int.gcd_comm] at hd1
    simp only [iD_cons, List.map_cons]
    rw [forGo_cons]
    simp [hd1, d_lowest_b0]
    exact ih
/-- what lowest gives -/
def lowL (ns : List Int) : List Int := if gcdL ns = 0 then ns else ns.map fun n => n.fdiv (gcdL ns)
theorem Seq.items {x : D} {ds : List D} (h : Seq x ds) (S : Sto) : items S (.d x) = some (ds.map .d) := by
  rcases h with ⟨t, rfl⟩ | rfl <;> rfl
theorem Seq.nscr {x : D} {ds : List D} (h : Seq x ds) : ∀ ns, MV.d x ≠ .d (.scr ns) := by
  rcases h with ⟨t, rfl⟩ | rfl <;> (intro ns z; cases z)
def SpLowest (C : Calls) : Prop := ∀ (x : D) (ns : List Int) (S : Sto), Seq x (iD ns) → (∀ n ∈ ns, Bn 3000 n) → ns.length ≤ 100000 → callM (.bor []) (C "lowest") [.d x] S = .ok (.d (.lst false (iD (lowL ns)))) S
theorem spLowest (hp : P "lowest" = some d_lowest) (hd : SpDiv (callN P Fu n)) : SpLowest (callN P Fu (n + 1)) := fun x ns S hx hb hl => by
  refine spc (S2 := []) (ds := [x]) hp (run_ret rfl ?_) (by simp [clean, cleans_iD])
  obtain ⟨y2, e⟩ := low_for hd (X := some (.d x)) (S := []) ns 0 none hb
  have e' : (((0 : Nat) : Int)) = 0 := rfl
  rw [e'] at e
  have hw := hx.walked []
  have hi := hx.items []
  have hns := hx.nscr
  have hz : ns.length ≤ 1000000 := by omega
  have hg : gcdL ns = gcdF 0 ns := rfl
  by_cases h0 : gcdF 0 ns = 0
  · have hL : lowL ns = ns := by simp [lowL, hg, h0]
    rw [hL]
    simp [d_lowest, hw, e, h0, hi, hns, newL, szOk, hz]
  · have hL : lowL ns = ns.map fun n => n.fdiv (gcdF 0 ns) := by simp [lowL, hg, h0]
    rw [hL]
    have hB : Bn 3000 (gcdF 0 ns : Int) := gcdF_bn ns 0 hb (by unfold Bn; simp; exact Nat.pow_pos (by decide))
    have hdv : divOk (gcdF 0 ns : Int) = true := divB (by omega) hB
    have hc := fun Y => lcGo_of (el := ev (callN P Fu n) (.bin .fdiv (.var 2) (.var 1))) (cd := evC (callN P Fu n) .no) (tg := .nm 2) (σ := [some (.d x), some (.d (.int (gcdF 0 ns : Nat))), Y]) (S := [])
      (fun m : Int => MV.d (.int m)) (fun m => .d (.int (m.fdiv (gcdF 0 ns)))) ns [] (fun m hm => ⟨_, rfl, rfl, by simp [hdv]⟩)
    have e2 : (iD ns).map MV.d = ns.map fun m => MV.d (.int m) := by simp [iD]
    have e3 : (ns.map fun m => MV.d (.int (m.fdiv (gcdF 0 ns)))) = (iD (ns.map fun m => m.fdiv (gcdF 0 ns))).map MV.d := by simp [iD]
    rw [e2] at hw e
    simp only [List.reverse_nil, List.nil_append, e3] at hc
    simp [d_lowest, hw, e, h0, wipeM, hc, newL, szOk, hz]
end
end Mi
namespace Mi
open PySem L2
@[simp] theorem bltF_all (c : Bool) (v : MV) (S : Sto) : bltF c .all [v] S = match (litems S v).bind blsOf with
    | some bs => .ok (.d (.bl (bs.all id))) S
    | none => .stuck := rfl
@[simp] theorem bltF_any (c : Bool) (v : MV) (S : Sto) : bltF c .any [v] S = match (litems S v).bind blsOf with
    | some bs => .ok (.d (.bl (bs.any id))) S
    | none => .stuck := rfl
section
variable {P : String → Option Df} {n : Nat}
/-! ### checks -/
/-- an integer of at least 1 -/
def isUnit : D → Bool
  | .int i => decide (1 ≤ i)
  | _ => false
def SpUnit (C : Calls) : Prop := ∀ (x : D) (S : Sto), dep 8 x = true → clean x = true → callM (.bor []) (C "check_unit") [.d x] S = if isUnit x then .ok (.d .non) S else .exc "BadUnit" [("unit", x)] S
theorem spUnit (hp : P "check_unit" = some d_check_unit) (hi : SpInt (callN P Fu n)) : SpUnit (callN P Fu (n + 1)) := fun x S hx hc => by
  have h1 := hi x [] hx
  cases hu : isUnit x with
  | true =>
    rw [if_pos rfl]
    obtain ⟨i, rfl⟩ : ∃ i, x = .int i := by cases x <;> first | exact ⟨_, rfl⟩ | simp [isUnit] at hu
    have : ¬ i < 1 := by simp [isUnit] at hu; omega
    exact spc (S2 := []) (ds := [.int i]) hp (run_next (σ := [some (.d (.int i))]) rfl (by simp [d_check_unit, h1, isInt, this])) rfl
  | false =>
    rw [if_neg Bool.false_ne_true]
    refine spx (S2 := []) (ds := [x]) hp (run_exc (σ := [some (.d x)]) rfl ?_) (by simp [cleanF, hc])
    cases x with
    | int i =>
      have : i < 1 := by simp [isUnit] at hu; omega
      simp [d_check_unit, h1, isInt, this]
    | _ => simp [d_check_unit, h1, isInt]
/-- a table of integers, as lists or tuples -/
inductive Rows : List D → List (List Int) → Prop
  | nil : Rows [] []
  | cons {x : D} {r : List Int} {ds : List D} {rs : List (List Int)} : Seq x (iD r) → Rows ds rs → Rows (x :: ds) (r :: rs)
theorem Rows.get {ds : List D} {rs : List (List Int)} (h : Rows ds rs) : ∀ {i : Nat} {d : D}, ds[i]? = some d → ∃ r, rs[i]? = some r ∧ Seq d (iD r) := by
  induction h with
  | nil => intro i d e; simp at e
  | cons hx _ ih =>
    intro i d e
    cases i with
    | zero => simp at e; subst e; exact ⟨_, by simp, hx⟩
    | succ i => simp at e; simpa using ih e
theorem Rows.length {ds : List D} {rs : List (List Int)} (h : Rows ds rs) : ds.length = rs.length := by
  induction h with
  | nil => rfl
  | cons _ _ ih => simp [ih]
/-- a right table: as wide rows, nothing below 0, each with the unit's sum -/
structure Right (u : Int) (w : Nat) (rs : List (List Int)) : Prop where
  u1 : 1 ≤ u
  ub : Bn 2000 u
  wide : ∀ r ∈ rs, r.length = w
  pos : ∀ r ∈ rs, ∀ z ∈ r, 0 ≤ z
  sum : ∀ r ∈ rs, r.sum = u
theorem sum_nn : ∀ {r : List Int}, (∀ z ∈ r, 0 ≤ z) → 0 ≤ r.sum
  | [], _ => by simp
  | y :: r, hp => by
    have h1 := sum_nn (r := r) fun z hz => hp z (by simp [hz])
    have h2 := hp y (by simp)
    simp; omega
theorem sum_ge : ∀ {r : List Int}, (∀ z ∈ r, 0 ≤ z) → ∀ z ∈ r, z ≤ r.sum
  | [], _, z, h => by simp at h
  | x :: r, hp, z, h => by
    have h0 : 0 ≤ r.sum := sum_nn fun z hz => hp z (by simp [hz])
    have hx := hp x (by simp)
    rcases List.mem_cons.mp h with h | h
    · subst h; simp; omega
    · have := sum_ge (fun z hz => hp z (by simp [hz])) z h
      simp; omega
theorem Right.bn {u : Int} {w : Nat} {rs : List (List Int)} (h : Right u w rs) {r : List Int} (hr : r ∈ rs) {z : Int} (hz : z ∈ r) : Bn 2000 z := by
  have h1 := sum_ge (h.pos r hr) z hz
  have h2 := h.pos r hr z hz
  rw [h.sum r hr] at h1
  have := h.ub
  unfold Bn at *
  omega
theorem blsOf_rep (b : Bool) : ∀ {α : Type} (xs : List α), blsOf (xs.map fun _ => MV.d (.bl b)) = some (xs.map fun _ => b)
  | _, [] => rfl
  | _, x :: xs => by simp [blsOf, blsOf_rep b xs]
def SpRows (C : Calls) : Prop := ∀ (x : D) (ds : List D) (rs : List (List Int)) (u : Int) (w : Nat) (S : Sto), Seq x ds → Rows ds rs → rs ≠ [] → rs.length ≤ 1000 → w ≤ 1000 → Right u w rs → callM (.bor []) (C "check_rows") [.d (.int u), .d x] S = .ok (.d .non) S
theorem spRows (hp : P "check_rows" = some d_check_rows) (hi : SpInt (callN P Fu n)) : SpRows (callN P Fu (n + 1)) := fun x ds rs u w S hx hr hne hl hw R => by
  have hw1 := hx.walked []
  have hit := hx.items []
  obtain ⟨d0, ds', rfl⟩ : ∃ d0 ds', ds = d0 :: ds' := by
    cases ds with
    | nil => cases hr; exact absurd rfl hne
    | cons d ds => exact ⟨d, ds, rfl⟩
  obtain ⟨r0, h0, s0⟩ := hr.get (i := 0) (d := d0) rfl
  have m0 : r0 ∈ rs := List.mem_of_getElem? h0
  have it0 := s0.items []
  have l0 : r0.length = w := R.wide r0 m0
  obtain ⟨σ', S', e, x2, x3, x4, e1, e2⟩ := forGo_inv (tg := .tp [2, 3]) (body := exs (callN P Fu n) Fu d_check_rows_b0) (fun σ S => ∃ x2 x3 x4, σ = [some (.d (.int u)), some (.d x), x2, x3, x4, none] ∧ S = [])
    (enumL 0 ((d0 :: ds').map .d)) (fun v hv σ S ⟨x2, x3, x4, e1, e2⟩ => by
      obtain ⟨i, d, hd, rfl⟩ := enumL_d _ 0 v hv
      subst e1 e2
      obtain ⟨r, hr1, sq⟩ := hr.get hd
      have mr : r ∈ rs := List.mem_of_getElem? hr1
      have itr := sq.items []
      have wr := sq.walked []
      have lr : r.length = w := R.wide r mr
      have hc := lcGo_of (el := ev (callN P Fu n) (.and_ (.call (.bor []) "is_integer" (.cons (.var 5) .nil)) (.one (.cmp .ge (.var 5) (.int 0))))) (cd := evC (callN P Fu n) .no) (tg := .nm 5) (σ := [some (.d (.int u)), some (.d x), some (.d (.int (i : Int))), some (.d d), x4, none]) (S := [])
        (fun m : Int => MV.d (.int m)) (fun m => .d (.bl true)) r [] (fun m hm => by
          have h1 := hi (.int m) [] (by simp [dep])
          have h2 := R.pos r mr m hm
          exact ⟨_, rfl, rfl, by simp [h1, isInt, h2]⟩)
      have e3 : (iD r).map MV.d = r.map fun m => MV.d (.int m) := by simp [iD]
      rw [e3] at wr
      refine ⟨[some (.d (.int u)), some (.d x), some (.d (.int (i : Int))), some (.d d), x4, none], [], [some (.d (.int u)), some (.d x), some (.d (.int (i : Int))), some (.d d), some (.d (.bl true)), none], [], by simp, ?_, _, _, _, rfl, rfl⟩
      have hz : w ≤ 1000000 := by omega
      have al : allD (r.map fun _ => MV.d (.bl true)) = some (r.map fun _ => D.bl true) := by
        have := allD_map (r.map fun _ => D.bl true)
        simpa [Function.comp_def] using this
      have bl := blsOf_rep true r
      have hs := R.sum r mr
      have ha : (r.all fun _ => true) = true := by simp
      have io := intsOf_map r
      simp only [List.reverse_nil, List.nil_append] at hc
      simp [d_check_rows_b0, itr, it0, hit, lr, l0, wr, wipeM, hc, newL, szOk, hz, al, litems, Function.comp_def, bl, io, hs, ha]) _ _ ⟨none, none, none, rfl, rfl⟩
  subst e1 e2
  refine spc (S2 := []) (ds := [.int u, x]) hp (run_next (σ := [some (.d (.int u)), some (.d x), x2, x3, x4, none]) rfl ?_) rfl
  simp [d_check_rows, hw1]
  simp at e
  simp [e]
end
end Mi
namespace Mi
open PySem L2
theorem lcGo2_flat {α β : Type} {el : Slots → Sto → R MV} {it2 : Slots → Sto → R (List MV)} {tg tg2 : Tg} {w2 : List Nat} {σ : Slots} {S : Sto} (v : α → MV) (ys : α → List β) (vb : β → MV) (f : α → β → MV) : ∀ (xs : List α) (acc : List MV),
    (∀ x ∈ xs, ∃ σ1, bindTg tg σ (v x) S = .ok σ1 S ∧ it2 σ1 S = .ok ((ys x).map vb) S ∧ ∀ y ∈ ys x, ∃ σ2, bindTg tg2 (wipeM σ1 w2) (vb y) S = .ok σ2 S ∧ el σ2 S = .ok (f x y) S) →
    lcGo2 el it2 tg tg2 w2 wipeM σ (xs.map v) acc S = .ok (acc.reverse ++ xs.flatMap fun x => (ys x).map (f x)) S
  | [], acc, _ => by simp [lcGo2]
  | x :: xs, acc, h => by
    obtain ⟨σ1, h1, h2, h3⟩ := h x (by simp)
    have hin := lcGo_of (el := el) (cd := fun _ S => .ok true S) (tg := tg2) (σ := wipeM σ1 w2) (S := S) vb (f x) (ys x) acc (fun y hy => by
      obtain ⟨σ2, h4, h5⟩ := h3 y hy
      exact ⟨σ2, h4, rfl, h5⟩)
    have ih := lcGo2_flat (el := el) (it2 := it2) (tg := tg) (tg2 := tg2) (w2 := w2) (σ := σ) (S := S) v ys vb f xs ((ys x).map (f x) |>.reverse |> (· ++ acc)) (fun y hy => h y (by simp [hy]))
    simp only [List.map_cons, lcGo2, h1, h2, hin]
    have e : (acc.reverse ++ (ys x).map (f x)).reverse = ((ys x).map (f x)).reverse ++ acc := by simp
    rw [e, ih]
    simp
theorem Rows.pairs {ds : List D} {rs : List (List Int)} (h : Rows ds rs) : ∃ ps : List (D × List Int), ds = ps.map (·.1) ∧ rs = ps.map (·.2) ∧ ∀ p ∈ ps, Seq p.1 (iD p.2) := by
  induction h with
  | nil => exact ⟨[], rfl, rfl, fun p hp => by simp at hp⟩
  | cons hx _ ih =>
    obtain ⟨ps, h1, h2, h3⟩ := ih
    refine ⟨(_, _) :: ps, by rw [h1]; rfl, by rw [h2]; rfl, fun p hp => ?_⟩
    rcases List.mem_cons.mp hp with rfl | hp
    · exact hx
    · exact h3 p hp
/-- rows out of one list -/
theorem chunk {α : Type} {w : Nat} : ∀ (rows : List (List α)) (k : Nat), (∀ r ∈ rows, r.length = w) → k < rows.length → (rows.flatten.drop (k * w)).take w = rows.getD k []
  | [], k, _, h => by simp at h
  | r :: rows, 0, h, _ => by
    have hr := h r (by simp)
    simp [← hr]
  | r :: rows, k + 1, h, hk => by
    have hr := h r (by simp)
    have ih := chunk rows k (fun q hq => h q (by simp [hq])) (by simpa using hk)
    have e : (k + 1) * w = r.length + k * w := by rw [hr, Nat.add_mul]; omega
    rw [List.flatten_cons, e, List.drop_append, List.drop_eq_nil_of_le (by omega), List.nil_append, Nat.add_sub_cancel_left, ih]
    simp
theorem flat_len {α : Type} {w : Nat} : ∀ (rows : List (List α)), (∀ r ∈ rows, r.length = w) → rows.flatten.length = rows.length * w
  | [], _ => by simp
  | r :: rows, h => by
    have hr := h r (by simp)
    have ih := flat_len rows fun q hq => h q (by simp [hq])
    rw [List.flatten_cons, List.length_append, ih, hr, List.length_cons, Nat.add_mul]; omega
theorem range_getD {α : Type} (rows : List α) (d : α) : (List.range rows.length).map (fun k => rows.getD k d) = rows := by
  refine List.ext_getElem? fun i => ?_
  by_cases hi : i < rows.length
  · simp [hi]
  · simp [hi]
theorem range3_eq (m w : Nat) (hw : 1 ≤ w) : range3L 0 ((m : Int) * (w : Int)) (w : Int) = (List.range m).map fun (k : Nat) => MV.d (.int ((k : Int) * (w : Int))) := by
  have e : ((m : Int) * (w : Int) - 0 + (w : Int) - 1) / (w : Int) = (m : Int) := by
    have : (m : Int) * (w : Int) - 0 + (w : Int) - 1 = ((w : Int) - 1) + (m : Int) * (w : Int) := by omega
    rw [this, Int.add_mul_ediv_right _ _ (by omega), Int.ediv_eq_zero_of_lt (by omega) (by omega)]
    omega
  unfold range3L
  rw [e, Int.toNat_natCast]
  refine List.map_congr_left fun k hk => ?_
  rw [Int.zero_add]
theorem slice_k {t : Bool} {w : Nat} {rows : List (List Int)} {k : Nat} {S : Sto} (h : ∀ r ∈ rows, r.length = w) (hk : k < rows.length) (hw : w ≤ 1000) : slF false (.d (.lst t (iD rows.flatten))) (some ((k : Int) * (w : Int))) (some ((k : Int) * (w : Int) + (w : Int))) S = .ok (.d (.lst false (iD (rows.getD k [])))) S := by
  rw [show (k : Int) * (w : Int) + (w : Int) = ((k * w + w : Nat) : Int) from by rw [Int.natCast_add, Int.natCast_mul], show (k : Int) * (w : Int) = ((k * w : Nat) : Int) from by rw [Int.natCast_mul]]
  have hl : rows.flatten.length = rows.length * w := flat_len rows h
  have hle : k * w + w ≤ rows.length * w := by
    have := Nat.mul_le_mul_right w (show k + 1 ≤ rows.length by omega)
    rw [Nat.add_mul] at this; omega
  have hc := chunk rows k h hk
  have hcl : (rows.getD k []).length = w := by
    have : rows.getD k [] ∈ rows := by
      rw [List.getD_eq_getElem?_getD, List.getElem?_eq_getElem hk]; simp
    exact h _ this
  have e : slF.cutM ((iD rows.flatten).map MV.d) (some ((k * w : Nat) : Int)) (some ((k * w + w : Nat) : Int)) = (iD (rows.getD k [])).map MV.d := by
    unfold slF.cutM
    rw [HT.sIx_nat, HT.sIx_nat]
    have hlen : ((iD rows.flatten).map MV.d).length = rows.length * w := by simp only [List.length_map, iD_length, hl]
    rw [hlen, Nat.min_eq_left (show k * w ≤ rows.length * w by omega), Nat.min_eq_left hle, Nat.add_sub_cancel_left]
    rw [← hc]
    simp only [iD, List.map_drop, List.map_take]
  simp only [slF, litems, e]
  exact newL_d S _ (szOk_of (by rw [iD_length, hcl]; omega))
/-- the table in lowest terms -/
def tabG (u : Int) (rs : List (List Int)) : Nat := gcdL (u :: rs.flatten)
def lowR (u : Int) (rs : List (List Int)) : List (List Int) := rs.map fun r => r.map fun z => z.fdiv (tabG u rs)
def lowU (u : Int) (rs : List (List Int)) : Int := u.fdiv (tabG u rs)
def rowsD (rs : List (List Int)) : D := .lst false (rs.map fun r => .lst false (iD r))
theorem gcdF_dvd : ∀ (ns : List Int) (g : Nat), (gcdF g ns ∣ g) ∧ ∀ n ∈ ns, (gcdF g ns : Int) ∣ n
  | [], g => ⟨Nat.dvd_refl _, fun n h => by simp at h⟩
  | n :: ns, g => by
    obtain ⟨h1, h2⟩ := gcdF_dvd ns (Int.gcd n g)
    refine ⟨Nat.dvd_trans h1 ?_, fun m hm => ?_⟩
    · have := Int.gcd_dvd_right (a := n) (b := (g : Int))
      exact Int.natCast_dvd_natCast.mp this
    · rcases List.mem_cons.mp hm with rfl | hm
      · exact Int.dvd_trans (Int.natCast_dvd_natCast.mpr h1) (Int.gcd_dvd_left ..)
      · exact h2 m hm
theorem tabG_ne {u : Int} {rs : List (List Int)} (h : 1 ≤ u) : tabG u rs ≠ 0 := fun z => by
  have := (gcdF_dvd (u :: rs.flatten) 0).2 u (by simp)
  rw [show gcdF 0 (u :: rs.flatten) = tabG u rs from rfl, z] at this
  have := Int.zero_dvd.mp this
  omega
section
variable {P : String → Option Df} {n : Nat}
def SpTermsX (C : Calls) : Prop := ∀ (x : D) (ds : List D) (rs : List (List Int)) (u : Int) (w : Nat) (S : Sto), Seq x ds → Rows ds rs → rs ≠ [] → rs.length ≤ 20 → 1 ≤ w → w ≤ 100 → Right u w rs →
  callM (.bor []) (C "in_lowest_terms") [.d (.int u), .d x] S = .ok (.d (.tup [.int (lowU u rs), rowsD (lowR u rs)])) S
theorem cleans_rows : ∀ rs : List (List Int), cleans (rs.map fun r => D.lst false (iD r)) = true
  | [] => rfl
  | r :: rs => by simp [cleans, clean, cleans_iD, cleans_rows rs]
theorem spTermsX (hp : P "in_lowest_terms" = some d_in_lowest_terms) (hL : SpLowest (callN P Fu n)) : SpTermsX (callN P Fu (n + 1)) := fun x ds rs u w S hx hr hne hl hw0 hw R => by
  refine spc (S2 := []) (ds := [.int u, x]) hp (run_ret rfl ?_) (by simp [clean, cleans, rowsD, cleans_rows])
  obtain ⟨ps, h1, h2, h3⟩ := hr.pairs
  obtain ⟨p0, ps', rfl⟩ : ∃ p0 ps', ps = p0 :: ps' := by
    cases ps with
    | nil => exact absurd h2 (by simpa using hne)
    | cons p ps => exact ⟨p, ps, rfl⟩
  have hit := hx.items []
  have hwk := hx.walked []
  have it0 := (h3 p0 (by simp)).items []
  have l0 : p0.2.length = w := R.wide p0.2 (by rw [h2]; simp)
  have hfl : rs.flatten.length = rs.length * w := flat_len rs R.wide
  have hbig : rs.flatten.length ≤ 2000 := by rw [hfl]; exact Nat.mul_le_mul hl hw
  have hflat := fun Y4 Y7 => lcGo2_flat (el := ev (callN P Fu n) (.var 6)) (it2 := evI (callN P Fu n) (.seq (.var 5))) (tg := .nm 5) (tg2 := .nm 6) (w2 := [6]) (σ := [some (.d (.int u)), some (.d x), some (.d (.int (w : Int))), none, Y4, none, none, Y7]) (S := [])
    (fun p : D × List Int => MV.d p.1) (fun p => p.2) (fun z : Int => MV.d (.int z)) (fun p z => .d (.int z)) (p0 :: ps') [] (fun p hp => by
      have sq := h3 p hp
      have hw := sq.walked []
      refine ⟨_, rfl, ?_, fun z hz => ⟨_, rfl, by simp [wipeM]⟩⟩
      have e : (iD p.2).map MV.d = p.2.map fun z => MV.d (.int z) := by simp [iD]
      rw [← e]
      simpa using hw)
  have e1 : (p0 :: ps').flatMap (fun p => p.2.map fun z => MV.d (.int z)) = (iD rs.flatten).map MV.d := by
    rw [h2]
    generalize p0 :: ps' = ps
    induction ps with
    | nil => rfl
    | cons p ps ih => simp only [List.flatMap_cons, ih]; simp [iD]
  have e2 : ds.map MV.d = (p0 :: ps').map fun p => MV.d p.1 := by rw [h1]; simp
  simp only [List.reverse_nil, List.nil_append, e1] at hflat
  rw [e2] at hit hwk
  have hz : rs.flatten.length ≤ 1000000 := by omega
  have hz2 : rs.flatten.length + 1 ≤ 1000000 := by omega
  have hb : ∀ m ∈ u :: rs.flatten, Bn 3000 m := fun m hm => by
    rcases List.mem_cons.mp hm with rfl | hm
    · exact R.ub.mono (by decide)
    · obtain ⟨r, hr1, hr2⟩ := List.mem_flatten.mp hm
      exact (R.bn hr1 hr2).mono (by decide)
  have hlow := hL (.lst false (iD (u :: rs.flatten))) (u :: rs.flatten) [] (.inl ⟨false, rfl⟩) hb (by simp only [List.length_cons]; omega)
  have hg := tabG_ne (rs := rs) R.u1
  have hlL : lowL (u :: rs.flatten) = lowU u rs :: (lowR u rs).flatten := by
    have : gcdL (u :: rs.flatten) = tabG u rs := rfl
    simp only [lowL, this, if_neg hg, List.map_cons, lowU]
    congr 1
    simp [lowR, List.map_flatten]
  rw [hlL] at hlow
  have hwid : ∀ r ∈ lowR u rs, r.length = w := fun r hr => by
    simp only [lowR, List.mem_map] at hr
    obtain ⟨q, hq, rfl⟩ := hr
    simpa using R.wide q hq
  have hrl : (lowR u rs).length = rs.length := by simp [lowR]
  have hfl2 : (lowR u rs).flatten.length = rs.length * w := by rw [flat_len _ hwid, hrl]
  have hm : (lowR u rs).flatten.length = ((rs.length * w : Nat)) := hfl2
  have hc := fun Y5 Y6 => lcGo_of (el := ev (callN P Fu n) (.sl false (.var 4) (.yes (.var 7)) (.yes (.bin .add (.var 7) (.var 2))))) (cd := evC (callN P Fu n) .no) (tg := .nm 7)
    (σ := [some (.d (.int u)), some (.d x), some (.d (.int (w : Int))), some (.d (.int (lowU u rs))), some (.d (.lst false (iD (lowR u rs).flatten))), Y5, Y6, none]) (S := [])
    (fun k : Nat => MV.d (.int ((k : Int) * (w : Int)))) (fun k => .d (.lst false (iD ((lowR u rs).getD k [])))) (List.range rs.length) [] (fun k hk => by
      have hk : k < (lowR u rs).length := by rw [hrl]; simpa using hk
      have hs := slice_k (t := false) (S := []) hwid hk (by omega)
      refine ⟨_, rfl, rfl, ?_⟩
      simp only [List.getD_eq_getElem?_getD] at hs ⊢
      simp [hs])
  have e5 : (List.range rs.length).map (fun k => MV.d (.lst false (iD ((lowR u rs).getD k [])))) = ((lowR u rs).map fun r => D.lst false (iD r)).map MV.d := by
    have := range_getD (lowR u rs) []
    rw [hrl] at this
    conv => rhs; rw [← this]
    simp
  simp only [List.reverse_nil, List.nil_append, e5] at hc
  have hrg := range3_eq rs.length w hw0
  have r1 : rgOk ((rs.length : Int) * (w : Int)) = true := decide_eq_true (by
    have h5 : rs.length * w ≤ 2000 := Nat.mul_le_mul hl hw
    rw [← Int.natCast_mul]
    omega)
  have r2 : rgOk (w : Int) = true := decide_eq_true (by omega)
  have r0 : rgOk 0 = true := by decide
  have hz3 : (lowR u rs).flatten.length ≤ 1000000 := by rw [hfl2]; have : rs.length * w ≤ 2000 := Nat.mul_le_mul hl hw; omega
  have hz4 : (lowR u rs).length ≤ 1000000 := by omega
  have hal : allD ((iD rs.flatten).map MV.d) = some (iD rs.flatten) := allD_map _
  have hn1 : ∀ S, newL false ((iD rs.flatten).map MV.d) S = .ok (.d (.lst false (iD rs.flatten))) S := fun S => newL_d S _ (szOk_of (by rw [iD_length]; omega))
  have hn2 : ∀ S, newL false (MV.d (.int u) :: ((iD rs.flatten).map MV.d)) S = .ok (.d (.lst false (iD (u :: rs.flatten)))) S := fun S => newL_d S (iD (u :: rs.flatten)) (szOk_of (by rw [iD_length]; simp only [List.length_cons]; omega))
  have hn3 : ∀ S, newL false ((iD (lowR u rs).flatten).map MV.d) S = .ok (.d (.lst false (iD (lowR u rs).flatten))) S := fun S => newL_d S _ (szOk_of (by rw [iD_length]; omega))
  have hn4 : ∀ S, newL false (((lowR u rs).map fun r => D.lst false (iD r)).map MV.d) S = .ok (.d (rowsD (lowR u rs))) S := fun S => newL_d S _ (szOk_of (by simp only [List.length_map]; omega))
  have hw1 : (1 : Int) ≤ (w : Int) := by omega
  have hbt : ∀ σ : Slots, bindTg (.st [3] 4) σ (.d (.lst false (iD (lowU u rs :: (lowR u rs).flatten)))) [] = .ok ((σ.set 3 (some (.d (.int (lowU u rs))))).set 4 (some (.d (.lst false (iD (lowR u rs).flatten))))) [] := fun σ => by
    have := hn3 []
    simp only [bindTg, items_lst, iD_cons, List.map_cons, List.length_cons, List.length_nil, List.drop_succ_cons, List.drop_zero, this]
    simp
  simp only [List.map_cons] at hit hwk hflat
  have hwp : 0 < w := by omega
  have hn5 : ∀ S, newT [.d (.int (lowU u rs)), .d (rowsD (lowR u rs))] S = .ok (.d (.tup [.int (lowU u rs), rowsD (lowR u rs)])) S := fun S => rfl
  simp only [iD_cons] at hlow hbt hn2
  simp [-List.length_flatten, d_in_lowest_terms, hit, it0, l0, hwk, wipeM, hflat, hn1, hn2, hlow, hbt, hm, r0, r1, r2, hwp, hrg, hc, hn4, hn5, -List.map_map]
end
end Mi
namespace Mi
open PySem L2
/-- an experiment -/
def expD (u : Int) (w : Nat) (rs : List (List Int)) : D := .ins "Experiment" [("unit", .int (lowU u rs)), ("grid", rowsD (lowR u rs)), ("states", .int rs.length), ("signals", .int w)]
theorem clean_exp (u : Int) (w : Nat) (rs : List (List Int)) : clean (expD u w rs) = true := by simp [expD, clean, cleanF, rowsD, cleans_rows]
section
variable {P : String → Option Df} {n : Nat}
@[simp] theorem fldF_0 (f : String) (v : MV) (c : String) (fs : List (String × MV)) (T : Sto) (h : fs.length < 900) : fldF (.c 0) f v (.ins c fs :: T) = .ok () (.ins c (putM f v fs) :: T) := by simp [fldF, h]
def SpExp (C : Calls) : Prop := ∀ (x : D) (ds : List D) (rs : List (List Int)) (u : Int) (w : Nat) (S : Sto), Seq x ds → Rows ds rs → rs ≠ [] → rs.length ≤ 4 → 1 ≤ w → w ≤ 100 → Right u w rs →
  callM (.bor []) (mkF C "Experiment") [.d (.int u), .d x] S = .ok (.d (expD u w rs)) S
theorem spExp (hp : P "Experiment.__init__" = some d_Experiment__init) (hu : SpUnit (callN P Fu n)) (hr : SpRows (callN P Fu n)) (ht : SpTermsX (callN P Fu n)) : SpExp (callN P Fu (n + 1)) := fun x ds rs u w S hx hR hne hl hw0 hw R => by
  have h1 := fun S => hu (.int u) S (by simp [dep]) rfl
  have hun : isUnit (.int u) = true := by simp [isUnit, R.u1]
  simp only [hun, if_true] at h1
  have h2 := fun S => hr x ds rs u w S hx hR hne (by omega) (by omega) R
  have h3 := fun S => ht x ds rs u w S hx hR hne (by omega) hw0 hw R
  have hit := fun S => hx.items S
  have hdl := hR.length
  obtain ⟨d0, ds', rfl⟩ : ∃ d0 ds', ds = d0 :: ds' := by
    cases ds with
    | nil => cases hR; exact absurd rfl hne
    | cons d ds => exact ⟨d, ds, rfl⟩
  obtain ⟨r0, h0, s0⟩ := hR.get (i := 0) (d := d0) rfl
  have it0 := fun S => s0.items S
  have l0 : r0.length = w := R.wide r0 (List.mem_of_getElem? h0)
  have hlen : (1 : Int) ≤ (rs.length : Int) ∧ (rs.length : Int) ≤ 4 := ⟨by cases rs with | nil => exact absurd rfl hne | cons _ _ => simp; omega, by omega⟩
  have hdl' : ((ds'.length : Int) + 1) = (rs.length : Int) := by rw [← hdl]; simp
  have key : mkF (callN P Fu (n + 1)) "Experiment" [.d (.int u), .d x] [] = .ok (.c 0) [.ins "Experiment" [("unit", .d (.int (lowU u rs))), ("grid", .d (rowsD (lowR u rs))), ("states", .d (.int rs.length)), ("signals", .d (.int w))]] := by
    have e : callN P Fu (n + 1) "Experiment.__init__" [.c 0, .d (.int u), .d x] [.ins "Experiment" []] = .ok (.d .non) [.ins "Experiment" [("unit", .d (.int (lowU u rs))), ("grid", .d (rowsD (lowR u rs))), ("states", .d (.int rs.length)), ("signals", .d (.int w))]] := by
      rw [callN_eq hp]
      refine run_next (σ := [some (.c 0), some (.d (.int u)), some (.d x)]) rfl ?_
      simp [d_Experiment__init, h1, hit, hdl', hlen.1, hlen.2, h2, h3, titems, putM, it0, l0]
    unfold mkF
    simp only [List.length_nil, List.nil_append]
    rw [show ("Experiment" ++ ".__init__" : String) = "Experiment.__init__" from by decide, e]
    rfl
  exact bor_d (ds := [.int u, x]) key (by simp [freeze, freezeF, expD]; rfl) (clean_exp u w rs)
def SpExpRows (C : Calls) : Prop := ∀ (u : Int) (w : Nat) (rs : List (List Int)) (S : Sto), rs.length ≤ 1000 → (∀ r ∈ rs, r.length ≤ 1000) → callM (.bor []) (C "Experiment.rows") [.d (expD u w rs)] S = .ok (.d (rowsD (lowR u rs))) S
theorem spExpRows (hp : P "Experiment.rows" = some d_Experiment_rows) : SpExpRows (callN P Fu (n + 1)) := fun u w rs S hl hw => by
  refine spc (S2 := []) (ds := [expD u w rs]) hp (run_ret rfl ?_) (by simp [clean, rowsD, cleans_rows])
  have hc := lcGo_of (el := ev (callN P Fu n) (.blt false .list (.cons (.var 1) .nil))) (cd := evC (callN P Fu n) .no) (tg := .nm 1) (σ := [some (.d (expD u w rs)), none]) (S := [])
    (fun r : List Int => MV.d (.lst false (iD r))) (fun r => .d (.lst false (iD r))) (lowR u rs) [] (fun r hr => by
      have hrl : r.length ≤ 1000000 := by
        simp only [lowR, List.mem_map] at hr
        obtain ⟨q, hq, rfl⟩ := hr
        have := hw q hq
        simp; omega
      exact ⟨_, rfl, rfl, by simp [newL, szOk, hrl]⟩)
  have e : (((lowR u rs).map fun r => D.lst false (iD r)).map MV.d) = (lowR u rs).map fun r => MV.d (.lst false (iD r)) := by simp
  have hn : ∀ S, newL false ((lowR u rs).map fun r => MV.d (.lst false (iD r))) S = .ok (.d (rowsD (lowR u rs))) S := fun S => by
    rw [← e]; exact newL_d S _ (szOk_of (by simp [lowR]; omega))
  simp only [List.reverse_nil, List.nil_append] at hc
  have hat : attrF "grid" (.d (expD u w rs)) [] = .ok (.d (rowsD (lowR u rs))) [] := by simp [attrF, insOf, expD, List.lookup]
  have hwk : walked (.d (rowsD (lowR u rs))) [] = .ok ((lowR u rs).map fun r => MV.d (.lst false (iD r))) [] := by rw [← e]; rfl
  simp [d_Experiment_rows, hat, hwk, wipeM, hc, hn]
theorem eqDs_iD : ∀ a b : List Int, eqDs (iD a) (iD b) = decide (a = b)
  | [], [] => by simp [eqDs]
  | [], b :: bs => by simp [eqDs]
  | a :: as, [] => by simp [eqDs]
  | a :: as, b :: bs => by simp [eqDs, eqD, eqDs_iD as bs]; rw [Bool.eq_iff_iff]; simp
theorem eqDs_rows : ∀ a b : List (List Int), eqDs (a.map fun r => D.lst false (iD r)) (b.map fun r => D.lst false (iD r)) = decide (a = b)
  | [], [] => by simp [eqDs]
  | [], b :: bs => by simp [eqDs]
  | a :: as, [] => by simp [eqDs]
  | a :: as, b :: bs => by simp [eqDs, eqD, eqDs_iD, eqDs_rows as bs]
theorem depL_iD (k : Nat) : ∀ a : List Int, depL (dep k) (iD a) = true
  | [] => rfl
  | a :: as => by simp [depL, dep, depL_iD k as]
theorem depL_rows (k : Nat) : ∀ a : List (List Int), depL (dep (k + 1)) (a.map fun r => D.lst false (iD r)) = true
  | [] => rfl
  | a :: as => by simp [depL, dep, depL_iD, depL_rows k as]
theorem eq_rowsD (a b : List (List Int)) : cmpD .eq (rowsD a) (rowsD b) = some (decide (a = b)) := by
  rw [cmpD_eq]; simp [rowsD, dep, depL_rows 6, eqD, eqDs_rows]
theorem ne_rowsD (a b : List (List Int)) : cmpD .ne (rowsD a) (rowsD b) = some (!decide (a = b)) := by
  rw [cmpD_ne]; simp [rowsD, dep, depL_rows 6, eqD, eqDs_rows]
/-- equal experiments -/
def SpExpEq (C : Calls) : Prop := ∀ (u u' : Int) (w w' : Nat) (rs rs' : List (List Int)) (S : Sto), callM (.bor []) (C "Experiment.__eq__") [.d (expD u w rs), .d (expD u' w' rs')] S = .ok (.d (.bl (decide (lowU u rs = lowU u' rs') && decide (lowR u rs = lowR u' rs')))) S
theorem spExpEq (hp : P "Experiment.__eq__" = some d_Experiment__eq) : SpExpEq (callN P Fu (n + 1)) := fun u u' w w' rs rs' S => by
  refine spc (S2 := []) (ds := [expD u w rs, expD u' w' rs']) hp (run_ret rfl ?_) rfl
  have a1 : ∀ u w rs, attrF "unit" (.d (expD u w rs)) [] = .ok (.d (.int (lowU u rs))) [] := fun u w rs => by simp [attrF, insOf, expD, List.lookup]
  have a2 : ∀ u w rs, attrF "grid" (.d (expD u w rs)) [] = .ok (.d (rowsD (lowR u rs))) [] := fun u w rs => by simp [attrF, insOf, expD, List.lookup]
  have i1 : iscF "Experiment" (.d (expD u' w' rs')) [] = .ok (.d (.bl true)) [] := by simp [iscF, tyD, insOf, expD]
  by_cases h : lowU u rs = lowU u' rs'
  · simp [d_Experiment__eq, a1, a2, i1, h, eq_rowsD]
  · simp [d_Experiment__eq, a1, a2, i1, h, eq_rowsD]
end
end Mi
namespace Mi
open PySem L2
theorem rangeL_0 (i : Int) : rangeL 0 i = (List.range i.toNat).map fun (k : Nat) => MV.d (.int (k : Int)) := by simp [rangeL]
theorem tabG_one (rs : List (List Int)) : tabG 1 rs = 1 := by
  have h := (gcdF_dvd (1 :: rs.flatten) 0).2 1 (by simp)
  have h2 : (tabG 1 rs : Int) ∣ 1 := h
  have := Int.eq_one_of_dvd_one (by omega) h2
  omega
theorem lowU_one (rs : List (List Int)) : lowU 1 rs = 1 := by simp [lowU, tabG_one]
theorem lowR_one (rs : List (List Int)) : lowR 1 rs = rs := by simp [lowR, tabG_one]
def isState : D → Bool
  | .int i => decide (1 ≤ i) && decide (i ≤ 4)
  | _ => false
theorem Rows.ofL : ∀ rs : List (List Int), Rows (rs.map fun r => D.lst false (iD r)) rs
  | [] => .nil
  | r :: rs => .cons (.inl ⟨false, rfl⟩) (Rows.ofL rs)
section
variable {P : String → Option Df} {n : Nat}
def SpStates (C : Calls) : Prop := ∀ (x : D) (S : Sto), dep 8 x = true → clean x = true → callM (.bor []) (C "check_states") [.d x] S = if isState x then .ok (.d .non) S else .exc "BadSize" [("size", x)] S
theorem spStates (hp : P "check_states" = some d_check_states) (hi : SpInt (callN P Fu n)) : SpStates (callN P Fu (n + 1)) := fun x S hx hc => by
  have h1 := hi x [] hx
  cases hu : isState x with
  | true =>
    rw [if_pos rfl]
    obtain ⟨i, rfl⟩ : ∃ i, x = .int i := by cases x <;> first | exact ⟨_, rfl⟩ | simp [isState] at hu
    have : 1 ≤ i ∧ i ≤ 4 := by simpa [isState] using hu
    exact spc (S2 := []) (ds := [.int i]) hp (run_next (σ := [some (.d (.int i))]) rfl (by simp [d_check_states, h1, isInt, this.1, this.2])) rfl
  | false =>
    rw [if_neg Bool.false_ne_true]
    refine spx (S2 := []) (ds := [x]) hp (run_exc (σ := [some (.d x)]) rfl ?_) (by simp [cleanF, hc])
    cases x with
    | int i =>
      by_cases h2 : 1 ≤ i
      · have : ¬ i ≤ 4 := by simp [isState] at hu; omega
        simp [d_check_states, h1, isInt, h2, this]
      · simp [d_check_states, h1, isInt, h2]
    | _ => simp [d_check_states, h1, isInt]
/-- the rows of the plain experiments -/
def unR (m : Nat) : List (List Int) := (List.range m).map fun _ => [1]
def reR (m : Nat) : List (List Int) := (List.range m).map fun (s : Nat) => (List.range m).map fun (t : Nat) => if (t : Int) = (s : Int) then 1 else 0
theorem right_un {m : Nat} : Right 1 1 (unR m) where
  u1 := by decide
  ub := by unfold Bn; exact Nat.lt_of_lt_of_le (by decide : (1 : Int).natAbs < 2 ^ 1) (Nat.pow_le_pow_right (by decide) (by decide))
  wide := fun r hr => by simp [unR] at hr; obtain ⟨_, rfl⟩ := hr; rfl
  pos := fun r hr z hz => by simp [unR] at hr; obtain ⟨_, rfl⟩ := hr; simp at hz; omega
  sum := fun r hr => by simp [unR] at hr; obtain ⟨_, rfl⟩ := hr; rfl
theorem right_re {m : Nat} (h1 : 1 ≤ m) (h4 : m ≤ 4) : Right 1 m (reR m) := by
  have hb : Bn 2000 1 := by unfold Bn; exact Nat.lt_of_lt_of_le (by decide : (1 : Int).natAbs < 2 ^ 1) (Nat.pow_le_pow_right (by decide) (by decide))
  have : m = 1 ∨ m = 2 ∨ m = 3 ∨ m = 4 := by omega
  rcases this with rfl | rfl | rfl | rfl
  · exact ⟨by decide, hb, by decide +kernel, by decide +kernel, by decide +kernel⟩
  · exact ⟨by decide, hb, by decide +kernel, by decide +kernel, by decide +kernel⟩
  · exact ⟨by decide, hb, by decide +kernel, by decide +kernel, by decide +kernel⟩
  · exact ⟨by decide, hb, by decide +kernel, by decide +kernel, by decide +kernel⟩
def SpUn (C : Calls) : Prop := ∀ (x : D) (S : Sto), dep 8 x = true → clean x = true → callM (.bor []) (C "uninformative") [.d x] S = match x with
  | .int i => if isState (.int i) then .ok (.d (expD 1 1 (unR i.toNat))) S else .exc "BadSize" [("size", x)] S
  | x => .exc "BadSize" [("size", x)] S
theorem spUn (hp : P "uninformative" = some d_uninformative) (hs : SpStates (callN P Fu n)) (he : SpExp (callN P Fu n)) : SpUn (callN P Fu (n + 1)) := fun x S hx hc => by
  have h1 := hs x [] hx hc
  have bad : isState x = false → callM (.bor []) (callN P Fu (n + 1) "uninformative") [.d x] S = .exc "BadSize" [("size", x)] S := fun hf => by
    rw [hf, if_neg Bool.false_ne_true] at h1
    exact spx (S2 := []) (ds := [x]) hp (run_exc (σ := [some (.d x), none]) rfl (by simp [d_uninformative, h1])) (by simp [cleanF, hc])
  cases x with
  | int i =>
    dsimp only
    cases hf : isState (.int i) with
    | false => rw [if_neg Bool.false_ne_true]; exact bad hf
    | true =>
      rw [if_pos rfl]
      rw [hf, if_pos rfl] at h1
      have hi : 1 ≤ i ∧ i ≤ 4 := by simpa [isState] using hf
      refine spc (S2 := []) (ds := [.int i]) hp (run_ret rfl ?_) (clean_exp _ _ _)
      have hrg : rgOk i = true := decide_eq_true (by omega)
      have hc := lcGo_of (el := ev (callN P Fu n) (.lst false (.cons (.int 1) .nil))) (cd := evC (callN P Fu n) .no) (tg := .nm 1) (σ := [some (.d (.int i)), none]) (S := [])
        (fun (k : Nat) => MV.d (.int (k : Int))) (fun k => .d (.lst false (iD [1]))) (List.range i.toNat) [] (fun k hk => ⟨_, rfl, rfl, by simp [newL, szOk]⟩)
      have e : (List.range i.toNat).map (fun _ => MV.d (.lst false (iD [1]))) = ((unR i.toNat).map fun r => D.lst false (iD r)).map MV.d := by simp [unR, Function.comp_def]
      simp only [List.reverse_nil, List.nil_append, e] at hc
      have hn : ∀ S, newL false (((unR i.toNat).map fun r => D.lst false (iD r)).map MV.d) S = .ok (.d (rowsD (unR i.toNat))) S := fun S => newL_d S _ (szOk_of (by simp [unR]; omega))
      have hx1 := fun S => he (rowsD (unR i.toNat)) _ (unR i.toNat) 1 1 S (.inl ⟨false, rfl⟩) (Rows.ofL _) (by simp [unR]; omega) (by simp [unR]; omega) (by decide) (by decide) right_un
      simp [-List.map_map, d_uninformative, h1, hrg, wipeM, rangeL_0, hc, hn, hx1]
  | _ => exact bad rfl
def SpRe (C : Calls) : Prop := ∀ (x : D) (S : Sto), dep 8 x = true → clean x = true → callM (.bor []) (C "revealing") [.d x] S = match x with
  | .int i => if isState (.int i) then .ok (.d (expD 1 i.toNat (reR i.toNat))) S else .exc "BadSize" [("size", x)] S
  | x => .exc "BadSize" [("size", x)] S
theorem spRe (hp : P "revealing" = some d_revealing) (hs : SpStates (callN P Fu n)) (he : SpExp (callN P Fu n)) : SpRe (callN P Fu (n + 1)) := fun x S hx hc => by
  have h1 := hs x [] hx hc
  have bad : isState x = false → callM (.bor []) (callN P Fu (n + 1) "revealing") [.d x] S = .exc "BadSize" [("size", x)] S := fun hf => by
    rw [hf, if_neg Bool.false_ne_true] at h1
    exact spx (S2 := []) (ds := [x]) hp (run_exc (σ := [some (.d x), none, none]) rfl (by simp [d_revealing, h1])) (by simp [cleanF, hc])
  cases x with
  | int i =>
    dsimp only
    cases hf : isState (.int i) with
    | false => rw [if_neg Bool.false_ne_true]; exact bad hf
    | true =>
      rw [if_pos rfl]
      rw [hf, if_pos rfl] at h1
      have hi : 1 ≤ i ∧ i ≤ 4 := by simpa [isState] using hf
      refine spc (S2 := []) (ds := [.int i]) hp (run_ret rfl ?_) (clean_exp _ _ _)
      have hrg : rgOk i = true := decide_eq_true (by omega)
      have hc := lcGo_of (el := ev (callN P Fu n) (.lc false (.blt false .int (.cons (.cmp .eq (.var 2) (.var 1)) .nil)) (.nm 2) (.range1 (.var 0)) .no [("signal", 2)])) (cd := evC (callN P Fu n) .no) (tg := .nm 1) (σ := [some (.d (.int i)), none, none]) (S := [])
        (fun (k : Nat) => MV.d (.int (k : Int))) (fun k => .d (.lst false (iD ((List.range i.toNat).map fun (t : Nat) => if (t : Int) = (k : Int) then 1 else 0)))) (List.range i.toNat) [] (fun k hk => by
          refine ⟨_, rfl, rfl, ?_⟩
          have hc2 := lcGo_of (el := ev (callN P Fu n) (.blt false .int (.cons (.cmp .eq (.var 2) (.var 1)) .nil))) (cd := evC (callN P Fu n) .no) (tg := .nm 2) (σ := [some (.d (.int i)), some (.d (.int (k : Int))), none]) (S := [])
            (fun (t : Nat) => MV.d (.int (t : Int))) (fun t => .d (.int (if (t : Int) = (k : Int) then 1 else 0))) (List.range i.toNat) [] (fun t ht => ⟨_, rfl, rfl, by simp⟩)
          have e : (List.range i.toNat).map (fun (t : Nat) => MV.d (.int (if (t : Int) = (k : Int) then 1 else 0))) = (iD ((List.range i.toNat).map fun (t : Nat) => if (t : Int) = (k : Int) then 1 else 0)).map MV.d := by simp [iD, Function.comp_def]
          simp only [List.reverse_nil, List.nil_append, e] at hc2
          have hn : ∀ S, newL false ((iD ((List.range i.toNat).map fun (t : Nat) => if (t : Int) = (k : Int) then 1 else 0)).map MV.d) S = .ok (.d (.lst false (iD ((List.range i.toNat).map fun (t : Nat) => if (t : Int) = (k : Int) then 1 else 0)))) S := fun S => newL_d S _ (szOk_of (by simp; omega))
          simp [-List.map_map, hrg, wipeM, rangeL_0, hc2, hn])
      have e : (List.range i.toNat).map (fun (k : Nat) => MV.d (.lst false (iD ((List.range i.toNat).map fun (t : Nat) => if (t : Int) = (k : Int) then 1 else 0)))) = ((reR i.toNat).map fun r => D.lst false (iD r)).map MV.d := by simp [reR, Function.comp_def]
      simp only [List.reverse_nil, List.nil_append, e] at hc
      have hn : ∀ S, newL false (((reR i.toNat).map fun r => D.lst false (iD r)).map MV.d) S = .ok (.d (rowsD (reR i.toNat))) S := fun S => newL_d S _ (szOk_of (by simp [reR]; omega))
      have hx1 := fun S => he (rowsD (reR i.toNat)) _ (reR i.toNat) 1 i.toNat S (.inl ⟨false, rfl⟩) (Rows.ofL _) (by simp [reR]; omega) (by simp [reR]; omega) (by omega) (by omega) (right_re (by omega) (by omega))
      simp [-List.map_map, d_revealing, h1, hrg, wipeM, rangeL_0, hc, hn, hx1]
  | _ => exact bad rfl
end
end Mi
namespace Mi
open PySem L2
/-! ### two signals -/
def hitOk (u : Int) : D → Bool
  | .int i => decide (0 ≤ i) && decide (i ≤ u)
  | _ => false
/-- the first wrong one -/
def fb (u : Int) : Nat → List D → Option Nat
  | _, [] => none
  | k, d :: ds => if hitOk u d then fb u (k + 1) ds else some k
theorem fb_none {u : Int} : ∀ {hs : List D} {k : Nat}, fb u k hs = none → ∃ is : List Int, hs = iD is ∧ ∀ i ∈ is, 0 ≤ i ∧ i ≤ u
  | [], _, _ => ⟨[], rfl, fun i hi => by simp at hi⟩
  | d :: hs, k, h => by
    simp only [fb] at h
    split at h
    · rename_i hd
      obtain ⟨is, rfl, hi⟩ := fb_none h
      cases d with
      | int i =>
        have : 0 ≤ i ∧ i ≤ u := by simpa [hitOk] using hd
        refine ⟨i :: is, rfl, fun j hj => ?_⟩
        rcases List.mem_cons.mp hj with rfl | hj
        · exact this
        · exact hi j hj
      | _ => simp [hitOk] at hd
    · cases h
def twR (u : Int) (is : List Int) : List (List Int) := is.map fun i => [i, u - i]
theorem right_tw {u : Int} {is : List Int} (h1 : 1 ≤ u) (hb : Bn 2000 u) (h : ∀ i ∈ is, 0 ≤ i ∧ i ≤ u) : Right u 2 (twR u is) where
  u1 := h1
  ub := hb
  wide := fun r hr => by simp only [twR, List.mem_map] at hr; obtain ⟨_, _, rfl⟩ := hr; rfl
  pos := fun r hr z hz => by
    simp only [twR, List.mem_map] at hr
    obtain ⟨i, hi, rfl⟩ := hr
    have := h i hi
    simp at hz
    omega
  sum := fun r hr => by
    simp only [twR, List.mem_map] at hr
    obtain ⟨i, hi, rfl⟩ := hr
    simp; omega
section
variable {P : String → Option Df} {n : Nat}
theorem ts_for {C : Calls} (hI : SpInt C) {u : Int} {x : D} : ∀ (hs : List D) (k : Nat) (x2 x3 : Option MV), (∀ d ∈ hs, dep 8 d = true) → match fb u k hs with
    | none => ∃ y2 y3, forGo (.tp [2, 3]) (exs C Fu d_two_signals_b0) (enumL k (hs.map .d)) [some (.d (.int u)), some (.d x), x2, x3] [] = .next [some (.d (.int u)), some (.d x), y2, y3] []
    | some i => ∃ σ', forGo (.tp [2, 3]) (exs C Fu d_two_signals_b0) (enumL k (hs.map .d)) [some (.d (.int u)), some (.d x), x2, x3] [] = .exc "BadRow" [("index", .int i)] σ' []
  | [], k, x2, x3, _ => ⟨x2, x3, rfl⟩
  | d :: hs, k, x2, x3, h => by
    have h1 := hI d [] (h d (by simp))
    simp only [fb, List.map_cons, enumL]
    have ih := ts_for hI (u := u) (x := x) hs (k + 1) (some (.d (.int (k : Int)))) (some (.d d)) (fun e he => h e (by simp [he]))
    cases hk : hitOk u d with
    | true =>
      simp only [if_true]
      obtain ⟨i, rfl⟩ : ∃ i, d = .int i := by cases d <;> first | exact ⟨_, rfl⟩ | simp [hitOk] at hk
      have hi : 0 ≤ i ∧ i ≤ u := by simpa [hitOk] using hk
      have e : forGo (.tp [2, 3]) (exs C Fu d_two_signals_b0) (tupV [.d (.int (k : Int)), .d (.int i)] :: enumL (k + 1) (hs.map .d)) [some (.d (.int u)), some (.d x), x2, x3] [] = forGo (.tp [2, 3]) (exs C Fu d_two_signals_b0) (enumL (k + 1) (hs.map .d)) [some (.d (.int u)), some (.d x), some (.d (.int (k : Int))), some (.d (.int i))] [] := by
        rw [forGo_cons]
        simp [tupV, d_two_signals_b0, h1, isInt, hi.1, hi.2]
      rw [e]
      exact ih
    | false =>
      simp only [Bool.false_eq_true, if_false]
      refine ⟨[some (.d (.int u)), some (.d x), some (.d (.int (k : Int))), some (.d d)], ?_⟩
      rw [forGo_cons]
      cases d with
      | int i =>
        by_cases h0 : 0 ≤ i
        · have : ¬ i ≤ u := by simp [hitOk] at hk; omega
          simp [tupV, d_two_signals_b0, h1, isInt, h0, this]
        · simp [tupV, d_two_signals_b0, h1, isInt, h0]
      | _ => simp [tupV, d_two_signals_b0, h1, isInt]
/-- what two_signals gives -/
def tsR (ud : D) (hs : List D) (S : Sto) : R MV := match ud with
  | .int u => if 1 ≤ u then (if 1 ≤ hs.length ∧ hs.length ≤ 4 then match fb u 0 hs with
      | some i => .exc "BadRow" [("index", .int i)] S
      | none => .ok (.d (expD u 2 (twR u ((intsOf (hs.map .d)).getD [])))) S
    else .exc "BadSize" [("size", .int hs.length)] S) else .exc "BadUnit" [("unit", .int u)] S
  | ud => .exc "BadUnit" [("unit", ud)] S
def SpTwoS (C : Calls) : Prop := ∀ (ud x : D) (hs : List D) (S : Sto), dep 8 ud = true → clean ud = true → (∀ u, ud = .int u → Bn 2000 u) → Seq x hs → hs.length ≤ 1000 → (∀ d ∈ hs, dep 8 d = true) → callM (.bor []) (C "two_signals") [.d ud, .d x] S = tsR ud hs S
theorem spTwoS (hp : P "two_signals" = some d_two_signals) (hI : SpInt (callN P Fu n)) (hu : SpUnit (callN P Fu n)) (he : SpExp (callN P Fu n)) : SpTwoS (callN P Fu (n + 1)) := fun ud x hs S hd hc hb hx hl hh => by
  have h1 := hu ud [] hd hc
  have badU : isUnit ud = false → callM (.bor []) (callN P Fu (n + 1) "two_signals") [.d ud, .d x] S = .exc "BadUnit" [("unit", ud)] S := fun hf => by
    rw [hf, if_neg Bool.false_ne_true] at h1
    exact spx (S2 := []) (ds := [ud, x]) hp (run_exc (σ := [some (.d ud), some (.d x), none, none]) rfl (by simp [d_two_signals, h1])) (by simp [cleanF, hc])
  cases ud with
  | int u =>
    simp only [tsR]
    by_cases hu1 : 1 ≤ u
    · rw [if_pos hu1]
      have hun : isUnit (.int u) = true := by simp [isUnit, hu1]
      rw [hun, if_pos rfl] at h1
      have hit := hx.items []
      have hwk := hx.walked []
      by_cases hlen : 1 ≤ hs.length ∧ hs.length ≤ 4
      · rw [if_pos hlen]
        have c1 : (1 : Int) ≤ (hs.length : Int) := by omega
        have c2 : (hs.length : Int) ≤ 4 := by omega
        have hfor := ts_for hI (u := u) (x := x) hs 0 none none hh
        cases hf : fb u 0 hs with
        | some i =>
          rw [hf] at hfor
          obtain ⟨σ', e⟩ := hfor
          refine spx (S2 := []) (ds := [.int u, x]) hp (run_exc (σ := σ') rfl ?_) rfl
          simp [d_two_signals, h1, hit, c1, c2, hwk, e]
        | none =>
          rw [hf] at hfor
          obtain ⟨y2, y3, e⟩ := hfor
          obtain ⟨is, rfl, hi⟩ := fb_none hf
          rw [iD_length] at hlen c1 c2
          rw [intsOf_map]
          refine spc (S2 := []) (ds := [.int u, x]) hp (run_ret rfl ?_) (clean_exp _ _ _)
          have hcc := fun Y => lcGo_of (el := ev (callN P Fu n) (.lst false (.cons (.var 3) (.cons (.bin .sub (.var 0) (.var 3)) .nil)))) (cd := evC (callN P Fu n) .no) (tg := .nm 3) (σ := [some (.d (.int u)), some (.d x), Y, none]) (S := [])
            (fun (z : Int) => MV.d (.int z)) (fun z => .d (.lst false (iD [z, u - z]))) is [] (fun z hz => ⟨_, rfl, rfl, by simp [newL, szOk]⟩)
          have e1 : (is.map fun z => MV.d (.lst false (iD [z, u - z]))) = ((twR u is).map fun r => D.lst false (iD r)).map MV.d := by simp [twR, Function.comp_def]
          have e2 : (iD is).map MV.d = is.map fun z => MV.d (.int z) := by simp [iD]
          simp only [List.reverse_nil, List.nil_append, e1] at hcc
          rw [e2] at hwk e
          have hn : ∀ S, newL false (((twR u is).map fun r => D.lst false (iD r)).map MV.d) S = .ok (.d (rowsD (twR u is))) S := fun S => newL_d S _ (szOk_of (by simp [twR]; omega))
          have hx1 := fun S => he (rowsD (twR u is)) _ (twR u is) u 2 S (.inl ⟨false, rfl⟩) (Rows.ofL _) (by intro z; simp [twR] at z; subst z; simp at hlen) (by simp [twR]; omega) (by decide) (by decide) (right_tw hu1 (hb u rfl) hi)
          simp [-List.map_map, d_two_signals, h1, hit, c1, c2, hwk, e, wipeM, hcc, hn, hx1]
      · rw [if_neg hlen]
        refine spx (S2 := []) (ds := [.int u, x]) hp (run_exc (σ := [some (.d (.int u)), some (.d x), none, none]) rfl ?_) rfl
        by_cases c1 : (1 : Int) ≤ (hs.length : Int)
        · have c2 : ¬ (hs.length : Int) ≤ 4 := by omega
          simp [d_two_signals, h1, hit, c1, c2]
        · simp [d_two_signals, h1, hit, c1]
    · rw [if_neg hu1]
      exact badU (by simp [isUnit]; omega)
  | _ => exact badU rfl
end
end Mi
namespace Mi
open PySem L2
/-- unit and rows -/
def tabD (u : Int) (rs : List (List Int)) : D := .lst false [.int (lowU u rs), rowsD (lowR u rs)]
/-- rows, a caller's own or not -/
def rowsT (t : Bool) (rs : List (List Int)) : D := .lst t (rs.map fun r => .lst false (iD r))
def sayD (s : String) (d : D) : D := .lst false [.str (Str.ofString s), d]
section
variable {P : String → Option Df} {n : Nat}
def SpNumX (C : Calls) : Prop := ∀ (x : D) (S : Sto), dep 8 x = true → callM (.bor []) (C "_law_is_number") [.d x] S = .ok (.d (.bl (isInt x))) S
theorem spNumX (hp : P "_law_is_number" = some l_is_number) : SpNumX (callN P Fu (n + 1)) := fun x S hx => by
  refine spc (S2 := []) (ds := [x]) hp (run_ret rfl ?_) rfl
  cases x <;> first | (simp [l_is_number, isiF, tyD, isiT, isInt]; done) | (simp [dep] at hx)
def SpOf (C : Calls) : Prop := ∀ (u : Int) (w : Nat) (rs : List (List Int)) (S : Sto), rs.length ≤ 1000 → (∀ r ∈ rs, r.length ≤ 1000) → callM (.bor []) (C "_law_of") [.d (expD u w rs)] S = .ok (.d (tabD u rs)) S
theorem spOf (hp : P "_law_of" = some l_of) (hr : SpExpRows (callN P Fu n)) : SpOf (callN P Fu (n + 1)) := fun u w rs S hl hw => by
  refine spc (S2 := []) (ds := [expD u w rs]) hp (run_ret rfl ?_) (by simp [tabD, clean, cleans, rowsD, cleans_rows])
  have h1 := hr u w rs [] hl hw
  have a1 : attrF "unit" (.d (expD u w rs)) [] = .ok (.d (.int (lowU u rs))) [] := by simp [attrF, insOf, expD, List.lookup]
  have i1 : insOf [] (.d (expD u w rs)) = some ("Experiment", [("unit", .d (.int (lowU u rs))), ("grid", .d (rowsD (lowR u rs))), ("states", .d (.int rs.length)), ("signals", .d (.int w))]) := by simp [insOf, expD]
  have s1 : ("Experiment" ++ "." ++ "rows" : String) = "Experiment.rows" := by decide
  simp [l_of, a1, i1, List.lookup, h1, newL, szOk, tabD]
theorem llow_for {C : Calls} {u : Int} {x : D} {S : Sto} : ∀ (rs : List (List Int)) (ns : List Int) (x3 : Option MV), ns.length + rs.flatten.length ≤ 1000 → ∃ y3,
    forGo (.nm 3) (exs C Fu l_lowest_b0) (rs.map fun r => .d (.lst false (iD r))) [some (.d (.int u)), some (.d x), some (.d (.lst false (iD ns))), x3, none, none] S = .next [some (.d (.int u)), some (.d x), some (.d (.lst false (iD (ns ++ rs.flatten)))), y3, none, none] S
  | [], ns, x3, _ => ⟨x3, by simp⟩
  | r :: rs, ns, x3, h => by
    rw [List.flatten_cons, List.length_append] at h
    obtain ⟨y3, ih⟩ := llow_for (C := C) (u := u) (x := x) (S := S) rs (ns ++ r) (some (.d (.lst false (iD r)))) (by rw [List.length_append]; omega)
    refine ⟨y3, ?_⟩
    rw [List.map_cons, forGo_cons, List.flatten_cons, ← List.append_assoc, ← ih]
    have hz : ns.length + r.length ≤ 1000000 := by omega
    have e : iD (ns ++ r) = iD ns ++ iD r := by simp [iD]
    simp [l_lowest_b0, szOk, hz, newL, e]
def SpLlow (C : Calls) : Prop := ∀ (t : Bool) (u : Int) (rs : List (List Int)) (S : Sto), 1 ≤ u → Bn 3000 u → rs.flatten.length ≤ 900 → rs.length ≤ 900 → (∀ r ∈ rs, r.length ≤ 900 ∧ ∀ z ∈ r, Bn 3000 z) → callM (.bor []) (C "_law_lowest") [.d (.int u), .d (rowsT t rs)] S = .ok (.d (tabD u rs)) S
theorem spLlow (hp : P "_law_lowest" = some l_lowest) (hd : SpLdiv (callN P Fu n)) : SpLlow (callN P Fu (n + 1)) := fun t u rs S h1 hb hf hl hr => by
  refine spc (S2 := []) (ds := [.int u, rowsT t rs]) hp (run_ret rfl ?_) (by simp [tabD, clean, cleans, rowsD, cleans_rows])
  obtain ⟨y3, e⟩ := llow_for (C := callN P Fu n) (u := u) (x := rowsT t rs) (S := []) rs [u] none (by simp only [List.length_cons, List.length_nil]; omega)
  have hg := tabG_ne (rs := rs) h1
  have hbs : ∀ z ∈ u :: rs.flatten, Bn 3000 z := fun z hz => by
    rcases List.mem_cons.mp hz with rfl | hz
    · exact hb
    · obtain ⟨r, hr1, hr2⟩ := List.mem_flatten.mp hz
      exact (hr r hr1).2 z hr2
  have hdv := hd false (u :: rs.flatten) [] hbs
  have hgb : Bn 3000 (tabG u rs : Int) := gcdF_bn (u :: rs.flatten) 0 hbs (by unfold Bn; simp; exact Nat.pow_pos (by decide))
  have hok : divOk (tabG u rs : Int) = true := divB (by omega) hgb
  have egt : gcdL (u :: rs.flatten) = tabG u rs := rfl
  rw [egt] at hdv
  have hc := fun Y3 => lcGo_of (el := ev (callN P Fu n) (.lc false (.bin .fdiv (.var 5) (.var 4)) (.nm 5) (.seq (.var 3)) .no [("_law_item", 5)])) (cd := evC (callN P Fu n) .no) (tg := .nm 3) (σ := [some (.d (.int u)), some (.d (rowsT t rs)), some (.d (.lst false (iD (u :: rs.flatten)))), none, some (.d (.int (tabG u rs))), Y3]) (S := [])
    (fun r : List Int => MV.d (.lst false (iD r))) (fun r => .d (.lst false (iD (r.map fun z => z.fdiv (tabG u rs))))) rs [] (fun r hr1 => by
      refine ⟨_, rfl, rfl, ?_⟩
      have hc2 := lcGo_of (el := ev (callN P Fu n) (.bin .fdiv (.var 5) (.var 4))) (cd := evC (callN P Fu n) .no) (tg := .nm 5) (σ := [some (.d (.int u)), some (.d (rowsT t rs)), some (.d (.lst false (iD (u :: rs.flatten)))), some (.d (.lst false (iD r))), some (.d (.int (tabG u rs))), none]) (S := [])
        (fun z : Int => MV.d (.int z)) (fun z => .d (.int (z.fdiv (tabG u rs)))) r [] (fun z hz => ⟨_, rfl, rfl, by simp [hok]⟩)
      have e1 : (r.map fun z => MV.d (.int (z.fdiv (tabG u rs)))) = (iD (r.map fun z => z.fdiv (tabG u rs))).map MV.d := by simp [iD]
      have e2 : (iD r).map MV.d = r.map fun z => MV.d (.int z) := by simp [iD]
      have hn : ∀ S, newL false ((iD (r.map fun z => z.fdiv (tabG u rs))).map MV.d) S = .ok (.d (.lst false (iD (r.map fun z => z.fdiv (tabG u rs))))) S := fun S => newL_d S _ (szOk_of (by have := (hr r hr1).1; simp; omega))
      simp only [List.reverse_nil, List.nil_append, e1] at hc2
      simp only [iD_cons] at hc2
      simp [-List.map_map, wipeM, e2, hc2, hn])
  have e3 : (rs.map fun r => MV.d (.lst false (iD (r.map fun z => z.fdiv (tabG u rs))))) = ((lowR u rs).map fun r => D.lst false (iD r)).map MV.d := by simp [lowR, Function.comp_def]
  have e4 : (rs.map fun r => D.lst false (iD r)).map MV.d = rs.map fun r => MV.d (.lst false (iD r)) := by simp
  have hwk : walked (.d (rowsT t rs)) [] = .ok (rs.map fun r => MV.d (.lst false (iD r))) [] := by rw [← e4]; rfl
  have hn4 : ∀ S, newL false (((lowR u rs).map fun r => D.lst false (iD r)).map MV.d) S = .ok (.d (rowsD (lowR u rs))) S := fun S => newL_d S _ (szOk_of (by simp [lowR]; omega))
  have hn0 : newL false [.d (.int u)] [] = .ok (.d (.lst false (iD [u]))) [] := by simp [newL, szOk]
  simp only [List.reverse_nil, List.nil_append, e3] at hc
  simp only [List.cons_append, List.nil_append] at e
  have hn5 : ∀ S, newL false [.d (.int (lowU u rs)), .d (rowsD (lowR u rs))] S = .ok (.d (tabD u rs)) S := fun S => rfl
  have elu : lowU u rs = u.fdiv (tabG u rs) := rfl
  rw [elu] at hn5
  simp only [iD_cons, iD_nil] at hc e hdv hn0
  simp [-List.map_map, l_lowest, hn0, hwk, e, hdv, hok, wipeM, hc, hn4, hn5]
end
end Mi
namespace Mi
open PySem L2
/-! ### drawn tables -/
theorem small {k : Nat} {x : Int} (h : x.natAbs < 2 ^ 20) (hk : 20 ≤ k := by decide) : Bn k x := .mk <| Nat.lt_of_lt_of_le h (Nat.pow_le_pow_right (by decide) hk)
theorem slF_from {j : Nat} {S : Sto} {ds : List D} {s : Nat} (hj : S[j]? = some (.lst (ds.map .d))) (hz : ds.length ≤ 1000) : slF false (.c j) (some (s : Int)) none S = .ok (.d (.lst false (ds.drop s))) S := by
  have e : slF.cutM (ds.map MV.d) (some (s : Int)) none = (ds.drop s).map MV.d := by
    unfold slF.cutM
    rw [HT.sIx_nat, HT.sIx_none]
    by_cases h : s ≤ ds.length
    · rw [Nat.min_eq_left (by simpa using h)]
      rw [List.take_of_length_le (by simp), List.map_drop]
    · rw [Nat.min_eq_right (by simp; omega)]
      rw [List.drop_eq_nil_of_le (by simp), List.drop_eq_nil_of_le (by omega)]
      simp
  simp only [slF, litems, hj, e]
  exact newL_d S _ (szOk_of (by simp; omega))
theorem slF_to {j : Nat} {S : Sto} {ds : List D} {s : Nat} (hj : S[j]? = some (.lst (ds.map .d))) (hz : ds.length ≤ 1000) : slF false (.c j) none (some (s : Int)) S = .ok (.d (.lst false (ds.take s))) S := by
  have e : slF.cutM (ds.map MV.d) none (some (s : Int)) = (ds.take s).map MV.d := by
    unfold slF.cutM
    rw [HT.sIx_nat, HT.sIx_none, List.drop_zero, Nat.sub_zero]
    by_cases h : s ≤ ds.length
    · rw [Nat.min_eq_left (by simpa using h), List.map_take]
    · rw [Nat.min_eq_right (by simp; omega), List.take_of_length_le (Nat.le_refl _), List.take_of_length_le (by omega)]
  simp only [slF, litems, hj, e]
  exact newL_d S _ (szOk_of (by simp; omega))
section
variable {P : String → Option Df} {n : Nat}
theorem row_for {C : Calls} (hT : SpTake C) {u m : D} {ns : List Int} (hns : ns.length ≤ 1000) : ∀ (ks : List MV) (acc : List Int) (rest a h : Int) (x5 x6 : Option MV), 0 ≤ rest → Bn 100 rest → 0 ≤ a → a + ks.length ≤ 1000000 → acc.length + ks.length ≤ 100 →
    ∃ ps rest' a' h' y5 y6, ps.length = ks.length ∧ (∀ z ∈ ps, 0 ≤ z) ∧ 0 ≤ rest' ∧ ps.sum + rest' = rest ∧ 0 ≤ a' ∧ a' ≤ a + ks.length ∧
      forGo (.nm 5) (exs C Fu l_row_b0) ks [some (.c 0), some (.d u), some (.d m), some (.c 1), some (.d (.int rest)), x5, x6, none] [pl a h ns, .lst ((iD acc).map .d)] =
        .next [some (.c 0), some (.d u), some (.d m), some (.c 1), some (.d (.int rest')), y5, y6, none] [pl a' h' ns, .lst ((iD (acc ++ ps)).map .d)]
  | [], acc, rest, a, h, x5, x6, h0, hb, ha, hA, hl => ⟨[], rest, a, h, x5, x6, rfl, fun z hz => by simp at hz, h0, by simp, ha, by simp, by simp⟩
  | k :: ks, acc, rest, a, h, x5, x6, h0, hb, ha, hA, hl => by
    simp only [List.length_cons] at hA hl
    obtain ⟨r, a1, h1, q1, q2, q3, q4, e1⟩ := hT [pl a h ns, .lst ((iD acc).map .d)] 0 a h ns (rest + 1) rfl ha (by omega) hns (by omega) ((hb.add (small (x := 1) (by decide))).mono (by decide))
    simp only [List.set_cons_zero] at e1
    have hb2 : Bn 100 (rest - r) := by unfold Bn at *; omega
    obtain ⟨ps, rest', a2, h2, y5, y6, l2, p2, r2, s2, q5, q6, e2⟩ := row_for hT hns ks (acc ++ [r]) (rest - r) a1 h1 (some k) (some (.d (.int r))) (by omega) hb2 q3 (by omega) (by simp; omega)
    refine ⟨r :: ps, rest', a2, h2, y5, y6, by simp [l2], fun z hz => ?_, r2, by simp; omega, q5, by simp; omega, ?_⟩
    · rcases List.mem_cons.mp hz with rfl | hz
      · exact q1
      · exact p2 z hz
    · have hz : acc.length ≤ 999999 := by omega
      have e3 : acc ++ r :: ps = acc ++ [r] ++ ps := by simp
      have e4 : iD (acc ++ [r]) = iD acc ++ [.int r] := by simp [iD]
      rw [forGo_cons, e3, ← e2, e4]
      simp [l_row_b0, e1, lstC, appF, szOk, hz]
def SpRow (C : Calls) : Prop := ∀ (S : Sto) (i : Nat) (a h : Int) (ns : List Int) (u : Int) (m : Nat), S[i]? = some (pl a h ns) → 0 ≤ a → a + 20 ≤ 1000000 → ns.length ≤ 1000 → 0 ≤ u → Bn 100 u → 1 ≤ m → m ≤ 10 →
  ∃ r a' h', r.length = m ∧ (∀ z ∈ r, 0 ≤ z) ∧ r.sum = u ∧ 0 ≤ a' ∧ a' ≤ a + 20 ∧ callM (.bor [true]) (C "_law_row") [.c i, .d (.int u), .d (.int m)] S = .ok (.d (.lst false (iD r))) (S.set i (pl a' h' ns))
theorem sum_app (a b : List Int) : (a ++ b).sum = a.sum + b.sum := by simp
theorem spRow (hp : P "_law_row" = some l_row) (hT : SpTake (callN P Fu n)) : SpRow (callN P Fu (n + 1)) := fun S i a h ns u m hi ha hA hns hu hb hm1 hm2 => by
  obtain ⟨ps, rest, a1, h1, y5, y6, l1, p1, r1, s1, q1, q2, e1⟩ := row_for hT (u := .int u) (m := .int m) hns (rangeL 0 ((m : Int) - 1)) [] u a h none none hu hb ha (by simp [rangeL]; omega) (by simp [rangeL]; omega)
  have hl : ps.length = m - 1 := by rw [l1]; simp [rangeL]
  simp only [List.nil_append, iD_nil, List.map_nil] at e1
  obtain ⟨s, a2, h2, t1, t2, t3, t4, e2⟩ := hT [pl a1 h1 ns, .lst ((iD (ps ++ [rest])).map .d)] 0 a1 h1 ns (m : Int) rfl q1 (by simp [rangeL] at q2; omega) hns (by omega) (small (by omega))
  simp only [List.set_cons_zero] at e2
  obtain ⟨sn, rfl⟩ := Int.eq_ofNat_of_zero_le t1
  have hlen : (ps ++ [rest]).length = m := by simp [hl]; omega
  refine ⟨(ps ++ [rest]).drop sn ++ (ps ++ [rest]).take sn, a2, h2, ?_, ?_, ?_, t3, by simp [rangeL] at q2; omega, ?_⟩
  · rw [List.length_append, List.length_drop, List.length_take, hlen]; omega
  · intro z hz
    have : z ∈ ps ++ [rest] := by
      rcases List.mem_append.mp hz with hz | hz
      · exact List.mem_of_mem_drop hz
      · exact List.mem_of_mem_take hz
    rcases List.mem_append.mp this with h | h
    · exact p1 z h
    · have : z = rest := by simpa using h
      rw [this]; exact r1
  · have := congrArg List.sum (List.take_append_drop sn (ps ++ [rest]))
    rw [sum_app] at this
    rw [sum_app]
    have e : (ps ++ [rest]).sum = u := by simp; omega
    omega
  · rw [callN_eq hp]
    refine lend1 (ds := [.int u, .int m]) (S2 := [pl a2 h2 ns, .lst ((iD (ps ++ [rest])).map .d)]) hi (pl_ok _ _ _) (by simp [deepL]) (run_ret rfl ?_) (freeze_d _ _ _) (by simp [clean, cleans_iD]) rfl (pl_ok _ _ _)
    have hrg : rgOk ((m : Int) - 1) = true := decide_eq_true (by omega)
    have hz : ps.length ≤ 999999 := by omega
    have eI : iD (ps ++ [rest]) = iD ps ++ [.int rest] := by simp [iD]
    have f1 := slF_from (j := 1) (S := [pl a2 h2 ns, .lst ((iD (ps ++ [rest])).map .d)]) (ds := iD (ps ++ [rest])) (s := sn) rfl (by rw [iD_length, hlen]; omega)
    have f2 := slF_to (j := 1) (S := [pl a2 h2 ns, .lst ((iD (ps ++ [rest])).map .d)]) (ds := iD (ps ++ [rest])) (s := sn) rfl (by rw [iD_length, hlen]; omega)
    have hn0 : newL true [] [pl a h ns] = .ok (.c 1) [pl a h ns, .lst []] := rfl
    have hcat : binF .add (.d (.lst false ((iD (ps ++ [rest])).drop sn))) (.d (.lst false ((iD (ps ++ [rest])).take sn))) [pl a2 h2 ns, .lst ((iD (ps ++ [rest])).map .d)] = .ok (.d (.lst false (iD ((ps ++ [rest]).drop sn ++ (ps ++ [rest]).take sn)))) [pl a2 h2 ns, .lst ((iD (ps ++ [rest])).map .d)] := by
      have hl2 : (iD (ps ++ [rest])).length = m := by rw [iD_length, hlen]
      rw [binF_cat, if_pos (szOk_of (by rw [List.length_drop, List.length_take, hl2]; omega)), newL_d _ _ (szOk_of (by rw [List.length_append, List.length_drop, List.length_take, hl2]; omega))]
      simp [iD]
    have happ : appF (.c 1) (.d (.int rest)) [pl a1 h1 ns, .lst ((iD ps).map .d)] = .ok (.d .non) [pl a1 h1 ns, .lst ((iD (ps ++ [rest])).map .d)] := by simp [appF, szOk, hz, eI]
    simp [l_row, hn0, hrg, e1, lstC, happ, e2, f1, f2, hcat]
/-- a row as the draws give it -/
def RowOk (u : Int) (m : Nat) (r : List Int) : Prop := r.length = m ∧ (∀ z ∈ r, 0 ≤ z) ∧ r.sum = u
theorem rows_lc {el : Slots → Sto → R MV} {cd : Slots → Sto → R Bool} {i : Nat} {σ : Slots} {ns : List Int} {T : Sto} (Pr : List Int → Prop) (hcd : ∀ σ S, cd σ S = .ok true S)
    (hel : ∀ x a h, 0 ≤ a → a + 20 ≤ 1000000 → ∃ r a' h', Pr r ∧ 0 ≤ a' ∧ a' ≤ a + 20 ∧ el (σ.set i (some x)) (pl a h ns :: T) = .ok (.d (.lst false (iD r))) (pl a' h' ns :: T)) :
    ∀ (xs acc : List MV) (a h : Int), 0 ≤ a → a + 20 * (xs.length : Int) ≤ 1000000 → ∃ (rs : List (List Int)) (a' h' : Int), rs.length = xs.length ∧ (∀ r ∈ rs, Pr r) ∧ 0 ≤ a' ∧ a' ≤ a + 20 * (xs.length : Int) ∧ lcGo el cd (.nm i) σ xs acc (pl a h ns :: T) = .ok (acc.reverse ++ (rs.map fun r => D.lst false (iD r)).map .d) (pl a' h' ns :: T)
  | [], acc, a, h, ha, hA => ⟨[], a, h, rfl, fun r hr => by simp at hr, ha, by simp, by simp [lcGo]⟩
  | x :: xs, acc, a, h, ha, hA => by
    simp only [List.length_cons] at hA
    obtain ⟨r, a1, h1, p1, q1, q2, e1⟩ := hel x a h ha (by omega)
    obtain ⟨rs, a2, h2, l2, p2, q3, q4, e2⟩ := rows_lc Pr hcd hel xs (.d (.lst false (iD r)) :: acc) a1 h1 q1 (by omega)
    refine ⟨r :: rs, a2, h2, by simp [l2], fun z hz => ?_, q3, by simp; omega, ?_⟩
    · rcases List.mem_cons.mp hz with rfl | hz
      · exact p1
      · exact p2 z hz
    · simp only [lcGo, bindTg_nm, hcd, e1, e2]
      simp
def SpLrows (C : Calls) : Prop := ∀ (S : Sto) (i : Nat) (a h : Int) (ns : List Int) (u : Int) (k m : Nat), S[i]? = some (pl a h ns) → 0 ≤ a → a + 200 ≤ 1000000 → ns.length ≤ 1000 → 0 ≤ u → Bn 100 u → 1 ≤ m → m ≤ 10 → k ≤ 10 →
  ∃ (rs : List (List Int)) (a' h' : Int), rs.length = k ∧ (∀ r ∈ rs, RowOk u m r) ∧ 0 ≤ a' ∧ a' ≤ a + 200 ∧ callM (.bor [true]) (C "_law_rows") [.c i, .d (.int k), .d (.int m), .d (.int u)] S = .ok (.d (rowsD rs)) (S.set i (pl a' h' ns))
theorem spLrows (hp : P "_law_rows" = some l_rows) (hR : SpRow (callN P Fu n)) : SpLrows (callN P Fu (n + 1)) := fun S i a h ns u k m hi ha hA hns hu hb hm1 hm2 hk => by
  obtain ⟨rs, a1, h1, l1, p1, q1, q2, e1⟩ := rows_lc (el := ev (callN P Fu n) (.call (.bor [true]) "_law_row" (.cons (.var 0) (.cons (.var 3) (.cons (.var 2) .nil))))) (cd := evC (callN P Fu n) .no) (i := 4) (σ := [some (.c 0), some (.d (.int k)), some (.d (.int m)), some (.d (.int u)), none]) (ns := ns) (T := []) (RowOk u m) (fun σ S => rfl)
    (fun x a h ha hA => by
      obtain ⟨r, a', h', t1, t2, t3, t4, t5, e⟩ := hR [pl a h ns] 0 a h ns u m rfl ha hA hns hu hb hm1 hm2
      simp only [List.set_cons_zero] at e
      exact ⟨r, a', h', ⟨t1, t2, t3⟩, t4, t5, by simp [e]⟩) (rangeL 0 (k : Int)) [] a h ha (by simp [rangeL]; omega)
  have hl : rs.length = k := by rw [l1]; simp [rangeL]
  refine ⟨rs, a1, h1, hl, p1, q1, by simp [rangeL] at q2; omega, ?_⟩
  rw [callN_eq hp]
  refine lend1 (ds := [.int k, .int m, .int u]) (S2 := [pl a1 h1 ns]) hi (pl_ok _ _ _) (by simp [deepL]) (run_ret rfl ?_) (freeze_d _ _ _) (by simp [clean, rowsD, cleans_rows]) rfl (pl_ok _ _ _)
  have hrg : rgOk (k : Int) = true := decide_eq_true (by omega)
  have hn : newL false ((rs.map fun r => D.lst false (iD r)).map MV.d) [pl a1 h1 ns] = .ok (.d (rowsD rs)) [pl a1 h1 ns] := newL_d _ _ (szOk_of (by simp; omega))
  simp only [List.reverse_nil, List.nil_append] at e1
  simp [-List.map_map, l_rows, hrg, wipeM, e1, hn]
/-- a table as it is drawn -/
def drawnD (u : Int) (rs : List (List Int)) : D := .lst false [.int u, rowsD rs]
def SpTable (C : Calls) : Prop := ∀ (S : Sto) (i : Nat) (a h : Int) (ns : List Int) (k m v : Nat), S[i]? = some (pl a h ns) → 0 ≤ a → a + 210 ≤ 1000000 → ns.length ≤ 1000 → 1 ≤ m → m ≤ 9 → k ≤ 10 → 1 ≤ v → v ≤ 1000 →
  ∃ (u : Int) (w : Nat) (rs : List (List Int)) (a' h' : Int), 1 ≤ u ∧ u ≤ v ∧ 1 ≤ w ∧ w ≤ m ∧ rs.length = k ∧ (∀ r ∈ rs, RowOk u w r) ∧ 0 ≤ a' ∧ a' ≤ a + 210 ∧ callM (.bor [true]) (C "_law_table") [.c i, .d (.int k), .d (.int m), .d (.int v)] S = .ok (.d (drawnD u rs)) (S.set i (pl a' h' ns))
theorem spTable (hp : P "_law_table" = some l_table) (hT : SpTake (callN P Fu n)) (hR : SpLrows (callN P Fu n)) : SpTable (callN P Fu (n + 1)) := fun S i a h ns k m v hi ha hA hns hm1 hm2 hk hv1 hv2 => by
  obtain ⟨r1, a1, h1, p1, p2, p3, p4, e1⟩ := hT [pl a h ns] 0 a h ns (v : Int) rfl ha (by omega) hns (by omega) (small (by omega))
  obtain ⟨r2, a2, h2, p5, p6, p7, p8, e2⟩ := hT [pl a1 h1 ns] 0 a1 h1 ns (m : Int) rfl p3 (by omega) hns (by omega) (small (by omega))
  obtain ⟨w, hw⟩ : ∃ w : Nat, 1 + r2 = (w : Int) := ⟨(1 + r2).toNat, by omega⟩
  obtain ⟨rs, a3, h3, l3, g3, q1, q2, e3⟩ := hR [pl a2 h2 ns] 0 a2 h2 ns (1 + r1) k w rfl p7 (by omega) hns (by omega) (small (by omega)) (by omega) (by omega) hk
  simp only [List.set_cons_zero] at e1 e2 e3
  refine ⟨1 + r1, w, rs, a3, h3, by omega, by omega, by omega, by omega, l3, g3, q1, by omega, ?_⟩
  rw [callN_eq hp]
  refine lend1 (ds := [.int k, .int m, .int v]) (S2 := [pl a3 h3 ns]) hi (pl_ok _ _ _) (by simp [deepL]) (run_ret rfl ?_) (freeze_d _ _ _) (by simp [drawnD, clean, cleans, rowsD, cleans_rows]) rfl (pl_ok _ _ _)
  rw [← hw] at e3
  simp [l_table, e1, e2, e3, newL, szOk, drawnD]
end
end Mi
namespace Mi
open PySem L2
/-! ### products of tables -/
def prodRow (a b : List Int) : List Int := a.flatMap fun x => b.map fun y => x * y
def prodR (R R' : List (List Int)) : List (List Int) := List.zipWith prodRow R R'
theorem sum_mulL (x : Int) : ∀ b : List Int, (b.map fun y => x * y).sum = x * b.sum
  | [] => by simp
  | y :: b => by simp [sum_mulL x b, Int.mul_add]
theorem prodRow_sum : ∀ a b : List Int, (prodRow a b).sum = a.sum * b.sum
  | [], b => by simp [prodRow]
  | x :: a, b => by
    have ih := prodRow_sum a b
    simp only [prodRow, List.flatMap_cons, sum_app, sum_mulL, List.sum_cons, Int.add_mul] at ih ⊢
    rw [ih]
theorem prodRow_len : ∀ a b : List Int, (prodRow a b).length = a.length * b.length
  | [], b => by simp [prodRow]
  | x :: a, b => by
    have ih := prodRow_len a b
    simp only [prodRow, List.flatMap_cons, List.length_append, List.length_map, List.length_cons, Nat.add_mul] at ih ⊢
    omega
theorem mem_zipWith {α β γ : Type} {f : α → β → γ} : ∀ {as : List α} {bs : List β} {c : γ}, c ∈ List.zipWith f as bs → ∃ a ∈ as, ∃ b ∈ bs, c = f a b
  | [], _, _, h => by simp at h
  | _ :: _, [], _, h => by simp at h
  | a :: as, b :: bs, c, h => by
    rw [List.zipWith_cons_cons] at h
    rcases List.mem_cons.mp h with rfl | h
    · exact ⟨a, by simp, b, by simp, rfl⟩
    · obtain ⟨x, hx, y, hy, e⟩ := mem_zipWith h
      exact ⟨x, by simp [hx], y, by simp [hy], e⟩
theorem right_prod {U U' : Int} {w w' : Nat} {R R' : List (List Int)} (h : Right U w R) (h' : Right U' w' R') (hb : Bn 2000 (U * U')) : Right (U * U') (w * w') (prodR R R') where
  u1 := by
    have := Int.mul_pos (show 0 < U by have := h.u1; omega) (show 0 < U' by have := h'.u1; omega)
    omega
  ub := hb
  wide := fun r hr => by
    obtain ⟨a, ha, b, hb, rfl⟩ := mem_zipWith hr
    rw [prodRow_len, h.wide a ha, h'.wide b hb]
  pos := fun r hr z hz => by
    obtain ⟨a, ha, b, hb, rfl⟩ := mem_zipWith hr
    simp only [prodRow, List.mem_flatMap, List.mem_map] at hz
    obtain ⟨x, hx, y, hy, rfl⟩ := hz
    exact Int.mul_nonneg (h.pos a ha x hx) (h'.pos b hb y hy)
  sum := fun r hr => by
    obtain ⟨a, ha, b, hb, rfl⟩ := mem_zipWith hr
    rw [prodRow_sum, h.sum a ha, h'.sum b hb]
section
variable {P : String → Option Df} {n : Nat}
def SpPairs (C : Calls) : Prop := ∀ (t t' : Bool) (a b : List Int) (S : Sto), (∀ x ∈ a, Bn 2000 x) → (∀ x ∈ b, Bn 2000 x) → a.length * b.length ≤ 1000 → callM (.bor []) (C "pairs") [.d (.lst t (iD a)), .d (.lst t' (iD b))] S = .ok (.d (.lst false (iD (prodRow a b)))) S
theorem spPairs (hp : P "pairs" = some d_pairs) : SpPairs (callN P Fu (n + 1)) := fun t t' a b S ha hb hl => by
  refine spc (S2 := []) (ds := [.lst t (iD a), .lst t' (iD b)]) hp (run_ret rfl ?_) (by simp [clean, cleans_iD])
  have hc := lcGo2_flat (el := ev (callN P Fu n) (.bin .mul (.var 2) (.var 3))) (it2 := evI (callN P Fu n) (.seq (.var 1))) (tg := .nm 2) (tg2 := .nm 3) (w2 := [3]) (σ := [some (.d (.lst t (iD a))), some (.d (.lst t' (iD b))), none, none]) (S := [])
    (fun x : Int => MV.d (.int x)) (fun _ => b) (fun y : Int => MV.d (.int y)) (fun x y => .d (.int (x * y))) a [] (fun x hx => by
      refine ⟨_, rfl, by simp [iD, Function.comp_def], fun y hy => ⟨_, rfl, ?_⟩⟩
      have := mulB (ha x hx) (hb y hy)
      simp [wipeM, this])
  have e1 : a.flatMap (fun x => b.map fun y => MV.d (.int (x * y))) = (iD (prodRow a b)).map MV.d := by
    simp [prodRow, iD, List.map_flatMap, Function.comp_def]
  have e2 : (iD a).map MV.d = a.map fun x => MV.d (.int x) := by simp [iD]
  have hn : newL false ((iD (prodRow a b)).map MV.d) [] = .ok (.d (.lst false (iD (prodRow a b)))) [] := newL_d _ _ (szOk_of (by rw [iD_length, prodRow_len]; omega))
  simp only [List.reverse_nil, List.nil_append, e1] at hc
  simp [-List.map_map, d_pairs, e2, wipeM, hc, hn]
def SpCount (C : Calls) : Prop := ∀ (k : Int) (S : Sto), callM (.bor []) (C "check_count") [.d (.int k)] S = if k ≤ 64 then .ok (.d .non) S else .exc "TooMany" [("count", .int k)] S
theorem spCount (hp : P "check_count" = some d_check_count) : SpCount (callN P Fu (n + 1)) := fun k S => by
  by_cases h : k ≤ 64
  · rw [if_pos h]
    have h2 : ¬ 64 < k := by omega
    exact spc (S2 := []) (ds := [.int k]) hp (run_next (σ := [some (.d (.int k))]) rfl (by simp [d_check_count, h2])) rfl
  · rw [if_neg h]
    have h2 : 64 < k := by omega
    exact spx (S2 := []) (ds := [.int k]) hp (run_exc (σ := [some (.d (.int k))]) rfl (by simp [d_check_count, h2])) rfl
/-- an experiment by its own numbers -/
def exI (U : Int) (w : Nat) (R : List (List Int)) : D := .ins "Experiment" [("unit", .int U), ("grid", rowsD R), ("states", .int R.length), ("signals", .int w)]
theorem exp_exI (u : Int) (w : Nat) (rs : List (List Int)) : expD u w rs = exI (lowU u rs) w (lowR u rs) := by simp [expD, exI, lowR]
def SpSame2 (C : Calls) : Prop := ∀ (U U' : Int) (w w' : Nat) (R R' : List (List Int)) (S : Sto), callM (.bor []) (C "check_same_states") [.d (.lst false [exI U w R, exI U' w' R'])] S = if R.length = R'.length then .ok (.d .non) S else .exc "Mismatch" [] S
theorem spSame2 (hp : P "check_same_states" = some d_check_same_states) : SpSame2 (callN P Fu (n + 1)) := fun U U' w w' R R' S => by
  have a1 : ∀ U w R, attrF "states" (.d (exI U w R)) [] = .ok (.d (.int R.length)) [] := fun U w R => by simp [attrF, insOf, exI, List.lookup]
  by_cases h : R.length = R'.length
  · rw [if_pos h]
    refine spc (S2 := []) (ds := [.lst false [exI U w R, exI U' w' R']]) hp (run_next (σ := [some (.d (.lst false [exI U w R, exI U' w' R'])), none]) rfl ?_) rfl
    have h' : (R'.length : Int) = (R.length : Int) := by omega
    simp [d_check_same_states, wipeM, lcGo, a1, h', newL, szOk, litems, blsOf]
  · rw [if_neg h]
    refine spx (S2 := []) (ds := [.lst false [exI U w R, exI U' w' R']]) hp (run_exc (σ := [some (.d (.lst false [exI U w R, exI U' w' R'])), none]) rfl ?_) rfl
    have h' : ¬ (R'.length : Int) = (R.length : Int) := by omega
    simp [d_check_same_states, wipeM, lcGo, a1, h', newL, szOk, litems, blsOf]
/-- both experiments -/
structure Rt (U : Int) (w : Nat) (R : List (List Int)) : Prop where
  r : Right U w R
  ne : R ≠ []
  l4 : R.length ≤ 4
  w1 : 1 ≤ w
  w2 : w ≤ 64
def SpIRows (C : Calls) : Prop := ∀ (U : Int) (w : Nat) (R : List (List Int)) (S : Sto), R.length ≤ 1000 → (∀ r ∈ R, r.length ≤ 1000) → callM (.bor []) (C "Experiment.rows") [.d (exI U w R)] S = .ok (.d (rowsD R)) S
theorem spIRows (hp : P "Experiment.rows" = some d_Experiment_rows) : SpIRows (callN P Fu (n + 1)) := fun U w R S hl hw => by
  refine spc (S2 := []) (ds := [exI U w R]) hp (run_ret rfl ?_) (by simp [clean, rowsD, cleans_rows])
  have hc := lcGo_of (el := ev (callN P Fu n) (.blt false .list (.cons (.var 1) .nil))) (cd := evC (callN P Fu n) .no) (tg := .nm 1) (σ := [some (.d (exI U w R)), none]) (S := [])
    (fun r : List Int => MV.d (.lst false (iD r))) (fun r => .d (.lst false (iD r))) R [] (fun r hr => by
      have hrl : r.length ≤ 1000000 := by have := hw r hr; omega
      exact ⟨_, rfl, rfl, by simp [newL, szOk, hrl]⟩)
  have e : ((R.map fun r => D.lst false (iD r)).map MV.d) = R.map fun r => MV.d (.lst false (iD r)) := by simp
  have hn : ∀ S, newL false (R.map fun r => MV.d (.lst false (iD r))) S = .ok (.d (rowsD R)) S := fun S => by
    rw [← e]; exact newL_d S _ (szOk_of (by simp; omega))
  simp only [List.reverse_nil, List.nil_append] at hc
  have hat : attrF "grid" (.d (exI U w R)) [] = .ok (.d (rowsD R)) [] := by simp [attrF, insOf, exI, List.lookup]
  have hwk : walked (.d (rowsD R)) [] = .ok (R.map fun r => MV.d (.lst false (iD r))) [] := by rw [← e]; rfl
  simp [d_Experiment_rows, hat, hwk, wipeM, hc, hn]
theorem zipL_rows : ∀ (R R' : List (List Int)), zipL (R.map fun r => MV.d (.lst false (iD r))) (R'.map fun r => MV.d (.lst false (iD r))) = (R.zip R').map fun p => MV.d (.tup [.lst false (iD p.1), .lst false (iD p.2)])
  | [], R' => by cases R' <;> rfl
  | _ :: _, [] => rfl
  | r :: R, r' :: R' => by simp [zipL, tupV, zipL_rows R R']
def SpBoth (C : Calls) : Prop := ∀ (U U' : Int) (w w' : Nat) (R R' : List (List Int)) (S : Sto), Rt U w R → Rt U' w' R' → Bn 900 U → Bn 900 U' →
  callM (.bor []) (C "both") [.d (exI U w R), .d (exI U' w' R')] S = if R.length = R'.length then (if (w : Int) * w' ≤ 64 then .ok (.d (expD (U * U') (w * w') (prodR R R'))) S else .exc "TooMany" [("count", .int ((w : Int) * w'))] S) else .exc "Mismatch" [] S
theorem spBoth (hp : P "both" = some d_both) (h1 : SpSame2 (callN P Fu n)) (h2 : SpCount (callN P Fu n)) (h3 : SpIRows (callN P Fu n)) (h4 : SpPairs (callN P Fu n)) (h5 : SpExp (callN P Fu n)) : SpBoth (callN P Fu (n + 1)) := fun U U' w w' R R' S T T' bU bU' => by
  have a1 : ∀ U w R, attrF "signals" (.d (exI U w R)) [] = .ok (.d (.int w)) [] := fun U w R => by simp [attrF, insOf, exI, List.lookup]
  have a2 : ∀ U w R, attrF "unit" (.d (exI U w R)) [] = .ok (.d (.int U)) [] := fun U w R => by simp [attrF, insOf, exI, List.lookup]
  have i1 : ∀ U w R, insOf [] (.d (exI U w R)) = some ("Experiment", [("unit", .d (.int U)), ("grid", .d (rowsD R)), ("states", .d (.int R.length)), ("signals", .d (.int w))]) := fun U w R => by simp [insOf, exI]
  have hn : newL false [.d (exI U w R), .d (exI U' w' R')] [] = .ok (.d (.lst false [exI U w R, exI U' w' R'])) [] := rfl
  have hs := h1 U U' w w' R R' []
  have hm : mulOk (w : Int) (w' : Int) = true := mulB (a := 20) (b := 20) (by have := T.w2; unfold Bn; omega) (by have := T'.w2; unfold Bn; omega)
  have hc := h2 ((w : Int) * w') []
  by_cases hl : R.length = R'.length
  · rw [if_pos hl] at hs ⊢
    by_cases hk : (w : Int) * w' ≤ 64
    · rw [if_pos hk] at hc ⊢
      refine spc (S2 := []) (ds := [exI U w R, exI U' w' R']) hp (run_ret rfl ?_) (clean_exp _ _ _)
      have r1 := h3 U w R [] (by have := T.l4; omega) (fun r hr => by rw [T.r.wide r hr]; have := T.w2; omega)
      have r2 := h3 U' w' R' [] (by have := T'.l4; omega) (fun r hr => by rw [T'.r.wide r hr]; have := T'.w2; omega)
      have mu := mulB bU bU'
      have hkn : w * w' ≤ 64 := by have : ((w * w' : Nat) : Int) ≤ 64 := by rw [Int.natCast_mul]; exact hk
                                   omega
      have hlc := lcGo_of (el := ev (callN P Fu n) (.call (.bor []) "pairs" (.cons (.var 2) (.cons (.var 3) .nil)))) (cd := evC (callN P Fu n) .no) (tg := .tp [2, 3]) (σ := [some (.d (exI U w R)), some (.d (exI U' w' R')), none, none]) (S := [])
        (fun p : List Int × List Int => MV.d (.tup [.lst false (iD p.1), .lst false (iD p.2)])) (fun p => .d (.lst false (iD (prodRow p.1 p.2)))) (R.zip R') [] (fun p hp => by
          have m1 := (List.of_mem_zip hp).1
          have m2 := (List.of_mem_zip hp).2
          have := h4 false false p.1 p.2 [] (fun z hz => T.r.bn m1 hz) (fun z hz => T'.r.bn m2 hz) (by rw [T.r.wide _ m1, T'.r.wide _ m2]; omega)
          exact ⟨[some (.d (exI U w R)), some (.d (exI U' w' R')), some (.d (.lst false (iD p.1))), some (.d (.lst false (iD p.2)))], by simp, rfl, by simp [this]⟩)
      have e1 : ((R.zip R').map fun p => MV.d (.lst false (iD (prodRow p.1 p.2)))) = ((prodR R R').map fun r => D.lst false (iD r)).map MV.d := by
        simp [prodR, List.map_zip_eq_zipWith, List.map_zipWith]
        rfl
      have e4 : ∀ R : List (List Int), (R.map fun r => D.lst false (iD r)).map MV.d = R.map fun r => MV.d (.lst false (iD r)) := fun R => by simp
      have hw1 : ∀ R : List (List Int), walked (.d (rowsD R)) [] = .ok (R.map fun r => MV.d (.lst false (iD r))) [] := fun R => by rw [← e4]; rfl
      have hpl : (prodR R R').length = R.length := by simp [prodR, hl]
      have hnn : newL false (((prodR R R').map fun r => D.lst false (iD r)).map MV.d) [] = .ok (.d (rowsD (prodR R R'))) [] := newL_d _ _ (szOk_of (by simp only [List.length_map, hpl]; have := T.l4; omega))
      have he := h5 (rowsD (prodR R R')) _ (prodR R R') (U * U') (w * w') [] (.inl ⟨false, rfl⟩) (Rows.ofL _) (by intro z; have : (prodR R R').length = 0 := by rw [z]; rfl
                                                                                                                  rw [hpl] at this; exact T.ne (List.eq_nil_of_length_eq_zero this)) (by rw [hpl]; exact T.l4) (Nat.mul_pos T.w1 T'.w1) (by omega) (right_prod T.r T'.r ((bU.mul bU').mono (by decide)))
      simp only [List.reverse_nil, List.nil_append, e1] at hlc
      simp [-List.map_map, d_both, hn, hs, a1, hm, hc, a2, mu, i1, List.lookup, r1, r2, hw1, zipL_rows, wipeM, hlc, hnn, he]
    · rw [if_neg hk] at hc ⊢
      exact spx (S2 := []) (ds := [exI U w R, exI U' w' R']) hp (run_exc (σ := [some (.d (exI U w R)), some (.d (exI U' w' R')), none, none]) rfl (by simp [d_both, hn, hs, a1, hm, hc])) rfl
  · rw [if_neg hl] at hs ⊢
    exact spx (S2 := []) (ds := [exI U w R, exI U' w' R']) hp (run_exc (σ := [some (.d (exI U w R)), some (.d (exI U' w' R')), none, none]) rfl (by simp [d_both, hn, hs])) rfl
end
end Mi
namespace Mi
open PySem L2
/-! ### tables times a factor -/
def scl (c : Int) (rs : List (List Int)) : List (List Int) := rs.map fun r => r.map fun z => c * z
theorem gcdF_scale (c : Nat) : ∀ (ns : List Int) (g : Nat), gcdF (c * g) (ns.map fun z => (c : Int) * z) = c * gcdF g ns
  | [], g => rfl
  | z :: ns, g => by
    have e : Int.gcd ((c : Int) * z) ((c * g : Nat) : Int) = c * Int.gcd z (g : Int) := by
      rw [Int.natCast_mul]
      have := Int.gcd_mul_left (c : Int) z (g : Int)
      simpa using this
    show gcdF (Int.gcd ((c : Int) * z) ((c * g : Nat) : Int)) (ns.map fun z => (c : Int) * z) = _
    rw [e]
    exact gcdF_scale c ns (Int.gcd z g)
theorem tabG_scale (c : Nat) (u : Int) (rs : List (List Int)) : tabG ((c : Int) * u) (scl c rs) = c * tabG u rs := by
  have h := gcdF_scale c (u :: rs.flatten) 0
  simp only [Nat.mul_zero] at h
  have e : ((c : Int) * u) :: (scl c rs).flatten = (u :: rs.flatten).map fun z => (c : Int) * z := by simp [scl, List.map_flatten]
  show gcdF 0 (((c : Int) * u) :: (scl c rs).flatten) = _
  rw [e]
  exact h
theorem fdiv_scale {c : Nat} (hc : 1 ≤ c) (x : Int) (g : Nat) (hg : g ≠ 0) : ((c : Int) * x).fdiv ((c * g : Nat) : Int) = x.fdiv (g : Int) := by
  rw [Int.natCast_mul, Int.mul_fdiv_mul_of_pos _ _ (by omega)]
theorem lowU_scale {c : Nat} (hc : 1 ≤ c) {u : Int} (hu : 1 ≤ u) (rs : List (List Int)) : lowU ((c : Int) * u) (scl c rs) = lowU u rs := by
  unfold lowU
  rw [tabG_scale]
  exact fdiv_scale hc u _ (tabG_ne hu)
theorem lowR_scale {c : Nat} (hc : 1 ≤ c) {u : Int} (hu : 1 ≤ u) (rs : List (List Int)) : lowR ((c : Int) * u) (scl c rs) = lowR u rs := by
  unfold lowR
  rw [tabG_scale]
  simp only [scl, List.map_map]
  refine List.map_congr_left fun r _ => ?_
  simp only [Function.comp_def, List.map_map]
  exact List.map_congr_left fun z _ => fdiv_scale hc z _ (tabG_ne hu)
/-- a table is its lowest one, times the divisor -/
theorem low_back {u : Int} (hu : 1 ≤ u) (rs : List (List Int)) : u = (tabG u rs : Int) * lowU u rs ∧ rs = scl (tabG u rs) (lowR u rs) := by
  have hd := (gcdF_dvd (u :: rs.flatten) 0).2
  have hg := tabG_ne (rs := rs) hu
  have key : ∀ z ∈ u :: rs.flatten, z = (tabG u rs : Int) * z.fdiv (tabG u rs) := fun z hz => by
    obtain ⟨c, hc⟩ := hd z hz
    have hc : z = (tabG u rs : Int) * c := hc
    have : z.fdiv (tabG u rs : Int) = c := by
      have h2 : ((tabG u rs : Int) * c).fdiv (tabG u rs : Int) = c := Int.mul_fdiv_cancel_left _ (by omega)
      rw [← hc] at h2; exact h2
    rw [this]; exact hc
  refine ⟨key u (by simp), ?_⟩
  simp only [scl, lowR, List.map_map]
  conv => lhs; rw [← List.map_id rs]
  refine List.map_congr_left fun r hr => ?_
  simp only [Function.comp_def, List.map_map, id]
  conv => lhs; rw [← List.map_id r]
  exact List.map_congr_left fun z hz => key z (by simp; right; exact ⟨r, hr, hz⟩)
theorem prodRow_scl (c : Int) (a b : List Int) : prodRow a (b.map fun z => c * z) = (prodRow a b).map fun z => c * z := by
  simp [prodRow, List.map_flatMap, Function.comp_def, Int.mul_left_comm]
theorem prodR_scl (c : Int) : ∀ Q R : List (List Int), prodR Q (scl c R) = scl c (prodR Q R)
  | [], R => by simp [prodR, scl]
  | _ :: _, [] => by simp [prodR, scl]
  | q :: Q, r :: R => by
    have ih := prodR_scl c Q R
    simp only [prodR, scl, List.map_cons, List.zipWith_cons_cons, prodRow_scl] at ih ⊢
    rw [ih]
end Mi
namespace Mi
open PySem L2
theorem lowU_pos {u : Int} (hu : 1 ≤ u) (rs : List (List Int)) : 1 ≤ lowU u rs := by
  have h := (low_back hu rs).1
  have hg := tabG_ne (rs := rs) hu
  rcases Int.lt_or_le 0 (lowU u rs) with z | z
  · omega
  · have := Int.mul_nonpos_of_nonneg_of_nonpos (show 0 ≤ (tabG u rs : Int) by omega) z
    omega
/-- lowest terms are right -/
theorem right_low {u : Int} {w : Nat} {rs : List (List Int)} (h : Right u w rs) : Right (lowU u rs) w (lowR u rs) where
  u1 := lowU_pos h.u1 rs
  ub := h.ub.fdiv _
  wide := fun r hr => by
    simp only [lowR, List.mem_map] at hr
    obtain ⟨q, hq, rfl⟩ := hr
    simpa using h.wide q hq
  pos := fun r hr z hz => by
    simp only [lowR, List.mem_map] at hr
    obtain ⟨q, hq, rfl⟩ := hr
    obtain ⟨y, hy, rfl⟩ := List.mem_map.mp hz
    have := h.pos q hq y hy
    exact Int.fdiv_nonneg this (by omega)
  sum := fun r hr => by
    have hg := tabG_ne (rs := rs) h.u1
    have hb := low_back h.u1 rs
    have hr2 : (r.map fun z => (tabG u rs : Int) * z) ∈ rs := by
      have h0 : (r.map fun z => (tabG u rs : Int) * z) ∈ scl (tabG u rs) (lowR u rs) := List.mem_map.mpr ⟨r, hr, rfl⟩
      rw [← hb.2] at h0
      exact h0
    have hs := h.sum _ hr2
    rw [sum_mulL] at hs
    have := hs.trans hb.1
    exact Int.eq_of_mul_eq_mul_left (by omega) this
theorem rt_exp {u : Int} {w : Nat} {rs : List (List Int)} (h : Right u w rs) (hne : rs ≠ []) (h4 : rs.length ≤ 4) (h1 : 1 ≤ w) (h2 : w ≤ 64) : Rt (lowU u rs) w (lowR u rs) :=
  ⟨right_low h, by intro z; exact hne (by simpa [lowR] using z), by simpa [lowR] using h4, h1, h2⟩
/-- several times -/
def agT (U : Int) (w : Nat) (R : List (List Int)) : Nat → Int × Nat × List (List Int)
  | 0 => (1, 1, unR R.length)
  | k + 1 => (lowU ((agT U w R k).1 * U) (prodR (agT U w R k).2.2 R), (agT U w R k).2.1 * w, lowR ((agT U w R k).1 * U) (prodR (agT U w R k).2.2 R))
theorem agT_len (U : Int) (w : Nat) (R : List (List Int)) : ∀ k, (agT U w R k).2.2.length = R.length
  | 0 => by simp [agT, unR]
  | k + 1 => by simp [agT, lowR, prodR, agT_len U w R k]
theorem agT_w (U : Int) (w : Nat) (R : List (List Int)) : ∀ k, (agT U w R k).2.1 = w ^ k
  | 0 => rfl
  | k + 1 => by simp [agT, agT_w U w R k, Nat.pow_succ]
theorem agT_rt {U : Int} {w : Nat} {R : List (List Int)} (T : Rt U w R) (hb : Bn 100 U) : ∀ k, k ≤ 8 → w ^ k ≤ 64 → Rt (agT U w R k).1 (agT U w R k).2.1 (agT U w R k).2.2 ∧ Bn (1 + 100 * k) (agT U w R k).1
  | 0, _, _ => ⟨⟨right_un, by intro z; exact T.ne (by have := congrArg List.length z; simpa [agT, unR] using this), by simpa [agT, unR] using T.l4, by simp [agT], by simp [agT]⟩, by show Bn 1 1; unfold Bn; decide⟩
  | k + 1, hk, hw => by
    have hle : w ^ k ≤ w ^ (k + 1) := Nat.pow_le_pow_right T.w1 (by omega)
    obtain ⟨ih, ib⟩ := agT_rt T hb k (by omega) (by omega)
    have hbb : Bn (1 + 100 * k + 100) ((agT U w R k).1 * U) := ib.mul hb
    have R2 := right_prod ih.r T.r (hbb.mono (by omega))
    have hl : (prodR (agT U w R k).2.2 R).length = R.length := by simp [prodR, agT_len]
    have hww : (agT U w R k).2.1 * w = w ^ (k + 1) := by rw [agT_w, Nat.pow_succ]
    refine ⟨?_, (hbb.fdiv _).mono (by omega)⟩
    exact rt_exp R2 (by intro z; have := congrArg List.length z; rw [hl] at this; exact T.ne (List.eq_nil_of_length_eq_zero this)) (by rw [hl]; exact T.l4) (by show 1 ≤ (agT U w R k).2.1 * w; rw [hww]; exact Nat.pow_pos T.w1) (by show (agT U w R k).2.1 * w ≤ 64; rw [hww]; exact hw)
end Mi
namespace Mi
open PySem L2
section
variable {P : String → Option Df} {n : Nat}
theorem cnt_for {C : Calls} {U : Int} {w : Nat} {R : List (List Int)} {x1 x4 : Option MV} (hw : w ≤ 64) : ∀ (ks : List MV) (c : Nat) (x3 : Option MV), c ≤ 64 ^ 6 → ks.length ≤ 6 → c * w ^ ks.length ≤ 64 ^ 6 → 1 ≤ w → ∃ y3,
    forGo (.nm 3) (exs C Fu d_again_b1) ks [some (.d (exI U w R)), x1, some (.d (.int (c : Int))), x3, x4] [] = .next [some (.d (exI U w R)), x1, some (.d (.int ((c * w ^ ks.length : Nat) : Int))), y3, x4] []
  | [], c, x3, _, _, _, _ => ⟨x3, by simp⟩
  | k :: ks, c, x3, hc, hk, hl, hw1 => by
    simp only [List.length_cons] at hk hl
    have e0 : c * w ^ (ks.length + 1) = c * w * w ^ ks.length := by rw [Nat.pow_succ, Nat.mul_comm (w ^ ks.length) w, Nat.mul_assoc]
    have hcw : c * w ≤ 64 ^ 6 := by
      rw [e0] at hl
      exact Nat.le_trans (Nat.le_mul_of_pos_right _ (Nat.pow_pos hw1)) hl
    obtain ⟨y3, ih⟩ := cnt_for (C := C) (U := U) (R := R) (x1 := x1) (x4 := x4) hw ks (c * w) (some k) hcw (by omega) (by rw [← e0]; exact hl) hw1
    refine ⟨y3, ?_⟩
    have a1 : attrF "signals" (.d (exI U w R)) [] = .ok (.d (.int w)) [] := by simp [attrF, insOf, exI, List.lookup]
    have hm : mulOk (c : Int) (w : Int) = true := mulOk_of (a := 60) (b := 60) (by omega) (by omega)
    rw [List.length_cons, e0, forGo_cons, ← ih]
    simp [d_again_b1, aug_eq, augI, a1, hm]
theorem fnd_for {C : Calls} (hB : SpBoth C) {U : Int} {w : Nat} {R : List (List Int)} (T : Rt U w R) (hb : Bn 100 U) {x1 x2 : Option MV} : ∀ (ks : List MV) (i : Nat) (x3 : Option MV), i + ks.length ≤ 6 → w ^ (i + ks.length) ≤ 64 → ∃ y3,
    forGo (.nm 3) (exs C Fu d_again_b0) ks [some (.d (exI U w R)), x1, x2, x3, some (.d (exI (agT U w R i).1 (agT U w R i).2.1 (agT U w R i).2.2))] [] =
      .next [some (.d (exI U w R)), x1, x2, y3, some (.d (exI (agT U w R (i + ks.length)).1 (agT U w R (i + ks.length)).2.1 (agT U w R (i + ks.length)).2.2))] []
  | [], i, x3, _, _ => ⟨x3, by simp⟩
  | k :: ks, i, x3, hk, hl => by
    simp only [List.length_cons] at hk hl
    have ei : i + (ks.length + 1) = i + 1 + ks.length := by omega
    have h1 : w ^ i ≤ 64 := Nat.le_trans (Nat.pow_le_pow_right T.w1 (by omega)) hl
    have h2 : w ^ (i + 1) ≤ 64 := Nat.le_trans (Nat.pow_le_pow_right T.w1 (by omega)) hl
    obtain ⟨A, bA⟩ := agT_rt T hb i (by omega) h1
    obtain ⟨y3, ih⟩ := fnd_for hB T hb (x1 := x1) (x2 := x2) ks (i + 1) (some k) (by omega) (by rw [← ei]; exact hl)
    refine ⟨y3, ?_⟩
    have hbo := hB (agT U w R i).1 U (agT U w R i).2.1 w (agT U w R i).2.2 R [] A T (bA.mono (by omega)) (hb.mono (by decide))
    have hww : (((agT U w R i).2.1 : Int) * (w : Int)) ≤ 64 := by
      have : (agT U w R i).2.1 * w ≤ 64 := by rw [agT_w, ← Nat.pow_succ]; exact h2
      rw [← Int.natCast_mul]; omega
    rw [if_pos (agT_len U w R i), if_pos hww, exp_exI] at hbo
    have e1 : exI (lowU ((agT U w R i).1 * U) (prodR (agT U w R i).2.2 R)) ((agT U w R i).2.1 * w) (lowR ((agT U w R i).1 * U) (prodR (agT U w R i).2.2 R)) = exI (agT U w R (i + 1)).1 (agT U w R (i + 1)).2.1 (agT U w R (i + 1)).2.2 := rfl
    rw [e1] at hbo
    rw [List.length_cons, ei, forGo_cons, ← ih]
    simp [d_again_b0, hbo]
def SpAgain (C : Calls) : Prop := ∀ (U : Int) (w : Nat) (R : List (List Int)) (k : Nat) (S : Sto), Rt U w R → w ≤ 6 → Bn 100 U → k ≤ 6 → callM (.bor []) (C "again") [.d (exI U w R), .d (.int k)] S = if w ^ k ≤ 64 then .ok (.d (exI (agT U w R k).1 (agT U w R k).2.1 (agT U w R k).2.2)) S else .exc "TooMany" [("count", .int ((w ^ k : Nat) : Int))] S
theorem spAgain (hp : P "again" = some d_again) (hI : SpInt (callN P Fu n)) (hC : SpCount (callN P Fu n)) (hU : SpUn (callN P Fu n)) (hB : SpBoth (callN P Fu n)) : SpAgain (callN P Fu (n + 1)) := fun U w R k S T hw hb hk => by
  have i1 := hI (.int k) [] rfl
  have a1 : attrF "states" (.d (exI U w R)) [] = .ok (.d (.int R.length)) [] := by simp [attrF, insOf, exI, List.lookup]
  have k0 : (0 : Int) ≤ (k : Int) := by omega
  have k6 : (k : Int) ≤ 6 := by omega
  have hrg : rgOk (k : Int) = true := decide_eq_true (by omega)
  have hpw : w ^ k ≤ 64 ^ 6 := Nat.le_trans (Nat.pow_le_pow_left (show w ≤ 64 by omega) k) (Nat.pow_le_pow_right (by decide) hk)
  have rl : (rangeL 0 (k : Int)).length = k := by simp [rangeL]
  obtain ⟨y3, e1⟩ := cnt_for (C := callN P Fu n) (U := U) (w := w) (R := R) (x1 := some (.d (.int k))) (x4 := none) (by omega) (rangeL 0 (k : Int)) 1 none (by decide) (by omega) (by rw [rl]; simpa using hpw) T.w1
  rw [rl, Nat.one_mul] at e1
  have hcc := hC ((w ^ k : Nat) : Int) []
  have e1' : forGo (.nm 3) (exs (callN P Fu n) Fu d_again_b1) (rangeL 0 (k : Int)) [some (.d (exI U w R)), some (.d (.int k)), some (.d (.int 1)), none, none] [] = .next [some (.d (exI U w R)), some (.d (.int k)), some (.d (.int ((w ^ k : Nat) : Int))), y3, none] [] := e1
  generalize hc : ((w ^ k : Nat) : Int) = cc at e1' hcc
  by_cases h : w ^ k ≤ 64
  · rw [if_pos h]
    rw [if_pos (by omega)] at hcc
    refine spc (S2 := []) (ds := [exI U w R, .int k]) hp (run_ret rfl ?_) (by simp [exI, clean, cleanF, rowsD, cleans_rows])
    have hR1 : 1 ≤ R.length := by cases hR : R with | nil => exact absurd hR T.ne | cons _ _ => simp
    have hst : isState (.int (R.length : Int)) = true := by have := T.l4; simp [isState]; omega
    have hun := hU (.int (R.length : Int)) [] rfl rfl
    simp only [hst, if_true] at hun
    have e0 : expD 1 1 (unR (R.length : Int).toNat) = exI (agT U w R 0).1 (agT U w R 0).2.1 (agT U w R 0).2.2 := by
      rw [exp_exI, lowU_one, lowR_one]; simp [agT]
    rw [e0] at hun
    obtain ⟨z3, e2⟩ := fnd_for hB T hb (x1 := some (.d (.int k))) (x2 := some (.d (.int cc))) (rangeL 0 (k : Int)) 0 y3 (by rw [rl]; omega) (by rw [rl, Nat.zero_add]; exact h)
    rw [rl, Nat.zero_add] at e2
    simp [d_again, i1, isInt, k0, k6, hrg, e1', hcc, a1, hun, e2]
  · rw [if_neg h]
    rw [if_neg (by omega)] at hcc
    refine spx (S2 := []) (ds := [exI U w R, .int k]) hp (run_exc (σ := [some (.d (exI U w R)), some (.d (.int k)), some (.d (.int cc)), y3, none]) rfl ?_) rfl
    simp [d_again, i1, isInt, k0, k6, hrg, e1', hcc]
end
end Mi
namespace Mi
open PySem L2
section
variable {P : String → Option Df} {n : Nat}
/-- one row's products -/
theorem lp_in {C : Calls} {x0 x1 : D} {x2 : Option MV} {s : Nat} {S : Sto} {b : List Int} (hb : ∀ z ∈ b, Bn 900 z) (hbl : b.length ≤ 100)
    (hix : ∀ σ : Slots, σ[1]? = some (some (.d x1)) → σ[3]? = some (some (.d (.int (s : Int)))) → evI C (.seq (.ix (.ix (.var 1) (.int 1)) (.var 3))) σ S = .ok ((iD b).map .d) S) :
    ∀ (a acc : List Int) (x5 : Option MV), (∀ z ∈ a, Bn 900 z) → acc.length + a.length * b.length ≤ 1000 → ∃ y5,
      forGo (.nm 5) (exs C Fu l_pairs_b0) ((iD a).map .d) [some (.d x0), some (.d x1), x2, some (.d (.int (s : Int))), some (.d (.lst false (iD acc))), x5, none] S =
        .next [some (.d x0), some (.d x1), x2, some (.d (.int (s : Int))), some (.d (.lst false (iD (acc ++ prodRow a b)))), y5, none] S
  | [], acc, x5, _, _ => ⟨x5, by simp [prodRow]⟩
  | z :: a, acc, x5, ha, hl => by
    rw [List.length_cons, Nat.add_mul, Nat.one_mul] at hl
    obtain ⟨y5, ih⟩ := lp_in (C := C) (x0 := x0) (x1 := x1) (x2 := x2) (s := s) (S := S) hb hbl hix a (acc ++ b.map fun y => z * y) (some (.d (.int z))) (fun q hq => ha q (by simp [hq])) (by rw [List.length_append, List.length_map]; omega)
    refine ⟨y5, ?_⟩
    have hi := hix [some (.d x0), some (.d x1), x2, some (.d (.int (s : Int))), some (.d (.lst false (iD acc))), some (.d (.int z)), none] rfl rfl
    have hc := lcGo_of (el := ev C (.bin .mul (.var 5) (.var 6))) (cd := evC C .no) (tg := .nm 6) (σ := [some (.d x0), some (.d x1), x2, some (.d (.int (s : Int))), some (.d (.lst false (iD acc))), some (.d (.int z)), none]) (S := S)
      (fun y : Int => MV.d (.int y)) (fun y => .d (.int (z * y))) b [] (fun y hy => by
        have := mulB (ha z (by simp)) (hb y hy)
        exact ⟨_, rfl, rfl, by simp [this]⟩)
    have e1 : (b.map fun y => MV.d (.int (z * y))) = (iD (b.map fun y => z * y)).map MV.d := by simp [iD]
    have e2 : (iD b).map MV.d = b.map fun y => MV.d (.int y) := by simp [iD]
    simp only [List.reverse_nil, List.nil_append, e1] at hc
    rw [e2] at hi
    have hn : newL false ((iD (b.map fun y => z * y)).map MV.d) S = .ok (.d (.lst false (iD (b.map fun y => z * y)))) S := newL_d S _ (szOk_of (by simp; omega))
    have hcat : binF .add (.d (.lst false (iD acc))) (.d (.lst false (iD (b.map fun y => z * y)))) S = .ok (.d (.lst false (iD (acc ++ b.map fun y => z * y)))) S := by
      rw [binF_cat, if_pos (szOk_of (by simp; omega)), newL_d _ _ (szOk_of (by simp; omega))]
      simp [iD]
    have e3 : acc ++ prodRow (z :: a) b = acc ++ (b.map fun y => z * y) ++ prodRow a b := by simp [prodRow]
    rw [e3, iD_cons, List.map_cons, forGo_cons, ← ih]
    have hev : ev C (.lc false (.bin .mul (.var 5) (.var 6)) (.nm 6) (.seq (.ix (.ix (.var 1) (.int 1)) (.var 3))) .no [("_law_right", 6)]) [some (.d x0), some (.d x1), x2, some (.d (.int (s : Int))), some (.d (.lst false (iD acc))), some (.d (.int z)), none] S = .ok (.d (.lst false (iD (b.map fun y => z * y)))) S := by
      rw [ev_lc, hi]
      simp only [R.bind_ok, wipeM, List.map_cons, List.map_nil]
      have ew : (([some (.d x0), some (.d x1), x2, some (.d (.int (s : Int))), some (.d (.lst false (iD acc))), some (.d (.int z)), none] : Slots).set 6 none) = [some (.d x0), some (.d x1), x2, some (.d (.int (s : Int))), some (.d (.lst false (iD acc))), some (.d (.int z)), none] := rfl
      rw [ew, hc]
      exact hn
    simp [-ev_lc, l_pairs_b0, hev, hcat]
end
end Mi
namespace Mi
open PySem L2
section
variable {P : String → Option Df} {n : Nat}
theorem atI_row {rs : List (List Int)} {s : Nat} {a : List Int} (h : rs[s]? = some a) : L2.atI (rs.map fun r => MV.d (.lst false (iD r))) (s : Int) = some (.d (.lst false (iD a))) := by
  have hl := (List.getElem?_eq_some_iff.mp h).1
  rw [atI_nat _ _ (by simpa using hl)]
  simp [h]
theorem drop_row {α : Type} {rs : List α} {s : Nat} {a : α} (h : rs[s]? = some a) : rs.drop s = a :: rs.drop (s + 1) := by
  obtain ⟨hl, e⟩ := List.getElem?_eq_some_iff.mp h
  rw [List.drop_eq_getElem_cons hl, e]
/-- all rows -/
theorem lp_out {C : Calls} {u u' : Int} {rs rs' : List (List Int)} (hl : rs.length = rs'.length) (h1 : ∀ r ∈ rs, r.length ≤ 64 ∧ ∀ z ∈ r, Bn 900 z) (h2 : ∀ r ∈ rs', r.length ≤ 12 ∧ ∀ z ∈ r, Bn 900 z) :
    ∀ (m s : Nat) (acc : List (List Int)) (x3 x4 x5 : Option MV), s + m = rs.length → acc.length + m ≤ 100 → ∃ y3 y4 y5,
      forGo (.nm 3) (exs C Fu l_pairs_b1) ((List.range' s m).map fun (k : Nat) => MV.d (.int (k : Int))) [some (.d (drawnD u rs)), some (.d (drawnD u' rs')), some (.c 0), x3, x4, x5, none] [.lst (acc.map fun r => .d (.lst false (iD r)))] =
        .next [some (.d (drawnD u rs)), some (.d (drawnD u' rs')), some (.c 0), y3, y4, y5, none] [.lst ((acc ++ prodR (rs.drop s) (rs'.drop s)).map fun r => .d (.lst false (iD r)))]
  | 0, s, acc, x3, x4, x5, hs, _ => ⟨x3, x4, x5, by
      have e : rs.drop s = [] := List.drop_eq_nil_of_le (by omega)
      simp [e, prodR]⟩
  | m + 1, s, acc, x3, x4, x5, hs, ha => by
    have hs1 : s < rs.length := by omega
    have hs2 : s < rs'.length := by omega
    obtain ⟨ra, ea⟩ : ∃ a, rs[s]? = some a := ⟨_, List.getElem?_eq_getElem hs1⟩
    obtain ⟨rb, eb⟩ : ∃ b, rs'[s]? = some b := ⟨_, List.getElem?_eq_getElem hs2⟩
    have m1 : ra ∈ rs := List.mem_of_getElem? ea
    have m2 : rb ∈ rs' := List.mem_of_getElem? eb
    have i1 := atI_row ea
    have i2 := atI_row eb
    have hS : ∀ (σ : Slots) (S : Sto) (j : Nat) (v : Int) (q : List (List Int)) (c : List Int), σ[j]? = some (some (.d (drawnD v q))) → σ[3]? = some (some (.d (.int (s : Int)))) → L2.atI (q.map fun r => MV.d (.lst false (iD r))) (s : Int) = some (.d (.lst false (iD c))) → evI C (.seq (.ix (.ix (.var j) (.int 1)) (.var 3))) σ S = .ok ((iD c).map .d) S := fun σ S j v q c e1 e2 e3 => by
      simp [e1, e2, drawnD, rowsD, Function.comp_def, e3]
    obtain ⟨y5, e1⟩ := lp_in (C := C) (x0 := drawnD u rs) (x1 := drawnD u' rs') (x2 := some (.c 0)) (s := s) (S := [.lst (acc.map fun r => .d (.lst false (iD r)))]) (b := rb) (h2 _ m2).2 (by have := (h2 _ m2).1; omega)
      (fun σ a b => hS σ _ 1 u' rs' rb a b i2) ra [] x5 (h1 _ m1).2 (by
        have := Nat.mul_le_mul (h1 _ m1).1 (h2 _ m2).1
        simp; omega)
    rw [List.nil_append] at e1
    obtain ⟨z3, z4, z5, ih⟩ := lp_out (C := C) (u := u) (u' := u') hl h1 h2 m (s + 1) (acc ++ [prodRow ra rb]) (some (.d (.int (s : Int)))) (some (.d (.lst false (iD (prodRow ra rb))))) y5 (by omega) (by simp; omega)
    refine ⟨z3, z4, z5, ?_⟩
    have ed : prodR (rs.drop s) (rs'.drop s) = prodRow ra rb :: prodR (rs.drop (s + 1)) (rs'.drop (s + 1)) := by
      rw [drop_row ea, drop_row eb]
      simp [prodR]
    have e9 : acc ++ prodR (rs.drop s) (rs'.drop s) = acc ++ [prodRow ra rb] ++ prodR (rs.drop (s + 1)) (rs'.drop (s + 1)) := by rw [ed]; simp
    have hsz : acc.length ≤ 999999 := by omega
    rw [e9, List.range'_succ, List.map_cons, forGo_cons, ← ih]
    have hev := hS [some (.d (drawnD u rs)), some (.d (drawnD u' rs')), some (.c 0), some (.d (.int (s : Int))), some (.d (.lst false [])), x5, none] [.lst (acc.map fun r => .d (.lst false (iD r)))] 0 u rs ra rfl rfl i1
    have n0 : newL false [] [.lst (acc.map fun r => .d (.lst false (iD r)))] = .ok (.d (.lst false [])) [.lst (acc.map fun r => .d (.lst false (iD r)))] := rfl
    simp only [iD_nil] at e1
    simp [-evI_seq, l_pairs_b1, n0, hev, e1, lstC, appF, szOk, hsz]
end
end Mi
namespace Mi
open PySem L2
section
variable {P : String → Option Df} {n : Nat}
def SpLpairs (C : Calls) : Prop := ∀ (u u' : Int) (w w' : Nat) (rs rs' : List (List Int)) (S : Sto), rs.length = rs'.length → rs.length ≤ 4 → Right u w rs → Right u' w' rs' → w ≤ 64 → w' ≤ 12 → w * w' ≤ 64 → Bn 900 u → Bn 900 u' →
  callM (.bor []) (C "_law_pairs") [.d (drawnD u rs), .d (drawnD u' rs')] S = .ok (.d (tabD (u * u') (prodR rs rs'))) S
theorem right_bn {u : Int} {w : Nat} {rs : List (List Int)} {k : Nat} (h : Right u w rs) (hb : Bn k u) {r : List Int} (hr : r ∈ rs) {z : Int} (hz : z ∈ r) : Bn k z := by
  have h1 := sum_ge (h.pos r hr) z hz
  have h2 := h.pos r hr z hz
  rw [h.sum r hr] at h1
  unfold Bn at *
  omega
theorem spLpairs (hp : P "_law_pairs" = some l_pairs) (hL : SpLlow (callN P Fu n)) : SpLpairs (callN P Fu (n + 1)) := fun u u' w w' rs rs' S hl h4 R R' hw hw' hww bu bu' => by
  refine spc (S2 := [.lst ((prodR rs rs').map fun r => .d (.lst false (iD r)))]) (ds := [drawnD u rs, drawnD u' rs']) hp (run_ret rfl ?_) (by simp [tabD, clean, cleans, rowsD, cleans_rows])
  obtain ⟨y3, y4, y5, e⟩ := lp_out (C := callN P Fu n) (u := u) (u' := u') hl (fun r hr => ⟨by rw [R.wide r hr]; exact hw, fun z hz => (right_bn R bu hr hz).mono (by decide)⟩) (fun r hr => ⟨by rw [R'.wide r hr]; exact hw', fun z hz => (right_bn R' bu' hr hz).mono (by decide)⟩) rs.length 0 [] none none none (by omega) (by simp; omega)
  have er : rangeL 0 (rs.length : Int) = (List.range' 0 rs.length).map fun (j : Nat) => MV.d (.int (j : Int)) := by rw [rangeL_0, List.range_eq_range']; simp
  rw [← er] at e
  simp only [List.nil_append, List.drop_zero, List.map_nil] at e
  have hrg : rgOk (rs.length : Int) = true := decide_eq_true (by omega)
  have hm := mulB bu bu'
  have hB : Bn 1800 (u * u') := bu.mul bu'
  have RP := right_prod R R' (hB.mono (by decide))
  have hpl : (prodR rs rs').length = rs.length := by simp [prodR, hl]
  have hfl : (prodR rs rs').flatten.length = (prodR rs rs').length * (w * w') := flat_len _ RP.wide
  have hfl2 : (prodR rs rs').flatten.length ≤ 900 := by
    rw [hfl, hpl]
    have := Nat.mul_le_mul h4 hww
    omega
  have hlow := hL true (u * u') (prodR rs rs') [.lst ((prodR rs rs').map fun r => .d (.lst false (iD r)))] RP.u1 (hB.mono (by decide)) hfl2 (by omega) (fun r hr => ⟨by rw [RP.wide r hr]; omega, fun z hz => (RP.bn hr hz).mono (by decide)⟩)
  have ed : ((prodR rs rs').map fun r => MV.d (.lst false (iD r))) = ((prodR rs rs').map fun r => D.lst false (iD r)).map MV.d := by simp
  have dp : deep [] 4 [.lst ((prodR rs rs').map fun r => .d (.lst false (iD r)))] (.c 0) = some (rowsT true (prodR rs rs')) := by
    simp only [deep]
    rw [ed]
    simp [-List.map_map, deepL_d, rowsT]
  have dl : deepL (deep [] 4 [.lst ((prodR rs rs').map fun r => .d (.lst false (iD r)))]) [.d (.int (u * u')), .c 0] = some [.int (u * u'), rowsT true (prodR rs rs')] := by simp [deepL, dp]
  have hcall : callM (.bor []) (callN P Fu n "_law_lowest") [.d (.int (u * u')), .c 0] [.lst ((prodR rs rs').map fun r => .d (.lst false (iD r)))] = .ok (.d (tabD (u * u') (prodR rs rs'))) [.lst ((prodR rs rs').map fun r => .d (.lst false (iD r)))] := by
    rw [bor_deep dl]; exact hlow
  have n0 : newL true [] [] = .ok (.c 0) [.lst []] := rfl
  have hix : ∀ v q (S : Sto), ixF (.d (drawnD v q)) (.d (.int 1)) S = .ok (.d (rowsD q)) S := fun v q S => by simp [drawnD]
  have hix0 : ∀ v q (S : Sto), ixF (.d (drawnD v q)) (.d (.int 0)) S = .ok (.d (.int v)) S := fun v q S => by simp [drawnD]
  have hlen : ∀ S : Sto, bltF false .len [.d (rowsD rs)] S = .ok (.d (.int rs.length)) S := fun S => by simp [rowsD]
  simp [-ixF_int, -bltF_len, l_pairs, n0, hix, hix0, hlen, hrg, e, hm, hcall]
end
end Mi
namespace Mi
open PySem L2
/-! ### typed data -/
class Rp (α : Type) where
  d : α → D
instance : Rp Int := ⟨D.int⟩
instance : Rp Nat := ⟨fun n => D.int n⟩
instance : Rp Bool := ⟨D.bl⟩
instance : Rp D := ⟨id⟩
instance {α : Type} [Rp α] : Rp (List α) := ⟨fun xs => .lst false (xs.map Rp.d)⟩
instance {α β : Type} [Rp α] [Rp β] : Rp (α × β) := ⟨fun p => .tup [Rp.d p.1, Rp.d p.2]⟩
section
variable {α β : Type} [Rp α] [Rp β]
def ds (xs : List α) : List D := xs.map Rp.d
def mv (xs : List α) : List MV := xs.map fun x => .d (Rp.d x)
@[simp] theorem rp_int (i : Int) : Rp.d i = D.int i := rfl
@[simp] theorem rp_nat (i : Nat) : Rp.d i = D.int i := rfl
@[simp] theorem rp_bl (i : Bool) : Rp.d i = D.bl i := rfl
@[simp] theorem rp_D (i : D) : Rp.d i = i := rfl
@[simp] theorem rp_lst (xs : List α) : Rp.d xs = D.lst false (ds xs) := rfl
@[simp] theorem rp_pair (p : α × β) : Rp.d p = D.tup [Rp.d p.1, Rp.d p.2] := rfl
@[simp] theorem ds_nil : ds ([] : List α) = [] := rfl
@[simp] theorem ds_cons (x : α) (xs : List α) : ds (x :: xs) = Rp.d x :: ds xs := rfl
theorem ds_app (xs ys : List α) : ds (xs ++ ys) = ds xs ++ ds ys := by simp [ds]
@[simp] theorem ds_app' (xs ys : List α) : ds xs ++ ds ys = ds (xs ++ ys) := by simp [ds]
@[simp] theorem ds_len (xs : List α) : (ds xs).length = xs.length := by simp [ds]
@[simp] theorem mv_nil : mv ([] : List α) = [] := rfl
@[simp] theorem mv_cons (x : α) (xs : List α) : mv (x :: xs) = .d (Rp.d x) :: mv xs := rfl
@[simp] theorem mv_app' (xs ys : List α) : mv xs ++ mv ys = mv (xs ++ ys) := by simp [mv]
theorem mv_app (xs ys : List α) : mv (xs ++ ys) = mv xs ++ mv ys := by simp [mv]
@[simp] theorem mv_len (xs : List α) : (mv xs).length = xs.length := by simp [mv]
@[simp] theorem ds_map_d (xs : List α) : (ds xs).map MV.d = mv xs := by simp [ds, mv]
theorem ds_map (f : β → α) (xs : List β) : ds (xs.map f) = xs.map fun x => Rp.d (f x) := by simp [ds]
theorem mv_map (f : β → α) (xs : List β) : mv (xs.map f) = xs.map fun x => .d (Rp.d (f x)) := by simp [mv]
@[simp] theorem mv_app1 (xs : List Int) (x : Int) : mv xs ++ [.d (.int x)] = mv (xs ++ [x]) := by simp [mv]
@[simp] theorem mv_app2 (xs : List (List α)) (x : List α) : mv xs ++ [.d (.lst false (ds x))] = mv (xs ++ [x]) := by simp [mv]
@[simp] theorem mv_appb (xs : List Bool) (x : Bool) : mv xs ++ [.d (.bl x)] = mv (xs ++ [x]) := by simp [mv]
@[simp] theorem mv_appD (xs : List D) (x : D) : mv xs ++ [.d x] = mv (xs ++ [x]) := by simp [mv]
theorem mv_D (xs : List D) : xs.map MV.d = mv xs := by simp [mv]
theorem ds_D (xs : List D) : ds xs = xs := List.map_id xs
theorem iD_ds (xs : List Int) : iD xs = ds xs := rfl
@[simp] theorem allD_mv (xs : List α) : allD (mv xs) = some (ds xs) := by rw [← ds_map_d]; exact allD_map _
@[simp] theorem deepL_mv (ex : List Nat) (n : Nat) (S : Sto) (xs : List α) : deepL (deep ex n S) (mv xs) = some (ds xs) := by rw [← ds_map_d]; exact deepL_d _ _ _ _
@[simp] theorem freezeL_mv (n : Nat) (xs : List α) (S : Sto) : freezeL (freeze n) (mv xs) S = .ok (ds xs) S := by rw [← ds_map_d]; exact freezeL_d _ _ _
@[simp] theorem intsOf_mv : ∀ xs : List Int, intsOf (mv xs) = some xs
  | [] => rfl
  | x :: xs => by simp [intsOf, intsOf_mv xs]
@[simp] theorem intsOf_mvN : ∀ xs : List Nat, intsOf (mv xs) = some (xs.map fun (n : Nat) => (n : Int))
  | [] => rfl
  | x :: xs => by simp [intsOf, intsOf_mvN xs]
@[simp] theorem blsOf_mv : ∀ xs : List Bool, blsOf (mv xs) = some xs
  | [] => rfl
  | x :: xs => by simp [blsOf, blsOf_mv xs]
@[simp] theorem intsOf_nil : intsOf [] = some [] := rfl
@[simp] theorem intsOf_cons (i : Int) (r : List MV) : intsOf (.d (.int i) :: r) = (intsOf r).map (i :: ·) := rfl
@[simp] theorem blsOf_nil : blsOf [] = some [] := rfl
@[simp] theorem blsOf_cons (i : Bool) (r : List MV) : blsOf (.d (.bl i) :: r) = (blsOf r).map (i :: ·) := rfl
@[simp] theorem deepL_nil (f : MV → Option D) : deepL f [] = some [] := rfl
@[simp] theorem deepL_cons (f : MV → Option D) (m : MV) (r : List MV) : deepL f (m :: r) = match f m with
    | some d => (deepL f r).map (d :: ·)
    | none => none := rfl

/-! ### clean data -/
class RpC (α : Type) [Rp α] : Prop where
  c : ∀ a : α, clean (Rp.d a) = true
instance : RpC Int := ⟨fun _ => rfl⟩
instance : RpC Nat := ⟨fun _ => rfl⟩
instance : RpC Bool := ⟨fun _ => rfl⟩
@[simp] theorem cleans_ds [RpC α] : ∀ xs : List α, cleans (ds xs) = true
  | [] => rfl
  | x :: xs => by simp [cleans, RpC.c, cleans_ds xs]
instance [RpC α] : RpC (List α) := ⟨fun xs => by simp [clean]⟩
instance [RpC α] [RpC β] : RpC (α × β) := ⟨fun p => by simp [clean, cleans, RpC.c]⟩
@[simp] theorem clean_int (i : Int) : clean (.int i) = true := rfl
@[simp] theorem clean_bl (i : Bool) : clean (.bl i) = true := rfl
@[simp] theorem clean_non : clean .non = true := rfl
@[simp] theorem clean_str (s : Str) : clean (.str s) = true := rfl
@[simp] theorem clean_lst (t : Bool) (xs : List D) : clean (.lst t xs) = (!t && cleans xs) := by simp [clean]
@[simp] theorem clean_tup (xs : List D) : clean (.tup xs) = cleans xs := by simp [clean]
@[simp] theorem clean_ins (c : String) (fs : List (String × D)) : clean (.ins c fs) = cleanF fs := by simp [clean]
@[simp] theorem cleans_nil : cleans [] = true := rfl
@[simp] theorem cleans_cons (x : D) (r : List D) : cleans (x :: r) = (clean x && cleans r) := by simp [cleans]
@[simp] theorem cleanF_nil : cleanF [] = true := rfl
@[simp] theorem cleanF_cons (f : String) (x : D) (r : List (String × D)) : cleanF ((f, x) :: r) = (clean x && cleanF r) := by simp [cleanF]

/-! ### equality -/
class RpE (α : Type) [Rp α] [DecidableEq α] where
  k : Nat
  e : ∀ a b : α, eqD (Rp.d a) (Rp.d b) = decide (a = b)
  h : ∀ (a : α) (n : Nat), k ≤ n → dep n (Rp.d a) = true
instance : RpE Int := ⟨0, fun a b => by simp [eqD]; rfl, fun a n _ => by cases n <;> rfl⟩
instance : RpE Bool := ⟨0, fun a b => by cases a <;> cases b <;> rfl, fun a n _ => by cases n <;> rfl⟩
@[simp] theorem eqDs_ds [DecidableEq α] [RpE α] : ∀ a b : List α, eqDs (ds a) (ds b) = decide (a = b)
  | [], [] => rfl
  | [], _ :: _ => rfl
  | _ :: _, [] => rfl
  | x :: a, y :: b => by simp [eqDs, RpE.e, eqDs_ds a b]
theorem depL_ds [DecidableEq α] [RpE α] (n : Nat) (hn : RpE.k α ≤ n) : ∀ a : List α, depL (dep n) (ds a) = true
  | [] => rfl
  | x :: a => by simp [depL, RpE.h x n hn, depL_ds n hn a]
instance [DecidableEq α] [RpE α] : RpE (List α) := ⟨RpE.k α + 1, fun a b => by rw [rp_lst, rp_lst, eqD, eqDs_ds], fun a n hn => by
  obtain ⟨m, rfl⟩ : ∃ m, n = m + 1 := ⟨n - 1, by omega⟩
  rw [rp_lst]; simp only [dep]; exact depL_ds m (by omega) a⟩
instance [DecidableEq α] [RpE α] [DecidableEq β] [RpE β] : RpE (α × β) := ⟨max (RpE.k α) (RpE.k β) + 1, fun a b => by
  obtain ⟨a1, a2⟩ := a; obtain ⟨b1, b2⟩ := b
  simp only [rp_pair, eqD, eqDs, RpE.e, Bool.and_true, Prod.mk.injEq, Bool.decide_and], fun a n hn => by
  obtain ⟨m, rfl⟩ : ∃ m, n = m + 1 := ⟨n - 1, by omega⟩
  have h1 := Nat.le_max_left (RpE.k α) (RpE.k β)
  have h2 := Nat.le_max_right (RpE.k α) (RpE.k β)
  simp only [rp_pair, dep, depL, RpE.h a.1 m (by omega), RpE.h a.2 m (by omega), Bool.and_true]⟩
@[simp] theorem eqD_ii (i j : Int) : eqD (.int i) (.int j) = decide (i = j) := by simp [eqD]; rfl
@[simp] theorem eqD_bb (i j : Bool) : eqD (.bl i) (.bl j) = (i == j) := by simp [eqD]
@[simp] theorem eqD_ss (i j : Str) : eqD (.str i) (.str j) = (i == j) := by simp [eqD]
@[simp] theorem eqD_nn : eqD .non .non = true := rfl
@[simp] theorem eqD_ll (t u : Bool) (xs ys : List D) : eqD (.lst t xs) (.lst u ys) = eqDs xs ys := by simp [eqD]
@[simp] theorem eqD_tt (xs ys : List D) : eqD (.tup xs) (.tup ys) = eqDs xs ys := by simp [eqD]
@[simp] theorem eqD_sl (s : Str) (t : Bool) (xs : List D) : eqD (.str s) (.lst t xs) = false := by simp [eqD]
@[simp] theorem eqD_ls (s : Str) (t : Bool) (xs : List D) : eqD (.lst t xs) (.str s) = false := by simp [eqD]
@[simp] theorem eqD_st (s : Str) (xs : List D) : eqD (.str s) (.tup xs) = false := by simp [eqD]
@[simp] theorem eqD_ts (s : Str) (xs : List D) : eqD (.tup xs) (.str s) = false := by simp [eqD]
@[simp] theorem eqD_is (i : Int) (s : Str) : eqD (.int i) (.str s) = false := by simp [eqD]
@[simp] theorem eqD_si (i : Int) (s : Str) : eqD (.str s) (.int i) = false := by simp [eqD]
@[simp] theorem eqD_nl (t : Bool) (xs : List D) : eqD .non (.lst t xs) = false := by simp [eqD]
@[simp] theorem eqD_ln (t : Bool) (xs : List D) : eqD (.lst t xs) .non = false := by simp [eqD]
@[simp] theorem eqD_nt (xs : List D) : eqD .non (.tup xs) = false := by simp [eqD]
@[simp] theorem eqD_tn (xs : List D) : eqD (.tup xs) .non = false := by simp [eqD]
@[simp] theorem eqD_ni (i : Int) : eqD .non (.int i) = false := by simp [eqD]
@[simp] theorem eqD_in (i : Int) : eqD (.int i) .non = false := by simp [eqD]
@[simp] theorem eqD_lt (t : Bool) (xs ys : List D) : eqD (.lst t xs) (.tup ys) = false := by simp [eqD]
@[simp] theorem eqD_tl (t : Bool) (xs ys : List D) : eqD (.tup xs) (.lst t ys) = false := by simp [eqD]
@[simp] theorem eqD_il (i : Int) (t : Bool) (xs : List D) : eqD (.int i) (.lst t xs) = false := by simp [eqD]
@[simp] theorem eqD_li (i : Int) (t : Bool) (xs : List D) : eqD (.lst t xs) (.int i) = false := by simp [eqD]
@[simp] theorem eqD_it (i : Int) (xs : List D) : eqD (.int i) (.tup xs) = false := by simp [eqD]
@[simp] theorem eqD_ti (i : Int) (xs : List D) : eqD (.tup xs) (.int i) = false := by simp [eqD]
@[simp] theorem eqDs_nil : eqDs [] [] = true := rfl
@[simp] theorem eqDs_cons (x y : D) (xs ys : List D) : eqDs (x :: xs) (y :: ys) = (eqD x y && eqDs xs ys) := by simp [eqDs]
@[simp] theorem eqDs_nc (y : D) (ys : List D) : eqDs [] (y :: ys) = false := by simp [eqDs]
@[simp] theorem eqDs_cn (y : D) (ys : List D) : eqDs (y :: ys) [] = false := by simp [eqDs]
@[simp] theorem dep_int (n : Nat) (i : Int) : dep n (.int i) = true := by cases n <;> rfl
@[simp] theorem dep_bl (n : Nat) (i : Bool) : dep n (.bl i) = true := by cases n <;> rfl
@[simp] theorem dep_non (n : Nat) : dep n .non = true := by cases n <;> rfl
@[simp] theorem dep_lst (n : Nat) (t : Bool) (xs : List D) : dep (n + 1) (.lst t xs) = depL (dep n) xs := rfl
@[simp] theorem dep_tup (n : Nat) (xs : List D) : dep (n + 1) (.tup xs) = depL (dep n) xs := rfl
theorem dep_str (n : Nat) (s : Str) : dep n (.str s) = PyData.strOk s := by cases n <;> rfl
@[simp] theorem depL_nil (f : D → Bool) : depL f [] = true := rfl
@[simp] theorem depL_cons (f : D → Bool) (x : D) (r : List D) : depL f (x :: r) = (f x && depL f r) := rfl
@[simp] theorem depL_ds' [DecidableEq α] [RpE α] (n : Nat) (hn : RpE.k α ≤ n) (a : List α) : depL (dep n) (ds a) = true := depL_ds n hn a
end
end Mi
namespace Mi
open PySem L2
/-! ### what comes later waits: it stands where an instance stands -/
class Ps (α : Type) where
  p : α → Sto → Prop
class Xs where
  p : String → List (String × D) → Sto → Prop
class Pq where
  p : F → Prop
class Lz (α : Type) where
  r : R α
class Lf where
  f : F
class Lk where
  k : Slots → Sto → F
def R.wp {α : Type} (r : R α) [Q : Ps α] [X : Xs] (_ : True) : Prop := match r with
  | .ok a S => Q.p a S
  | .exc c fs S => X.p c fs S
  | .stuck => False
def W (f : F) [P : Pq] (_ : True) : Prop := match f with
  | .stuck => False
  | f => P.p f
/-- a test -/
def tst {α : Type} (o : Option Bool) [x : Lz α] [y : Lz α] (_ : True) : R α := match o with
  | some true => x.r
  | some false => y.r
  | none => .stuck
def ifF (b : Bool) [f : Lf] [g : Lf] (_ : True) : F := if b then f.f else g.f
def seqP [k : Lk] [P : Pq] (f : F) (_ : True) : Prop := match f with
  | .next σ S => W (k.k σ S) trivial (P := P)
  | f => P.p f
def tryP (hs : List Hd) [P : Pq] (f : F) (_ : True) : Prop := match f with
  | .exc c fs σ S => W (hdGo c fs σ S hs) trivial (P := P)
  | f => P.p f
section
variable {α β : Type} {Q : Ps α} {X : Xs} {P : Pq} {σ : Slots} {S : Sto}
@[simp ↓] theorem wp_ok (a : α) (S : Sto) : R.wp (R.ok a S) trivial (Q := Q) (X := X) = Q.p a S := rfl'
@[simp ↓] theorem wp_exc (c : String) (fs : List (String × D)) (S : Sto) : R.wp (R.exc c fs S : R α) trivial (Q := Q) (X := X) = X.p c fs S := rfl'
@[simp ↓] theorem wp_stuck : R.wp (R.stuck : R α) trivial (Q := Q) (X := X) = False := rfl'
@[simp] theorem wp_ok' (a : α) (S : Sto) : R.wp (R.ok a S) trivial (Q := Q) (X := X) = Q.p a S := rfl'
@[simp] theorem wp_exc' (c : String) (fs : List (String × D)) (S : Sto) : R.wp (R.exc c fs S : R α) trivial (Q := Q) (X := X) = X.p c fs S := rfl'
@[simp] theorem wp_stuck' : R.wp (R.stuck : R α) trivial (Q := Q) (X := X) = False := rfl'
@[simp ↓] theorem wp_bind (r : R β) (k : β → Sto → R α) : R.wp (r.bind k) trivial (Q := Q) (X := X) = R.wp r trivial (Q := ⟨fun a S => R.wp (k a S) trivial (Q := Q) (X := X)⟩) (X := X) := by cases r <;> rfl
@[simp ↓] theorem wp_opt (o : Option α) (S : Sto) : R.wp (R.opt o S) trivial (Q := Q) (X := X) = match o with
    | some a => Q.p a S
    | none => False := by cases o <;> rfl
@[simp ↓] theorem W_next (σ : Slots) (S : Sto) : W (.next σ S) trivial (P := P) = P.p (.next σ S) := rfl'
@[simp ↓] theorem W_ret (v : MV) (S : Sto) : W (.ret v S) trivial (P := P) = P.p (.ret v S) := rfl'
@[simp ↓] theorem W_brk (σ : Slots) (S : Sto) : W (.brk σ S) trivial (P := P) = P.p (.brk σ S) := rfl'
@[simp ↓] theorem W_cont (σ : Slots) (S : Sto) : W (.cont σ S) trivial (P := P) = P.p (.cont σ S) := rfl'
@[simp ↓] theorem W_exc (c : String) (fs : List (String × D)) (σ : Slots) (S : Sto) : W (.exc c fs σ S) trivial (P := P) = P.p (.exc c fs σ S) := rfl'
@[simp ↓] theorem W_stuck : W .stuck trivial (P := P) = False := rfl'
@[simp] theorem W_next' (σ : Slots) (S : Sto) : W (.next σ S) trivial (P := P) = P.p (.next σ S) := rfl'
@[simp] theorem W_ret' (v : MV) (S : Sto) : W (.ret v S) trivial (P := P) = P.p (.ret v S) := rfl'
@[simp] theorem W_exc' (c : String) (fs : List (String × D)) (σ : Slots) (S : Sto) : W (.exc c fs σ S) trivial (P := P) = P.p (.exc c fs σ S) := rfl'
@[simp] theorem W_stuck' : W .stuck trivial (P := P) = False := rfl'
@[simp ↓] theorem W_toF (r : R α) (σ : Slots) (k : α → Sto → F) : W (r.toF σ k) trivial (P := P) = R.wp r trivial (Q := ⟨fun a S => W (k a S) trivial (P := P)⟩) (X := ⟨fun c fs S => P.p (.exc c fs σ S)⟩) := by cases r <;> rfl
@[simp ↓] theorem seqP_next {k : Slots → Sto → F} (σ : Slots) (S : Sto) : seqP (.next σ S) trivial (k := ⟨k⟩) (P := P) = W (k σ S) trivial (P := P) := rfl'
@[simp ↓] theorem seqP_ret {k : Lk} (v : MV) (S : Sto) : seqP (.ret v S) trivial (k := k) (P := P) = P.p (.ret v S) := rfl'
@[simp ↓] theorem seqP_brk {k : Lk} (σ : Slots) (S : Sto) : seqP (.brk σ S) trivial (k := k) (P := P) = P.p (.brk σ S) := rfl'
@[simp ↓] theorem seqP_cont {k : Lk} (σ : Slots) (S : Sto) : seqP (.cont σ S) trivial (k := k) (P := P) = P.p (.cont σ S) := rfl'
@[simp ↓] theorem seqP_exc {k : Lk} (c : String) (fs : List (String × D)) (σ : Slots) (S : Sto) : seqP (.exc c fs σ S) trivial (k := k) (P := P) = P.p (.exc c fs σ S) := rfl'
theorem W_seq (f : F) (k : Slots → Sto → F) : W (f.seq k) trivial (P := P) = W f trivial (P := ⟨fun g => seqP g trivial (k := ⟨k⟩) (P := P)⟩) := by cases f <;> rfl
@[simp ↓] theorem tryP_next (hs : List Hd) (σ : Slots) (S : Sto) : tryP hs (.next σ S) trivial (P := P) = P.p (.next σ S) := rfl'
@[simp ↓] theorem tryP_ret (hs : List Hd) (v : MV) (S : Sto) : tryP hs (.ret v S) trivial (P := P) = P.p (.ret v S) := rfl'
@[simp ↓] theorem tryP_exc (hs : List Hd) (c : String) (fs : List (String × D)) (σ : Slots) (S : Sto) : tryP hs (.exc c fs σ S) trivial (P := P) = W (hdGo c fs σ S hs) trivial (P := P) := rfl'
/-- tests -/
@[simp] theorem tst_t {x y : R α} : R.wp (tst (some true) trivial (x := ⟨x⟩) (y := ⟨y⟩)) trivial (Q := Q) (X := X) = R.wp x trivial (Q := Q) (X := X) := rfl'
@[simp] theorem tst_f {x y : R α} : R.wp (tst (some false) trivial (x := ⟨x⟩) (y := ⟨y⟩)) trivial (Q := Q) (X := X) = R.wp y trivial (Q := Q) (X := X) := rfl'
theorem tst_pos {c : Prop} [Decidable c] {x y : R α} (h : c) : R.wp (tst (some (decide c)) trivial (x := ⟨x⟩) (y := ⟨y⟩)) trivial (Q := Q) (X := X) = R.wp x trivial (Q := Q) (X := X) := by rw [decide_eq_true h]; rfl
theorem tst_neg {c : Prop} [Decidable c] {x y : R α} (h : ¬ c) : R.wp (tst (some (decide c)) trivial (x := ⟨x⟩) (y := ⟨y⟩)) trivial (Q := Q) (X := X) = R.wp y trivial (Q := Q) (X := X) := by rw [decide_eq_false h]; rfl
theorem tst_split {c : Prop} [Decidable c] {x y : R α} (h1 : c → R.wp x trivial (Q := Q) (X := X)) (h2 : ¬ c → R.wp y trivial (Q := Q) (X := X)) : R.wp (tst (some (decide c)) trivial (x := ⟨x⟩) (y := ⟨y⟩)) trivial (Q := Q) (X := X) := by
  by_cases h : c
  · rw [tst_pos h]; exact h1 h
  · rw [tst_neg h]; exact h2 h
theorem tst_splitb {b : Bool} {x y : R α} (h1 : b = true → R.wp x trivial (Q := Q) (X := X)) (h2 : b = false → R.wp y trivial (Q := Q) (X := X)) : R.wp (tst (some b) trivial (x := ⟨x⟩) (y := ⟨y⟩)) trivial (Q := Q) (X := X) := by
  cases b
  · exact h2 rfl
  · exact h1 rfl
@[simp] theorem ifF_t {x y : F} : W (ifF true trivial (f := ⟨x⟩) (g := ⟨y⟩)) trivial (P := P) = W x trivial (P := P) := rfl'
@[simp] theorem ifF_f {x y : F} : W (ifF false trivial (f := ⟨x⟩) (g := ⟨y⟩)) trivial (P := P) = W y trivial (P := P) := rfl'
theorem ifF_pos {c : Prop} [Decidable c] {x y : F} (h : c) : W (ifF (decide c) trivial (f := ⟨x⟩) (g := ⟨y⟩)) trivial (P := P) = W x trivial (P := P) := by rw [decide_eq_true h]; rfl
theorem ifF_neg {c : Prop} [Decidable c] {x y : F} (h : ¬ c) : W (ifF (decide c) trivial (f := ⟨x⟩) (g := ⟨y⟩)) trivial (P := P) = W y trivial (P := P) := by rw [decide_eq_false h]; rfl
theorem ifF_split {c : Prop} [Decidable c] {x y : F} (h1 : c → W x trivial (P := P)) (h2 : ¬ c → W y trivial (P := P)) : W (ifF (decide c) trivial (f := ⟨x⟩) (g := ⟨y⟩)) trivial (P := P) := by
  by_cases h : c
  · rw [ifF_pos h]; exact h1 h
  · rw [ifF_neg h]; exact h2 h
theorem ifF_splitb {b : Bool} {x y : F} (h1 : b = true → W x trivial (P := P)) (h2 : b = false → W y trivial (P := P)) : W (ifF b trivial (f := ⟨x⟩) (g := ⟨y⟩)) trivial (P := P) := by
  cases b
  · exact h2 rfl
  · exact h1 rfl
theorem wp_if {c : Prop} [Decidable c] {x y : R α} (h1 : c → R.wp x trivial (Q := Q) (X := X)) (h2 : ¬ c → R.wp y trivial (Q := Q) (X := X)) : R.wp (if c then x else y) trivial (Q := Q) (X := X) := by
  split
  · exact h1 ‹_›
  · exact h2 ‹_›
theorem wp_pos {c : Prop} [Decidable c] {x y : R α} (h : c) : R.wp (if c then x else y) trivial (Q := Q) (X := X) = R.wp x trivial (Q := Q) (X := X) := by rw [if_pos h]
theorem wp_neg {c : Prop} [Decidable c] {x y : R α} (h : ¬ c) : R.wp (if c then x else y) trivial (Q := Q) (X := X) = R.wp y trivial (Q := Q) (X := X) := by rw [if_neg h]
theorem wp_mono {r : R α} {Q' : Ps α} {X' : Xs} (h : R.wp r trivial (Q := Q) (X := X)) (hq : ∀ a S, Q.p a S → Q'.p a S) (hx : ∀ c fs S, X.p c fs S → X'.p c fs S) : R.wp r trivial (Q := Q') (X := X') := by
  cases r with
  | ok a S => exact hq _ _ h
  | exc c fs S => exact hx _ _ _ h
  | stuck => exact h
/-- what is, is -/
theorem wp_eq {r r' : R α} (e : r = r') (h : R.wp r' trivial (Q := Q) (X := X)) : R.wp r trivial (Q := Q) (X := X) := by rw [e]; exact h
theorem eq_of_wp {r : R α} {a : α} (h : R.wp r trivial (Q := ⟨fun b S' => b = a ∧ S' = S⟩) (X := ⟨fun _ _ _ => False⟩)) : r = .ok a S := by
  cases r with
  | ok b S' => obtain ⟨rfl, rfl⟩ := (h : b = a ∧ S' = S); rfl
  | exc c fs S => exact h.elim
  | stuck => exact h.elim
end
/-- a slot -/
def getS : Slots → Nat → Sto → R MV
  | [], _, _ => .stuck
  | some v :: _, 0, S => .ok v S
  | none :: _, 0, _ => .stuck
  | _ :: r, n + 1, S => getS r n S
@[simp] theorem getS_0 (v : MV) (r : Slots) (S : Sto) : getS (some v :: r) 0 S = .ok v S := rfl'
@[simp] theorem getS_0n (r : Slots) (S : Sto) : getS (none :: r) 0 S = .stuck := rfl'
@[simp] theorem getS_s (x : Option MV) (r : Slots) (n : Nat) (S : Sto) : getS (x :: r) (n + 1) S = getS r n S := by cases x <;> rfl
theorem getS_eq : ∀ (σ : Slots) (i : Nat) (S : Sto), (match σ[i]? with
    | some (some v) => R.ok v S
    | _ => .stuck) = getS σ i S
  | [], i, S => by simp [getS]
  | x :: r, 0, S => by cases x <;> simp [getS]
  | x :: r, n + 1, S => by rw [getS_s, ← getS_eq r n S]; simp
def blO (v : MV) : Option Bool := match v with
  | .d (.bl b) => some b
  | _ => none
@[simp] theorem blO_bl (b : Bool) : blO (.d (.bl b)) = some b := rfl'
def intO (v : MV) (S : Sto) : R Int := match v with
  | .d (.int i) => .ok i S
  | _ => .stuck
@[simp] theorem intO_int (i : Int) (S : Sto) : intO (.d (.int i)) S = .ok i S := rfl'
section
variable {C : Calls} {fu : Nat} {σ : Slots} {S : Sto} {X : Xs} {P : Pq}
@[simp ↓] theorem w_ev_int {i : Int} {Q : Ps _} : R.wp (ev C (.int i) σ S) trivial (Q := Q) (X := X) = R.wp (.ok (.d (.int i)) S) trivial (Q := Q) (X := X) := by rw [ev_int]
@[simp ↓] theorem w_ev_bl {b : Bool} {Q : Ps _} : R.wp (ev C (.bl b) σ S) trivial (Q := Q) (X := X) = R.wp (.ok (.d (.bl b)) S) trivial (Q := Q) (X := X) := by rw [ev_bl]
@[simp ↓] theorem w_ev_non {Q : Ps _} : R.wp (ev C .non σ S) trivial (Q := Q) (X := X) = R.wp (.ok (.d .non) S) trivial (Q := Q) (X := X) := by rw [ev_non]
@[simp ↓] theorem w_ev_str {s : String} {Q : Ps _} : R.wp (ev C (.str s) σ S) trivial (Q := Q) (X := X) = R.wp (.ok (.d (.str (Str.ofString s))) S) trivial (Q := Q) (X := X) := by rw [ev_str]
@[simp ↓] theorem w_ev_bin {o : Bop} {a b : E} {Q : Ps _} : R.wp (ev C (.bin o a b) σ S) trivial (Q := Q) (X := X) = R.wp ((ev C a σ S).bind fun x S1 => (ev C b σ S1).bind fun y S2 => binF o x y S2) trivial (Q := Q) (X := X) := by rw [ev_bin]
@[simp ↓] theorem w_ev_neg {a : E} {Q : Ps _} : R.wp (ev C (.neg a) σ S) trivial (Q := Q) (X := X) = R.wp ((ev C a σ S).bind fun x S1 => negF x S1) trivial (Q := Q) (X := X) := by rw [ev_neg]
@[simp ↓] theorem w_ev_cmp {o : Cop} {a b : E} {Q : Ps _} : R.wp (ev C (.cmp o a b) σ S) trivial (Q := Q) (X := X) = R.wp ((ev C a σ S).bind fun x S1 => (ev C b σ S1).bind fun y S2 => cmpF o x y S2) trivial (Q := Q) (X := X) := by rw [ev_cmp]
@[simp ↓] theorem w_ev_one {a : E} {Q : Ps _} : R.wp (ev C (.one a) σ S) trivial (Q := Q) (X := X) = R.wp (ev C a σ S) trivial (Q := Q) (X := X) := by rw [ev_one]
@[simp ↓] theorem w_ev_tup {es : Es} {Q : Ps _} : R.wp (ev C (.tup es) σ S) trivial (Q := Q) (X := X) = R.wp ((evs C es σ S).bind fun ms S1 => newT ms S1) trivial (Q := Q) (X := X) := by rw [ev_tup]
@[simp ↓] theorem w_ev_lst {cell : Bool} {es : Es} {Q : Ps _} : R.wp (ev C (.lst cell es) σ S) trivial (Q := Q) (X := X) = R.wp ((evs C es σ S).bind fun ms S1 => newL cell ms S1) trivial (Q := Q) (X := X) := by rw [ev_lst]
@[simp ↓] theorem w_ev_ix {a i : E} {Q : Ps _} : R.wp (ev C (.ix a i) σ S) trivial (Q := Q) (X := X) = R.wp ((ev C a σ S).bind fun x S1 => (ev C i σ S1).bind fun k S2 => ixF x k S2) trivial (Q := Q) (X := X) := by rw [ev_ix]
@[simp ↓] theorem w_ev_call {md : Md} {f : String} {es : Es} {Q : Ps _} : R.wp (ev C (.call md f es) σ S) trivial (Q := Q) (X := X) = R.wp ((evs C es σ S).bind fun ms S1 => callM md (C f) ms S1) trivial (Q := Q) (X := X) := by rw [ev_call]
@[simp ↓] theorem w_ev_calld {md : Md} {f : String} {es : Es} {i : Int} {Q : Ps _} : R.wp (ev C (.calld md f es i) σ S) trivial (Q := Q) (X := X) = R.wp ((evs C es σ S).bind fun ms S1 => callM md (C f) (ms ++ [.d (.int i)]) S1) trivial (Q := Q) (X := X) := by rw [ev_calld]
@[simp ↓] theorem w_ev_callsw {md : Md} {f k1 k2 : String} {a b : E} {Q : Ps _} : R.wp (ev C (.callsw md f k1 k2 a b) σ S) trivial (Q := Q) (X := X) = R.wp ((ev C a σ S).bind fun x S1 => (ev C b σ S1).bind fun y S2 => callM md (C f) [y, x] S2) trivial (Q := Q) (X := X) := by rw [ev_callsw]
@[simp ↓] theorem w_ev_new {md : Md} {c : String} {es : Es} {Q : Ps _} : R.wp (ev C (.new md c es) σ S) trivial (Q := Q) (X := X) = R.wp ((evs C es σ S).bind fun ms S1 => callM md (mkF C c) ms S1) trivial (Q := Q) (X := X) := by rw [ev_new]
@[simp ↓] theorem w_ev_attr {a : E} {f : String} {Q : Ps _} : R.wp (ev C (.attr a f) σ S) trivial (Q := Q) (X := X) = R.wp ((ev C a σ S).bind fun x S1 => attrF f x S1) trivial (Q := Q) (X := X) := by rw [ev_attr]
@[simp ↓] theorem w_ev_prop {md : Md} {cs : List String} {a : E} {f : String} {Q : Ps _} : R.wp (ev C (.prop md cs a f) σ S) trivial (Q := Q) (X := X) = R.wp ((ev C a σ S).bind fun x S1 => noX (methF C md cs x f [] S1)) trivial (Q := Q) (X := X) := by rw [ev_prop]
@[simp ↓] theorem w_ev_opm {md : Md} {cs : List String} {m : String} {a b : E} {Q : Ps _} : R.wp (ev C (.opm md cs m a b) σ S) trivial (Q := Q) (X := X) = R.wp ((ev C a σ S).bind fun x S1 => (ev C b σ S1).bind fun y S2 => opmF C md cs m x y S2) trivial (Q := Q) (X := X) := by rw [ev_opm]
@[simp ↓] theorem w_ev_lenm {md : Md} {cs : List String} {a : E} {Q : Ps _} : R.wp (ev C (.lenm md cs a) σ S) trivial (Q := Q) (X := X) = R.wp ((ev C a σ S).bind fun x S1 => lenB (methF C md cs x "__len__" [] S1)) trivial (Q := Q) (X := X) := by rw [ev_lenm]
@[simp ↓] theorem w_ev_glob {x : String} {i : Int} {Q : Ps _} : R.wp (ev C (.glob x i) σ S) trivial (Q := Q) (X := X) = R.wp (.ok (.d (.int i)) S) trivial (Q := Q) (X := X) := by rw [ev_glob]
@[simp ↓] theorem w_ev_gtup {x : String} {is : List Int} {Q : Ps _} : R.wp (ev C (.gtup x is) σ S) trivial (Q := Q) (X := X) = R.wp (.ok (.d (.tup (is.map .int))) S) trivial (Q := Q) (X := X) := by rw [ev_gtup]
@[simp ↓] theorem w_ev_isc {a : E} {c : String} {Q : Ps _} : R.wp (ev C (.isc a c) σ S) trivial (Q := Q) (X := X) = R.wp ((ev C a σ S).bind fun x S1 => iscF c x S1) trivial (Q := Q) (X := X) := by rw [ev_isc]
@[simp ↓] theorem w_ev_sl {cell : Bool} {a : E} {lo hi : Eo} {Q : Ps _} : R.wp (ev C (.sl cell a lo hi) σ S) trivial (Q := Q) (X := X) = R.wp ((ev C a σ S).bind fun x S1 => (evO C lo σ S1).bind fun l S2 => (evO C hi σ S2).bind fun h S3 => slF cell x l h S3) trivial (Q := Q) (X := X) := by rw [ev_sl]
@[simp ↓] theorem w_evO_no {Q : Ps _} : R.wp (evO C .no σ S) trivial (Q := Q) (X := X) = R.wp (.ok none S) trivial (Q := Q) (X := X) := by rw [evO_no]
@[simp ↓] theorem w_ev_blt {cell : Bool} {b : Bl} {es : Es} {Q : Ps _} : R.wp (ev C (.blt cell b es) σ S) trivial (Q := Q) (X := X) = R.wp ((evs C es σ S).bind fun ms S1 => bltF cell b ms S1) trivial (Q := Q) (X := X) := by rw [ev_blt]
@[simp ↓] theorem w_ev_isi {a : E} {ty : String} {Q : Ps _} : R.wp (ev C (.isi a ty) σ S) trivial (Q := Q) (X := X) = R.wp ((ev C a σ S).bind fun x S1 => isiF ty x S1) trivial (Q := Q) (X := X) := by rw [ev_isi]
@[simp ↓] theorem w_evs_cons {e : E} {r : Es} {Q : Ps _} : R.wp (evs C (.cons e r) σ S) trivial (Q := Q) (X := X) = R.wp ((ev C e σ S).bind fun v S1 => (evs C r σ S1).bind fun vs S2 => .ok (v :: vs) S2) trivial (Q := Q) (X := X) := by rw [evs_cons]
@[simp ↓] theorem w_evI_enum {e : E} {Q : Ps _} : R.wp (evI C (.enum e) σ S) trivial (Q := Q) (X := X) = R.wp ((ev C e σ S).bind fun v S1 => (walked v S1).bind fun ms S2 => .ok (enumL 0 ms) S2) trivial (Q := Q) (X := X) := by rw [evI_enum]
@[simp ↓] theorem w_evI_zip {a b : E} {Q : Ps _} : R.wp (evI C (.zip a b) σ S) trivial (Q := Q) (X := X) = R.wp ((ev C a σ S).bind fun v S1 => (ev C b σ S1).bind fun w S2 => (walked v S2).bind fun xs S3 => (walked w S3).bind fun ys S4 => .ok (zipL xs ys) S4) trivial (Q := Q) (X := X) := by rw [evI_zip]
@[simp ↓] theorem w_evI_seq {e : E} {Q : Ps _} : R.wp (evI C (.seq e) σ S) trivial (Q := Q) (X := X) = R.wp ((ev C e σ S).bind fun v S1 => walked v S1) trivial (Q := Q) (X := X) := by rw [evI_seq]
@[simp ↓] theorem w_ex_fld {a : E} {f : String} {e : E} : W (ex C fu (.fld a f e) σ S) trivial (P := P) = W ((ev C e σ S).toF σ fun v S1 => (ev C a σ S1).toF σ fun x S2 => (fldF x f v S2).toF σ fun _ S3 => .next σ S3) trivial (P := P) := by rw [ex_fld]
@[simp ↓] theorem w_ex_par {i j : Nat} {a b : E} : W (ex C fu (.par i j a b) σ S) trivial (P := P) = W ((ev C a σ S).toF σ fun v S1 => (ev C b σ S1).toF σ fun w S2 => .next ((σ.set i (some v)).set j (some w)) S2) trivial (P := P) := by rw [ex_par]
@[simp ↓] theorem w_ex_setix {a i e : E} : W (ex C fu (.setix a i e) σ S) trivial (P := P) = W ((ev C e σ S).toF σ fun v S1 => (ev C a σ S1).toF σ fun x S2 => (ev C i σ S2).toF σ fun k S3 => (setF x k v S3).toF σ fun _ S4 => .next σ S4) trivial (P := P) := by rw [ex_setix]
@[simp ↓] theorem w_ex_expr {e : E} : W (ex C fu (.expr e) σ S) trivial (P := P) = W ((ev C e σ S).toF σ fun _ S1 => .next σ S1) trivial (P := P) := by rw [ex_expr]
@[simp ↓] theorem w_ex_ret {e : E} : W (ex C fu (.ret e) σ S) trivial (P := P) = W ((ev C e σ S).toF σ fun v S1 => .ret v S1) trivial (P := P) := by rw [ex_ret]
@[simp ↓] theorem w_ev_var {i : Nat} {Q : Ps MV} : R.wp (ev C (.var i) σ S) trivial (Q := Q) (X := X) = R.wp (getS σ i S) trivial (Q := Q) (X := X) := by rw [ev_var]; exact congrArg (fun r => R.wp r trivial (Q := Q) (X := X)) (getS_eq σ i S)
@[simp ↓] theorem w_ev_and {a b : E} {Q : Ps MV} : R.wp (ev C (.and_ a b) σ S) trivial (Q := Q) (X := X) = R.wp (ev C a σ S) trivial (Q := ⟨fun x S1 => R.wp (tst (truth S1 x) trivial (x := ⟨ev C b σ S1⟩) (y := ⟨.ok x S1⟩)) trivial (Q := Q) (X := X)⟩) (X := X) := by
  rw [ev_and, wp_bind]
  congr 3
@[simp ↓] theorem w_ev_or {a b : E} {Q : Ps MV} : R.wp (ev C (.or_ a b) σ S) trivial (Q := Q) (X := X) = R.wp (ev C a σ S) trivial (Q := ⟨fun x S1 => R.wp (tst (truth S1 x) trivial (x := ⟨.ok x S1⟩) (y := ⟨ev C b σ S1⟩)) trivial (Q := Q) (X := X)⟩) (X := X) := by
  rw [ev_or, wp_bind]
  congr 3
@[simp ↓] theorem w_ev_ife {t a b : E} {Q : Ps MV} : R.wp (ev C (.ife t a b) σ S) trivial (Q := Q) (X := X) = R.wp (ev C t σ S) trivial (Q := ⟨fun x S1 => R.wp (tst (truth S1 x) trivial (x := ⟨ev C a σ S1⟩) (y := ⟨ev C b σ S1⟩)) trivial (Q := Q) (X := X)⟩) (X := X) := by
  rw [ev_ife, wp_bind]
  congr 3
@[simp ↓] theorem w_ev_not {a : E} {Q : Ps MV} : R.wp (ev C (.not_ a) σ S) trivial (Q := Q) (X := X) = R.wp (ev C a σ S) trivial (Q := ⟨fun x S1 => R.wp (R.opt (truth S1 x) S1) trivial (Q := ⟨fun k S1 => Q.p (.d (.bl (!k))) S1⟩) (X := X)⟩) (X := X) := by
  rw [ev_not, wp_bind]
  congr 3; funext x S1
  cases truth S1 x <;> rfl
@[simp ↓] theorem w_ev_chain {o p : Cop} {a b c : E} {Q : Ps MV} : R.wp (ev C (.chain o p a b c) σ S) trivial (Q := Q) (X := X) = R.wp (ev C a σ S) trivial (Q := ⟨fun x S1 => R.wp (ev C b σ S1) trivial (Q := ⟨fun y S2 => R.wp (cmpF o x y S2) trivial (Q := ⟨fun k S3 => R.wp (tst (blO k) trivial (x := ⟨(ev C c σ S3).bind fun z S4 => cmpF p y z S4⟩) (y := ⟨.ok (.d (.bl false)) S3⟩)) trivial (Q := Q) (X := X)⟩) (X := X)⟩) (X := X)⟩) (X := X) := by
  rw [ev_chain, wp_bind]
  congr 3; funext x S1
  rw [wp_bind]
  congr 3; funext y S2
  rw [wp_bind]
  congr 3; funext k S3
  cases k with
  | d x => cases x with
    | bl b => cases b <;> rfl
    | _ => rfl
  | _ => rfl
def mtOk (cs : List String) (m : String) (o : Option (String × List (String × MV))) (S : Sto) : R String := match o with
  | some (c, fs) => if cs.contains c && (fs.lookup m).isNone then .ok c S else .stuck
  | none => .stuck
@[simp ↓] theorem w_ev_meth {md : Md} {cs : List String} {a : E} {m : String} {es : Es} {Q : Ps MV} : R.wp (ev C (.meth md cs a m es) σ S) trivial (Q := Q) (X := X) = R.wp (ev C a σ S) trivial (Q := ⟨fun x S1 => R.wp (mtOk cs m (insOf S1 x) S1) trivial (Q := ⟨fun c S1 => R.wp (evs C es σ S1) trivial (Q := ⟨fun ms S2 => R.wp (callM md (C (c ++ "." ++ m)) (x :: ms) S2) trivial (Q := Q) (X := X)⟩) (X := X)⟩) (X := X)⟩) (X := X) := by
  rw [ev_meth, wp_bind]
  congr 3; funext x S1
  cases insOf S1 x with
  | none => rfl
  | some q =>
    obtain ⟨c, fs⟩ := q
    simp only [mtOk]
    split
    · rw [wp_bind]; rfl
    · rfl
@[simp ↓] theorem w_evT {m : E} {Q : Ps Bool} : R.wp (evT C m σ S) trivial (Q := Q) (X := X) = R.wp (ev C m σ S) trivial (Q := ⟨fun v S1 => R.wp (R.opt (truth S1 v) S1) trivial (Q := Q) (X := X)⟩) (X := X) := by rw [evT_eq, wp_bind]
@[simp ↓] theorem w_evC_no {Q : Ps Bool} : R.wp (evC C .no σ S) trivial (Q := Q) (X := X) = Q.p true S := rfl'
@[simp ↓] theorem w_evC_yes {e : E} {Q : Ps Bool} : R.wp (evC C (.yes e) σ S) trivial (Q := Q) (X := X) = R.wp (ev C e σ S) trivial (Q := ⟨fun v S1 => R.wp (R.opt (truth S1 v) S1) trivial (Q := Q) (X := X)⟩) (X := X) := by rw [evC_yes, wp_bind]
@[simp ↓] theorem w_evs_nil {Q : Ps (List MV)} : R.wp (evs C .nil σ S) trivial (Q := Q) (X := X) = Q.p [] S := rfl'
@[simp ↓] theorem w_evs_star {e : E} {r : Es} {Q : Ps (List MV)} : R.wp (evs C (.star e r) σ S) trivial (Q := Q) (X := X) = R.wp (ev C e σ S) trivial (Q := ⟨fun v S1 => R.wp (R.opt (items S1 v) S1) trivial (Q := ⟨fun ms S1 => R.wp (evs C r σ S1) trivial (Q := ⟨fun vs S2 => Q.p (ms ++ vs) S2⟩) (X := X)⟩) (X := X)⟩) (X := X) := by
  rw [evs_star, wp_bind]
  congr 3; funext v S1
  cases items S1 v with
  | none => rfl
  | some ms => rw [wp_bind]; rfl
@[simp ↓] theorem w_evO_yes {e : E} {Q : Ps (Option Int)} : R.wp (evO C (.yes e) σ S) trivial (Q := Q) (X := X) = R.wp (ev C e σ S) trivial (Q := ⟨fun v S1 => R.wp (intO v S1) trivial (Q := ⟨fun i S1 => Q.p (some i) S1⟩) (X := X)⟩) (X := X) := by
  rw [evO_yes, wp_bind]
  congr 3; funext v S1
  cases v with
  | d x => cases x <;> rfl
  | _ => rfl
def rg1 (i : Int) (S : Sto) : R (List MV) := if rgOk i then .ok (rangeL 0 i) S else .stuck
def rg2 (i j : Int) (S : Sto) : R (List MV) := if rgOk i && rgOk j then .ok (rangeL i j) S else .stuck
def rg3 (i j k : Int) (S : Sto) : R (List MV) := if rgOk i && rgOk j && rgOk k && decide (0 < k) then .ok (range3L i j k) S else .stuck
@[simp ↓] theorem w_evI_range1 {e : E} {Q : Ps (List MV)} : R.wp (evI C (.range1 e) σ S) trivial (Q := Q) (X := X) = R.wp (ev C e σ S) trivial (Q := ⟨fun v S1 => R.wp (intO v S1) trivial (Q := ⟨fun i S1 => R.wp (rg1 i S1) trivial (Q := Q) (X := X)⟩) (X := X)⟩) (X := X) := by
  rw [evI_range1, wp_bind]
  congr 3; funext v S1
  cases v with
  | d x => cases x <;> rfl
  | _ => rfl
@[simp ↓] theorem w_evI_range2 {a b : E} {Q : Ps (List MV)} : R.wp (evI C (.range2 a b) σ S) trivial (Q := Q) (X := X) = R.wp (ev C a σ S) trivial (Q := ⟨fun v S1 => R.wp (ev C b σ S1) trivial (Q := ⟨fun w S2 => R.wp (intO v S2) trivial (Q := ⟨fun i S2 => R.wp (intO w S2) trivial (Q := ⟨fun j S2 => R.wp (rg2 i j S2) trivial (Q := Q) (X := X)⟩) (X := X)⟩) (X := X)⟩) (X := X)⟩) (X := X) := by
  rw [evI_range2, wp_bind]
  congr 3; funext v S1
  rw [wp_bind]
  congr 3; funext w S2
  cases v with
  | d x => cases x with
    | int i => cases w with
      | d y => cases y <;> rfl
      | _ => rfl
    | _ => rfl
  | _ => rfl
@[simp ↓] theorem w_evI_range3 {a b c : E} {Q : Ps (List MV)} : R.wp (evI C (.range3 a b c) σ S) trivial (Q := Q) (X := X) = R.wp (ev C a σ S) trivial (Q := ⟨fun v S1 => R.wp (ev C b σ S1) trivial (Q := ⟨fun w S2 => R.wp (ev C c σ S2) trivial (Q := ⟨fun u S3 => R.wp (intO v S3) trivial (Q := ⟨fun i S2 => R.wp (intO w S2) trivial (Q := ⟨fun j S2 => R.wp (intO u S2) trivial (Q := ⟨fun k S2 => R.wp (rg3 i j k S2) trivial (Q := Q) (X := X)⟩) (X := X)⟩) (X := X)⟩) (X := X)⟩) (X := X)⟩) (X := X)⟩) (X := X) := by
  rw [evI_range3, wp_bind]
  congr 3; funext v S1
  rw [wp_bind]
  congr 3; funext w S2
  rw [wp_bind]
  congr 3; funext u S3
  cases v with
  | d x => cases x with
    | int i => cases w with
      | d y => cases y with
        | int j => cases u with
          | d z => cases z <;> rfl
          | _ => rfl
        | _ => rfl
      | _ => rfl
    | _ => rfl
  | _ => rfl
@[simp ↓] theorem w_ev_app {a e : E} {Q : Ps MV} : R.wp (ev C (.app a e) σ S) trivial (Q := Q) (X := X) = R.wp (ev C a σ S) trivial (Q := ⟨fun x S1 => R.wp (tst (some (lstC S1 x)) trivial (x := ⟨(ev C e σ S1).bind fun y S2 => appF x y S2⟩) (y := ⟨.stuck⟩)) trivial (Q := Q) (X := X)⟩) (X := X) := by
  rw [ev_app, wp_bind]
  congr 3; funext x S1
  cases lstC S1 x <;> rfl
@[simp ↓] theorem w_ev_lc {cell : Bool} {elt : E} {tg : Tg} {it : It} {cd : Eo} {own : List (String × Nat)} {Q : Ps MV} : R.wp (ev C (.lc cell elt tg it cd own) σ S) trivial (Q := Q) (X := X) = R.wp (evI C it σ S) trivial (Q := ⟨fun ms S1 => R.wp (lcGo (ev C elt) (evC C cd) tg (wipeM σ (own.map (·.2))) ms [] S1) trivial (Q := ⟨fun ys S2 => R.wp (newL cell ys S2) trivial (Q := Q) (X := X)⟩) (X := X)⟩) (X := X) := by
  rw [ev_lc, wp_bind]
  congr 3; funext ms S1
  rw [wp_bind]
@[simp ↓] theorem w_ev_lc2 {cell : Bool} {elt : E} {tg : Tg} {it : It} {tg2 : Tg} {it2 : It} {own : List (String × Nat)} {own2 : List Nat} {Q : Ps MV} : R.wp (ev C (.lc2 cell elt tg it tg2 it2 own own2) σ S) trivial (Q := Q) (X := X) = R.wp (evI C it σ S) trivial (Q := ⟨fun ms S1 => R.wp (lcGo2 (ev C elt) (evI C it2) tg tg2 own2 wipeM (wipeM σ (own.map (·.2))) ms [] S1) trivial (Q := ⟨fun ys S2 => R.wp (newL cell ys S2) trivial (Q := Q) (X := X)⟩) (X := X)⟩) (X := X) := by
  rw [ev_lc2, wp_bind]
  congr 3; funext ms S1
  rw [wp_bind]
@[simp ↓] theorem w_exs_nil : W (exs C fu .nil σ S) trivial (P := P) = P.p (.next σ S) := rfl'
@[simp ↓] theorem w_exs_cons {s : Sm} {r : Sms} : W (exs C fu (.cons s r) σ S) trivial (P := P) = W (ex C fu s σ S) trivial (P := ⟨fun g => seqP g trivial (k := ⟨fun σ1 S1 => exs C fu r σ1 S1⟩) (P := P)⟩) := by rw [exs_cons, W_seq]
@[simp ↓] theorem w_exs_wipe {is : List Nat} {r : Sms} : W (exs C fu (.wipe is r) σ S) trivial (P := P) = W (exs C fu r (wipeM σ is) S) trivial (P := P) := by rw [exs_wipe]
@[simp ↓] theorem w_ex_asg {tg : Tg} {e : E} : W (ex C fu (.asg tg e) σ S) trivial (P := P) = R.wp (ev C e σ S) trivial (Q := ⟨fun v S1 => R.wp (bindTg tg σ v S1) trivial (Q := ⟨fun σ1 S2 => P.p (.next σ1 S2)⟩) (X := ⟨fun _ _ _ => False⟩)⟩) (X := ⟨fun c fs S => P.p (.exc c fs σ S)⟩) := by
  rw [ex_asg, W_toF]
  congr 3; funext v S1
  cases bindTg tg σ v S1 <;> rfl
@[simp ↓] theorem w_ex_retn : W (ex C fu .retn σ S) trivial (P := P) = P.p (.ret (.d .non) S) := rfl'
@[simp ↓] theorem w_ex_raise0 {c : String} : W (ex C fu (.raise0 c) σ S) trivial (P := P) = P.p (.exc c [] σ S) := rfl'
def dO (v : MV) (S : Sto) : R D := match v with
  | .d x => .ok x S
  | _ => .stuck
@[simp] theorem dO_d (x : D) (S : Sto) : dO (.d x) S = .ok x S := rfl'
@[simp ↓] theorem w_ex_raise {c : String} {e : E} {f : String} : W (ex C fu (.raise_ c e f) σ S) trivial (P := P) = R.wp (ev C e σ S) trivial (Q := ⟨fun v S1 => R.wp (dO v S1) trivial (Q := ⟨fun d S1 => P.p (.exc c [(f, d)] σ S1)⟩) (X := ⟨fun _ _ _ => False⟩)⟩) (X := ⟨fun c fs S => P.p (.exc c fs σ S)⟩) := by
  rw [ex_raise, W_toF]
  congr 3; funext v S1
  cases v <;> rfl
@[simp ↓] theorem w_ex_try {b : Sms} {hs : List Hd} : W (ex C fu (.try_ b hs) σ S) trivial (P := P) = W (exs C fu b σ S) trivial (P := ⟨fun g => tryP hs g trivial (P := P)⟩) := by
  rw [ex_try]
  cases exs C fu b σ S <;> rfl
@[simp ↓] theorem w_ex_ifs {t : E} {a b : Sms} : W (ex C fu (.ifs t a b) σ S) trivial (P := P) = R.wp (evT C t σ S) trivial (Q := ⟨fun k S1 => W (ifF k trivial (f := ⟨exs C fu a σ S1⟩) (g := ⟨exs C fu b σ S1⟩)) trivial (P := P)⟩) (X := ⟨fun c fs S => P.p (.exc c fs σ S)⟩) := by
  rw [ex_ifs, W_toF]
  congr 3
@[simp ↓] theorem w_ex_for {tg : Tg} {it : It} {body : Sms} : W (ex C fu (.for_ tg it body) σ S) trivial (P := P) = R.wp (evI C it σ S) trivial (Q := ⟨fun ms S1 => W (forGo tg (exs C fu body) ms σ S1) trivial (P := P)⟩) (X := ⟨fun c fs S => P.p (.exc c fs σ S)⟩) := by rw [ex_for, W_toF]
@[simp ↓] theorem w_ex_while {t : E} {body : Sms} : W (ex C fu (.while_ t body) σ S) trivial (P := P) = W (whGo (evT C t) (exs C fu body) fu σ S) trivial (P := P) := by rw [ex_while]
def two (o : Option (List MV)) (S : Sto) : R (MV × MV) := match o with
  | some [x, y] => .ok (x, y) S
  | _ => .stuck
@[simp] theorem two_2 (x y : MV) (S : Sto) : two (some [x, y]) S = .ok (x, y) S := rfl'
@[simp ↓] theorem w_ex_fld2 {a : E} {f : String} {b : E} {g : String} {e : E} : W (ex C fu (.fld2 a f b g e) σ S) trivial (P := P) = R.wp (ev C e σ S) trivial (Q := ⟨fun v S1 => R.wp (two (titems v) S1) trivial (Q := ⟨fun xy S1 => W ((ev C a σ S1).toF σ fun o S2 => (fldF o f xy.1 S2).toF σ fun _ S3 => (ev C b σ S3).toF σ fun p S4 => (fldF p g xy.2 S4).toF σ fun _ S5 => .next σ S5) trivial (P := P)⟩) (X := ⟨fun _ _ _ => False⟩)⟩) (X := ⟨fun c fs S => P.p (.exc c fs σ S)⟩) := by
  rw [ex_fld2, W_toF]
  congr 3; funext v S1
  cases titems v with
  | none => rfl
  | some l => match l with
    | [] => rfl
    | [_] => rfl
    | [_, _] => rfl
    | _ :: _ :: _ :: _ => rfl
def augO (o : Bop) (x y : Int) (S : Sto) : R Int := match o with
  | .add => .ok (x + y) S
  | .sub => .ok (x - y) S
  | .mul => if mulOk x y then .ok (x * y) S else .stuck
  | _ => .stuck
@[simp] theorem augO_add (x y : Int) (S : Sto) : augO .add x y S = .ok (x + y) S := rfl'
@[simp] theorem augO_sub (x y : Int) (S : Sto) : augO .sub x y S = .ok (x - y) S := rfl'
@[simp] theorem augO_mul (x y : Int) (S : Sto) (h : mulOk x y = true) : augO .mul x y S = .ok (x * y) S := by simp [augO, h]
end
/-! ### calls -/
def callD (g : List MV → Sto → R MV) (xs : List D) (S : Sto) : R MV := callM (.bor []) g (xs.map .d) S
theorem argsIn_none (S : Sto) (ex : List Nat) (k : Nat) : ∀ vs : List MV, deepL (deep ex 4 S) vs = none → argsIn S ex k [] vs = none
  | [], h => by cases h
  | v :: vs, h => by
    simp only [deepL_cons] at h
    cases e : deep ex 4 S v with
    | none => simp only [argsIn, e]
    | some d =>
      rw [e] at h
      simp only [argsIn, e]
      cases e2 : deepL (deep ex 4 S) vs with
      | none => rw [argsIn_none S ex k vs e2]; rfl
      | some x => rw [e2] at h; cases h
def callO (g : List MV → Sto → R MV) (o : Option (List D)) (S : Sto) : R MV := match o with
  | some xs => callD g xs S
  | none => .stuck
@[simp] theorem callO_some (g : List MV → Sto → R MV) (xs : List D) (S : Sto) : callO g (some xs) S = callD g xs S := rfl'
@[simp] theorem callM_bor (g : List MV → Sto → R MV) (vs : List MV) (S : Sto) : callM (.bor []) g vs S = callO g (deepL (deep [] 4 S) vs) S := by
  cases e : deepL (deep [] 4 S) vs with
  | none => simp only [callM, callB, lentIx_nil, argsIn_none S [] 0 vs e]; rfl
  | some xs => exact bor_deep e
/-- a def gives r -/
def Ret (r : D) : F → Prop
  | .ret v S => ∃ S', freeze 4 v S = .ok r S'
  | .next _ _ => r = .non
  | _ => False
def Exc (c : String) (fs : List (String × D)) : F → Prop
  | .exc c' fs' _ _ => c' = c ∧ fs' = fs
  | _ => False
@[simp] theorem Ret_ret (r : D) (v : MV) (S : Sto) : Ret r (.ret v S) = ∃ S', freeze 4 v S = .ok r S' := rfl'
@[simp] theorem Ret_next (r : D) (σ : Slots) (S : Sto) : Ret r (.next σ S) = (r = .non) := rfl'
@[simp] theorem Ret_exc (r : D) (c : String) (fs : List (String × D)) (σ : Slots) (S : Sto) : Ret r (.exc c fs σ S) = False := rfl'
@[simp] theorem Exc_ret (c : String) (fs : List (String × D)) (v : MV) (S : Sto) : Exc c fs (.ret v S) = False := rfl'
@[simp] theorem Exc_next (c : String) (fs : List (String × D)) (σ : Slots) (S : Sto) : Exc c fs (.next σ S) = False := rfl'
@[simp] theorem Exc_exc (c c' : String) (fs fs' : List (String × D)) (σ : Slots) (S : Sto) : Exc c fs (.exc c' fs' σ S) = (c' = c ∧ fs' = fs) := rfl'
@[simp] theorem ok_ex {r x : D} {S : Sto} : (∃ S', (R.ok x S : R D) = .ok r S') ↔ x = r := by
  constructor
  · rintro ⟨S', h⟩; injection h
  · rintro rfl; exact ⟨S, rfl⟩
section
variable {Pg : String → Option Df} {n : Nat} {f : String} {d : Df} {xs : List D} {r : D} {S : Sto}
theorem spW (hp : Pg f = some d) (hl : xs.length = d.np) (hc : clean r = true) (h : W (exs (callN Pg Fu n) Fu d.body ((xs.map .d).map some ++ List.replicate (d.names.length - (xs.map MV.d).length) none) []) trivial (P := ⟨Ret r⟩)) : callD (callN Pg Fu (n + 1) f) xs S = .ok (.d r) S := by
  unfold callD
  rw [callN_eq hp]
  cases e : exs (callN Pg Fu n) Fu d.body ((xs.map .d).map some ++ List.replicate (d.names.length - (xs.map MV.d).length) none) [] with
  | ret v S2 =>
    rw [e] at h
    obtain ⟨S3, h⟩ := h
    exact bor_d (run_ret (by simpa using hl) e) h hc
  | next σ S2 =>
    rw [e] at h
    have h : r = .non := h
    subst h
    exact bor_d (run_next (by simpa using hl) e) (freeze_d _ _ _) hc
  | brk σ S2 => rw [e] at h; exact h.elim
  | cont σ S2 => rw [e] at h; exact h.elim
  | exc c fs σ S2 => rw [e] at h; exact h.elim
  | stuck => rw [e] at h; exact h.elim
theorem spX {c : String} {fs : List (String × D)} (hp : Pg f = some d) (hl : xs.length = d.np) (hc : cleanF fs = true) (h : W (exs (callN Pg Fu n) Fu d.body ((xs.map .d).map some ++ List.replicate (d.names.length - (xs.map MV.d).length) none) []) trivial (P := ⟨Exc c fs⟩)) : callD (callN Pg Fu (n + 1) f) xs S = .exc c fs S := by
  unfold callD
  rw [callN_eq hp]
  cases e : exs (callN Pg Fu n) Fu d.body ((xs.map .d).map some ++ List.replicate (d.names.length - (xs.map MV.d).length) none) [] with
  | ret v S2 => rw [e] at h; exact h.elim
  | next σ S2 => rw [e] at h; exact h.elim
  | brk σ S2 => rw [e] at h; exact h.elim
  | cont σ S2 => rw [e] at h; exact h.elim
  | exc c' fs' σ S2 =>
    rw [e] at h
    obtain ⟨rfl, rfl⟩ := h
    exact bor_dx (run_exc (by simpa using hl) e) hc
  | stuck => rw [e] at h; exact h.elim
end
/-! ### the pool -/
def Pl (p : Nat) (c : Cell) : Prop := ∃ a h ns, c = pl a h ns ∧ 0 ≤ a ∧ a ≤ p ∧ ns.length ≤ 1000
theorem Pl.mono {p q : Nat} {c : Cell} (h : Pl p c) (hpq : p ≤ q := by omega) : Pl q c := by
  obtain ⟨a, h', ns, rfl, h0, h1, h2⟩ := h
  exact ⟨a, h', ns, rfl, h0, by omega, h2⟩
theorem Pl.ok {p : Nat} {c : Cell} (h : Pl p c) : c.ok = true := by
  obtain ⟨a, h', ns, rfl, _⟩ := h
  exact pl_ok _ _ _
abbrev SpTk (C : Calls) : Prop := ∀ (S : Sto) (i : Nat) (c : Cell) (p : Nat) (many : Int) (Q : Ps MV) (X : Xs), S[i]? = some c → Pl p c → p ≤ 900000 → 0 < many → Bn 8000 many →
  (∀ r c', 0 ≤ r → r < many → Pl (p + 1) c' → Q.p (.d (.int r)) (S.set i c')) → R.wp (callM (.bor [true]) (C "_law_take") [.c i, .d (.int many)] S) trivial (Q := Q) (X := X)
theorem spTk {C : Calls} (h : SpTake C) : SpTk C := fun S i c p many Q X hi hc hp hm hb hq => by
  obtain ⟨a, h', ns, rfl, h0, h1, h2⟩ := hc
  obtain ⟨r, a', h'', q1, q2, q3, q4, e⟩ := h S i a h' ns many hi h0 (by omega) h2 hm hb
  rw [e]
  exact hq r _ q1 q2 ⟨a', h'', ns, rfl, q3, by omega, h2⟩
/-- a def that borrows one cell -/
def RetL (Q : D → Cell → Prop) : F → Prop
  | .ret v S => ∃ r c S', freeze 4 v S = .ok r (c :: S') ∧ clean r = true ∧ c.ok = true ∧ Q r c
  | _ => False
@[simp] theorem RetL_ret (Q : D → Cell → Prop) (v : MV) (S : Sto) : RetL Q (.ret v S) = ∃ r c S', freeze 4 v S = .ok r (c :: S') ∧ clean r = true ∧ c.ok = true ∧ Q r c := rfl'
theorem spL {Pg : String → Option Df} {n : Nat} {f : String} {d : Df} {xs : List D} {S : Sto} {i : Nat} {c : Cell} {Q : Ps MV} {X : Xs} (Q' : D → Cell → Prop) (hp : Pg f = some d) (hl : xs.length + 1 = d.np) (hi : S[i]? = some c) (hc : c.ok = true)
    (h : W (exs (callN Pg Fu n) Fu d.body (some (.c 0) :: ((xs.map .d).map some ++ List.replicate (d.names.length - (xs.length + 1)) none)) [c]) trivial (P := ⟨RetL Q'⟩)) (hq : ∀ r c', Q' r c' → Q.p (.d r) (S.set i c')) :
    R.wp (callM (.bor [true]) (callN Pg Fu (n + 1) f) (.c i :: xs.map .d) S) trivial (Q := Q) (X := X) := by
  rw [callN_eq hp]
  cases e : exs (callN Pg Fu n) Fu d.body (some (.c 0) :: ((xs.map .d).map some ++ List.replicate (d.names.length - (xs.length + 1)) none)) [c] with
  | ret v S2 =>
    rw [e] at h
    obtain ⟨r, c', S3, h1, h2, h3, h4⟩ := h
    have hr : run (callN Pg Fu n) Fu d (.c 0 :: xs.map .d) [c] = .ok v S2 := run_ret (by simpa using hl) (by simpa using e)
    rw [lend1 hi hc (deepL_d [i] 4 S xs) hr h1 h2 rfl h3]
    exact hq r c' h4
  | next σ S2 => rw [e] at h; exact h.elim
  | brk σ S2 => rw [e] at h; exact h.elim
  | cont σ S2 => rw [e] at h; exact h.elim
  | exc c fs σ S2 => rw [e] at h; exact h.elim
  | stuck => rw [e] at h; exact h.elim
end Mi
namespace Mi
open PySem L2
/-! ### lists -/
def at' {α : Type} [Inhabited α] (xs : List α) (n : Nat) : α := xs.getD n default
section
variable {α β : Type} [Rp α] [Rp β] (S : Sto)
@[simp] theorem newL_mv (xs : List α) (h : xs.length ≤ 1000000) : newL false (mv xs) S = .ok (.d (.lst false (ds xs))) S := by simp [newL, szOk, h]
@[simp] theorem newL_mvc (xs : List α) (h : xs.length ≤ 1000000) : newL true (mv xs) S = .ok (.c S.length) (S ++ [.lst (mv xs)]) := by simp [newL, szOk, h]
@[simp] theorem newL_0 : newL false [] S = .ok (.d (.lst false [])) S := rfl'
@[simp] theorem newL_1 (a : D) : newL false [.d a] S = .ok (.d (.lst false [a])) S := rfl'
@[simp] theorem newL_2 (a b : D) : newL false [.d a, .d b] S = .ok (.d (.lst false [a, b])) S := rfl'
@[simp] theorem newL_3 (a b c : D) : newL false [.d a, .d b, .d c] S = .ok (.d (.lst false [a, b, c])) S := rfl'
@[simp] theorem newL_4 (a b c e : D) : newL false [.d a, .d b, .d c, .d e] S = .ok (.d (.lst false [a, b, c, e])) S := rfl'
@[simp] theorem newL_5 (a b c e f : D) : newL false [.d a, .d b, .d c, .d e, .d f] S = .ok (.d (.lst false [a, b, c, e, f])) S := rfl'
@[simp] theorem newL_6 (a b c e f g : D) : newL false [.d a, .d b, .d c, .d e, .d f, .d g] S = .ok (.d (.lst false [a, b, c, e, f, g])) S := rfl'
@[simp] theorem newL_c0 : newL true [] S = .ok (.c S.length) (S ++ [.lst []]) := rfl'
@[simp] theorem newL_c1 (a : MV) : newL true [a] S = .ok (.c S.length) (S ++ [.lst [a]]) := rfl'
@[simp] theorem newL_c2 (a b : MV) : newL true [a, b] S = .ok (.c S.length) (S ++ [.lst [a, b]]) := rfl'
@[simp] theorem newL_c3 (a b c : MV) : newL true [a, b, c] S = .ok (.c S.length) (S ++ [.lst [a, b, c]]) := rfl'
@[simp] theorem newL_cons_mv (a : D) (xs : List α) (h : xs.length ≤ 999999) : newL false (.d a :: mv xs) S = .ok (.d (.lst false (a :: ds xs))) S := by
  have : xs.length + 1 ≤ 1000000 := by omega
  simp [newL, szOk, this]
@[simp] theorem newT_0 : newT [] S = .ok (.d (.tup [])) S := rfl'
@[simp] theorem newT_1 (a : D) : newT [.d a] S = .ok (.d (.tup [a])) S := rfl'
@[simp] theorem newT_2 (a b : D) : newT [.d a, .d b] S = .ok (.d (.tup [a, b])) S := rfl'
@[simp] theorem newT_3 (a b c : D) : newT [.d a, .d b, .d c] S = .ok (.d (.tup [a, b, c])) S := rfl'
@[simp] theorem newT_4 (a b c e : D) : newT [.d a, .d b, .d c, .d e] S = .ok (.d (.tup [a, b, c, e])) S := rfl'
@[simp] theorem newT_mv (xs : List α) (h : xs.length ≤ 1000000) : newT (mv xs) S = .ok (.d (.tup (ds xs))) S := by simp [newT, szOk, h, tupV]
theorem mv_get [Inhabited α] (xs : List α) (n : Nat) (h : n < xs.length) : (mv xs)[n]? = some (.d (Rp.d (at' xs n))) := by
  simp [mv, at', List.getD, h]
@[simp] theorem atI_mv [Inhabited α] (xs : List α) (k : Int) (h0 : 0 ≤ k) (h1 : k < xs.length) : L2.atI (mv xs) k = some (.d (Rp.d (at' xs k.toNat))) := by
  rw [atI_int _ _ h0 (by simpa using h1), mv_get _ _ (by omega)]
@[simp] theorem atI_mv1 [Inhabited α] (xs : List α) (h : xs ≠ []) : L2.atI (mv xs) (-1) = some (.d (Rp.d (at' xs (xs.length - 1)))) := by
  have hl : 0 < xs.length := List.length_pos_iff.mpr h
  unfold L2.atI L2.ixN
  rw [if_neg (by omega), if_pos (by simp; omega)]
  have : (-1 + ((mv xs).length : Int)).toNat = xs.length - 1 := by simp; omega
  show (some _).bind _ = _
  rw [Option.bind_some, this, mv_get _ _ (by omega)]
theorem at_nat [Inhabited α] (xs : List α) (n : Nat) : at' xs ((n : Int).toNat) = at' xs n := by simp
theorem at_mem [Inhabited α] {xs : List α} {n : Nat} (h : n < xs.length) : at' xs n ∈ xs := by
  simp [at', List.getD, h]
@[simp] theorem at_0 [Inhabited α] (x : α) (xs : List α) : at' (x :: xs) 0 = x := rfl
theorem at_map {γ : Type} [Inhabited α] [Inhabited γ] (f : γ → α) (xs : List γ) (n : Nat) (h : n < xs.length) : at' (xs.map f) n = f (at' xs n) := by simp [at', List.getD, h]
theorem range_at [Inhabited α] (xs : List α) : (List.range xs.length).map (at' xs) = xs := by
  apply List.ext_getElem
  · simp
  · intro i h1 h2
    simp [at', List.getD, h2]
/-! ### slices -/
theorem cut_mv (xs : List α) (a b : Nat) (ha : a ≤ xs.length) (hb : b ≤ xs.length) : ((mv xs).drop a).take (b - a) = mv ((xs.drop a).take (b - a)) := by simp [mv]
theorem sIx_from (n d : Nat) (k : Int) (h : 0 ≤ k) : HT.sIx n d (some k) = min k.toNat n := by
  obtain ⟨m, rfl⟩ := Int.eq_ofNat_of_zero_le h
  rw [HT.sIx_nat]; rfl
theorem drop_min {α : Type} (xs : List α) (a : Nat) : xs.drop (min a xs.length) = xs.drop a := by
  by_cases h : a ≤ xs.length
  · rw [Nat.min_eq_left h]
  · rw [Nat.min_eq_right (by omega), List.drop_of_length_le (Nat.le_refl _), List.drop_of_length_le (by omega)]
theorem cut_from (xs : List α) (k : Int) (h : 0 ≤ k) : slF.cutM (mv xs) (some k) none = mv (xs.drop k.toNat) := by
  unfold slF.cutM
  rw [sIx_from _ _ _ h, HT.sIx_none, mv_len]
  have : (mv xs).drop (min k.toNat xs.length) = (mv xs).drop k.toNat := by
    have := drop_min (mv xs) k.toNat
    rwa [mv_len] at this
  rw [this, List.take_of_length_le (by simp; omega)]
  simp [mv]
theorem cut_to (xs : List α) (k : Int) (h : 0 ≤ k) : slF.cutM (mv xs) none (some k) = mv (xs.take k.toNat) := by
  unfold slF.cutM
  rw [sIx_from _ _ _ h, HT.sIx_none, mv_len, List.drop_zero, Nat.sub_zero]
  by_cases hk : k.toNat ≤ xs.length
  · rw [Nat.min_eq_left hk]; simp [mv]
  · rw [Nat.min_eq_right (by omega), List.take_of_length_le (by simp), List.take_of_length_le (by omega)]
theorem cut_both (xs : List α) (j k : Int) (hj : 0 ≤ j) (hk : 0 ≤ k) : slF.cutM (mv xs) (some j) (some k) = mv ((xs.drop j.toNat).take (k.toNat - j.toNat)) := by
  unfold slF.cutM
  rw [sIx_from _ _ _ hj, sIx_from _ _ _ hk, mv_len]
  have : (mv xs).drop (min j.toNat xs.length) = (mv xs).drop j.toNat := by
    have := drop_min (mv xs) j.toNat
    rwa [mv_len] at this
  rw [this]
  have e : ((mv xs).drop j.toNat).take (min k.toNat xs.length - min j.toNat xs.length) = ((mv xs).drop j.toNat).take (k.toNat - j.toNat) := by
    by_cases h1 : k.toNat ≤ xs.length
    · by_cases h2 : j.toNat ≤ xs.length
      · rw [Nat.min_eq_left h1, Nat.min_eq_left h2]
      · rw [List.drop_of_length_le (by simp; omega)]; simp
    · by_cases h2 : j.toNat ≤ xs.length
      · rw [Nat.min_eq_right (by omega), Nat.min_eq_left h2, List.take_of_length_le (by simp), List.take_of_length_le (by simp; omega)]
      · rw [List.drop_of_length_le (by simp; omega)]; simp
  rw [e]
  simp [mv]
@[simp] theorem sl_from (t : Bool) (xs : List α) (k : Int) (h : 0 ≤ k) (hl : xs.length ≤ 1000000) : slF false (.d (.lst t (ds xs))) (some k) none S = .ok (.d (.lst false (ds (xs.drop k.toNat)))) S := by
  have : xs.length - k.toNat ≤ 1000000 := by omega
  simp only [slF, litems, ds_map_d, cut_from xs k h]
  exact newL_mv S _ (by simp; omega)
@[simp] theorem sl_to (t : Bool) (xs : List α) (k : Int) (h : 0 ≤ k) (hl : xs.length ≤ 1000000) : slF false (.d (.lst t (ds xs))) none (some k) S = .ok (.d (.lst false (ds (xs.take k.toNat)))) S := by
  simp only [slF, litems, ds_map_d, cut_to xs k h]
  exact newL_mv S _ (by simp; omega)
@[simp] theorem sl_both (t : Bool) (xs : List α) (j k : Int) (hj : 0 ≤ j) (hk : 0 ≤ k) (hl : xs.length ≤ 1000000) : slF false (.d (.lst t (ds xs))) (some j) (some k) S = .ok (.d (.lst false (ds ((xs.drop j.toNat).take (k.toNat - j.toNat))))) S := by
  simp only [slF, litems, ds_map_d, cut_both xs j k hj hk]
  exact newL_mv S _ (by simp; omega)
theorem sl_fromC {i : Nat} {S : Sto} {xs : List α} {k : Int} (hi : S[i]? = some (.lst (mv xs))) (h : 0 ≤ k) (hl : xs.length ≤ 1000000) : slF false (.c i) (some k) none S = .ok (.d (.lst false (ds (xs.drop k.toNat)))) S := by
  simp only [slF, litems, hi, cut_from xs k h]
  exact newL_mv S _ (by simp; omega)
theorem sl_toC {i : Nat} {S : Sto} {xs : List α} {k : Int} (hi : S[i]? = some (.lst (mv xs))) (h : 0 ≤ k) (hl : xs.length ≤ 1000000) : slF false (.c i) none (some k) S = .ok (.d (.lst false (ds (xs.take k.toNat)))) S := by
  simp only [slF, litems, hi, cut_to xs k h]
  exact newL_mv S _ (by simp; omega)
/-! ### walks -/
@[simp] theorem range_mv (i : Int) : rangeL 0 i = mv (List.range i.toNat) := by simp [rangeL, mv]
@[simp] theorem zip_mv : ∀ (xs : List α) (ys : List β), zipL (mv xs) (mv ys) = mv (xs.zip ys)
  | [], ys => by cases ys <;> rfl
  | x :: xs, [] => rfl
  | x :: xs, y :: ys => by simp [zipL, tupV, zip_mv xs ys]
def enm (k : Nat) : List α → List (Nat × α)
  | [] => []
  | x :: xs => (k, x) :: enm (k + 1) xs
@[simp] theorem enum_mv : ∀ (xs : List α) (k : Nat), enumL k (mv xs) = mv (enm k xs)
  | [], k => rfl
  | x :: xs, k => by simp [enumL, tupV, enm, enum_mv xs (k + 1)]
@[simp] theorem enm_len : ∀ (xs : List α) (k : Nat), (enm k xs).length = xs.length
  | [], k => rfl
  | x :: xs, k => by simp [enm, enm_len xs (k + 1)]
theorem enm_mem : ∀ {xs : List α} {k : Nat} {p : Nat × α}, p ∈ enm k xs → k ≤ p.1 ∧ p.1 < k + xs.length ∧ xs[p.1 - k]? = some p.2
  | [], k, p, h => by simp [enm] at h
  | x :: xs, k, p, h => by
    rcases List.mem_cons.mp h with rfl | h
    · simp
    · have := enm_mem h
      refine ⟨by omega, by simp; omega, ?_⟩
      have e : p.1 - k = p.1 - (k + 1) + 1 := by omega
      rw [e, List.getElem?_cons_succ]
      exact this.2.2
@[simp] theorem walk_c {i : Nat} : walked (.c i) S = match S[i]? with
    | some (.lst ms) => match allD ms with
      | some ds => .ok ms (S.set i (.froz (.lst false ds)))
      | none => .ok ms (S.set i (.fl ms))
    | some (.fl ms) => .ok ms S
    | some (.froz (.lst _ xs)) => .ok (xs.map .d) S
    | _ => .stuck := rfl'
/-! ### values -/
@[simp] theorem items_c' (i : Nat) : items S (.c i) = match S[i]? with
    | some (.lst ms) => some ms
    | some (.fl ms) => some ms
    | some (.froz (.lst _ xs)) => some (xs.map .d)
    | _ => none := rfl'
@[simp] theorem litems_d (t : Bool) (xs : List D) : litems S (.d (.lst t xs)) = some (xs.map .d) := rfl'
@[simp] theorem litems_c (i : Nat) : litems S (.c i) = match S[i]? with
    | some (.lst ms) => some ms
    | some (.fl ms) => some ms
    | some (.froz (.lst _ xs)) => some (xs.map .d)
    | _ => none := rfl'
@[simp] theorem titems_d (xs : List D) : titems (.d (.tup xs)) = some (xs.map .d) := rfl'
@[simp] theorem deep_c (ex : List Nat) (n : Nat) (i : Nat) : deep ex (n + 1) S (.c i) = if ex.contains i then none else match S[i]? with
    | some (.froz d) => some d
    | some (.lst ms) => (deepL (deep ex n S) ms).map (.lst true)
    | some (.fl ms) => (deepL (deep ex n S) ms).map (.lst true)
    | _ => none := rfl'
@[simp] theorem freeze_c (n i : Nat) : freeze (n + 1) (.c i) S = match S[i]? with
    | some (.froz d) => .ok d S
    | some (.lst ms) => (freezeL (freeze n) ms S).bind fun ds S1 => match S1[i]? with
      | some (.lst _) => .ok (.lst false ds) (S1.set i (.froz (.lst false ds)))
      | _ => .stuck
    | some (.fl ms) => (freezeL (freeze n) ms S).bind fun ds S1 => match S1[i]? with
      | some (.fl _) => .ok (.lst false ds) (S1.set i (.froz (.lst false ds)))
      | _ => .stuck
    | some (.ins c fs) => (freezeF (freeze n) fs S).bind fun ds S1 => match S1[i]? with
      | some (.ins _ _) => .ok (.ins c ds) (S1.set i (.froz (.ins c ds)))
      | _ => .stuck
    | _ => .stuck := rfl'
@[simp] theorem cmp_eq (x y : MV) : cmpF .eq x y S = match deep [] 4 S x, deep [] 4 S y with
    | some a, some b => match cmpD .eq a b with
      | some z => .ok (.d (.bl z)) S
      | none => .stuck
    | _, _ => .stuck := rfl'
@[simp] theorem cmp_ne (x y : MV) : cmpF .ne x y S = match deep [] 4 S x, deep [] 4 S y with
    | some a, some b => match cmpD .ne a b with
      | some z => .ok (.d (.bl z)) S
      | none => .stuck
    | _, _ => .stuck := rfl'
@[simp] theorem cmp_in (x y : MV) : cmpF .in_ x y S = match deep [] 4 S x, deep [] 4 S y with
    | some a, some b => match cmpD .in_ a b with
      | some z => .ok (.d (.bl z)) S
      | none => .stuck
    | _, _ => .stuck := rfl'
@[simp] theorem cmp_nin (x y : MV) : cmpF .nin x y S = match deep [] 4 S x, deep [] 4 S y with
    | some a, some b => match cmpD .nin a b with
      | some z => .ok (.d (.bl z)) S
      | none => .stuck
    | _, _ => .stuck := rfl'
@[simp] theorem lstC_c (i : Nat) : lstC S (.c i) = match S[i]? with
    | some (.lst _) => true
    | _ => false := rfl'
@[simp] theorem app_c (i : Nat) (y : MV) : appF (.c i) y S = match S[i]? with
    | some (.lst ms) => if szOk (ms.length + 1) then .ok (.d .non) (S.set i (.lst (ms ++ [y]))) else .stuck
    | _ => .stuck := rfl'
@[simp] theorem szOk_n (n : Nat) (h : n ≤ 1000000) : szOk n = true := szOk_of h
@[simp] theorem rgOk_n (i : Int) (h : -1000000000 ≤ i ∧ i ≤ 1000000000) : rgOk i = true := decide_eq_true h
@[simp] theorem cat_mv (t u : Bool) (xs ys : List α) (h : xs.length + ys.length ≤ 1000000) : binF .add (.d (.lst t (ds xs))) (.d (.lst u (ds ys))) S = .ok (.d (.lst false (ds (xs ++ ys)))) S := by
  rw [binF_cat, ds_app', if_pos (szOk_of (by simpa using h)), ds_map_d]
  exact newL_mv S _ (by simpa using h)
@[simp] theorem sum_d (v : MV) (c : Bool) : bltF c .sum [v] S = match (items S v).bind intsOf with
    | some is => .ok (.d (.int is.sum)) S
    | none => .stuck := rfl'
@[simp] theorem any_d (v : MV) (c : Bool) : bltF c .any [v] S = match (litems S v).bind blsOf with
    | some bs => .ok (.d (.bl (bs.any id))) S
    | none => .stuck := rfl'
@[simp] theorem all_d (v : MV) (c : Bool) : bltF c .all [v] S = match (litems S v).bind blsOf with
    | some bs => .ok (.d (.bl (bs.all id))) S
    | none => .stuck := rfl'
@[simp] theorem max_d (v : MV) (c : Bool) : bltF c .max [v] S = match (items S v).bind intsOf with
    | some (i :: is) => .ok (.d (.int (maxL (i :: is)))) S
    | _ => .stuck := by
  cases v with
  | d x => cases x <;> rfl
  | c i => rfl
  | t ms => rfl
@[simp] theorem min_d (v : MV) (c : Bool) : bltF c .min [v] S = match (items S v).bind intsOf with
    | some (i :: is) => .ok (.d (.int (minL (i :: is)))) S
    | _ => .stuck := by
  cases v with
  | d x => cases x <;> rfl
  | c i => rfl
  | t ms => rfl
@[simp] theorem min_2 (c : Bool) (i j : Int) : bltF c .min [.d (.int i), .d (.int j)] S = .ok (.d (.int (if j < i then j else i))) S := rfl'
@[simp] theorem truth_lst (t : Bool) (xs : List D) : truth S (.d (.lst t xs)) = some (!xs.isEmpty) := by simp [truth]
@[simp] theorem insOf_ins (c : String) (fs : List (String × D)) : insOf S (.d (.ins c fs)) = some (c, fs.map fun p => (p.1, .d p.2)) := rfl'
@[simp] theorem insOf_c (i : Nat) : insOf S (.c i) = match S[i]? with
    | some (.ins c fs) => some (c, fs)
    | some (.froz (.ins c fs)) => some (c, fs.map fun p => (p.1, .d p.2))
    | _ => none := rfl'
theorem eqD_ref (a b : D) : cmpD .eq a b = if dep 8 a && dep 8 b then some (eqD a b) else none := cmpD_eq a b
@[simp] theorem cmp_eq_ll (t u : Bool) (xs ys : List D) : cmpD .eq (.lst t xs) (.lst u ys) = if depL (dep 7) xs && depL (dep 7) ys then some (eqDs xs ys) else none := by rw [cmpD_eq]; simp
@[simp] theorem cmp_ne_ll (t u : Bool) (xs ys : List D) : cmpD .ne (.lst t xs) (.lst u ys) = if depL (dep 7) xs && depL (dep 7) ys then some (!eqDs xs ys) else none := by rw [cmpD_ne]; simp
@[simp] theorem cmp_eq_tt (xs ys : List D) : cmpD .eq (.tup xs) (.tup ys) = if depL (dep 7) xs && depL (dep 7) ys then some (eqDs xs ys) else none := by rw [cmpD_eq]; simp
@[simp] theorem cmp_ne_tt (xs ys : List D) : cmpD .ne (.tup xs) (.tup ys) = if depL (dep 7) xs && depL (dep 7) ys then some (!eqDs xs ys) else none := by rw [cmpD_ne]; simp
end
end Mi
namespace Mi
open PySem L2
/-! ### bounds -/
theorem Bn.add' {j k : Nat} {x y : Int} (hx : Bn j x) (hy : Bn k y) : Bn (max j k + 1) (x + y) := (hx.mono (Nat.le_max_left _ _)).add (hy.mono (Nat.le_max_right _ _))
theorem Bn.sub' {j k : Nat} {x y : Int} (hx : Bn j x) (hy : Bn k y) : Bn (max j k + 1) (x - y) := (hx.mono (Nat.le_max_left _ _)).sub (hy.mono (Nat.le_max_right _ _))
theorem Bn.gcd' {j k : Nat} {x y : Int} (hx : Bn j x) (hy : Bn k y) : Bn (max j k) (Int.gcd x y : Int) := (hx.mono (Nat.le_max_left _ _)).gcd (hy.mono (Nat.le_max_right _ _))
theorem Bn.lit {x : Int} (h : x.natAbs < 2 ^ 64) : Bn 64 x := .mk h
theorem Bn.use {j k : Nat} {x : Int} (h : Bn j x) (hk : j ≤ k) : Bn k x := h.mono hk
/-- every number of a list, of a table -/
def BnL (k : Nat) (xs : List Int) : Prop := ∀ x ∈ xs, Bn k x
def BnR (k : Nat) (rs : List (List Int)) : Prop := ∀ r ∈ rs, BnL k r
theorem BnL.mono {j k : Nat} {xs : List Int} (h : BnL j xs) (hk : j ≤ k) : BnL k xs := fun x hx => (h x hx).mono hk
theorem BnR.mono {j k : Nat} {xs : List (List Int)} (h : BnR j xs) (hk : j ≤ k) : BnR k xs := fun x hx => (h x hx).mono hk
theorem BnL.at {k : Nat} {xs : List Int} (h : BnL k xs) (n : Nat) : Bn k (at' xs n) := by
  by_cases hn : n < xs.length
  · exact h _ (at_mem hn)
  · have : at' xs n = 0 := by simp [at', List.getD, List.getElem?_eq_none (Nat.le_of_not_lt hn)]
    rw [this]; exact .mk (Nat.two_pow_pos k)
theorem BnR.at {k : Nat} {xs : List (List Int)} (h : BnR k xs) (n : Nat) : BnL k (at' xs n) := by
  by_cases hn : n < xs.length
  · exact h _ (at_mem hn)
  · have : at' xs n = [] := by simp [at', List.getD, List.getElem?_eq_none (Nat.le_of_not_lt hn)]; rfl
    rw [this]; intro x hx; simp at hx
theorem BnL.sum {k : Nat} {xs : List Int} (h : BnL k xs) : Bn (k + xs.length) xs.sum := Bn.sum h
theorem mulO {i j : Int} (ha : Bn 400000 i) (hb : Bn 400000 j) : mulOk i j = true := mulB ha hb
theorem divO {j : Int} (h0 : j ≠ 0) (hb : Bn 8000 j) : divOk j = true := divB h0 hb
/-! ### comprehensions -/
/-- one item of a comprehension -/
def stepE (el : Slots → Sto → R MV) (cd : Slots → Sto → R Bool) (tg : Tg) (σ : Slots) (x : MV) (S : Sto) : R (Option MV) := (bindTg tg σ x S).bind fun σ1 S0 => (cd σ1 S0).bind fun b S1 => if b then (el σ1 S1).bind fun y S2 => .ok (some y) S2 else .ok none S1
theorem lc_ok {α : Type} {el : Slots → Sto → R MV} {cd : Slots → Sto → R Bool} {tg : Tg} {σ : Slots} {S : Sto} (v : α → MV) (g : α → Option MV) : ∀ (xs : List α) (acc : List MV), (∀ x ∈ xs, stepE el cd tg σ (v x) S = .ok (g x) S) → lcGo el cd tg σ (xs.map v) acc S = .ok (acc.reverse ++ xs.filterMap g) S
  | [], acc, _ => by simp [lcGo]
  | x :: xs, acc, h => by
    have hx := h x (by simp)
    have ih := fun acc => lc_ok v g xs acc fun y hy => h y (by simp [hy])
    unfold stepE at hx
    simp only [List.map_cons, lcGo]
    cases eb : bindTg tg σ (v x) S with
    | exc c fs S' => rw [eb] at hx; cases hx
    | stuck => rw [eb] at hx; cases hx
    | ok σ1 S0 =>
      rw [eb] at hx
      simp only [R.bind_ok] at hx ⊢
      cases ec : cd σ1 S0 with
      | exc c fs S' => rw [ec] at hx; cases hx
      | stuck => rw [ec] at hx; cases hx
      | ok b S1 =>
        rw [ec] at hx
        simp only [R.bind_ok] at hx
        cases b with
        | false =>
          simp only [Bool.false_eq_true, if_false] at hx
          injection hx with h1 h2
          subst h2
          simp only [ih]
          simp [List.filterMap_cons, ← h1]
        | true =>
          simp only [if_true] at hx
          cases ee : el σ1 S1 with
          | exc c fs S' => rw [ee] at hx; cases hx
          | stuck => rw [ee] at hx; cases hx
          | ok y S2 =>
            rw [ee] at hx
            simp only [R.bind_ok] at hx ⊢
            injection hx with h1 h2
            subst h2
            simp only [ee, ih]
            simp [List.filterMap_cons, ← h1]
@[simp ↓] theorem w_stepE {el : Slots → Sto → R MV} {cd : Slots → Sto → R Bool} {tg : Tg} {σ : Slots} {S : Sto} {x : MV} {Q : Ps (Option MV)} {X : Xs} : R.wp (stepE el cd tg σ x S) trivial (Q := Q) (X := X) = R.wp (bindTg tg σ x S) trivial (Q := ⟨fun σ1 S0 => R.wp (cd σ1 S0) trivial (Q := ⟨fun b S1 => R.wp (tst (some b) trivial (x := ⟨(el σ1 S1).bind fun y S2 => .ok (some y) S2⟩) (y := ⟨.ok none S1⟩)) trivial (Q := Q) (X := X)⟩) (X := X)⟩) (X := X) := by
  unfold stepE
  rw [wp_bind]
  congr 3; funext σ1 S0
  rw [wp_bind]
  congr 3; funext b S1
  cases b <;> rfl
section
variable {α β γ : Type} [Rp α] [Rp β] [Rp γ]
/-- an item is v -/
abbrev Is (r : R (Option MV)) (v : Option MV) (S : Sto) : Prop := R.wp r trivial (Q := ⟨fun o S' => o = v ∧ S' = S⟩) (X := ⟨fun _ _ _ => False⟩)
theorem lcGo_wp {el : Slots → Sto → R MV} {cd : Slots → Sto → R Bool} {tg : Tg} {σ : Slots} {S : Sto} {xs : List α} (g : α → β)
    (h : ∀ x ∈ xs, Is (stepE el cd tg σ (.d (Rp.d x)) S) (some (.d (Rp.d (g x)))) S) : lcGo el cd tg σ (mv xs) [] S = .ok (mv (xs.map g)) S := by
  have e := lc_ok (el := el) (cd := cd) (tg := tg) (σ := σ) (S := S) (fun x : α => MV.d (Rp.d x)) (fun x => some (.d (Rp.d (g x)))) xs [] (fun x hx => eq_of_wp (h x hx))
  have e2 : (xs.filterMap fun x => some (MV.d (Rp.d (g x)))) = mv (xs.map g) := by simp [mv]
  rw [e2] at e
  exact e
theorem lc_map {el : Slots → Sto → R MV} {cd : Slots → Sto → R Bool} {tg : Tg} {σ : Slots} {S : Sto} {xs : List α} {Q : Ps (List MV)} {X : Xs} (g : α → β)
    (h' : ∀ x ∈ xs, Is (stepE el cd tg σ (.d (Rp.d x)) S) (some (.d (Rp.d (g x)))) S) (hq : Q.p (mv (xs.map g)) S) : R.wp (lcGo el cd tg σ (mv xs) [] S) trivial (Q := Q) (X := X) := by
  have h := fun x hx => eq_of_wp (h' x hx)
  have e := lc_ok (el := el) (cd := cd) (tg := tg) (σ := σ) (S := S) (fun x : α => MV.d (Rp.d x)) (fun x => some (.d (Rp.d (g x)))) xs [] h
  show R.wp (lcGo el cd tg σ (xs.map fun x => .d (Rp.d x)) [] S) trivial (Q := Q) (X := X)
  rw [e]
  have e2 : (xs.filterMap fun x => some (MV.d (Rp.d (g x)))) = mv (xs.map g) := by
    simp [mv]
  rw [List.reverse_nil, List.nil_append, wp_ok, e2]
  exact hq
theorem lc_filt {el : Slots → Sto → R MV} {cd : Slots → Sto → R Bool} {tg : Tg} {σ : Slots} {S : Sto} {xs : List α} {Q : Ps (List MV)} {X : Xs} (p : α → Bool) (g : α → β)
    (h' : ∀ x ∈ xs, Is (stepE el cd tg σ (.d (Rp.d x)) S) (if p x then some (.d (Rp.d (g x))) else none) S) (hq : Q.p (mv ((xs.filter p).map g)) S) : R.wp (lcGo el cd tg σ (mv xs) [] S) trivial (Q := Q) (X := X) := by
  have h := fun x hx => eq_of_wp (h' x hx)
  have e := lc_ok (el := el) (cd := cd) (tg := tg) (σ := σ) (S := S) (fun x : α => MV.d (Rp.d x)) (fun x => if p x then some (.d (Rp.d (g x))) else none) xs [] h
  show R.wp (lcGo el cd tg σ (xs.map fun x => .d (Rp.d x)) [] S) trivial (Q := Q) (X := X)
  rw [e]
  have e2 : ∀ xs : List α, (xs.filterMap fun x => if p x then some (MV.d (Rp.d (g x))) else none) = mv ((xs.filter p).map g) := fun xs => by
    induction xs with
    | nil => rfl
    | cons x xs ih => by_cases hp : p x = true <;> simp [hp, ih]
  rw [List.reverse_nil, List.nil_append, wp_ok, e2]
  exact hq
/-- two walks -/
theorem lc2_ok {el : Slots → Sto → R MV} {it2 : Slots → Sto → R (List MV)} {tg tg2 : Tg} {w2 : List Nat} {σ : Slots} {S : Sto} (ys : α → List β) (g : α → β → γ) : ∀ (xs : List α) (acc : List MV),
    (∀ x ∈ xs, ∃ σ1, bindTg tg σ (.d (Rp.d x)) S = .ok σ1 S ∧ it2 σ1 S = .ok (mv (ys x)) S ∧ ∀ y ∈ ys x, Is (stepE el (fun _ S => .ok true S) tg2 (wipeM σ1 w2) (.d (Rp.d y)) S) (some (.d (Rp.d (g x y)))) S) →
    lcGo2 el it2 tg tg2 w2 wipeM σ (mv xs) acc S = .ok (acc.reverse ++ mv (xs.flatMap fun x => (ys x).map (g x))) S
  | [], acc, _ => by simp [lcGo2]
  | x :: xs, acc, h => by
    obtain ⟨σ1, h1, h2, h3⟩ := h x (by simp)
    have ih := fun acc => lc2_ok (el := el) (it2 := it2) (tg := tg) (tg2 := tg2) (w2 := w2) (σ := σ) (S := S) ys g xs acc fun y hy => h y (by simp [hy])
    have e := lc_ok (el := el) (cd := fun _ S => .ok true S) (tg := tg2) (σ := wipeM σ1 w2) (S := S) (fun y : β => MV.d (Rp.d y)) (fun y => some (.d (Rp.d (g x y)))) (ys x) acc (fun y hy => eq_of_wp (h3 y hy))
    have e' : lcGo el (fun _ S => .ok true S) tg2 (wipeM σ1 w2) (mv (ys x)) acc S = _ := e
    have e2 : ((ys x).filterMap fun y => some (MV.d (Rp.d (g x y)))) = mv ((ys x).map (g x)) := by simp [mv]
    rw [e2] at e'
    simp only [mv_cons, lcGo2, h1, h2, e', ih, List.flatMap_cons]
    simp
theorem lc2_map {el : Slots → Sto → R MV} {it2 : Slots → Sto → R (List MV)} {tg tg2 : Tg} {w2 : List Nat} {σ : Slots} {S : Sto} {xs : List α} {Q : Ps (List MV)} {X : Xs} (ys : α → List β) (g : α → β → γ)
    (h : ∀ x ∈ xs, R.wp (bindTg tg σ (.d (Rp.d x)) S) trivial (Q := ⟨fun σ1 S1 => S1 = S ∧ R.wp (it2 σ1 S) trivial (Q := ⟨fun zs S2 => zs = mv (ys x) ∧ S2 = S⟩) (X := ⟨fun _ _ _ => False⟩) ∧ ∀ y ∈ ys x, Is (stepE el (fun _ S => .ok true S) tg2 (wipeM σ1 w2) (.d (Rp.d y)) S) (some (.d (Rp.d (g x y)))) S⟩) (X := ⟨fun _ _ _ => False⟩))
    (hq : Q.p (mv (xs.flatMap fun x => (ys x).map (g x))) S) : R.wp (lcGo2 el it2 tg tg2 w2 wipeM σ (mv xs) [] S) trivial (Q := Q) (X := X) := by
  rw [lc2_ok ys g xs [] (fun x hx => by
    have := h x hx
    cases e : bindTg tg σ (.d (Rp.d x)) S with
    | ok σ1 S1 =>
      rw [e] at this
      obtain ⟨h1, h2, h3⟩ := (this : _ ∧ _ ∧ _)
      subst h1
      exact ⟨σ1, rfl, eq_of_wp h2, h3⟩
    | exc c fs S' => rw [e] at this; exact this.elim
    | stuck => rw [e] at this; exact this.elim)]
  exact hq
/-- draws -/
theorem lc_draw {el : Slots → Sto → R MV} {cd : Slots → Sto → R Bool} {tg : Tg} {σ : Slots} {i : Nat} {Q : Ps (List MV)} {X : Xs} (q : Nat) (Pr : α → β → Prop) (hcd : ∀ σ S, cd σ S = .ok true S) :
    ∀ (xs : List α) (p : Nat) (S : Sto) (c : Cell) (acc : List β), S[i]? = some c → Pl p c →
    (∀ x ∈ xs, ∀ (p : Nat) (c : Cell), Pl p c → p ≤ 800000 → R.wp (bindTg tg σ (.d (Rp.d x)) (S.set i c)) trivial (Q := ⟨fun σ1 S1 => R.wp (el σ1 S1) trivial (Q := ⟨fun v S2 => ∃ b c', v = .d (Rp.d b) ∧ Pr x b ∧ Pl (p + q) c' ∧ S2 = S.set i c'⟩) (X := ⟨fun _ _ _ => False⟩)⟩) (X := ⟨fun _ _ _ => False⟩)) →
    p + q * xs.length ≤ 800000 →
    (∀ (bs : List β) (c' : Cell), bs.length = xs.length → (∀ ab ∈ xs.zip bs, Pr ab.1 ab.2) → Pl (p + q * xs.length) c' → Q.p (mv (acc.reverse ++ bs)) (S.set i c')) →
    R.wp (lcGo el cd tg σ (mv xs) (mv acc) S) trivial (Q := Q) (X := X)
  | [], p, S, c, acc, hi, hc, _, _, hq => by
    have := hq [] c rfl (by simp) (by simpa using hc)
    rw [List.append_nil] at this
    have e : S.set i c = S := by
      apply List.ext_getElem?
      intro k
      rw [List.getElem?_set]
      by_cases hk : i = k
      · subst hk
        have : i < S.length := by
          rcases Nat.lt_or_ge i S.length with h | h
          · exact h
          · rw [List.getElem?_eq_none h] at hi; cases hi
        rw [if_pos rfl, if_pos this, hi]
      · simp [hk]
    rw [e] at this
    have e2 : (mv acc).reverse = mv acc.reverse := by simp [mv]
    simp only [mv_nil, lcGo]
    rw [wp_ok, e2]
    exact this
  | x :: xs, p, S, c, acc, hi, hc, h, hp, hq => by
    have hil : i < S.length := by
      rcases Nat.lt_or_ge i S.length with h | h
      · exact h
      · rw [List.getElem?_eq_none h] at hi; cases hi
    have e : S.set i c = S := by
      apply List.ext_getElem?
      intro k
      rw [List.getElem?_set]
      by_cases hk : i = k
      · subst hk; rw [if_pos rfl, if_pos hil, hi]
      · simp [hk]
    rw [List.length_cons, Nat.mul_succ] at hp
    have hx := h x (by simp) p c hc (by omega)
    rw [e] at hx
    simp only [mv_cons, lcGo]
    cases eb : bindTg tg σ (.d (Rp.d x)) S with
    | exc c fs S' => rw [eb] at hx; exact hx.elim
    | stuck => rw [eb] at hx; exact hx.elim
    | ok σ1 S0 =>
      rw [eb] at hx
      rw [wp_ok] at hx
      simp only [hcd]
      have hx : R.wp (el σ1 S0) trivial (Q := ⟨fun v S2 => ∃ b c', v = .d (Rp.d b) ∧ Pr x b ∧ Pl (p + q) c' ∧ S2 = S.set i c'⟩) (X := ⟨fun _ _ _ => False⟩) := hx
      cases ee : el σ1 S0 with
      | exc c fs S' => rw [ee] at hx; exact hx.elim
      | stuck => rw [ee] at hx; exact hx.elim
      | ok y S2 =>
        rw [ee] at hx
        obtain ⟨b, c', rfl, hb, hc', rfl⟩ := (hx : ∃ b c', _ ∧ _ ∧ _ ∧ _)
        have hi' : (S.set i c')[i]? = some c' := by simp [hil]
        have ih := lc_draw (el := el) (cd := cd) (tg := tg) (σ := σ) (i := i) (Q := Q) (X := X) q Pr hcd xs (p + q) (S.set i c') c' (b :: acc) hi' hc' (fun z hz p c hc hp' => by
          have := h z (by simp [hz]) p c hc hp'
          rw [List.set_set]
          refine wp_mono this (fun σ1 S1 h => wp_mono (h : R.wp (el σ1 S1) trivial (Q := ⟨fun v S2 => ∃ b c', v = .d (Rp.d b) ∧ Pr z b ∧ Pl (p + q) c' ∧ S2 = S.set i c'⟩) (X := ⟨fun _ _ _ => False⟩)) (fun v S2 h => ?_) (fun _ _ _ h => h)) (fun _ _ _ h => h)
          obtain ⟨b, c', h1, h2, h3, h4⟩ := (h : ∃ b c', _ ∧ _ ∧ _ ∧ _)
          exact ⟨b, c', h1, h2, h3, by rw [List.set_set]; exact h4⟩) (by omega) (fun bs c'' hl hz hpl => by
          have := hq (b :: bs) c'' (by simp [hl]) (fun ab hab => by
            rcases List.mem_cons.mp (by simpa using hab) with rfl | hab
            · exact hb
            · exact hz ab hab) (hpl.mono (by rw [List.length_cons, Nat.mul_succ]; omega))
          rw [List.set_set]
          simpa using this)
        exact ih
/-! ### loops -/
def forP (I : Slots → Sto → Prop) [P : Pq] (f : F) (_ : True) : Prop := match f with
  | .next σ S => I σ S
  | .cont σ S => I σ S
  | .brk σ S => P.p (.next σ S)
  | f => P.p f
@[simp ↓] theorem forP_next {I : Slots → Sto → Prop} {P : Pq} (σ : Slots) (S : Sto) : forP I (.next σ S) trivial (P := P) = I σ S := rfl'
@[simp ↓] theorem forP_ret {I : Slots → Sto → Prop} {P : Pq} (v : MV) (S : Sto) : forP I (.ret v S) trivial (P := P) = P.p (.ret v S) := rfl'
@[simp ↓] theorem forP_exc {I : Slots → Sto → Prop} {P : Pq} (c : String) (fs : List (String × D)) (σ : Slots) (S : Sto) : forP I (.exc c fs σ S) trivial (P := P) = P.p (.exc c fs σ S) := rfl'
theorem for_inv {tg : Tg} {body : Slots → Sto → F} {P : Pq} (I : List α → Slots → Sto → Prop) : ∀ (xs pre : List α) (σ : Slots) (S : Sto), I pre σ S →
    (∀ ys x zs σ S, pre ++ xs = ys ++ x :: zs → I ys σ S → R.wp (bindTg tg σ (.d (Rp.d x)) S) trivial (Q := ⟨fun σ1 S1 => W (body σ1 S1) trivial (P := ⟨fun f => forP (I (ys ++ [x])) f trivial (P := P)⟩)⟩) (X := ⟨fun _ _ _ => False⟩)) →
    (∀ σ S, I (pre ++ xs) σ S → P.p (.next σ S)) → W (forGo tg body (mv xs) σ S) trivial (P := P)
  | [], pre, σ, S, h0, hs, he => by
    rw [mv_nil, forGo_nil, W_next]
    exact he σ S (by simpa using h0)
  | x :: xs, pre, σ, S, h0, hs, he => by
    have hx := hs pre x xs σ S rfl h0
    simp only [mv_cons, forGo_cons]
    cases eb : bindTg tg σ (.d (Rp.d x)) S with
    | exc c fs S' => rw [eb] at hx; exact hx.elim
    | stuck => rw [eb] at hx; exact hx.elim
    | ok σ1 S1 =>
      rw [eb] at hx
      have hx : W (body σ1 S1) trivial (P := ⟨fun f => forP (I (pre ++ [x])) f trivial (P := P)⟩) := hx
      simp only
      have ih := fun σ2 S2 (h : I (pre ++ [x]) σ2 S2) => for_inv (tg := tg) (body := body) (P := P) I xs (pre ++ [x]) σ2 S2 h (fun ys y zs σ S e => hs ys y zs σ S (by simpa using e)) (by simpa using he)
      cases e2 : body σ1 S1 with
      | next σ2 S2 => rw [e2] at hx; exact ih σ2 S2 hx
      | cont σ2 S2 => rw [e2] at hx; exact ih σ2 S2 hx
      | brk σ2 S2 => rw [e2] at hx; exact hx
      | ret v S2 => rw [e2] at hx; exact hx
      | exc c fs σ2 S2 => rw [e2] at hx; exact hx
      | stuck => rw [e2] at hx; exact hx
theorem for_st {tg : Tg} {body : Slots → Sto → F} {P : Pq} {xs : List α} {σ : Slots} {S : Sto} (st : List α → Slots) (so : List α → Sto) (h1 : σ = st []) (h2 : S = so [])
    (hs : ∀ ys x zs, xs = ys ++ x :: zs → R.wp (bindTg tg (st ys) (.d (Rp.d x)) (so ys)) trivial (Q := ⟨fun σ1 S1 => W (body σ1 S1) trivial (P := ⟨fun f => forP (fun σ S => σ = st (ys ++ [x]) ∧ S = so (ys ++ [x])) f trivial (P := P)⟩)⟩) (X := ⟨fun _ _ _ => False⟩))
    (he : P.p (.next (st xs) (so xs))) : W (forGo tg body (mv xs) σ S) trivial (P := P) :=
  for_inv (fun ys σ S => σ = st ys ∧ S = so ys) xs [] σ S ⟨h1, h2⟩ (fun ys x zs σ S e h => by rw [h.1, h.2]; exact hs ys x zs (by simpa using e)) (fun σ S h => by
    simp only [List.nil_append] at h
    rw [h.1, h.2]; exact he)
end
end Mi
namespace Mi
open PySem L2
/-! ### experiments -/
@[simp] theorem iD_ds' (xs : List Int) : iD xs = ds xs := rfl
@[simp] theorem rowsD_ds (rs : List (List Int)) : rowsD rs = .lst false (ds rs) := rfl
@[simp] theorem drawn_ds (u : Int) (rs : List (List Int)) : drawnD u rs = .lst false [.int u, .lst false (ds rs)] := rfl
@[simp] theorem tab_ds (u : Int) (rs : List (List Int)) : tabD u rs = .lst false [.int (lowU u rs), .lst false (ds (lowR u rs))] := rfl
@[simp] theorem exI_ins (U : Int) (w : Nat) (R : List (List Int)) (S : Sto) : insOf S (.d (exI U w R)) = some ("Experiment", [("unit", .d (.int U)), ("grid", .d (.lst false (ds R))), ("states", .d (.int R.length)), ("signals", .d (.int w))]) := rfl
@[simp] theorem exI_clean (U : Int) (w : Nat) (R : List (List Int)) : clean (exI U w R) = true := by simp [exI]
@[simp] theorem exI_ty (U : Int) (w : Nat) (R : List (List Int)) (S : Sto) : tyD S (.d (exI U w R)) = none := rfl
section
variable {C : Calls}
abbrev TExp (C : Calls) : Prop := ∀ (t : Bool) (u : Int) (w : Nat) (rs : List (List Int)) (S : Sto), Right u w rs → rs ≠ [] → rs.length ≤ 4 → 1 ≤ w → w ≤ 100 → callD (mkF C "Experiment") [.int u, .lst t (ds rs)] S = .ok (.d (exI (lowU u rs) w (lowR u rs))) S
theorem tExp (h : SpExp C) : TExp C := fun t u w rs S R h1 h2 h3 h4 => by
  rw [← exp_exI]
  exact h (.lst t (ds rs)) (ds rs) rs u w S (.inl ⟨t, rfl⟩) (Rows.ofL rs) h1 h2 h3 h4 R
end
end Mi
namespace Mi
open PySem L2
section
variable {P : String → Option Df} {n : Nat}
abbrev TIRows (C : Calls) : Prop := ∀ (U : Int) (w : Nat) (R : List (List Int)) (S : Sto), R.length ≤ 1000 → (∀ r ∈ R, r.length ≤ 1000) → callD (C "Experiment.rows") [exI U w R] S = .ok (.d (.lst false (ds R))) S
theorem tIRows {C : Calls} (h : SpIRows C) : TIRows C := h
abbrev TLlow (C : Calls) : Prop := ∀ (t : Bool) (u : Int) (rs : List (List Int)) (S : Sto), 1 ≤ u → Bn 3000 u → rs.flatten.length ≤ 900 → rs.length ≤ 900 → (∀ r ∈ rs, r.length ≤ 900 ∧ ∀ z ∈ r, Bn 3000 z) → callD (C "_law_lowest") [.int u, .lst t (ds rs)] S = .ok (.d (.lst false [.int (lowU u rs), .lst false (ds (lowR u rs))])) S
theorem tLlow {C : Calls} (h : SpLlow C) : TLlow C := h
/-- a table as laws draw it -/
structure Tb (u : Int) (w : Nat) (rs : List (List Int)) : Prop where
  r : Right u w rs
  b : Bn 100 u
  ne : rs ≠ []
  l4 : rs.length ≤ 4
  w1 : 1 ≤ w
  w2 : w ≤ 64
theorem Tb.flat {u : Int} {w : Nat} {rs : List (List Int)} (h : Tb u w rs) : rs.flatten.length ≤ 900 := by
  rw [flat_len _ h.r.wide]
  have := Nat.mul_le_mul h.l4 h.w2
  omega
theorem Tb.all {u : Int} {w : Nat} {rs : List (List Int)} (h : Tb u w rs) : ∀ r ∈ rs, r.length ≤ 900 ∧ ∀ z ∈ r, Bn 3000 z := fun r hr => ⟨by rw [h.r.wide r hr]; have := h.w2; omega, fun z hz => (right_bn h.r h.b hr hz).mono (by decide)⟩
theorem lowR_len (u : Int) (rs : List (List Int)) : (lowR u rs).length = rs.length := by simp [lowR]
theorem lowR_wide {u : Int} {w : Nat} {rs : List (List Int)} (h : Right u w rs) : ∀ r ∈ lowR u rs, r.length = w := fun r hr => by
  obtain ⟨q, hq, rfl⟩ := List.mem_map.mp hr
  simpa using h.wide q hq
abbrev TShows (C : Calls) : Prop := ∀ (u : Int) (w : Nat) (rs : List (List Int)) (S : Sto), Tb u w rs → callD (C "_law_shows") [exI (lowU u rs) w (lowR u rs), .lst false [.int u, .lst false (ds rs)]] S = .ok (.d (.bl true)) S
theorem tShows (hp : P "_law_shows" = some l_shows) (hL : TLlow (callN P Fu n)) (hR : TIRows (callN P Fu n)) : TShows (callN P Fu (n + 1)) := fun u w rs S T => by
  refine spW hp rfl rfl ?_
  have e1 := hL false u rs [] T.r.u1 (T.b.mono (by decide)) T.flat (by have := T.l4; omega) T.all
  have e2 := hR (lowU u rs) w (lowR u rs) [] (by rw [lowR_len]; have := T.l4; omega) (fun r hr => by rw [lowR_wide T.r r hr]; have := T.w2; omega)
  simp (maxSteps := 2000000) (disch := (first | assumption | omega | (simp only [dep_int, dep_bl, dep_non]; done) | (simp only [ds_len, mv_len, List.length_append, List.length_map, List.length_zip, List.length_range, List.length_cons, List.length_nil, enm_len, List.length_drop, List.length_take, List.length_set, List.length_flatMap]; omega) | (apply Bn.use; (focus (repeat' first | assumption | exact (by assumption : BnL _ _) _ (by assumption) | exact (by assumption : BnR _ _) _ (by assumption) _ (by assumption) | exact BnL.at (by assumption) _ | exact BnL.at (BnR.at (by assumption) _) _ | exact BnL.at ((by assumption : BnR _ _) _ (by assumption)) _ | exact Bn.lit (by omega) | refine Bn.mul ?_ ?_ | refine Bn.add' ?_ ?_ | refine Bn.sub' ?_ ?_ | refine Bn.neg ?_ | refine Bn.fdiv ?_ _ | refine Bn.gcd' ?_ ?_)); first | decide | omega) | decide | (intro _ h; cases h))) [-List.map_map, -exs_cons, -exs_nil, -exs_wipe, -ex_asg, -ex_fld, -ex_fld2, -ex_retn, -ex_raise, -ex_raise0, -ex_try, -ex_par, -ex_setix, -ex_expr, -ex_ret, -ex_ifs, -ex_for, -ex_while, wipeM, hdGo, hxD, haD, haDs, List.lookup, isiF, tyD, isiT, iscF, attrF, methF, opmF, opOk, noX, lenB, mulO, divO, cmpD_eq, cmpD_ne, wp_pos, wp_neg, tst_pos, tst_neg, ifF_pos, ifF_neg, mtOk, rg1, rg2, rg3, Int.fmod_eq_emod_of_nonneg, l_shows, e1, e2]
abbrev TOf (C : Calls) : Prop := ∀ (U : Int) (w : Nat) (R : List (List Int)) (S : Sto), R.length ≤ 1000 → (∀ r ∈ R, r.length ≤ 1000) → callD (C "_law_of") [exI U w R] S = .ok (.d (.lst false [.int U, .lst false (ds R)])) S
theorem tOf (hp : P "_law_of" = some l_of) (hR : TIRows (callN P Fu n)) : TOf (callN P Fu (n + 1)) := fun U w R S h1 h2 => by
  refine spW hp rfl (by simp) ?_
  simp (maxSteps := 2000000) (disch := (first | assumption | omega | (simp only [dep_int, dep_bl, dep_non]; done) | (simp only [ds_len, mv_len, List.length_append, List.length_map, List.length_zip, List.length_range, List.length_cons, List.length_nil, enm_len, List.length_drop, List.length_take, List.length_set, List.length_flatMap]; omega) | (apply Bn.use; (focus (repeat' first | assumption | exact (by assumption : BnL _ _) _ (by assumption) | exact (by assumption : BnR _ _) _ (by assumption) _ (by assumption) | exact BnL.at (by assumption) _ | exact BnL.at (BnR.at (by assumption) _) _ | exact BnL.at ((by assumption : BnR _ _) _ (by assumption)) _ | exact Bn.lit (by omega) | refine Bn.mul ?_ ?_ | refine Bn.add' ?_ ?_ | refine Bn.sub' ?_ ?_ | refine Bn.neg ?_ | refine Bn.fdiv ?_ _ | refine Bn.gcd' ?_ ?_)); first | decide | omega) | decide | (intro _ h; cases h))) [-List.map_map, -exs_cons, -exs_nil, -exs_wipe, -ex_asg, -ex_fld, -ex_fld2, -ex_retn, -ex_raise, -ex_raise0, -ex_try, -ex_par, -ex_setix, -ex_expr, -ex_ret, -ex_ifs, -ex_for, -ex_while, wipeM, hdGo, hxD, haD, haDs, List.lookup, isiF, tyD, isiT, iscF, attrF, methF, opmF, opOk, noX, lenB, mulO, divO, cmpD_eq, cmpD_ne, wp_pos, wp_neg, tst_pos, tst_neg, ifF_pos, ifF_neg, mtOk, rg1, rg2, rg3, Int.fmod_eq_emod_of_nonneg, l_of, hR]
abbrev TBoth (C : Calls) : Prop := ∀ (U U' : Int) (w w' : Nat) (R R' : List (List Int)) (S : Sto), Rt U w R → Rt U' w' R' → Bn 900 U → Bn 900 U' →
  callD (C "both") [exI U w R, exI U' w' R'] S = if R.length = R'.length then (if (w : Int) * w' ≤ 64 then .ok (.d (exI (lowU (U * U') (prodR R R')) (w * w') (lowR (U * U') (prodR R R')))) S else .exc "TooMany" [("count", .int ((w : Int) * w'))] S) else .exc "Mismatch" [] S
theorem tBoth {C : Calls} (h : SpBoth C) : TBoth C := fun U U' w w' R R' S a b c d => by rw [← exp_exI]; exact h U U' w w' R R' S a b c d
/-- what two tables together give -/
def bothD (u u' : Int) (w w' : Nat) (rs rs' : List (List Int)) : D := if rs.length = rs'.length then (if (w : Int) * w' ≤ 64 then .lst false [.int (lowU (u * u') (prodR rs rs')), .lst false (ds (lowR (u * u') (prodR rs rs')))] else .lst false [.str (Str.ofString "many"), .int ((w : Int) * w')]) else .str (Str.ofString "mismatch")
theorem bothD_clean (u u' : Int) (w w' : Nat) (rs rs' : List (List Int)) : clean (bothD u u' w w' rs rs') = true := by
  unfold bothD
  split
  · split <;> simp
  · simp
abbrev TTold (C : Calls) : Prop := ∀ (U U' : Int) (w w' : Nat) (R R' : List (List Int)) (S : Sto), Rt U w R → Rt U' w' R' → Bn 900 U → Bn 900 U' →
  callD (C "_law_told") [exI U w R, exI U' w' R'] S = .ok (.d (bothD U U' w w' R R')) S
theorem prod_len {R R' : List (List Int)} (h : R.length = R'.length) : (prodR R R').length = R.length := by simp [prodR, h]
theorem tTold (hp : P "_law_told" = some l_told) (hB : TBoth (callN P Fu n)) (hO : TOf (callN P Fu n)) : TTold (callN P Fu (n + 1)) := fun U U' w w' R R' S T T' b b' => by
  refine spW hp rfl (bothD_clean _ _ _ _ _ _) ?_
  have e := hB U U' w w' R R' [] T T' b b'
  unfold bothD
  by_cases h1 : R.length = R'.length
  · by_cases h2 : (w : Int) * w' ≤ 64
    · rw [if_pos h1, if_pos h2] at e
      rw [if_pos h1, if_pos h2]
      have RP := right_prod T.r T'.r ((b.mul b').mono (by decide))
      have hw : w * w' ≤ 64 := by have : ((w * w' : Nat) : Int) ≤ 64 := by rw [Int.natCast_mul]; exact h2
                                  omega
      have e2 := hO (lowU (U * U') (prodR R R')) (w * w') (lowR (U * U') (prodR R R')) [] (by rw [lowR_len, prod_len h1]; have := T.l4; omega) (fun r hr => by rw [lowR_wide RP r hr]; omega)
      simp (maxSteps := 2000000) (disch := (first | assumption | omega | (simp only [dep_int, dep_bl, dep_non]; done) | (simp only [ds_len, mv_len, List.length_append, List.length_map, List.length_zip, List.length_range, List.length_cons, List.length_nil, enm_len, List.length_drop, List.length_take, List.length_set, List.length_flatMap]; omega) | (apply Bn.use; (focus (repeat' first | assumption | exact (by assumption : BnL _ _) _ (by assumption) | exact (by assumption : BnR _ _) _ (by assumption) _ (by assumption) | exact BnL.at (by assumption) _ | exact BnL.at (BnR.at (by assumption) _) _ | exact BnL.at ((by assumption : BnR _ _) _ (by assumption)) _ | exact Bn.lit (by omega) | refine Bn.mul ?_ ?_ | refine Bn.add' ?_ ?_ | refine Bn.sub' ?_ ?_ | refine Bn.neg ?_ | refine Bn.fdiv ?_ _ | refine Bn.gcd' ?_ ?_)); first | decide | omega) | decide | (intro _ h; cases h))) [-List.map_map, -exs_cons, -exs_nil, -exs_wipe, -ex_asg, -ex_fld, -ex_fld2, -ex_retn, -ex_raise, -ex_raise0, -ex_try, -ex_par, -ex_setix, -ex_expr, -ex_ret, -ex_ifs, -ex_for, -ex_while, wipeM, hdGo, hxD, haD, haDs, List.lookup, isiF, tyD, isiT, iscF, attrF, methF, opmF, opOk, noX, lenB, mulO, divO, cmpD_eq, cmpD_ne, wp_pos, wp_neg, tst_pos, tst_neg, ifF_pos, ifF_neg, mtOk, rg1, rg2, rg3, Int.fmod_eq_emod_of_nonneg, l_told, e, e2]
    · rw [if_pos h1, if_neg h2] at e
      rw [if_pos h1, if_neg h2]
      simp (maxSteps := 2000000) (disch := (first | assumption | omega | (simp only [dep_int, dep_bl, dep_non]; done) | (simp only [ds_len, mv_len, List.length_append, List.length_map, List.length_zip, List.length_range, List.length_cons, List.length_nil, enm_len, List.length_drop, List.length_take, List.length_set, List.length_flatMap]; omega) | (apply Bn.use; (focus (repeat' first | assumption | exact (by assumption : BnL _ _) _ (by assumption) | exact (by assumption : BnR _ _) _ (by assumption) _ (by assumption) | exact BnL.at (by assumption) _ | exact BnL.at (BnR.at (by assumption) _) _ | exact BnL.at ((by assumption : BnR _ _) _ (by assumption)) _ | exact Bn.lit (by omega) | refine Bn.mul ?_ ?_ | refine Bn.add' ?_ ?_ | refine Bn.sub' ?_ ?_ | refine Bn.neg ?_ | refine Bn.fdiv ?_ _ | refine Bn.gcd' ?_ ?_)); first | decide | omega) | decide | (intro _ h; cases h))) [-List.map_map, -exs_cons, -exs_nil, -exs_wipe, -ex_asg, -ex_fld, -ex_fld2, -ex_retn, -ex_raise, -ex_raise0, -ex_try, -ex_par, -ex_setix, -ex_expr, -ex_ret, -ex_ifs, -ex_for, -ex_while, wipeM, hdGo, hxD, haD, haDs, List.lookup, isiF, tyD, isiT, iscF, attrF, methF, opmF, opOk, noX, lenB, mulO, divO, cmpD_eq, cmpD_ne, wp_pos, wp_neg, tst_pos, tst_neg, ifF_pos, ifF_neg, mtOk, rg1, rg2, rg3, Int.fmod_eq_emod_of_nonneg, l_told, e]
  · rw [if_neg h1] at e
    rw [if_neg h1]
    simp (maxSteps := 2000000) (disch := (first | assumption | omega | (simp only [dep_int, dep_bl, dep_non]; done) | (simp only [ds_len, mv_len, List.length_append, List.length_map, List.length_zip, List.length_range, List.length_cons, List.length_nil, enm_len, List.length_drop, List.length_take, List.length_set, List.length_flatMap]; omega) | (apply Bn.use; (focus (repeat' first | assumption | exact (by assumption : BnL _ _) _ (by assumption) | exact (by assumption : BnR _ _) _ (by assumption) _ (by assumption) | exact BnL.at (by assumption) _ | exact BnL.at (BnR.at (by assumption) _) _ | exact BnL.at ((by assumption : BnR _ _) _ (by assumption)) _ | exact Bn.lit (by omega) | refine Bn.mul ?_ ?_ | refine Bn.add' ?_ ?_ | refine Bn.sub' ?_ ?_ | refine Bn.neg ?_ | refine Bn.fdiv ?_ _ | refine Bn.gcd' ?_ ?_)); first | decide | omega) | decide | (intro _ h; cases h))) [-List.map_map, -exs_cons, -exs_nil, -exs_wipe, -ex_asg, -ex_fld, -ex_fld2, -ex_retn, -ex_raise, -ex_raise0, -ex_try, -ex_par, -ex_setix, -ex_expr, -ex_ret, -ex_ifs, -ex_for, -ex_while, wipeM, hdGo, hxD, haD, haDs, List.lookup, isiF, tyD, isiT, iscF, attrF, methF, opmF, opOk, noX, lenB, mulO, divO, cmpD_eq, cmpD_ne, wp_pos, wp_neg, tst_pos, tst_neg, ifF_pos, ifF_neg, mtOk, rg1, rg2, rg3, Int.fmod_eq_emod_of_nonneg, l_told, e]
end
end Mi
namespace Mi
open PySem L2
@[simp] theorem isInt_int (i : Int) : isInt (.int i) = true := rfl
@[simp] theorem isInt_bl (i : Bool) : isInt (.bl i) = false := rfl
@[simp] theorem isInt_non : isInt .non = false := rfl
@[simp] theorem isInt_str (s : Str) : isInt (.str s) = false := rfl
/-- numbers of times -/
def agD (U : Int) (w : Nat) (R : List (List Int)) (x : D) : D := match x with
  | .int k => if 0 ≤ k ∧ k ≤ 6 then (if w ^ k.toNat ≤ 64 then .lst false [.int (agT U w R k.toNat).1, .lst false (ds (agT U w R k.toNat).2.2)] else .lst false [.str (Str.ofString "many"), .int ((w ^ k.toNat : Nat) : Int)]) else .lst false [.str (Str.ofString "times"), .int k]
  | x => .lst false [.str (Str.ofString "times"), x]
inductive Tms : D → Prop
  | int (k : Int) : Bn 64 k → Tms (.int k)
  | bl (b : Bool) : Tms (.bl b)
  | non : Tms .non
theorem agD_clean {U : Int} {w : Nat} {R : List (List Int)} {x : D} (h : Tms x) : clean (agD U w R x) = true := by
  cases h <;> simp [agD]
  split
  · split <;> simp
  · simp
theorem agD_eq {U : Int} {w : Nat} {R : List (List Int)} {x : D} (h : Tms x) : cmpD .ne (agD U w R x) (agD U w R x) = some false := by
  have s1 : PyData.strOk (Str.ofString "times") = true := by decide +kernel
  have s2 : PyData.strOk (Str.ofString "many") = true := by decide +kernel
  cases h with
  | bl b => simp [agD, dep_str, s1, cmpD_ne]
  | non => simp [agD, dep_str, s1, cmpD_ne]
  | int k hk =>
    unfold agD
    simp only
    split
    · split
      · have : RpE.k (List Int) ≤ 6 := by decide
        simp [this]
      · simp [dep_str, s2]
    · simp [dep_str, s1]
section
variable {P : String → Option Df} {n : Nat}
abbrev TInt (C : Calls) : Prop := ∀ (x : D) (S : Sto), dep 8 x = true → callD (C "is_integer") [x] S = .ok (.d (.bl (isInt x))) S
theorem tInt {C : Calls} (h : SpInt C) : TInt C := h
abbrev TNum (C : Calls) : Prop := ∀ (x : D) (S : Sto), dep 8 x = true → callD (C "_law_is_number") [x] S = .ok (.d (.bl (isInt x))) S
theorem tNum {C : Calls} (h : SpNumX C) : TNum C := h
abbrev TAgain (C : Calls) : Prop := ∀ (U : Int) (w : Nat) (R : List (List Int)) (k : Nat) (S : Sto), Rt U w R → w ≤ 6 → Bn 100 U → k ≤ 6 → callD (C "again") [exI U w R, .int k] S = if w ^ k ≤ 64 then .ok (.d (exI (agT U w R k).1 (agT U w R k).2.1 (agT U w R k).2.2)) S else .exc "TooMany" [("count", .int ((w ^ k : Nat) : Int))] S
theorem tAgain {C : Calls} (h : SpAgain C) : TAgain C := h
abbrev TAgainX (C : Calls) : Prop := ∀ (U : Int) (w : Nat) (R : List (List Int)) (x : D) (S : Sto), Tms x → (∀ k, x = .int k → ¬ (0 ≤ k ∧ k ≤ 6)) → callD (C "again") [exI U w R, x] S = .exc "BadTimes" [("times", x)] S
theorem tAgainX (hp : P "again" = some d_again) (hI : TInt (callN P Fu n)) : TAgainX (callN P Fu (n + 1)) := fun U w R x S hx hk => by
  cases hx with
  | bl b => refine spX hp rfl rfl ?_; simp (maxSteps := 2000000) (disch := (first | assumption | omega | (simp only [dep_int, dep_bl, dep_non]; done) | (simp only [ds_len, mv_len, List.length_append, List.length_map, List.length_zip, List.length_range, List.length_cons, List.length_nil, enm_len, List.length_drop, List.length_take, List.length_set, List.length_flatMap]; omega) | (apply Bn.use; (focus (repeat' first | assumption | exact (by assumption : BnL _ _) _ (by assumption) | exact (by assumption : BnR _ _) _ (by assumption) _ (by assumption) | exact BnL.at (by assumption) _ | exact BnL.at (BnR.at (by assumption) _) _ | exact BnL.at ((by assumption : BnR _ _) _ (by assumption)) _ | exact Bn.lit (by omega) | refine Bn.mul ?_ ?_ | refine Bn.add' ?_ ?_ | refine Bn.sub' ?_ ?_ | refine Bn.neg ?_ | refine Bn.fdiv ?_ _ | refine Bn.gcd' ?_ ?_)); first | decide | omega) | decide | (intro _ h; cases h))) [-List.map_map, -exs_cons, -exs_nil, -exs_wipe, -ex_asg, -ex_fld, -ex_fld2, -ex_retn, -ex_raise, -ex_raise0, -ex_try, -ex_par, -ex_setix, -ex_expr, -ex_ret, -ex_ifs, -ex_for, -ex_while, wipeM, hdGo, hxD, haD, haDs, List.lookup, isiF, tyD, isiT, iscF, attrF, methF, opmF, opOk, noX, lenB, mulO, divO, cmpD_eq, cmpD_ne, wp_pos, wp_neg, tst_pos, tst_neg, ifF_pos, ifF_neg, mtOk, rg1, rg2, rg3, Int.fmod_eq_emod_of_nonneg, d_again, hI]
  | non => refine spX hp rfl rfl ?_; simp (maxSteps := 2000000) (disch := (first | assumption | omega | (simp only [dep_int, dep_bl, dep_non]; done) | (simp only [ds_len, mv_len, List.length_append, List.length_map, List.length_zip, List.length_range, List.length_cons, List.length_nil, enm_len, List.length_drop, List.length_take, List.length_set, List.length_flatMap]; omega) | (apply Bn.use; (focus (repeat' first | assumption | exact (by assumption : BnL _ _) _ (by assumption) | exact (by assumption : BnR _ _) _ (by assumption) _ (by assumption) | exact BnL.at (by assumption) _ | exact BnL.at (BnR.at (by assumption) _) _ | exact BnL.at ((by assumption : BnR _ _) _ (by assumption)) _ | exact Bn.lit (by omega) | refine Bn.mul ?_ ?_ | refine Bn.add' ?_ ?_ | refine Bn.sub' ?_ ?_ | refine Bn.neg ?_ | refine Bn.fdiv ?_ _ | refine Bn.gcd' ?_ ?_)); first | decide | omega) | decide | (intro _ h; cases h))) [-List.map_map, -exs_cons, -exs_nil, -exs_wipe, -ex_asg, -ex_fld, -ex_fld2, -ex_retn, -ex_raise, -ex_raise0, -ex_try, -ex_par, -ex_setix, -ex_expr, -ex_ret, -ex_ifs, -ex_for, -ex_while, wipeM, hdGo, hxD, haD, haDs, List.lookup, isiF, tyD, isiT, iscF, attrF, methF, opmF, opOk, noX, lenB, mulO, divO, cmpD_eq, cmpD_ne, wp_pos, wp_neg, tst_pos, tst_neg, ifF_pos, ifF_neg, mtOk, rg1, rg2, rg3, Int.fmod_eq_emod_of_nonneg, d_again, hI]
  | int k h =>
    refine spX hp rfl rfl ?_
    have := hk k rfl
    by_cases h0 : 0 ≤ k
    · have h6 : ¬ k ≤ 6 := fun z => this ⟨h0, z⟩
      simp (maxSteps := 2000000) (disch := (first | assumption | omega | (simp only [dep_int, dep_bl, dep_non]; done) | (simp only [ds_len, mv_len, List.length_append, List.length_map, List.length_zip, List.length_range, List.length_cons, List.length_nil, enm_len, List.length_drop, List.length_take, List.length_set, List.length_flatMap]; omega) | (apply Bn.use; (focus (repeat' first | assumption | exact (by assumption : BnL _ _) _ (by assumption) | exact (by assumption : BnR _ _) _ (by assumption) _ (by assumption) | exact BnL.at (by assumption) _ | exact BnL.at (BnR.at (by assumption) _) _ | exact BnL.at ((by assumption : BnR _ _) _ (by assumption)) _ | exact Bn.lit (by omega) | refine Bn.mul ?_ ?_ | refine Bn.add' ?_ ?_ | refine Bn.sub' ?_ ?_ | refine Bn.neg ?_ | refine Bn.fdiv ?_ _ | refine Bn.gcd' ?_ ?_)); first | decide | omega) | decide | (intro _ h; cases h))) [-List.map_map, -exs_cons, -exs_nil, -exs_wipe, -ex_asg, -ex_fld, -ex_fld2, -ex_retn, -ex_raise, -ex_raise0, -ex_try, -ex_par, -ex_setix, -ex_expr, -ex_ret, -ex_ifs, -ex_for, -ex_while, wipeM, hdGo, hxD, haD, haDs, List.lookup, isiF, tyD, isiT, iscF, attrF, methF, opmF, opOk, noX, lenB, mulO, divO, cmpD_eq, cmpD_ne, wp_pos, wp_neg, tst_pos, tst_neg, ifF_pos, ifF_neg, mtOk, rg1, rg2, rg3, Int.fmod_eq_emod_of_nonneg, d_again, hI, h0, h6]
    · simp (maxSteps := 2000000) (disch := (first | assumption | omega | (simp only [dep_int, dep_bl, dep_non]; done) | (simp only [ds_len, mv_len, List.length_append, List.length_map, List.length_zip, List.length_range, List.length_cons, List.length_nil, enm_len, List.length_drop, List.length_take, List.length_set, List.length_flatMap]; omega) | (apply Bn.use; (focus (repeat' first | assumption | exact (by assumption : BnL _ _) _ (by assumption) | exact (by assumption : BnR _ _) _ (by assumption) _ (by assumption) | exact BnL.at (by assumption) _ | exact BnL.at (BnR.at (by assumption) _) _ | exact BnL.at ((by assumption : BnR _ _) _ (by assumption)) _ | exact Bn.lit (by omega) | refine Bn.mul ?_ ?_ | refine Bn.add' ?_ ?_ | refine Bn.sub' ?_ ?_ | refine Bn.neg ?_ | refine Bn.fdiv ?_ _ | refine Bn.gcd' ?_ ?_)); first | decide | omega) | decide | (intro _ h; cases h))) [-List.map_map, -exs_cons, -exs_nil, -exs_wipe, -ex_asg, -ex_fld, -ex_fld2, -ex_retn, -ex_raise, -ex_raise0, -ex_try, -ex_par, -ex_setix, -ex_expr, -ex_ret, -ex_ifs, -ex_for, -ex_while, wipeM, hdGo, hxD, haD, haDs, List.lookup, isiF, tyD, isiT, iscF, attrF, methF, opmF, opOk, noX, lenB, mulO, divO, cmpD_eq, cmpD_ne, wp_pos, wp_neg, tst_pos, tst_neg, ifF_pos, ifF_neg, mtOk, rg1, rg2, rg3, Int.fmod_eq_emod_of_nonneg, d_again, hI, h0]
abbrev TLagain (C : Calls) : Prop := ∀ (U : Int) (w : Nat) (R : List (List Int)) (x : D) (S : Sto), Rt U w R → w ≤ 6 → Bn 100 U → Tms x → callD (C "_law_again") [exI U w R, x] S = .ok (.d (agD U w R x)) S
theorem tLagain (hp : P "_law_again" = some l_again) (hA : TAgain (callN P Fu n)) (hX : TAgainX (callN P Fu n)) (hO : TOf (callN P Fu n)) : TLagain (callN P Fu (n + 1)) := fun U w R x S T hw hb hx => by
  refine spW hp rfl (agD_clean hx) ?_
  have bad : (∀ k, x = .int k → ¬ (0 ≤ k ∧ k ≤ 6)) → W (exs (callN P Fu n) Fu l_again.body (([exI U w R, x].map .d).map some ++ List.replicate (l_again.names.length - ([exI U w R, x].map MV.d).length) none) []) trivial (P := ⟨Ret (agD U w R x)⟩) := fun h => by
    have e := hX U w R x [] hx h
    have e2 : agD U w R x = .lst false [.str (Str.ofString "times"), x] := by
      cases hx with
      | int k _ => simp [agD, h k rfl]
      | _ => rfl
    rw [e2]
    simp (maxSteps := 2000000) (disch := (first | assumption | omega | (simp only [dep_int, dep_bl, dep_non]; done) | (simp only [ds_len, mv_len, List.length_append, List.length_map, List.length_zip, List.length_range, List.length_cons, List.length_nil, enm_len, List.length_drop, List.length_take, List.length_set, List.length_flatMap]; omega) | (apply Bn.use; (focus (repeat' first | assumption | exact (by assumption : BnL _ _) _ (by assumption) | exact (by assumption : BnR _ _) _ (by assumption) _ (by assumption) | exact BnL.at (by assumption) _ | exact BnL.at (BnR.at (by assumption) _) _ | exact BnL.at ((by assumption : BnR _ _) _ (by assumption)) _ | exact Bn.lit (by omega) | refine Bn.mul ?_ ?_ | refine Bn.add' ?_ ?_ | refine Bn.sub' ?_ ?_ | refine Bn.neg ?_ | refine Bn.fdiv ?_ _ | refine Bn.gcd' ?_ ?_)); first | decide | omega) | decide | (intro _ h; cases h))) [-List.map_map, -exs_cons, -exs_nil, -exs_wipe, -ex_asg, -ex_fld, -ex_fld2, -ex_retn, -ex_raise, -ex_raise0, -ex_try, -ex_par, -ex_setix, -ex_expr, -ex_ret, -ex_ifs, -ex_for, -ex_while, wipeM, hdGo, hxD, haD, haDs, List.lookup, isiF, tyD, isiT, iscF, attrF, methF, opmF, opOk, noX, lenB, mulO, divO, cmpD_eq, cmpD_ne, wp_pos, wp_neg, tst_pos, tst_neg, ifF_pos, ifF_neg, mtOk, rg1, rg2, rg3, Int.fmod_eq_emod_of_nonneg, l_again, e]
  cases hx with
  | bl b => exact bad (fun k h => by cases h)
  | non => exact bad (fun k h => by cases h)
  | int k hk =>
    by_cases h : 0 ≤ k ∧ k ≤ 6
    · obtain ⟨m, rfl⟩ := Int.eq_ofNat_of_zero_le h.1
      have e := hA U w R m [] T hw hb (by omega)
      have ea : agD U w R (.int (m : Int)) = if w ^ m ≤ 64 then .lst false [.int (agT U w R m).1, .lst false (ds (agT U w R m).2.2)] else .lst false [.str (Str.ofString "many"), .int ((w ^ m : Nat) : Int)] := by
        simp only [agD, h, and_self, if_true, Int.toNat_natCast]
      rw [ea]
      by_cases h2 : w ^ m ≤ 64
      · rw [if_pos h2] at e ⊢
        obtain ⟨q, _⟩ := agT_rt T hb m (by omega) h2
        have e2 := hO (agT U w R m).1 (agT U w R m).2.1 (agT U w R m).2.2 [] (by have := q.l4; omega) (fun r hr => by rw [q.r.wide r hr]; have := q.w2; omega)
        simp (maxSteps := 2000000) (disch := (first | assumption | omega | (simp only [dep_int, dep_bl, dep_non]; done) | (simp only [ds_len, mv_len, List.length_append, List.length_map, List.length_zip, List.length_range, List.length_cons, List.length_nil, enm_len, List.length_drop, List.length_take, List.length_set, List.length_flatMap]; omega) | (apply Bn.use; (focus (repeat' first | assumption | exact (by assumption : BnL _ _) _ (by assumption) | exact (by assumption : BnR _ _) _ (by assumption) _ (by assumption) | exact BnL.at (by assumption) _ | exact BnL.at (BnR.at (by assumption) _) _ | exact BnL.at ((by assumption : BnR _ _) _ (by assumption)) _ | exact Bn.lit (by omega) | refine Bn.mul ?_ ?_ | refine Bn.add' ?_ ?_ | refine Bn.sub' ?_ ?_ | refine Bn.neg ?_ | refine Bn.fdiv ?_ _ | refine Bn.gcd' ?_ ?_)); first | decide | omega) | decide | (intro _ h; cases h))) [-List.map_map, -exs_cons, -exs_nil, -exs_wipe, -ex_asg, -ex_fld, -ex_fld2, -ex_retn, -ex_raise, -ex_raise0, -ex_try, -ex_par, -ex_setix, -ex_expr, -ex_ret, -ex_ifs, -ex_for, -ex_while, wipeM, hdGo, hxD, haD, haDs, List.lookup, isiF, tyD, isiT, iscF, attrF, methF, opmF, opOk, noX, lenB, mulO, divO, cmpD_eq, cmpD_ne, wp_pos, wp_neg, tst_pos, tst_neg, ifF_pos, ifF_neg, mtOk, rg1, rg2, rg3, Int.fmod_eq_emod_of_nonneg, l_again, e, e2]
      · rw [if_neg h2] at e ⊢
        simp (maxSteps := 2000000) (disch := (first | assumption | omega | (simp only [dep_int, dep_bl, dep_non]; done) | (simp only [ds_len, mv_len, List.length_append, List.length_map, List.length_zip, List.length_range, List.length_cons, List.length_nil, enm_len, List.length_drop, List.length_take, List.length_set, List.length_flatMap]; omega) | (apply Bn.use; (focus (repeat' first | assumption | exact (by assumption : BnL _ _) _ (by assumption) | exact (by assumption : BnR _ _) _ (by assumption) _ (by assumption) | exact BnL.at (by assumption) _ | exact BnL.at (BnR.at (by assumption) _) _ | exact BnL.at ((by assumption : BnR _ _) _ (by assumption)) _ | exact Bn.lit (by omega) | refine Bn.mul ?_ ?_ | refine Bn.add' ?_ ?_ | refine Bn.sub' ?_ ?_ | refine Bn.neg ?_ | refine Bn.fdiv ?_ _ | refine Bn.gcd' ?_ ?_)); first | decide | omega) | decide | (intro _ h; cases h))) [-List.map_map, -exs_cons, -exs_nil, -exs_wipe, -ex_asg, -ex_fld, -ex_fld2, -ex_retn, -ex_raise, -ex_raise0, -ex_try, -ex_par, -ex_setix, -ex_expr, -ex_ret, -ex_ifs, -ex_for, -ex_while, wipeM, hdGo, hxD, haD, haDs, List.lookup, isiF, tyD, isiT, iscF, attrF, methF, opmF, opOk, noX, lenB, mulO, divO, cmpD_eq, cmpD_ne, wp_pos, wp_neg, tst_pos, tst_neg, ifF_pos, ifF_neg, mtOk, rg1, rg2, rg3, Int.fmod_eq_emod_of_nonneg, l_again, e]
    · exact bad (fun j hj => by cases hj; exact h)
/-- the products do not see the terms -/
theorem low_prod {x u : Int} {Q rs : List (List Int)} (hx : 1 ≤ x) (hu : 1 ≤ u) : lowU (x * u) (prodR Q rs) = lowU (x * lowU u rs) (prodR Q (lowR u rs)) ∧ lowR (x * u) (prodR Q rs) = lowR (x * lowU u rs) (prodR Q (lowR u rs)) := by
  obtain ⟨h1, h2⟩ := low_back hu rs
  have hg := tabG_ne (rs := rs) hu
  have hp : 1 ≤ x * lowU u rs := by
    have := Int.mul_pos (show 0 < x by omega) (show 0 < lowU u rs by have := lowU_pos hu rs; omega)
    omega
  have e1 : x * u = (tabG u rs : Int) * (x * lowU u rs) := by
    conv => lhs; rw [h1]
    rw [Int.mul_left_comm]
  have e2 : prodR Q rs = scl (tabG u rs) (prodR Q (lowR u rs)) := by
    conv => lhs; rw [h2]
    rw [prodR_scl]
  rw [e1, e2]
  exact ⟨lowU_scale (by omega) hp _, lowR_scale (by omega) hp _⟩
abbrev TLpairs (C : Calls) : Prop := ∀ (u u' : Int) (w w' : Nat) (rs rs' : List (List Int)) (S : Sto), rs.length = rs'.length → rs.length ≤ 4 → Right u w rs → Right u' w' rs' → w ≤ 64 → w' ≤ 12 → w * w' ≤ 64 → Bn 900 u → Bn 900 u' →
  callD (C "_law_pairs") [.lst false [.int u, .lst false (ds rs)], .lst false [.int u', .lst false (ds rs')]] S = .ok (.d (.lst false [.int (lowU (u * u') (prodR rs rs')), .lst false (ds (lowR (u * u') (prodR rs rs')))])) S
theorem tLpairs {C : Calls} (h : SpLpairs C) : TLpairs C := h
end
end Mi
namespace Mi
open PySem L2
section
variable {P : String → Option Df} {n : Nat}
theorem unR_eq : ∀ rs : List (List Int), unR rs.length = rs.map fun _ => [1] := fun rs => by
  apply List.ext_getElem
  · simp [unR]
  · intro i h1 h2; simp [unR]
theorem pow_at (w : Nat) (k : Nat) : ((w ^ k : Nat) : Int) * w = ((w ^ (k + 1) : Nat) : Int) := by rw [Nat.pow_succ, Int.natCast_mul]
abbrev TDue (C : Calls) : Prop := ∀ (u : Int) (w : Nat) (rs : List (List Int)) (x : D) (S : Sto), Tb u w rs → w ≤ 6 → Bn 60 u → Tms x → callD (C "_law_due") [.lst false [.int u, .lst false (ds rs)], x] S = .ok (.d (agD (lowU u rs) w (lowR u rs) x)) S
theorem tDue (hp : P "_law_due" = some l_due) (hN : TNum (callN P Fu n)) (hL : TLpairs (callN P Fu n)) : TDue (callN P Fu (n + 1)) := fun u w rs x S T hw hb hx => by
  refine spW hp rfl (agD_clean hx) ?_
  have bad : (∀ k, x = .int k → ¬ (0 ≤ k ∧ k ≤ 6)) → agD (lowU u rs) w (lowR u rs) x = .lst false [.str (Str.ofString "times"), x] := fun h => by
    cases hx with
    | int k _ => simp [agD, h k rfl]
    | _ => rfl
  cases hx with
  | bl b => rw [bad (fun k h => by cases h)]; simp (maxSteps := 2000000) (disch := (first | assumption | omega | (simp only [dep_int, dep_bl, dep_non]; done) | (simp only [ds_len, mv_len, List.length_append, List.length_map, List.length_zip, List.length_range, List.length_cons, List.length_nil, enm_len, List.length_drop, List.length_take, List.length_set, List.length_flatMap]; omega) | (apply Bn.use; (focus (repeat' first | assumption | exact (by assumption : BnL _ _) _ (by assumption) | exact (by assumption : BnR _ _) _ (by assumption) _ (by assumption) | exact BnL.at (by assumption) _ | exact BnL.at (BnR.at (by assumption) _) _ | exact BnL.at ((by assumption : BnR _ _) _ (by assumption)) _ | exact Bn.lit (by omega) | refine Bn.mul ?_ ?_ | refine Bn.add' ?_ ?_ | refine Bn.sub' ?_ ?_ | refine Bn.neg ?_ | refine Bn.fdiv ?_ _ | refine Bn.gcd' ?_ ?_)); first | decide | omega) | decide | (intro _ h; cases h))) [-List.map_map, -exs_cons, -exs_nil, -exs_wipe, -ex_asg, -ex_fld, -ex_fld2, -ex_retn, -ex_raise, -ex_raise0, -ex_try, -ex_par, -ex_setix, -ex_expr, -ex_ret, -ex_ifs, -ex_for, -ex_while, wipeM, hdGo, hxD, haD, haDs, List.lookup, isiF, tyD, isiT, iscF, attrF, methF, opmF, opOk, noX, lenB, mulO, divO, cmpD_eq, cmpD_ne, wp_pos, wp_neg, tst_pos, tst_neg, ifF_pos, ifF_neg, mtOk, rg1, rg2, rg3, Int.fmod_eq_emod_of_nonneg, l_due, hN]
  | non => rw [bad (fun k h => by cases h)]; simp (maxSteps := 2000000) (disch := (first | assumption | omega | (simp only [dep_int, dep_bl, dep_non]; done) | (simp only [ds_len, mv_len, List.length_append, List.length_map, List.length_zip, List.length_range, List.length_cons, List.length_nil, enm_len, List.length_drop, List.length_take, List.length_set, List.length_flatMap]; omega) | (apply Bn.use; (focus (repeat' first | assumption | exact (by assumption : BnL _ _) _ (by assumption) | exact (by assumption : BnR _ _) _ (by assumption) _ (by assumption) | exact BnL.at (by assumption) _ | exact BnL.at (BnR.at (by assumption) _) _ | exact BnL.at ((by assumption : BnR _ _) _ (by assumption)) _ | exact Bn.lit (by omega) | refine Bn.mul ?_ ?_ | refine Bn.add' ?_ ?_ | refine Bn.sub' ?_ ?_ | refine Bn.neg ?_ | refine Bn.fdiv ?_ _ | refine Bn.gcd' ?_ ?_)); first | decide | omega) | decide | (intro _ h; cases h))) [-List.map_map, -exs_cons, -exs_nil, -exs_wipe, -ex_asg, -ex_fld, -ex_fld2, -ex_retn, -ex_raise, -ex_raise0, -ex_try, -ex_par, -ex_setix, -ex_expr, -ex_ret, -ex_ifs, -ex_for, -ex_while, wipeM, hdGo, hxD, haD, haDs, List.lookup, isiF, tyD, isiT, iscF, attrF, methF, opmF, opOk, noX, lenB, mulO, divO, cmpD_eq, cmpD_ne, wp_pos, wp_neg, tst_pos, tst_neg, ifF_pos, ifF_neg, mtOk, rg1, rg2, rg3, Int.fmod_eq_emod_of_nonneg, l_due, hN]
  | int k hk =>
    by_cases h : 0 ≤ k ∧ k ≤ 6
    · obtain ⟨m, rfl⟩ := Int.eq_ofNat_of_zero_le h.1
      have hm : m ≤ 6 := by omega
      have hr0 : ((at' rs 0).length : Int) = w := by rw [T.r.wide _ (at_mem (List.length_pos_iff.mpr T.ne))]
      have hl0 : 0 < rs.length := List.length_pos_iff.mpr T.ne
      have T2 := rt_exp T.r T.ne T.l4 T.w1 T.w2
      have hB : Bn 100 (lowU u rs) := (hb.fdiv _).mono (by decide)
      have h6 : ¬ (6 < (m : Int)) := by omega
      have h4 := T.l4
      simp (maxSteps := 2000000) (disch := (first | assumption | omega | (simp only [dep_int, dep_bl, dep_non]; done) | (simp only [ds_len, mv_len, List.length_append, List.length_map, List.length_zip, List.length_range, List.length_cons, List.length_nil, enm_len, List.length_drop, List.length_take, List.length_set, List.length_flatMap]; omega) | (apply Bn.use; (focus (repeat' first | assumption | exact (by assumption : BnL _ _) _ (by assumption) | exact (by assumption : BnR _ _) _ (by assumption) _ (by assumption) | exact BnL.at (by assumption) _ | exact BnL.at (BnR.at (by assumption) _) _ | exact BnL.at ((by assumption : BnR _ _) _ (by assumption)) _ | exact Bn.lit (by omega) | refine Bn.mul ?_ ?_ | refine Bn.add' ?_ ?_ | refine Bn.sub' ?_ ?_ | refine Bn.neg ?_ | refine Bn.fdiv ?_ _ | refine Bn.gcd' ?_ ?_)); first | decide | omega) | decide | (intro _ h; cases h))) [-List.map_map, -exs_cons, -exs_nil, -exs_wipe, -ex_asg, -ex_fld, -ex_fld2, -ex_retn, -ex_raise, -ex_raise0, -ex_try, -ex_par, -ex_setix, -ex_expr, -ex_ret, -ex_ifs, -ex_for, -ex_while, wipeM, hdGo, hxD, haD, haDs, List.lookup, isiF, tyD, isiT, iscF, attrF, methF, opmF, opOk, noX, lenB, mulO, divO, cmpD_eq, cmpD_ne, wp_pos, wp_neg, tst_pos, tst_neg, ifF_pos, ifF_neg, mtOk, rg1, rg2, rg3, Int.fmod_eq_emod_of_nonneg, l_due, hN, h6]
      refine for_st (fun ys => [some (.d (.lst false [.int u, .lst false (ds rs)])), some (.d (.int m)), some (.d (.int ((w ^ ys.length : Nat) : Int))), none, none, none]) (fun _ => []) (by simp) rfl ?_ ?_
      · intro ys y zs e
        have hyl : ys.length < 6 := by
          have := congrArg List.length e
          simp at this; omega
        have : w ^ ys.length ≤ 6 ^ 6 := Nat.le_trans (Nat.pow_le_pow_left hw _) (Nat.pow_le_pow_right (by decide) (by omega))
        have hb : Bn 64 (((w ^ ys.length : Nat) : Int)) := Bn.lit (by omega)
        have hb2 : Bn 64 ((at' rs 0).length : Int) := Bn.lit (by omega)
        simp (maxSteps := 2000000) (disch := (first | assumption | omega | (simp only [dep_int, dep_bl, dep_non]; done) | (simp only [ds_len, mv_len, List.length_append, List.length_map, List.length_zip, List.length_range, List.length_cons, List.length_nil, enm_len, List.length_drop, List.length_take, List.length_set, List.length_flatMap]; omega) | (apply Bn.use; (focus (repeat' first | assumption | exact (by assumption : BnL _ _) _ (by assumption) | exact (by assumption : BnR _ _) _ (by assumption) _ (by assumption) | exact BnL.at (by assumption) _ | exact BnL.at (BnR.at (by assumption) _) _ | exact BnL.at ((by assumption : BnR _ _) _ (by assumption)) _ | exact Bn.lit (by omega) | refine Bn.mul ?_ ?_ | refine Bn.add' ?_ ?_ | refine Bn.sub' ?_ ?_ | refine Bn.neg ?_ | refine Bn.fdiv ?_ _ | refine Bn.gcd' ?_ ?_)); first | decide | omega) | decide | (intro _ h; cases h))) [-List.map_map, -exs_cons, -exs_nil, -exs_wipe, -ex_asg, -ex_fld, -ex_fld2, -ex_retn, -ex_raise, -ex_raise0, -ex_try, -ex_par, -ex_setix, -ex_expr, -ex_ret, -ex_ifs, -ex_for, -ex_while, wipeM, hdGo, hxD, haD, haDs, List.lookup, isiF, tyD, isiT, iscF, attrF, methF, opmF, opOk, noX, lenB, mulO, divO, cmpD_eq, cmpD_ne, wp_pos, wp_neg, tst_pos, tst_neg, ifF_pos, ifF_neg, mtOk, rg1, rg2, rg3, Int.fmod_eq_emod_of_nonneg, l_due_b1, -Int.natCast_pow, hb]
        rw [hr0, pow_at]
      · have ea : agD (lowU u rs) w (lowR u rs) (.int (m : Int)) = if w ^ m ≤ 64 then .lst false [.int (agT (lowU u rs) w (lowR u rs) m).1, .lst false (ds (agT (lowU u rs) w (lowR u rs) m).2.2)] else .lst false [.str (Str.ofString "many"), .int ((w ^ m : Nat) : Int)] := by
          simp only [agD, h, and_self, if_true, Int.toNat_natCast]
        rw [ea]
        by_cases h2 : w ^ m ≤ 64
        · have h2' : ¬ (64 < ((w ^ m : Nat) : Int)) := by omega
          simp (maxSteps := 2000000) (disch := (first | assumption | omega | (simp only [dep_int, dep_bl, dep_non]; done) | (simp only [ds_len, mv_len, List.length_append, List.length_map, List.length_zip, List.length_range, List.length_cons, List.length_nil, enm_len, List.length_drop, List.length_take, List.length_set, List.length_flatMap]; omega) | (apply Bn.use; (focus (repeat' first | assumption | exact (by assumption : BnL _ _) _ (by assumption) | exact (by assumption : BnR _ _) _ (by assumption) _ (by assumption) | exact BnL.at (by assumption) _ | exact BnL.at (BnR.at (by assumption) _) _ | exact BnL.at ((by assumption : BnR _ _) _ (by assumption)) _ | exact Bn.lit (by omega) | refine Bn.mul ?_ ?_ | refine Bn.add' ?_ ?_ | refine Bn.sub' ?_ ?_ | refine Bn.neg ?_ | refine Bn.fdiv ?_ _ | refine Bn.gcd' ?_ ?_)); first | decide | omega) | decide | (intro _ h; cases h))) [-List.map_map, -exs_cons, -exs_nil, -exs_wipe, -ex_asg, -ex_fld, -ex_fld2, -ex_retn, -ex_raise, -ex_raise0, -ex_try, -ex_par, -ex_setix, -ex_expr, -ex_ret, -ex_ifs, -ex_for, -ex_while, wipeM, hdGo, hxD, haD, haDs, List.lookup, isiF, tyD, isiT, iscF, attrF, methF, opmF, opOk, noX, lenB, mulO, divO, cmpD_eq, cmpD_ne, wp_pos, wp_neg, tst_pos, tst_neg, ifF_pos, ifF_neg, mtOk, rg1, rg2, rg3, Int.fmod_eq_emod_of_nonneg, -Int.natCast_pow, h2']
          refine lc_map (fun _ : List Int => [(1 : Int)]) ?_ ?_
          · intro r hr
            simp (maxSteps := 2000000) (disch := (first | assumption | omega | (simp only [dep_int, dep_bl, dep_non]; done) | (simp only [ds_len, mv_len, List.length_append, List.length_map, List.length_zip, List.length_range, List.length_cons, List.length_nil, enm_len, List.length_drop, List.length_take, List.length_set, List.length_flatMap]; omega) | (apply Bn.use; (focus (repeat' first | assumption | exact (by assumption : BnL _ _) _ (by assumption) | exact (by assumption : BnR _ _) _ (by assumption) _ (by assumption) | exact BnL.at (by assumption) _ | exact BnL.at (BnR.at (by assumption) _) _ | exact BnL.at ((by assumption : BnR _ _) _ (by assumption)) _ | exact Bn.lit (by omega) | refine Bn.mul ?_ ?_ | refine Bn.add' ?_ ?_ | refine Bn.sub' ?_ ?_ | refine Bn.neg ?_ | refine Bn.fdiv ?_ _ | refine Bn.gcd' ?_ ?_)); first | decide | omega) | decide | (intro _ h; cases h))) [-List.map_map, -exs_cons, -exs_nil, -exs_wipe, -ex_asg, -ex_fld, -ex_fld2, -ex_retn, -ex_raise, -ex_raise0, -ex_try, -ex_par, -ex_setix, -ex_expr, -ex_ret, -ex_ifs, -ex_for, -ex_while, wipeM, hdGo, hxD, haD, haDs, List.lookup, isiF, tyD, isiT, iscF, attrF, methF, opmF, opOk, noX, lenB, mulO, divO, cmpD_eq, cmpD_ne, wp_pos, wp_neg, tst_pos, tst_neg, ifF_pos, ifF_neg, mtOk, rg1, rg2, rg3, Int.fmod_eq_emod_of_nonneg, stepE]
          · simp (maxSteps := 2000000) (disch := (first | assumption | omega | (simp only [dep_int, dep_bl, dep_non]; done) | (simp only [ds_len, mv_len, List.length_append, List.length_map, List.length_zip, List.length_range, List.length_cons, List.length_nil, enm_len, List.length_drop, List.length_take, List.length_set, List.length_flatMap]; omega) | (apply Bn.use; (focus (repeat' first | assumption | exact (by assumption : BnL _ _) _ (by assumption) | exact (by assumption : BnR _ _) _ (by assumption) _ (by assumption) | exact BnL.at (by assumption) _ | exact BnL.at (BnR.at (by assumption) _) _ | exact BnL.at ((by assumption : BnR _ _) _ (by assumption)) _ | exact Bn.lit (by omega) | refine Bn.mul ?_ ?_ | refine Bn.add' ?_ ?_ | refine Bn.sub' ?_ ?_ | refine Bn.neg ?_ | refine Bn.fdiv ?_ _ | refine Bn.gcd' ?_ ?_)); first | decide | omega) | decide | (intro _ h; cases h))) [-List.map_map, -exs_cons, -exs_nil, -exs_wipe, -ex_asg, -ex_fld, -ex_fld2, -ex_retn, -ex_raise, -ex_raise0, -ex_try, -ex_par, -ex_setix, -ex_expr, -ex_ret, -ex_ifs, -ex_for, -ex_while, wipeM, hdGo, hxD, haD, haDs, List.lookup, isiF, tyD, isiT, iscF, attrF, methF, opmF, opOk, noX, lenB, mulO, divO, cmpD_eq, cmpD_ne, wp_pos, wp_neg, tst_pos, tst_neg, ifF_pos, ifF_neg, mtOk, rg1, rg2, rg3, Int.fmod_eq_emod_of_nonneg, -Int.natCast_pow]
            refine for_st (fun ys => [some (.d (.lst false [.int u, .lst false (ds rs)])), some (.d (.int m)), some (.d (.int ((w ^ m : Nat) : Int))), none, some (.d (.lst false [.int (agT (lowU u rs) w (lowR u rs) ys.length).1, .lst false (ds (agT (lowU u rs) w (lowR u rs) ys.length).2.2)])), none]) (fun _ => []) (by simp only [List.length_nil, agT, lowR_len, unR_eq]) rfl ?_ ?_
            · intro ys y zs e
              have hyl : ys.length < m := by
                have := congrArg List.length e
                simp at this; omega
              have hwk : w ^ (ys.length + 1) ≤ 64 := Nat.le_trans (Nat.pow_le_pow_right T.w1 hyl) h2
              have hwk' : w ^ ys.length ≤ 64 := Nat.le_trans (Nat.pow_le_pow_right T.w1 (Nat.le_of_lt hyl)) h2
              obtain ⟨q, hq⟩ := agT_rt T2 hB ys.length (by omega) hwk'
              have e := hL (agT (lowU u rs) w (lowR u rs) ys.length).1 u (agT (lowU u rs) w (lowR u rs) ys.length).2.1 w (agT (lowU u rs) w (lowR u rs) ys.length).2.2 rs [] (by rw [agT_len, lowR_len]) (by rw [agT_len, lowR_len]; exact T.l4) q.r T.r q.w2 (by omega) (by rw [agT_w, ← Nat.pow_succ]; exact hwk) (hq.mono (by omega)) (hb.mono (by decide))
              have hlp := low_prod (x := (agT (lowU u rs) w (lowR u rs) ys.length).1) (Q := (agT (lowU u rs) w (lowR u rs) ys.length).2.2) (rs := rs) q.r.u1 T.r.u1
              rw [hlp.1, hlp.2] at e
              simp (maxSteps := 2000000) (disch := (first | assumption | omega | (simp only [dep_int, dep_bl, dep_non]; done) | (simp only [ds_len, mv_len, List.length_append, List.length_map, List.length_zip, List.length_range, List.length_cons, List.length_nil, enm_len, List.length_drop, List.length_take, List.length_set, List.length_flatMap]; omega) | (apply Bn.use; (focus (repeat' first | assumption | exact (by assumption : BnL _ _) _ (by assumption) | exact (by assumption : BnR _ _) _ (by assumption) _ (by assumption) | exact BnL.at (by assumption) _ | exact BnL.at (BnR.at (by assumption) _) _ | exact BnL.at ((by assumption : BnR _ _) _ (by assumption)) _ | exact Bn.lit (by omega) | refine Bn.mul ?_ ?_ | refine Bn.add' ?_ ?_ | refine Bn.sub' ?_ ?_ | refine Bn.neg ?_ | refine Bn.fdiv ?_ _ | refine Bn.gcd' ?_ ?_)); first | decide | omega) | decide | (intro _ h; cases h))) [-List.map_map, -exs_cons, -exs_nil, -exs_wipe, -ex_asg, -ex_fld, -ex_fld2, -ex_retn, -ex_raise, -ex_raise0, -ex_try, -ex_par, -ex_setix, -ex_expr, -ex_ret, -ex_ifs, -ex_for, -ex_while, wipeM, hdGo, hxD, haD, haDs, List.lookup, isiF, tyD, isiT, iscF, attrF, methF, opmF, opOk, noX, lenB, mulO, divO, cmpD_eq, cmpD_ne, wp_pos, wp_neg, tst_pos, tst_neg, ifF_pos, ifF_neg, mtOk, rg1, rg2, rg3, Int.fmod_eq_emod_of_nonneg, l_due_b0, -Int.natCast_pow, e, agT]
            · simp (maxSteps := 2000000) (disch := (first | assumption | omega | (simp only [dep_int, dep_bl, dep_non]; done) | (simp only [ds_len, mv_len, List.length_append, List.length_map, List.length_zip, List.length_range, List.length_cons, List.length_nil, enm_len, List.length_drop, List.length_take, List.length_set, List.length_flatMap]; omega) | (apply Bn.use; (focus (repeat' first | assumption | exact (by assumption : BnL _ _) _ (by assumption) | exact (by assumption : BnR _ _) _ (by assumption) _ (by assumption) | exact BnL.at (by assumption) _ | exact BnL.at (BnR.at (by assumption) _) _ | exact BnL.at ((by assumption : BnR _ _) _ (by assumption)) _ | exact Bn.lit (by omega) | refine Bn.mul ?_ ?_ | refine Bn.add' ?_ ?_ | refine Bn.sub' ?_ ?_ | refine Bn.neg ?_ | refine Bn.fdiv ?_ _ | refine Bn.gcd' ?_ ?_)); first | decide | omega) | decide | (intro _ h; cases h))) [-List.map_map, -exs_cons, -exs_nil, -exs_wipe, -ex_asg, -ex_fld, -ex_fld2, -ex_retn, -ex_raise, -ex_raise0, -ex_try, -ex_par, -ex_setix, -ex_expr, -ex_ret, -ex_ifs, -ex_for, -ex_while, wipeM, hdGo, hxD, haD, haDs, List.lookup, isiF, tyD, isiT, iscF, attrF, methF, opmF, opOk, noX, lenB, mulO, divO, cmpD_eq, cmpD_ne, wp_pos, wp_neg, tst_pos, tst_neg, ifF_pos, ifF_neg, mtOk, rg1, rg2, rg3, Int.fmod_eq_emod_of_nonneg, -Int.natCast_pow, h2]
        · have h2' : 64 < ((w ^ m : Nat) : Int) := by omega
          simp (maxSteps := 2000000) (disch := (first | assumption | omega | (simp only [dep_int, dep_bl, dep_non]; done) | (simp only [ds_len, mv_len, List.length_append, List.length_map, List.length_zip, List.length_range, List.length_cons, List.length_nil, enm_len, List.length_drop, List.length_take, List.length_set, List.length_flatMap]; omega) | (apply Bn.use; (focus (repeat' first | assumption | exact (by assumption : BnL _ _) _ (by assumption) | exact (by assumption : BnR _ _) _ (by assumption) _ (by assumption) | exact BnL.at (by assumption) _ | exact BnL.at (BnR.at (by assumption) _) _ | exact BnL.at ((by assumption : BnR _ _) _ (by assumption)) _ | exact Bn.lit (by omega) | refine Bn.mul ?_ ?_ | refine Bn.add' ?_ ?_ | refine Bn.sub' ?_ ?_ | refine Bn.neg ?_ | refine Bn.fdiv ?_ _ | refine Bn.gcd' ?_ ?_)); first | decide | omega) | decide | (intro _ h; cases h))) [-List.map_map, -exs_cons, -exs_nil, -exs_wipe, -ex_asg, -ex_fld, -ex_fld2, -ex_retn, -ex_raise, -ex_raise0, -ex_try, -ex_par, -ex_setix, -ex_expr, -ex_ret, -ex_ifs, -ex_for, -ex_while, wipeM, hdGo, hxD, haD, haDs, List.lookup, isiF, tyD, isiT, iscF, attrF, methF, opmF, opOk, noX, lenB, mulO, divO, cmpD_eq, cmpD_ne, wp_pos, wp_neg, tst_pos, tst_neg, ifF_pos, ifF_neg, mtOk, rg1, rg2, rg3, Int.fmod_eq_emod_of_nonneg, -Int.natCast_pow, h2', h2]
    · rw [bad (fun j hj => by cases hj; exact h)]
      by_cases h0 : 0 ≤ k
      · have h6' : 6 < k := by omega
        have h0' : ¬ k < 0 := by omega
        simp (maxSteps := 2000000) (disch := (first | assumption | omega | (simp only [dep_int, dep_bl, dep_non]; done) | (simp only [ds_len, mv_len, List.length_append, List.length_map, List.length_zip, List.length_range, List.length_cons, List.length_nil, enm_len, List.length_drop, List.length_take, List.length_set, List.length_flatMap]; omega) | (apply Bn.use; (focus (repeat' first | assumption | exact (by assumption : BnL _ _) _ (by assumption) | exact (by assumption : BnR _ _) _ (by assumption) _ (by assumption) | exact BnL.at (by assumption) _ | exact BnL.at (BnR.at (by assumption) _) _ | exact BnL.at ((by assumption : BnR _ _) _ (by assumption)) _ | exact Bn.lit (by omega) | refine Bn.mul ?_ ?_ | refine Bn.add' ?_ ?_ | refine Bn.sub' ?_ ?_ | refine Bn.neg ?_ | refine Bn.fdiv ?_ _ | refine Bn.gcd' ?_ ?_)); first | decide | omega) | decide | (intro _ h; cases h))) [-List.map_map, -exs_cons, -exs_nil, -exs_wipe, -ex_asg, -ex_fld, -ex_fld2, -ex_retn, -ex_raise, -ex_raise0, -ex_try, -ex_par, -ex_setix, -ex_expr, -ex_ret, -ex_ifs, -ex_for, -ex_while, wipeM, hdGo, hxD, haD, haDs, List.lookup, isiF, tyD, isiT, iscF, attrF, methF, opmF, opOk, noX, lenB, mulO, divO, cmpD_eq, cmpD_ne, wp_pos, wp_neg, tst_pos, tst_neg, ifF_pos, ifF_neg, mtOk, rg1, rg2, rg3, Int.fmod_eq_emod_of_nonneg, l_due, hN, h0', h6']
      · have h0' : k < 0 := by omega
        simp (maxSteps := 2000000) (disch := (first | assumption | omega | (simp only [dep_int, dep_bl, dep_non]; done) | (simp only [ds_len, mv_len, List.length_append, List.length_map, List.length_zip, List.length_range, List.length_cons, List.length_nil, enm_len, List.length_drop, List.length_take, List.length_set, List.length_flatMap]; omega) | (apply Bn.use; (focus (repeat' first | assumption | exact (by assumption : BnL _ _) _ (by assumption) | exact (by assumption : BnR _ _) _ (by assumption) _ (by assumption) | exact BnL.at (by assumption) _ | exact BnL.at (BnR.at (by assumption) _) _ | exact BnL.at ((by assumption : BnR _ _) _ (by assumption)) _ | exact Bn.lit (by omega) | refine Bn.mul ?_ ?_ | refine Bn.add' ?_ ?_ | refine Bn.sub' ?_ ?_ | refine Bn.neg ?_ | refine Bn.fdiv ?_ _ | refine Bn.gcd' ?_ ?_)); first | decide | omega) | decide | (intro _ h; cases h))) [-List.map_map, -exs_cons, -exs_nil, -exs_wipe, -ex_asg, -ex_fld, -ex_fld2, -ex_retn, -ex_raise, -ex_raise0, -ex_try, -ex_par, -ex_setix, -ex_expr, -ex_ret, -ex_ifs, -ex_for, -ex_while, wipeM, hdGo, hxD, haD, haDs, List.lookup, isiF, tyD, isiT, iscF, attrF, methF, opmF, opOk, noX, lenB, mulO, divO, cmpD_eq, cmpD_ne, wp_pos, wp_neg, tst_pos, tst_neg, ifF_pos, ifF_neg, mtOk, rg1, rg2, rg3, Int.fmod_eq_emod_of_nonneg, l_due, hN, h0']
end
end Mi
namespace Mi
open PySem L2
section
variable {P : String → Option Df} {n : Nat}
theorem own_ok' {g : List MV → Sto → R MV} {vs : List MV} {ds : List D} {S S2 : Sto} {j : Nat} {c : Cell} (ha : deepL (deep [] 4 S) vs = some ds) (h : g (ds.map .d) [] = .ok (.c j) S2) (hj : S2[j]? = some c) (hc : c.ok = true) : callM (.own []) g vs S = .ok (.c S.length) (S ++ [c]) := by
  simp only [callM, callB, lentIx_nil, argsIn_deep S [] 0 vs ds ha, lentS, h, hj, hc, List.length_nil, Nat.zero_le, decide_true, Bool.and_self, if_true, putBack]
abbrev TPool (C : Calls) : Prop := ∀ (ns : List Int) (S : Sto) (Q : Ps MV) (X : Xs), ns.length ≤ 1000 → (∀ c, Pl 0 c → Q.p (.c S.length) (S ++ [c])) → R.wp (callM (.own []) (C "_law_pool") [.d (.scr ns)] S) trivial (Q := Q) (X := X)
theorem tPool (hp : P "_law_pool" = some l_pool) : TPool (callN P Fu (n + 1)) := fun ns S Q X hns hq => by
  have e : callM (.own []) (callN P Fu (n + 1) "_law_pool") [.d (.scr ns)] S = .ok (.c S.length) (S ++ [pl 0 0 ns]) := by
    rw [callN_eq hp]
    refine own_ok' (ds := [.scr ns]) (by simp [deepL]) (run_ret (v := .c 0) (S' := [pl 0 0 ns]) rfl ?_) rfl (pl_ok _ _ _)
    have hz : ns.length ≤ 1000000 := by omega
    have e : (ns.map fun n => MV.d (.int n)) = mv ns := by simp [mv]
    simp [l_pool, e, newL, szOk, hz, pl]
  rw [e]
  exact hq _ ⟨0, 0, ns, rfl, by omega, by omega, hns⟩
theorem tTk (hp : P "_law_take" = some l_take) : SpTk (callN P Fu (n + 1)) := spTk (spTake hp)
abbrev TTable (C : Calls) : Prop := ∀ (S : Sto) (i : Nat) (c : Cell) (p : Nat) (k m v : Int) (Q : Ps MV) (X : Xs), S[i]? = some c → Pl p c → p ≤ 800000 → 1 ≤ m → m ≤ 9 → 0 ≤ k → k ≤ 10 → 1 ≤ v → v ≤ 1000 →
  (∀ (u : Int) (w : Nat) (rs : List (List Int)) (c' : Cell), 1 ≤ u → u ≤ v → 1 ≤ w → (w : Int) ≤ m → (rs.length : Int) = k → (∀ r ∈ rs, RowOk u w r) → Pl (p + 210) c' → Q.p (.d (.lst false [.int u, .lst false (ds rs)])) (S.set i c')) →
  R.wp (callM (.bor [true]) (C "_law_table") [.c i, .d (.int k), .d (.int m), .d (.int v)] S) trivial (Q := Q) (X := X)
theorem tTable {C : Calls} (h : SpTable C) : TTable C := fun S i c p k m v Q X hi hc hp m1 m2 k0 k1 v1 v2 hq => by
  obtain ⟨a, h', ns, rfl, h0, h1, h2⟩ := hc
  obtain ⟨kn, rfl⟩ := Int.eq_ofNat_of_zero_le k0
  obtain ⟨mn, rfl⟩ := Int.eq_ofNat_of_zero_le (show 0 ≤ m by omega)
  obtain ⟨vn, rfl⟩ := Int.eq_ofNat_of_zero_le (show 0 ≤ v by omega)
  obtain ⟨u, w, rs, a', h'', q1, q2, q3, q4, q5, q6, q7, q8, e⟩ := h S i a h' ns kn mn vn hi h0 (by omega) h2 (by omega) (by omega) (by omega) (by omega) (by omega)
  rw [e]
  exact hq u w rs _ q1 (by omega) q3 (by omega) (by omega) q6 ⟨a', h'', ns, rfl, q7, by omega, h2⟩
theorem rowOk_right {u : Int} {w : Nat} {rs : List (List Int)} (hu : 1 ≤ u) (hb : Bn 2000 u) (h : ∀ r ∈ rs, RowOk u w r) : Right u w rs := ⟨hu, hb, fun r hr => (h r hr).1, fun r hr => (h r hr).2.1, fun r hr => (h r hr).2.2⟩
theorem tb_of {u : Int} {w : Nat} {rs : List (List Int)} (hu : 1 ≤ u) (hu2 : u ≤ 100000) (h : ∀ r ∈ rs, RowOk u w r) (hl : 1 ≤ rs.length) (h4 : rs.length ≤ 4) (w1 : 1 ≤ w) (w2 : w ≤ 64) : Tb u w rs :=
  ⟨rowOk_right hu ((Bn.lit (by omega)).mono (by decide)) h, (Bn.lit (by omega)).mono (by decide), by intro z; subst z; simp at hl, h4, w1, w2⟩
/-- the law's own lowest terms -/
theorem llow2 (hp : P "_law_lowest" = some l_lowest_2) (hd : SpLdiv (callN P Fu n)) : TLlow (callN P Fu (n + 1)) := fun t u rs S h1 hb hf hl hr => by
  refine spW hp rfl (by simp) ?_
  have hw : ∀ r ∈ rs, r.length ≤ 900 := fun r h => (hr r h).1
  simp (maxSteps := 2000000) (disch := (first | assumption | omega | (simp only [dep_int, dep_bl, dep_non]; done) | (simp only [ds_len, mv_len, List.length_append, List.length_map, List.length_zip, List.length_range, List.length_cons, List.length_nil, enm_len, List.length_drop, List.length_take, List.length_set, List.length_flatMap]; omega) | (apply Bn.use; (focus (repeat' first | assumption | exact (by assumption : BnL _ _) _ (by assumption) | exact (by assumption : BnR _ _) _ (by assumption) _ (by assumption) | exact BnL.at (by assumption) _ | exact BnL.at (BnR.at (by assumption) _) _ | exact BnL.at ((by assumption : BnR _ _) _ (by assumption)) _ | exact Bn.lit (by omega) | refine Bn.mul ?_ ?_ | refine Bn.add' ?_ ?_ | refine Bn.sub' ?_ ?_ | refine Bn.neg ?_ | refine Bn.fdiv ?_ _ | refine Bn.gcd' ?_ ?_)); first | decide | omega) | decide | (intro _ h; cases h))) [-List.map_map, -exs_cons, -exs_nil, -exs_wipe, -ex_asg, -ex_fld, -ex_fld2, -ex_retn, -ex_raise, -ex_raise0, -ex_try, -ex_par, -ex_setix, -ex_expr, -ex_ret, -ex_ifs, -ex_for, -ex_while, wipeM, hdGo, hxD, haD, haDs, List.lookup, isiF, tyD, isiT, iscF, attrF, methF, opmF, opOk, noX, lenB, mulO, divO, cmpD_eq, cmpD_ne, wp_pos, wp_neg, tst_pos, tst_neg, ifF_pos, ifF_neg, mtOk, rg1, rg2, rg3, Int.fmod_eq_emod_of_nonneg, l_lowest_2]
  refine for_st (fun ys => [some (.d (.int u)), some (.d (.lst t (ds rs))), some (.d (.lst false (ds (u :: ys.flatten)))), none, none, none]) (fun _ => []) rfl rfl ?_ ?_
  · intro ys y zs e
    have hfl : ys.flatten.length + y.length ≤ 900 := by
      rw [e] at hf
      simp only [List.flatten_append, List.flatten_cons, List.length_append] at hf
      omega
    have e1 : binF .add (.d (.lst false (ds (u :: ys.flatten)))) (.d (.lst false (ds y))) [] = .ok (.d (.lst false (ds (u :: ys.flatten ++ y)))) [] := cat_mv [] false false (u :: ys.flatten) y (by simp only [List.length_cons]; omega)
    simp (maxSteps := 2000000) (disch := (first | assumption | omega | (simp only [dep_int, dep_bl, dep_non]; done) | (simp only [ds_len, mv_len, List.length_append, List.length_map, List.length_zip, List.length_range, List.length_cons, List.length_nil, enm_len, List.length_drop, List.length_take, List.length_set, List.length_flatMap]; omega) | (apply Bn.use; (focus (repeat' first | assumption | exact (by assumption : BnL _ _) _ (by assumption) | exact (by assumption : BnR _ _) _ (by assumption) _ (by assumption) | exact BnL.at (by assumption) _ | exact BnL.at (BnR.at (by assumption) _) _ | exact BnL.at ((by assumption : BnR _ _) _ (by assumption)) _ | exact Bn.lit (by omega) | refine Bn.mul ?_ ?_ | refine Bn.add' ?_ ?_ | refine Bn.sub' ?_ ?_ | refine Bn.neg ?_ | refine Bn.fdiv ?_ _ | refine Bn.gcd' ?_ ?_)); first | decide | omega) | decide | (intro _ h; cases h))) [-List.map_map, -exs_cons, -exs_nil, -exs_wipe, -ex_asg, -ex_fld, -ex_fld2, -ex_retn, -ex_raise, -ex_raise0, -ex_try, -ex_par, -ex_setix, -ex_expr, -ex_ret, -ex_ifs, -ex_for, -ex_while, wipeM, hdGo, hxD, haD, haDs, List.lookup, isiF, tyD, isiT, iscF, attrF, methF, opmF, opOk, noX, lenB, mulO, divO, cmpD_eq, cmpD_ne, wp_pos, wp_neg, tst_pos, tst_neg, ifF_pos, ifF_neg, mtOk, rg1, rg2, rg3, Int.fmod_eq_emod_of_nonneg, l_lowest_2_b0, e1, -ds_cons, -cat_mv]
  · have hdv := hd false (u :: rs.flatten) [] (fun z hz => by
      rcases List.mem_cons.mp hz with rfl | hz
      · exact hb
      · obtain ⟨r, h, h'⟩ := List.mem_flatten.mp hz
        exact (hr r h).2 z h')
    have hdv : callD (callN P Fu n "_law_divisor") [.lst false (ds (u :: rs.flatten))] [] = .ok (.d (.int (tabG u rs))) [] := hdv
    have hg := tabG_ne (rs := rs) h1
    have hg' : ((tabG u rs : Nat) : Int) ≠ 0 := by omega
    have hgb : Bn 3000 ((tabG u rs : Nat) : Int) := by
      have : (tabG u rs : Int) ∣ u := (gcdF_dvd (u :: rs.flatten) 0).2 u (by simp)
      have := Int.le_of_dvd (by omega) this
      have hl := hb.lt
      exact .mk (by omega)
    have hok : divOk ((tabG u rs : Nat) : Int) = true := divO hg' (hgb.mono (by decide))
    simp (maxSteps := 2000000) (disch := (first | assumption | omega | (simp only [dep_int, dep_bl, dep_non]; done) | (simp only [ds_len, mv_len, List.length_append, List.length_map, List.length_zip, List.length_range, List.length_cons, List.length_nil, enm_len, List.length_drop, List.length_take, List.length_set, List.length_flatMap]; omega) | (apply Bn.use; (focus (repeat' first | assumption | exact (by assumption : BnL _ _) _ (by assumption) | exact (by assumption : BnR _ _) _ (by assumption) _ (by assumption) | exact BnL.at (by assumption) _ | exact BnL.at (BnR.at (by assumption) _) _ | exact BnL.at ((by assumption : BnR _ _) _ (by assumption)) _ | exact Bn.lit (by omega) | refine Bn.mul ?_ ?_ | refine Bn.add' ?_ ?_ | refine Bn.sub' ?_ ?_ | refine Bn.neg ?_ | refine Bn.fdiv ?_ _ | refine Bn.gcd' ?_ ?_)); first | decide | omega) | decide | (intro _ h; cases h))) [-List.map_map, -exs_cons, -exs_nil, -exs_wipe, -ex_asg, -ex_fld, -ex_fld2, -ex_retn, -ex_raise, -ex_raise0, -ex_try, -ex_par, -ex_setix, -ex_expr, -ex_ret, -ex_ifs, -ex_for, -ex_while, wipeM, hdGo, hxD, haD, haDs, List.lookup, isiF, tyD, isiT, iscF, attrF, methF, opmF, opOk, noX, lenB, mulO, divO, cmpD_eq, cmpD_ne, wp_pos, wp_neg, tst_pos, tst_neg, ifF_pos, ifF_neg, mtOk, rg1, rg2, rg3, Int.fmod_eq_emod_of_nonneg, hdv, hok, -ds_cons]
    refine lc_map (fun r : List Int => r.map fun z => z.fdiv (tabG u rs)) ?_ ?_
    · intro r h
      have hrl := hw r h
      simp (maxSteps := 2000000) (disch := (first | assumption | omega | (simp only [dep_int, dep_bl, dep_non]; done) | (simp only [ds_len, mv_len, List.length_append, List.length_map, List.length_zip, List.length_range, List.length_cons, List.length_nil, enm_len, List.length_drop, List.length_take, List.length_set, List.length_flatMap]; omega) | (apply Bn.use; (focus (repeat' first | assumption | exact (by assumption : BnL _ _) _ (by assumption) | exact (by assumption : BnR _ _) _ (by assumption) _ (by assumption) | exact BnL.at (by assumption) _ | exact BnL.at (BnR.at (by assumption) _) _ | exact BnL.at ((by assumption : BnR _ _) _ (by assumption)) _ | exact Bn.lit (by omega) | refine Bn.mul ?_ ?_ | refine Bn.add' ?_ ?_ | refine Bn.sub' ?_ ?_ | refine Bn.neg ?_ | refine Bn.fdiv ?_ _ | refine Bn.gcd' ?_ ?_)); first | decide | omega) | decide | (intro _ h; cases h))) [-List.map_map, -exs_cons, -exs_nil, -exs_wipe, -ex_asg, -ex_fld, -ex_fld2, -ex_retn, -ex_raise, -ex_raise0, -ex_try, -ex_par, -ex_setix, -ex_expr, -ex_ret, -ex_ifs, -ex_for, -ex_while, wipeM, hdGo, hxD, haD, haDs, List.lookup, isiF, tyD, isiT, iscF, attrF, methF, opmF, opOk, noX, lenB, mulO, divO, cmpD_eq, cmpD_ne, wp_pos, wp_neg, tst_pos, tst_neg, ifF_pos, ifF_neg, mtOk, rg1, rg2, rg3, Int.fmod_eq_emod_of_nonneg, stepE]
      rw [lcGo_wp (g := fun z : Int => z.fdiv (tabG u rs))]
      · simp (maxSteps := 2000000) (disch := (first | assumption | omega | (simp only [dep_int, dep_bl, dep_non]; done) | (simp only [ds_len, mv_len, List.length_append, List.length_map, List.length_zip, List.length_range, List.length_cons, List.length_nil, enm_len, List.length_drop, List.length_take, List.length_set, List.length_flatMap]; omega) | (apply Bn.use; (focus (repeat' first | assumption | exact (by assumption : BnL _ _) _ (by assumption) | exact (by assumption : BnR _ _) _ (by assumption) _ (by assumption) | exact BnL.at (by assumption) _ | exact BnL.at (BnR.at (by assumption) _) _ | exact BnL.at ((by assumption : BnR _ _) _ (by assumption)) _ | exact Bn.lit (by omega) | refine Bn.mul ?_ ?_ | refine Bn.add' ?_ ?_ | refine Bn.sub' ?_ ?_ | refine Bn.neg ?_ | refine Bn.fdiv ?_ _ | refine Bn.gcd' ?_ ?_)); first | decide | omega) | decide | (intro _ h; cases h))) [-List.map_map, -exs_cons, -exs_nil, -exs_wipe, -ex_asg, -ex_fld, -ex_fld2, -ex_retn, -ex_raise, -ex_raise0, -ex_try, -ex_par, -ex_setix, -ex_expr, -ex_ret, -ex_ifs, -ex_for, -ex_while, wipeM, hdGo, hxD, haD, haDs, List.lookup, isiF, tyD, isiT, iscF, attrF, methF, opmF, opOk, noX, lenB, mulO, divO, cmpD_eq, cmpD_ne, wp_pos, wp_neg, tst_pos, tst_neg, ifF_pos, ifF_neg, mtOk, rg1, rg2, rg3, Int.fmod_eq_emod_of_nonneg]
      · intro z hz
        simp (maxSteps := 2000000) (disch := (first | assumption | omega | (simp only [dep_int, dep_bl, dep_non]; done) | (simp only [ds_len, mv_len, List.length_append, List.length_map, List.length_zip, List.length_range, List.length_cons, List.length_nil, enm_len, List.length_drop, List.length_take, List.length_set, List.length_flatMap]; omega) | (apply Bn.use; (focus (repeat' first | assumption | exact (by assumption : BnL _ _) _ (by assumption) | exact (by assumption : BnR _ _) _ (by assumption) _ (by assumption) | exact BnL.at (by assumption) _ | exact BnL.at (BnR.at (by assumption) _) _ | exact BnL.at ((by assumption : BnR _ _) _ (by assumption)) _ | exact Bn.lit (by omega) | refine Bn.mul ?_ ?_ | refine Bn.add' ?_ ?_ | refine Bn.sub' ?_ ?_ | refine Bn.neg ?_ | refine Bn.fdiv ?_ _ | refine Bn.gcd' ?_ ?_)); first | decide | omega) | decide | (intro _ h; cases h))) [-List.map_map, -exs_cons, -exs_nil, -exs_wipe, -ex_asg, -ex_fld, -ex_fld2, -ex_retn, -ex_raise, -ex_raise0, -ex_try, -ex_par, -ex_setix, -ex_expr, -ex_ret, -ex_ifs, -ex_for, -ex_while, wipeM, hdGo, hxD, haD, haDs, List.lookup, isiF, tyD, isiT, iscF, attrF, methF, opmF, opOk, noX, lenB, mulO, divO, cmpD_eq, cmpD_ne, wp_pos, wp_neg, tst_pos, tst_neg, ifF_pos, ifF_neg, mtOk, rg1, rg2, rg3, Int.fmod_eq_emod_of_nonneg, stepE, hok]
    · simp (maxSteps := 2000000) (disch := (first | assumption | omega | (simp only [dep_int, dep_bl, dep_non]; done) | (simp only [ds_len, mv_len, List.length_append, List.length_map, List.length_zip, List.length_range, List.length_cons, List.length_nil, enm_len, List.length_drop, List.length_take, List.length_set, List.length_flatMap]; omega) | (apply Bn.use; (focus (repeat' first | assumption | exact (by assumption : BnL _ _) _ (by assumption) | exact (by assumption : BnR _ _) _ (by assumption) _ (by assumption) | exact BnL.at (by assumption) _ | exact BnL.at (BnR.at (by assumption) _) _ | exact BnL.at ((by assumption : BnR _ _) _ (by assumption)) _ | exact Bn.lit (by omega) | refine Bn.mul ?_ ?_ | refine Bn.add' ?_ ?_ | refine Bn.sub' ?_ ?_ | refine Bn.neg ?_ | refine Bn.fdiv ?_ _ | refine Bn.gcd' ?_ ?_)); first | decide | omega) | decide | (intro _ h; cases h))) [-List.map_map, -exs_cons, -exs_nil, -exs_wipe, -ex_asg, -ex_fld, -ex_fld2, -ex_retn, -ex_raise, -ex_raise0, -ex_try, -ex_par, -ex_setix, -ex_expr, -ex_ret, -ex_ifs, -ex_for, -ex_while, wipeM, hdGo, hxD, haD, haDs, List.lookup, isiF, tyD, isiT, iscF, attrF, methF, opmF, opOk, noX, lenB, mulO, divO, cmpD_eq, cmpD_ne, wp_pos, wp_neg, tst_pos, tst_neg, ifF_pos, ifF_neg, mtOk, rg1, rg2, rg3, Int.fmod_eq_emod_of_nonneg, lowU, lowR]
end
end Mi
namespace Mi
open PySem L2
theorem prodRow_scl_l (c : Int) (b : List Int) : ∀ a : List Int, prodRow (a.map fun z => c * z) b = (prodRow a b).map fun z => c * z
  | [] => rfl
  | x :: a => by
    have ih := prodRow_scl_l c b a
    simp only [prodRow, List.map_cons, List.flatMap_cons, List.map_append] at ih ⊢
    rw [ih]
    simp [Int.mul_assoc]
theorem prodR_scl_l (c : Int) : ∀ Q R : List (List Int), prodR (scl c Q) R = scl c (prodR Q R)
  | [], R => by simp [prodR, scl]
  | _ :: _, [] => by simp [prodR, scl]
  | q :: Q, r :: R => by
    have ih := prodR_scl_l c Q R
    simp only [prodR, scl, List.map_cons, List.zipWith_cons_cons, prodRow_scl_l] at ih ⊢
    rw [ih]
theorem low_prod_l {x u : Int} {Q rs : List (List Int)} (hx : 1 ≤ x) (hu : 1 ≤ u) : lowU (u * x) (prodR rs Q) = lowU (lowU u rs * x) (prodR (lowR u rs) Q) ∧ lowR (u * x) (prodR rs Q) = lowR (lowU u rs * x) (prodR (lowR u rs) Q) := by
  obtain ⟨h1, h2⟩ := low_back hu rs
  have hg := tabG_ne (rs := rs) hu
  have hp : 1 ≤ lowU u rs * x := by
    have := Int.mul_pos (show 0 < lowU u rs by have := lowU_pos hu rs; omega) (show 0 < x by omega)
    omega
  have e1 : u * x = (tabG u rs : Int) * (lowU u rs * x) := by
    conv => lhs; rw [h1]
    rw [Int.mul_assoc]
  have e2 : prodR rs Q = scl (tabG u rs) (prodR (lowR u rs) Q) := by
    conv => lhs; rw [h2]
    rw [prodR_scl_l]
  rw [e1, e2]
  exact ⟨lowU_scale (by omega) hp _, lowR_scale (by omega) hp _⟩
theorem low_prod2 {u u' : Int} {rs rs' : List (List Int)} (hu : 1 ≤ u) (hu' : 1 ≤ u') : lowU (u * u') (prodR rs rs') = lowU (lowU u rs * lowU u' rs') (prodR (lowR u rs) (lowR u' rs')) ∧ lowR (u * u') (prodR rs rs') = lowR (lowU u rs * lowU u' rs') (prodR (lowR u rs) (lowR u' rs')) := by
  have a := low_prod_l (Q := rs') (rs := rs) (x := u') hu' hu
  have b := low_prod (Q := lowR u rs) (rs := rs') (x := lowU u rs) (lowU_pos hu rs) hu'
  exact ⟨a.1.trans b.1, a.2.trans b.2⟩
def LawOk (f : F) : Prop := ∃ S, f = .ret (.d (.bl true)) S
@[simp] theorem LawOk_ret (b : Bool) (S : Sto) : LawOk (.ret (.d (.bl b)) S) = (b = true) := by
  cases b
  · simp [LawOk]
  · simp [LawOk]
theorem law_W {Pg : String → Option Df} {d : Df} {n : Nat} {ns : List Int} (hp : Pg "law" = some d) (h1 : d.np = 1) (h : W (exs (callN Pg Fu n) Fu d.body (some (.d (.scr ns)) :: List.replicate (d.names.length - 1) none) []) trivial (P := ⟨LawOk⟩)) : ∃ S', callN Pg Fu (n + 1) "law" [.d (.scr ns)] [] = .ok (.d (.bl true)) S' := by
  rw [callN_eq hp]
  cases e : exs (callN Pg Fu n) Fu d.body (some (.d (.scr ns)) :: List.replicate (d.names.length - 1) none) [] with
  | ret v S2 =>
    rw [e] at h
    obtain ⟨S, h⟩ := h
    cases h
    exact ⟨_, run_ret (by simp [h1]) e⟩
  | next σ S2 => rw [e] at h; obtain ⟨S, h⟩ := h; cases h
  | brk σ S2 => rw [e] at h; obtain ⟨S, h⟩ := h; cases h
  | cont σ S2 => rw [e] at h; obtain ⟨S, h⟩ := h; cases h
  | exc c fs σ S2 => rw [e] at h; obtain ⟨S, h⟩ := h; cases h
  | stuck => rw [e] at h; exact h.elim
theorem str_ne (s : String) (h : PyData.strOk (Str.ofString s) = true) : cmpD .ne (.str (Str.ofString s)) (.str (Str.ofString s)) = some false := by
  rw [cmpD_ne]; simp [dep_str, h]
structure All16 (C : Calls) : Prop where
  pool : TPool C
  take : SpTk C
  table : TTable C
  exp : TExp C
  pairs : TLpairs C
  told : TTold C
  shows : TShows C
  again : TAgain C
  lagain : TLagain C
  due : TDue C
  both : TBoth C
  of : TOf C
theorem law16 {C : Calls} (A : All16 C) (ns : List Int) (hns : ns.length ≤ 63) : W (exs C Fu w_k16_k0 (some (.d (.scr ns)) :: List.replicate 12 none) []) trivial (P := ⟨LawOk⟩) := by
  have hm := str_ne "mismatch" (by decide +kernel)
  simp (maxSteps := 2000000) (disch := (first | assumption | omega | (simp only [dep_int, dep_bl, dep_non]; done) | (simp only [ds_len, mv_len, List.length_append, List.length_map, List.length_zip, List.length_range, List.length_cons, List.length_nil, enm_len, List.length_drop, List.length_take, List.length_set, List.length_flatMap]; omega) | (apply Bn.use; (focus (repeat' first | assumption | exact (by assumption : BnL _ _) _ (by assumption) | exact (by assumption : BnR _ _) _ (by assumption) _ (by assumption) | exact BnL.at (by assumption) _ | exact BnL.at (BnR.at (by assumption) _) _ | exact BnL.at ((by assumption : BnR _ _) _ (by assumption)) _ | exact Bn.lit (by omega) | refine Bn.mul ?_ ?_ | refine Bn.add' ?_ ?_ | refine Bn.sub' ?_ ?_ | refine Bn.neg ?_ | refine Bn.fdiv ?_ _ | refine Bn.gcd' ?_ ?_)); first | decide | omega) | decide | (intro _ h; cases h))) [-List.map_map, -exs_cons, -exs_nil, -exs_wipe, -ex_asg, -ex_fld, -ex_fld2, -ex_retn, -ex_raise, -ex_raise0, -ex_try, -ex_par, -ex_setix, -ex_expr, -ex_ret, -ex_ifs, -ex_for, -ex_while, wipeM, hdGo, hxD, haD, haDs, List.lookup, isiF, tyD, isiT, iscF, attrF, methF, opmF, opOk, noX, lenB, mulO, divO, cmpD_eq, cmpD_ne, wp_pos, wp_neg, tst_pos, tst_neg, ifF_pos, ifF_neg, mtOk, rg1, rg2, rg3, Int.fmod_eq_emod_of_nonneg, w_k16_k0, w_k16_t0]
  refine A.pool ns _ _ _ (by omega) ?_
  intro c0 hc0
  simp (maxSteps := 2000000) (disch := (first | assumption | omega | (simp only [dep_int, dep_bl, dep_non]; done) | (simp only [ds_len, mv_len, List.length_append, List.length_map, List.length_zip, List.length_range, List.length_cons, List.length_nil, enm_len, List.length_drop, List.length_take, List.length_set, List.length_flatMap]; omega) | (apply Bn.use; (focus (repeat' first | assumption | exact (by assumption : BnL _ _) _ (by assumption) | exact (by assumption : BnR _ _) _ (by assumption) _ (by assumption) | exact BnL.at (by assumption) _ | exact BnL.at (BnR.at (by assumption) _) _ | exact BnL.at ((by assumption : BnR _ _) _ (by assumption)) _ | exact Bn.lit (by omega) | refine Bn.mul ?_ ?_ | refine Bn.add' ?_ ?_ | refine Bn.sub' ?_ ?_ | refine Bn.neg ?_ | refine Bn.fdiv ?_ _ | refine Bn.gcd' ?_ ?_)); first | decide | omega) | decide | (intro _ h; cases h))) [-List.map_map, -exs_cons, -exs_nil, -exs_wipe, -ex_asg, -ex_fld, -ex_fld2, -ex_retn, -ex_raise, -ex_raise0, -ex_try, -ex_par, -ex_setix, -ex_expr, -ex_ret, -ex_ifs, -ex_for, -ex_while, wipeM, hdGo, hxD, haD, haDs, List.lookup, isiF, tyD, isiT, iscF, attrF, methF, opmF, opOk, noX, lenB, mulO, divO, cmpD_eq, cmpD_ne, wp_pos, wp_neg, tst_pos, tst_neg, ifF_pos, ifF_neg, mtOk, rg1, rg2, rg3, Int.fmod_eq_emod_of_nonneg, w_k16_k1, w_k16_t1]
  (refine A.take _ _ _ _ _ _ _ rfl (by assumption) (by omega) (by omega) (by (apply Bn.use; (focus (repeat' first | assumption | exact (by assumption : BnL _ _) _ (by assumption) | exact (by assumption : BnR _ _) _ (by assumption) _ (by assumption) | exact BnL.at (by assumption) _ | exact BnL.at (BnR.at (by assumption) _) _ | exact BnL.at ((by assumption : BnR _ _) _ (by assumption)) _ | exact Bn.lit (by omega) | refine Bn.mul ?_ ?_ | refine Bn.add' ?_ ?_ | refine Bn.sub' ?_ ?_ | refine Bn.neg ?_ | refine Bn.fdiv ?_ _ | refine Bn.gcd' ?_ ?_)); first | decide | omega)) ?_; intro r1 c_r1 r1_0 r1_1 hc_r1)
  simp (maxSteps := 2000000) (disch := (first | assumption | omega | (simp only [dep_int, dep_bl, dep_non]; done) | (simp only [ds_len, mv_len, List.length_append, List.length_map, List.length_zip, List.length_range, List.length_cons, List.length_nil, enm_len, List.length_drop, List.length_take, List.length_set, List.length_flatMap]; omega) | (apply Bn.use; (focus (repeat' first | assumption | exact (by assumption : BnL _ _) _ (by assumption) | exact (by assumption : BnR _ _) _ (by assumption) _ (by assumption) | exact BnL.at (by assumption) _ | exact BnL.at (BnR.at (by assumption) _) _ | exact BnL.at ((by assumption : BnR _ _) _ (by assumption)) _ | exact Bn.lit (by omega) | refine Bn.mul ?_ ?_ | refine Bn.add' ?_ ?_ | refine Bn.sub' ?_ ?_ | refine Bn.neg ?_ | refine Bn.fdiv ?_ _ | refine Bn.gcd' ?_ ?_)); first | decide | omega) | decide | (intro _ h; cases h))) [-List.map_map, -exs_cons, -exs_nil, -exs_wipe, -ex_asg, -ex_fld, -ex_fld2, -ex_retn, -ex_raise, -ex_raise0, -ex_try, -ex_par, -ex_setix, -ex_expr, -ex_ret, -ex_ifs, -ex_for, -ex_while, wipeM, hdGo, hxD, haD, haDs, List.lookup, isiF, tyD, isiT, iscF, attrF, methF, opmF, opOk, noX, lenB, mulO, divO, cmpD_eq, cmpD_ne, wp_pos, wp_neg, tst_pos, tst_neg, ifF_pos, ifF_neg, mtOk, rg1, rg2, rg3, Int.fmod_eq_emod_of_nonneg, w_k16_k2, w_k16_t2]
  (refine A.take _ _ _ _ _ _ _ rfl (by assumption) (by omega) (by omega) (by (apply Bn.use; (focus (repeat' first | assumption | exact (by assumption : BnL _ _) _ (by assumption) | exact (by assumption : BnR _ _) _ (by assumption) _ (by assumption) | exact BnL.at (by assumption) _ | exact BnL.at (BnR.at (by assumption) _) _ | exact BnL.at ((by assumption : BnR _ _) _ (by assumption)) _ | exact Bn.lit (by omega) | refine Bn.mul ?_ ?_ | refine Bn.add' ?_ ?_ | refine Bn.sub' ?_ ?_ | refine Bn.neg ?_ | refine Bn.fdiv ?_ _ | refine Bn.gcd' ?_ ?_)); first | decide | omega)) ?_; intro r2 c_r2 r2_0 r2_1 hc_r2)
  simp (maxSteps := 2000000) (disch := (first | assumption | omega | (simp only [dep_int, dep_bl, dep_non]; done) | (simp only [ds_len, mv_len, List.length_append, List.length_map, List.length_zip, List.length_range, List.length_cons, List.length_nil, enm_len, List.length_drop, List.length_take, List.length_set, List.length_flatMap]; omega) | (apply Bn.use; (focus (repeat' first | assumption | exact (by assumption : BnL _ _) _ (by assumption) | exact (by assumption : BnR _ _) _ (by assumption) _ (by assumption) | exact BnL.at (by assumption) _ | exact BnL.at (BnR.at (by assumption) _) _ | exact BnL.at ((by assumption : BnR _ _) _ (by assumption)) _ | exact Bn.lit (by omega) | refine Bn.mul ?_ ?_ | refine Bn.add' ?_ ?_ | refine Bn.sub' ?_ ?_ | refine Bn.neg ?_ | refine Bn.fdiv ?_ _ | refine Bn.gcd' ?_ ?_)); first | decide | omega) | decide | (intro _ h; cases h))) [-List.map_map, -exs_cons, -exs_nil, -exs_wipe, -ex_asg, -ex_fld, -ex_fld2, -ex_retn, -ex_raise, -ex_raise0, -ex_try, -ex_par, -ex_setix, -ex_expr, -ex_ret, -ex_ifs, -ex_for, -ex_while, wipeM, hdGo, hxD, haD, haDs, List.lookup, isiF, tyD, isiT, iscF, attrF, methF, opmF, opOk, noX, lenB, mulO, divO, cmpD_eq, cmpD_ne, wp_pos, wp_neg, tst_pos, tst_neg, ifF_pos, ifF_neg, mtOk, rg1, rg2, rg3, Int.fmod_eq_emod_of_nonneg, w_k16_k3, w_k16_t3]
  (refine A.take _ _ _ _ _ _ _ rfl (by assumption) (by omega) (by omega) (by (apply Bn.use; (focus (repeat' first | assumption | exact (by assumption : BnL _ _) _ (by assumption) | exact (by assumption : BnR _ _) _ (by assumption) _ (by assumption) | exact BnL.at (by assumption) _ | exact BnL.at (BnR.at (by assumption) _) _ | exact BnL.at ((by assumption : BnR _ _) _ (by assumption)) _ | exact Bn.lit (by omega) | refine Bn.mul ?_ ?_ | refine Bn.add' ?_ ?_ | refine Bn.sub' ?_ ?_ | refine Bn.neg ?_ | refine Bn.fdiv ?_ _ | refine Bn.gcd' ?_ ?_)); first | decide | omega)) ?_; intro r3 c_r3 r3_0 r3_1 hc_r3)
  simp (maxSteps := 2000000) (disch := (first | assumption | omega | (simp only [dep_int, dep_bl, dep_non]; done) | (simp only [ds_len, mv_len, List.length_append, List.length_map, List.length_zip, List.length_range, List.length_cons, List.length_nil, enm_len, List.length_drop, List.length_take, List.length_set, List.length_flatMap]; omega) | (apply Bn.use; (focus (repeat' first | assumption | exact (by assumption : BnL _ _) _ (by assumption) | exact (by assumption : BnR _ _) _ (by assumption) _ (by assumption) | exact BnL.at (by assumption) _ | exact BnL.at (BnR.at (by assumption) _) _ | exact BnL.at ((by assumption : BnR _ _) _ (by assumption)) _ | exact Bn.lit (by omega) | refine Bn.mul ?_ ?_ | refine Bn.add' ?_ ?_ | refine Bn.sub' ?_ ?_ | refine Bn.neg ?_ | refine Bn.fdiv ?_ _ | refine Bn.gcd' ?_ ?_)); first | decide | omega) | decide | (intro _ h; cases h))) [-List.map_map, -exs_cons, -exs_nil, -exs_wipe, -ex_asg, -ex_fld, -ex_fld2, -ex_retn, -ex_raise, -ex_raise0, -ex_try, -ex_par, -ex_setix, -ex_expr, -ex_ret, -ex_ifs, -ex_for, -ex_while, wipeM, hdGo, hxD, haD, haDs, List.lookup, isiF, tyD, isiT, iscF, attrF, methF, opmF, opOk, noX, lenB, mulO, divO, cmpD_eq, cmpD_ne, wp_pos, wp_neg, tst_pos, tst_neg, ifF_pos, ifF_neg, mtOk, rg1, rg2, rg3, Int.fmod_eq_emod_of_nonneg]
  (refine A.table _ _ _ _ _ _ _ _ _ rfl (by assumption) (by omega) (by omega) (by omega) (by omega) (by omega) (by omega) (by omega) ?_; intro u w rs c_u u_0 u_1 w_0 w_1 rs_l rs_ok hc_u)
  simp (maxSteps := 2000000) (disch := (first | assumption | omega | (simp only [dep_int, dep_bl, dep_non]; done) | (simp only [ds_len, mv_len, List.length_append, List.length_map, List.length_zip, List.length_range, List.length_cons, List.length_nil, enm_len, List.length_drop, List.length_take, List.length_set, List.length_flatMap]; omega) | (apply Bn.use; (focus (repeat' first | assumption | exact (by assumption : BnL _ _) _ (by assumption) | exact (by assumption : BnR _ _) _ (by assumption) _ (by assumption) | exact BnL.at (by assumption) _ | exact BnL.at (BnR.at (by assumption) _) _ | exact BnL.at ((by assumption : BnR _ _) _ (by assumption)) _ | exact Bn.lit (by omega) | refine Bn.mul ?_ ?_ | refine Bn.add' ?_ ?_ | refine Bn.sub' ?_ ?_ | refine Bn.neg ?_ | refine Bn.fdiv ?_ _ | refine Bn.gcd' ?_ ?_)); first | decide | omega) | decide | (intro _ h; cases h))) [-List.map_map, -exs_cons, -exs_nil, -exs_wipe, -ex_asg, -ex_fld, -ex_fld2, -ex_retn, -ex_raise, -ex_raise0, -ex_try, -ex_par, -ex_setix, -ex_expr, -ex_ret, -ex_ifs, -ex_for, -ex_while, wipeM, hdGo, hxD, haD, haDs, List.lookup, isiF, tyD, isiT, iscF, attrF, methF, opmF, opOk, noX, lenB, mulO, divO, cmpD_eq, cmpD_ne, wp_pos, wp_neg, tst_pos, tst_neg, ifF_pos, ifF_neg, mtOk, rg1, rg2, rg3, Int.fmod_eq_emod_of_nonneg, w_k16_k4, w_k16_t4]
  (refine A.table _ _ _ _ _ _ _ _ _ rfl (by assumption) (by omega) (by omega) (by omega) (by omega) (by omega) (by omega) (by omega) ?_; intro u2 w2 rs2 c_u2 u2_0 u2_1 w2_0 w2_1 rs2_l rs2_ok hc_u2)
  have T : Tb u w rs := tb_of u_0 (by omega) rs_ok (by omega) (by omega) w_0 (by omega)
  have l0 : ((at' rs 0).length : Int) = w := by rw [T.r.wide _ (at_mem (List.length_pos_iff.mpr T.ne))]
  have hl0 : 0 < rs.length := List.length_pos_iff.mpr T.ne
  have hE := rt_exp T.r T.ne T.l4 T.w1 T.w2
  have bu : Bn 60 u := .mk (by omega)
  have hbE : Bn 60 (lowU u rs) := bu.fdiv _
  /- the end: the numbers of times -/
  have tl : ∀ (x2 x3 x8 x9 x10 : Option MV) (c : Cell) (p : Nat) (u2 : Int) (w2 : Nat) (rs2 : List (List Int)), Pl p c → p ≤ 1000 → 1 ≤ u2 → u2 ≤ 60 → 1 ≤ w2 → (w2 : Int) ≤ 6 → Tb u2 w2 rs2 →
      W (exs C Fu w_k16_k13 [some (.d (.scr ns)), some (.c 0), x2, x3, some (.d (.lst false [.int u, .lst false (ds rs)])), some (.d (.lst false [.int u2, .lst false (ds rs2)])), some (.d (exI (lowU u rs) w (lowR u rs))), some (.d (exI (lowU u2 rs2) w2 (lowR u2 rs2))), x8, x9, x10, none, none] [c]) trivial (P := ⟨LawOk⟩) := by
    intro x2 x3 x8 x9 x10 c p u2 w2 rs2 hc hp a1 a2 a3 a4 T2
    have hE2 := rt_exp T2.r T2.ne T2.l4 T2.w1 T2.w2
    have bu2 : Bn 60 u2 := .mk (by omega)
    have hbE2 : Bn 100 (lowU u2 rs2) := (bu2.fdiv _).mono (by decide)
    have eS2 := A.shows u2 w2 rs2 [c]
    simp (maxSteps := 2000000) (disch := (first | assumption | omega | (simp only [dep_int, dep_bl, dep_non]; done) | (simp only [ds_len, mv_len, List.length_append, List.length_map, List.length_zip, List.length_range, List.length_cons, List.length_nil, enm_len, List.length_drop, List.length_take, List.length_set, List.length_flatMap]; omega) | (apply Bn.use; (focus (repeat' first | assumption | exact (by assumption : BnL _ _) _ (by assumption) | exact (by assumption : BnR _ _) _ (by assumption) _ (by assumption) | exact BnL.at (by assumption) _ | exact BnL.at (BnR.at (by assumption) _) _ | exact BnL.at ((by assumption : BnR _ _) _ (by assumption)) _ | exact Bn.lit (by omega) | refine Bn.mul ?_ ?_ | refine Bn.add' ?_ ?_ | refine Bn.sub' ?_ ?_ | refine Bn.neg ?_ | refine Bn.fdiv ?_ _ | refine Bn.gcd' ?_ ?_)); first | decide | omega) | decide | (intro _ h; cases h))) [-List.map_map, -exs_cons, -exs_nil, -exs_wipe, -ex_asg, -ex_fld, -ex_fld2, -ex_retn, -ex_raise, -ex_raise0, -ex_try, -ex_par, -ex_setix, -ex_expr, -ex_ret, -ex_ifs, -ex_for, -ex_while, wipeM, hdGo, hxD, haD, haDs, List.lookup, isiF, tyD, isiT, iscF, attrF, methF, opmF, opOk, noX, lenB, mulO, divO, cmpD_eq, cmpD_ne, wp_pos, wp_neg, tst_pos, tst_neg, ifF_pos, ifF_neg, mtOk, rg1, rg2, rg3, Int.fmod_eq_emod_of_nonneg, w_k16_k13, w_k16_t13]
    (refine A.take _ _ _ _ _ _ _ rfl (by assumption) (by omega) (by omega) (by (apply Bn.use; (focus (repeat' first | assumption | exact (by assumption : BnL _ _) _ (by assumption) | exact (by assumption : BnR _ _) _ (by assumption) _ (by assumption) | exact BnL.at (by assumption) _ | exact BnL.at (BnR.at (by assumption) _) _ | exact BnL.at ((by assumption : BnR _ _) _ (by assumption)) _ | exact Bn.lit (by omega) | refine Bn.mul ?_ ?_ | refine Bn.add' ?_ ?_ | refine Bn.sub' ?_ ?_ | refine Bn.neg ?_ | refine Bn.fdiv ?_ _ | refine Bn.gcd' ?_ ?_)); first | decide | omega)) ?_; intro q1 c_q1 q1_0 q1_1 hc_q1)
    simp (maxSteps := 2000000) (disch := (first | assumption | omega | (simp only [dep_int, dep_bl, dep_non]; done) | (simp only [ds_len, mv_len, List.length_append, List.length_map, List.length_zip, List.length_range, List.length_cons, List.length_nil, enm_len, List.length_drop, List.length_take, List.length_set, List.length_flatMap]; omega) | (apply Bn.use; (focus (repeat' first | assumption | exact (by assumption : BnL _ _) _ (by assumption) | exact (by assumption : BnR _ _) _ (by assumption) _ (by assumption) | exact BnL.at (by assumption) _ | exact BnL.at (BnR.at (by assumption) _) _ | exact BnL.at ((by assumption : BnR _ _) _ (by assumption)) _ | exact Bn.lit (by omega) | refine Bn.mul ?_ ?_ | refine Bn.add' ?_ ?_ | refine Bn.sub' ?_ ?_ | refine Bn.neg ?_ | refine Bn.fdiv ?_ _ | refine Bn.gcd' ?_ ?_)); first | decide | omega) | decide | (intro _ h; cases h))) [-List.map_map, -exs_cons, -exs_nil, -exs_wipe, -ex_asg, -ex_fld, -ex_fld2, -ex_retn, -ex_raise, -ex_raise0, -ex_try, -ex_par, -ex_setix, -ex_expr, -ex_ret, -ex_ifs, -ex_for, -ex_while, wipeM, hdGo, hxD, haD, haDs, List.lookup, isiF, tyD, isiT, iscF, attrF, methF, opmF, opOk, noX, lenB, mulO, divO, cmpD_eq, cmpD_ne, wp_pos, wp_neg, tst_pos, tst_neg, ifF_pos, ifF_neg, mtOk, rg1, rg2, rg3, Int.fmod_eq_emod_of_nonneg]
    (refine A.take _ _ _ _ _ _ _ rfl (by assumption) (by omega) (by omega) (by (apply Bn.use; (focus (repeat' first | assumption | exact (by assumption : BnL _ _) _ (by assumption) | exact (by assumption : BnR _ _) _ (by assumption) _ (by assumption) | exact BnL.at (by assumption) _ | exact BnL.at (BnR.at (by assumption) _) _ | exact BnL.at ((by assumption : BnR _ _) _ (by assumption)) _ | exact Bn.lit (by omega) | refine Bn.mul ?_ ?_ | refine Bn.add' ?_ ?_ | refine Bn.sub' ?_ ?_ | refine Bn.neg ?_ | refine Bn.fdiv ?_ _ | refine Bn.gcd' ?_ ?_)); first | decide | omega)) ?_; intro q2 c_q2 q2_0 q2_1 hc_q2)
    simp (maxSteps := 2000000) (disch := (first | assumption | omega | (simp only [dep_int, dep_bl, dep_non]; done) | (simp only [ds_len, mv_len, List.length_append, List.length_map, List.length_zip, List.length_range, List.length_cons, List.length_nil, enm_len, List.length_drop, List.length_take, List.length_set, List.length_flatMap]; omega) | (apply Bn.use; (focus (repeat' first | assumption | exact (by assumption : BnL _ _) _ (by assumption) | exact (by assumption : BnR _ _) _ (by assumption) _ (by assumption) | exact BnL.at (by assumption) _ | exact BnL.at (BnR.at (by assumption) _) _ | exact BnL.at ((by assumption : BnR _ _) _ (by assumption)) _ | exact Bn.lit (by omega) | refine Bn.mul ?_ ?_ | refine Bn.add' ?_ ?_ | refine Bn.sub' ?_ ?_ | refine Bn.neg ?_ | refine Bn.fdiv ?_ _ | refine Bn.gcd' ?_ ?_)); first | decide | omega) | decide | (intro _ h; cases h))) [-List.map_map, -exs_cons, -exs_nil, -exs_wipe, -ex_asg, -ex_fld, -ex_fld2, -ex_retn, -ex_raise, -ex_raise0, -ex_try, -ex_par, -ex_setix, -ex_expr, -ex_ret, -ex_ifs, -ex_for, -ex_while, wipeM, hdGo, hxD, haD, haDs, List.lookup, isiF, tyD, isiT, iscF, attrF, methF, opmF, opOk, noX, lenB, mulO, divO, cmpD_eq, cmpD_ne, wp_pos, wp_neg, tst_pos, tst_neg, ifF_pos, ifF_neg, mtOk, rg1, rg2, rg3, Int.fmod_eq_emod_of_nonneg]
    refine for_st (α := D) (xs := [.int q1, .int (q2 - 1), .int 0, .bl true, .non]) (fun _ => [some (.d (.scr ns)), some (.c 0), x2, x3, some (.d (.lst false [.int u, .lst false (ds rs)])), some (.d (.lst false [.int u2, .lst false (ds rs2)])), some (.d (exI (lowU u rs) w (lowR u rs))), some (.d (exI (lowU u2 rs2) w2 (lowR u2 rs2))), x8, x9, x10, none, none]) (fun _ => [c_q2]) rfl rfl ?_ ?_
    · intro ys x zs e
      have hx : Tms x := by
        have : x ∈ [D.int q1, .int (q2 - 1), .int 0, .bl true, .non] := by rw [e]; simp
        simp only [List.mem_cons, List.not_mem_nil, or_false] at this
        rcases this with rfl | rfl | rfl | rfl | rfl
        · exact .int _ (Bn.lit (by omega))
        · exact .int _ (Bn.lit (by omega))
        · exact .int _ (Bn.lit (by omega))
        · exact .bl _
        · exact .non
      have e1 := A.lagain (lowU u2 rs2) w2 (lowR u2 rs2) x [c_q2] hE2 (by omega) hbE2 hx
      have e2 := A.due u2 w2 rs2 x [c_q2] T2 (by omega) bu2 hx
      have e3 := agD_eq (U := lowU u2 rs2) (w := w2) (R := lowR u2 rs2) hx
      simp (maxSteps := 2000000) (disch := (first | assumption | omega | (simp only [dep_int, dep_bl, dep_non]; done) | (simp only [ds_len, mv_len, List.length_append, List.length_map, List.length_zip, List.length_range, List.length_cons, List.length_nil, enm_len, List.length_drop, List.length_take, List.length_set, List.length_flatMap]; omega) | (apply Bn.use; (focus (repeat' first | assumption | exact (by assumption : BnL _ _) _ (by assumption) | exact (by assumption : BnR _ _) _ (by assumption) _ (by assumption) | exact BnL.at (by assumption) _ | exact BnL.at (BnR.at (by assumption) _) _ | exact BnL.at ((by assumption : BnR _ _) _ (by assumption)) _ | exact Bn.lit (by omega) | refine Bn.mul ?_ ?_ | refine Bn.add' ?_ ?_ | refine Bn.sub' ?_ ?_ | refine Bn.neg ?_ | refine Bn.fdiv ?_ _ | refine Bn.gcd' ?_ ?_)); first | decide | omega) | decide | (intro _ h; cases h))) [-List.map_map, -exs_cons, -exs_nil, -exs_wipe, -ex_asg, -ex_fld, -ex_fld2, -ex_retn, -ex_raise, -ex_raise0, -ex_try, -ex_par, -ex_setix, -ex_expr, -ex_ret, -ex_ifs, -ex_for, -ex_while, wipeM, hdGo, hxD, haD, haDs, List.lookup, isiF, tyD, isiT, iscF, attrF, methF, opmF, opOk, noX, lenB, mulO, divO, cmpD_eq, cmpD_ne, wp_pos, wp_neg, tst_pos, tst_neg, ifF_pos, ifF_neg, mtOk, rg1, rg2, rg3, Int.fmod_eq_emod_of_nonneg, w_k16_b0, e1, e2, e3]
    · have eS3 := A.shows u2 w2 rs2 [c_q2] T2
      simp (maxSteps := 2000000) (disch := (first | assumption | omega | (simp only [dep_int, dep_bl, dep_non]; done) | (simp only [ds_len, mv_len, List.length_append, List.length_map, List.length_zip, List.length_range, List.length_cons, List.length_nil, enm_len, List.length_drop, List.length_take, List.length_set, List.length_flatMap]; omega) | (apply Bn.use; (focus (repeat' first | assumption | exact (by assumption : BnL _ _) _ (by assumption) | exact (by assumption : BnR _ _) _ (by assumption) _ (by assumption) | exact BnL.at (by assumption) _ | exact BnL.at (BnR.at (by assumption) _) _ | exact BnL.at ((by assumption : BnR _ _) _ (by assumption)) _ | exact Bn.lit (by omega) | refine Bn.mul ?_ ?_ | refine Bn.add' ?_ ?_ | refine Bn.sub' ?_ ?_ | refine Bn.neg ?_ | refine Bn.fdiv ?_ _ | refine Bn.gcd' ?_ ?_)); first | decide | omega) | decide | (intro _ h; cases h))) [-List.map_map, -exs_cons, -exs_nil, -exs_wipe, -ex_asg, -ex_fld, -ex_fld2, -ex_retn, -ex_raise, -ex_raise0, -ex_try, -ex_par, -ex_setix, -ex_expr, -ex_ret, -ex_ifs, -ex_for, -ex_while, wipeM, hdGo, hxD, haD, haDs, List.lookup, isiF, tyD, isiT, iscF, attrF, methF, opmF, opOk, noX, lenB, mulO, divO, cmpD_eq, cmpD_ne, wp_pos, wp_neg, tst_pos, tst_neg, ifF_pos, ifF_neg, mtOk, rg1, rg2, rg3, Int.fmod_eq_emod_of_nonneg, w_k16_k14, w_k16_t14, eS3]
  by_cases h1 : r1 = 0
  · subst h1
    simp (maxSteps := 2000000) (disch := (first | assumption | omega | (simp only [dep_int, dep_bl, dep_non]; done) | (simp only [ds_len, mv_len, List.length_append, List.length_map, List.length_zip, List.length_range, List.length_cons, List.length_nil, enm_len, List.length_drop, List.length_take, List.length_set, List.length_flatMap]; omega) | (apply Bn.use; (focus (repeat' first | assumption | exact (by assumption : BnL _ _) _ (by assumption) | exact (by assumption : BnR _ _) _ (by assumption) _ (by assumption) | exact BnL.at (by assumption) _ | exact BnL.at (BnR.at (by assumption) _) _ | exact BnL.at ((by assumption : BnR _ _) _ (by assumption)) _ | exact Bn.lit (by omega) | refine Bn.mul ?_ ?_ | refine Bn.add' ?_ ?_ | refine Bn.sub' ?_ ?_ | refine Bn.neg ?_ | refine Bn.fdiv ?_ _ | refine Bn.gcd' ?_ ?_)); first | decide | omega) | decide | (intro _ h; cases h))) [-List.map_map, -exs_cons, -exs_nil, -exs_wipe, -ex_asg, -ex_fld, -ex_fld2, -ex_retn, -ex_raise, -ex_raise0, -ex_try, -ex_par, -ex_setix, -ex_expr, -ex_ret, -ex_ifs, -ex_for, -ex_while, wipeM, hdGo, hxD, haD, haDs, List.lookup, isiF, tyD, isiT, iscF, attrF, methF, opmF, opOk, noX, lenB, mulO, divO, cmpD_eq, cmpD_ne, wp_pos, wp_neg, tst_pos, tst_neg, ifF_pos, ifF_neg, mtOk, rg1, rg2, rg3, Int.fmod_eq_emod_of_nonneg, w_k16_k5, w_k16_t5]
    (refine A.table _ _ _ _ _ _ _ _ _ rfl (by assumption) (by omega) (by omega) (by omega) (by omega) (by omega) (by omega) (by omega) ?_; intro u3 w3 rs3 c_u3 u3_0 u3_1 w3_0 w3_1 rs3_l rs3_ok hc_u3)
    have T3 : Tb u3 w3 rs3 := tb_of u3_0 (by omega) rs3_ok (by omega) (by omega) w3_0 (by omega)
    have hE3 := rt_exp T3.r T3.ne T3.l4 T3.w1 T3.w2
    have bu3 : Bn 60 u3 := .mk (by omega)
    have hbE3 : Bn 60 (lowU u3 rs3) := bu3.fdiv _
    have hne : ¬ rs.length = rs3.length := by
      omega
    have e1 := A.exp false u w rs [c_u3] T.r T.ne T.l4 T.w1 (by omega)
    have e2 := A.exp false u3 w3 rs3 [c_u3] T3.r T3.ne T3.l4 T3.w1 (by omega)
    have e3 := A.told (lowU u rs) (lowU u3 rs3) w w3 (lowR u rs) (lowR u3 rs3) [c_u3] hE hE3 (hbE.mono (by decide)) (hbE3.mono (by decide))
    have e4 : bothD (lowU u rs) (lowU u3 rs3) w w3 (lowR u rs) (lowR u3 rs3) = .str (Str.ofString "mismatch") := by
      unfold bothD; rw [lowR_len, lowR_len, if_neg hne]
    rw [e4] at e3
    have e5 := A.shows u w rs [c_u3] T
    have e6 := A.shows u3 w3 rs3 [c_u3] T3
    simp (maxSteps := 2000000) (disch := (first | assumption | omega | (simp only [dep_int, dep_bl, dep_non]; done) | (simp only [ds_len, mv_len, List.length_append, List.length_map, List.length_zip, List.length_range, List.length_cons, List.length_nil, enm_len, List.length_drop, List.length_take, List.length_set, List.length_flatMap]; omega) | (apply Bn.use; (focus (repeat' first | assumption | exact (by assumption : BnL _ _) _ (by assumption) | exact (by assumption : BnR _ _) _ (by assumption) _ (by assumption) | exact BnL.at (by assumption) _ | exact BnL.at (BnR.at (by assumption) _) _ | exact BnL.at ((by assumption : BnR _ _) _ (by assumption)) _ | exact Bn.lit (by omega) | refine Bn.mul ?_ ?_ | refine Bn.add' ?_ ?_ | refine Bn.sub' ?_ ?_ | refine Bn.neg ?_ | refine Bn.fdiv ?_ _ | refine Bn.gcd' ?_ ?_)); first | decide | omega) | decide | (intro _ h; cases h))) [-List.map_map, -exs_cons, -exs_nil, -exs_wipe, -ex_asg, -ex_fld, -ex_fld2, -ex_retn, -ex_raise, -ex_raise0, -ex_try, -ex_par, -ex_setix, -ex_expr, -ex_ret, -ex_ifs, -ex_for, -ex_while, wipeM, hdGo, hxD, haD, haDs, List.lookup, isiF, tyD, isiT, iscF, attrF, methF, opmF, opOk, noX, lenB, mulO, divO, cmpD_eq, cmpD_ne, wp_pos, wp_neg, tst_pos, tst_neg, ifF_pos, ifF_neg, mtOk, rg1, rg2, rg3, Int.fmod_eq_emod_of_nonneg, w_k16_k6, w_k16_t6, e1, w_k16_k7, w_k16_t7, e2, w_k16_k8, w_k16_t8, w_k16_k9, w_k16_t9, w_k16_k10, w_k16_t10, e3, hm, e5, e6, w_k16_k11, w_k16_t11]
    by_cases h2 : r2 = 0
    · subst h2
      simp (maxSteps := 2000000) (disch := (first | assumption | omega | (simp only [dep_int, dep_bl, dep_non]; done) | (simp only [ds_len, mv_len, List.length_append, List.length_map, List.length_zip, List.length_range, List.length_cons, List.length_nil, enm_len, List.length_drop, List.length_take, List.length_set, List.length_flatMap]; omega) | (apply Bn.use; (focus (repeat' first | assumption | exact (by assumption : BnL _ _) _ (by assumption) | exact (by assumption : BnR _ _) _ (by assumption) _ (by assumption) | exact BnL.at (by assumption) _ | exact BnL.at (BnR.at (by assumption) _) _ | exact BnL.at ((by assumption : BnR _ _) _ (by assumption)) _ | exact Bn.lit (by omega) | refine Bn.mul ?_ ?_ | refine Bn.add' ?_ ?_ | refine Bn.sub' ?_ ?_ | refine Bn.neg ?_ | refine Bn.fdiv ?_ _ | refine Bn.gcd' ?_ ?_)); first | decide | omega) | decide | (intro _ h; cases h))) [-List.map_map, -exs_cons, -exs_nil, -exs_wipe, -ex_asg, -ex_fld, -ex_fld2, -ex_retn, -ex_raise, -ex_raise0, -ex_try, -ex_par, -ex_setix, -ex_expr, -ex_ret, -ex_ifs, -ex_for, -ex_while, wipeM, hdGo, hxD, haD, haDs, List.lookup, isiF, tyD, isiT, iscF, attrF, methF, opmF, opOk, noX, lenB, mulO, divO, cmpD_eq, cmpD_ne, wp_pos, wp_neg, tst_pos, tst_neg, ifF_pos, ifF_neg, mtOk, rg1, rg2, rg3, Int.fmod_eq_emod_of_nonneg]
      refine lc_map (fun _ : List Int => [(1 : Int), 0]) ?_ ?_
      · intro r hr
        simp (maxSteps := 2000000) (disch := (first | assumption | omega | (simp only [dep_int, dep_bl, dep_non]; done) | (simp only [ds_len, mv_len, List.length_append, List.length_map, List.length_zip, List.length_range, List.length_cons, List.length_nil, enm_len, List.length_drop, List.length_take, List.length_set, List.length_flatMap]; omega) | (apply Bn.use; (focus (repeat' first | assumption | exact (by assumption : BnL _ _) _ (by assumption) | exact (by assumption : BnR _ _) _ (by assumption) _ (by assumption) | exact BnL.at (by assumption) _ | exact BnL.at (BnR.at (by assumption) _) _ | exact BnL.at ((by assumption : BnR _ _) _ (by assumption)) _ | exact Bn.lit (by omega) | refine Bn.mul ?_ ?_ | refine Bn.add' ?_ ?_ | refine Bn.sub' ?_ ?_ | refine Bn.neg ?_ | refine Bn.fdiv ?_ _ | refine Bn.gcd' ?_ ?_)); first | decide | omega) | decide | (intro _ h; cases h))) [-List.map_map, -exs_cons, -exs_nil, -exs_wipe, -ex_asg, -ex_fld, -ex_fld2, -ex_retn, -ex_raise, -ex_raise0, -ex_try, -ex_par, -ex_setix, -ex_expr, -ex_ret, -ex_ifs, -ex_for, -ex_while, wipeM, hdGo, hxD, haD, haDs, List.lookup, isiF, tyD, isiT, iscF, attrF, methF, opmF, opOk, noX, lenB, mulO, divO, cmpD_eq, cmpD_ne, wp_pos, wp_neg, tst_pos, tst_neg, ifF_pos, ifF_neg, mtOk, rg1, rg2, rg3, Int.fmod_eq_emod_of_nonneg, stepE]
      · have R1 : Right 1 2 (rs.map fun _ => [(1 : Int), 0]) := ⟨by decide, (Bn.lit (by decide)).mono (by decide), fun r hr => by simp at hr; rw [← hr.2]; rfl, fun r hr z hz => by simp at hr; rw [← hr.2] at hz; simp at hz; omega, fun r hr => by simp at hr; rw [← hr.2]; rfl⟩
        have hne1 : (rs.map fun _ => [(1 : Int), 0]) ≠ [] := by simpa using T.ne
        have hl1 : (rs.map fun _ => [(1 : Int), 0]).length ≤ 4 := by simpa using T.l4
        have e7 := A.exp false 1 2 (rs.map fun _ => [(1 : Int), 0]) [c_u3] R1 hne1 hl1 (by decide) (by decide)
        have hEL := rt_exp R1 hne1 hl1 (by decide) (by decide)
        rw [lowU_one, lowR_one] at e7 hEL
        have e8 := A.again 1 2 (rs.map fun _ => [(1 : Int), 0]) 6 [c_u3] hEL (by decide) (.mk (by decide)) (by decide)
        rw [if_pos (by decide)] at e8
        obtain ⟨q, hq⟩ := agT_rt hEL (.mk (by decide)) 6 (by decide) (by decide)
        have e9 := A.told (agT 1 2 (rs.map fun _ => [(1 : Int), 0]) 6).1 (lowU u3 rs3) (agT 1 2 (rs.map fun _ => [(1 : Int), 0]) 6).2.1 w3 (agT 1 2 (rs.map fun _ => [(1 : Int), 0]) 6).2.2 (lowR u3 rs3) [c_u3] q hE3 (hq.mono (by decide)) (hbE3.mono (by decide))
        have e10 : bothD (agT 1 2 (rs.map fun _ => [(1 : Int), 0]) 6).1 (lowU u3 rs3) (agT 1 2 (rs.map fun _ => [(1 : Int), 0]) 6).2.1 w3 (agT 1 2 (rs.map fun _ => [(1 : Int), 0]) 6).2.2 (lowR u3 rs3) = .str (Str.ofString "mismatch") := by
          unfold bothD; rw [lowR_len, agT_len, List.length_map, if_neg hne]
        rw [e10] at e9
        have e8' : callD (C "again") [exI 1 2 (rs.map fun _ => [(1 : Int), 0]), .int 6] [c_u3] = _ := e8
        generalize agT 1 2 (rs.map fun _ => [(1 : Int), 0]) 6 = z at *
        simp (maxSteps := 2000000) (disch := (first | assumption | omega | (simp only [dep_int, dep_bl, dep_non]; done) | (simp only [ds_len, mv_len, List.length_append, List.length_map, List.length_zip, List.length_range, List.length_cons, List.length_nil, enm_len, List.length_drop, List.length_take, List.length_set, List.length_flatMap]; omega) | (apply Bn.use; (focus (repeat' first | assumption | exact (by assumption : BnL _ _) _ (by assumption) | exact (by assumption : BnR _ _) _ (by assumption) _ (by assumption) | exact BnL.at (by assumption) _ | exact BnL.at (BnR.at (by assumption) _) _ | exact BnL.at ((by assumption : BnR _ _) _ (by assumption)) _ | exact Bn.lit (by omega) | refine Bn.mul ?_ ?_ | refine Bn.add' ?_ ?_ | refine Bn.sub' ?_ ?_ | refine Bn.neg ?_ | refine Bn.fdiv ?_ _ | refine Bn.gcd' ?_ ?_)); first | decide | omega) | decide | (intro _ h; cases h))) [-List.map_map, -exs_cons, -exs_nil, -exs_wipe, -ex_asg, -ex_fld, -ex_fld2, -ex_retn, -ex_raise, -ex_raise0, -ex_try, -ex_par, -ex_setix, -ex_expr, -ex_ret, -ex_ifs, -ex_for, -ex_while, wipeM, hdGo, hxD, haD, haDs, List.lookup, isiF, tyD, isiT, iscF, attrF, methF, opmF, opOk, noX, lenB, mulO, divO, cmpD_eq, cmpD_ne, wp_pos, wp_neg, tst_pos, tst_neg, ifF_pos, ifF_neg, mtOk, rg1, rg2, rg3, Int.fmod_eq_emod_of_nonneg, e7, e8', e9, hm, w_k16_k12, w_k16_t12]
        exact tl _ _ _ _ _ _ _ _ _ _ hc_u3 (by omega) u3_0 u3_1 w3_0 w3_1 T3
    · simp (maxSteps := 2000000) (disch := (first | assumption | omega | (simp only [dep_int, dep_bl, dep_non]; done) | (simp only [ds_len, mv_len, List.length_append, List.length_map, List.length_zip, List.length_range, List.length_cons, List.length_nil, enm_len, List.length_drop, List.length_take, List.length_set, List.length_flatMap]; omega) | (apply Bn.use; (focus (repeat' first | assumption | exact (by assumption : BnL _ _) _ (by assumption) | exact (by assumption : BnR _ _) _ (by assumption) _ (by assumption) | exact BnL.at (by assumption) _ | exact BnL.at (BnR.at (by assumption) _) _ | exact BnL.at ((by assumption : BnR _ _) _ (by assumption)) _ | exact Bn.lit (by omega) | refine Bn.mul ?_ ?_ | refine Bn.add' ?_ ?_ | refine Bn.sub' ?_ ?_ | refine Bn.neg ?_ | refine Bn.fdiv ?_ _ | refine Bn.gcd' ?_ ?_)); first | decide | omega) | decide | (intro _ h; cases h))) [-List.map_map, -exs_cons, -exs_nil, -exs_wipe, -ex_asg, -ex_fld, -ex_fld2, -ex_retn, -ex_raise, -ex_raise0, -ex_try, -ex_par, -ex_setix, -ex_expr, -ex_ret, -ex_ifs, -ex_for, -ex_while, wipeM, hdGo, hxD, haD, haDs, List.lookup, isiF, tyD, isiT, iscF, attrF, methF, opmF, opOk, noX, lenB, mulO, divO, cmpD_eq, cmpD_ne, wp_pos, wp_neg, tst_pos, tst_neg, ifF_pos, ifF_neg, mtOk, rg1, rg2, rg3, Int.fmod_eq_emod_of_nonneg, h2, w_k16_k12, w_k16_t12]
      exact tl _ _ _ _ _ _ _ _ _ _ hc_u3 (by omega) u3_0 u3_1 w3_0 w3_1 T3
  · have T2 : Tb u2 w2 rs2 := tb_of u2_0 (by omega) rs2_ok (by omega) (by omega) w2_0 (by omega)
    have hE2 := rt_exp T2.r T2.ne T2.l4 T2.w1 T2.w2
    have bu2 : Bn 60 u2 := .mk (by omega)
    have hbE2 : Bn 60 (lowU u2 rs2) := bu2.fdiv _
    have hlen : rs.length = rs2.length := by omega
    have hww : w * w2 ≤ 36 := Nat.mul_le_mul (show w ≤ 6 by omega) (show w2 ≤ 6 by omega)
    have hwwI : (w : Int) * w2 ≤ 64 := by have : ((w * w2 : Nat) : Int) ≤ 36 := by omega
                                          rw [Int.natCast_mul] at this; omega
    have e1 := A.exp false u w rs [c_u2] T.r T.ne T.l4 T.w1 (by omega)
    have e2 := A.exp false u2 w2 rs2 [c_u2] T2.r T2.ne T2.l4 T2.w1 (by omega)
    have e3 := A.told (lowU u rs) (lowU u2 rs2) w w2 (lowR u rs) (lowR u2 rs2) [c_u2] hE hE2 (hbE.mono (by decide)) (hbE2.mono (by decide))
    have lp := low_prod2 (rs := rs) (rs' := rs2) u_0 u2_0
    have e4 : bothD (lowU u rs) (lowU u2 rs2) w w2 (lowR u rs) (lowR u2 rs2) = .lst false [.int (lowU (u * u2) (prodR rs rs2)), .lst false (ds (lowR (u * u2) (prodR rs rs2)))] := by
      unfold bothD; rw [lowR_len, lowR_len, if_pos hlen, if_pos hwwI, lp.1, lp.2]
    rw [e4] at e3
    have e5 := A.shows u w rs [c_u2] T
    have e6 := A.shows u2 w2 rs2 [c_u2] T2
    have e7 := A.pairs u u2 w w2 rs rs2 [c_u2] hlen T.l4 T.r T2.r (by omega) (by omega) (by omega) (bu.mono (by decide)) (bu2.mono (by decide))
    have hk : RpE.k (List Int) ≤ 6 := by decide
    simp (maxSteps := 2000000) (disch := (first | assumption | omega | (simp only [dep_int, dep_bl, dep_non]; done) | (simp only [ds_len, mv_len, List.length_append, List.length_map, List.length_zip, List.length_range, List.length_cons, List.length_nil, enm_len, List.length_drop, List.length_take, List.length_set, List.length_flatMap]; omega) | (apply Bn.use; (focus (repeat' first | assumption | exact (by assumption : BnL _ _) _ (by assumption) | exact (by assumption : BnR _ _) _ (by assumption) _ (by assumption) | exact BnL.at (by assumption) _ | exact BnL.at (BnR.at (by assumption) _) _ | exact BnL.at ((by assumption : BnR _ _) _ (by assumption)) _ | exact Bn.lit (by omega) | refine Bn.mul ?_ ?_ | refine Bn.add' ?_ ?_ | refine Bn.sub' ?_ ?_ | refine Bn.neg ?_ | refine Bn.fdiv ?_ _ | refine Bn.gcd' ?_ ?_)); first | decide | omega) | decide | (intro _ h; cases h))) [-List.map_map, -exs_cons, -exs_nil, -exs_wipe, -ex_asg, -ex_fld, -ex_fld2, -ex_retn, -ex_raise, -ex_raise0, -ex_try, -ex_par, -ex_setix, -ex_expr, -ex_ret, -ex_ifs, -ex_for, -ex_while, wipeM, hdGo, hxD, haD, haDs, List.lookup, isiF, tyD, isiT, iscF, attrF, methF, opmF, opOk, noX, lenB, mulO, divO, cmpD_eq, cmpD_ne, wp_pos, wp_neg, tst_pos, tst_neg, ifF_pos, ifF_neg, mtOk, rg1, rg2, rg3, Int.fmod_eq_emod_of_nonneg, h1, w_k16_k5, w_k16_t5, w_k16_k6, w_k16_t6, e1, w_k16_k7, w_k16_t7, e2, w_k16_k8, w_k16_t8, w_k16_k9, w_k16_t9, w_k16_k10, w_k16_t10, e3, e7, e5, e6, hk, w_k16_k11, w_k16_t11]
    by_cases h2 : r2 = 0
    · subst h2
      have RP := right_prod T.r T2.r (((bu.mul bu2).mono (by decide)))
      have hpn : prodR rs rs2 ≠ [] := by
        intro z
        have := congrArg List.length z
        rw [prod_len hlen] at this
        simp at this; exact T.ne this
      have hpl : (prodR rs rs2).length ≤ 4 := by rw [prod_len hlen]; exact T.l4
      have hEL := rt_exp RP hpn hpl (Nat.mul_pos T.w1 T2.w1) (by omega)
      have bL : Bn 120 (lowU (u * u2) (prodR rs rs2)) := (bu.mul bu2).fdiv _
      have e8 := A.both (lowU u rs) (lowU u2 rs2) w w2 (lowR u rs) (lowR u2 rs2) [c_u2] hE hE2 (hbE.mono (by decide)) (hbE2.mono (by decide))
      rw [lowR_len, lowR_len, if_pos hlen, if_pos hwwI, ← lp.1, ← lp.2] at e8
      have e9 := A.told (lowU (u * u2) (prodR rs rs2)) (lowU u rs) (w * w2) w (lowR (u * u2) (prodR rs rs2)) (lowR u rs) [c_u2] hEL hE (bL.mono (by decide)) (hbE.mono (by decide))
      have e10 := A.of (lowU (u * u2) (prodR rs rs2)) (w * w2) (lowR (u * u2) (prodR rs rs2)) [c_u2] (by rw [lowR_len]; omega) (fun r hr => by rw [hEL.r.wide r hr]; omega)
      have hL := prod_len (R := lowR (u * u2) (prodR rs rs2)) (R' := rs) (by rw [lowR_len, prod_len hlen])
      have hl2 : (lowR (u * u2) (prodR rs rs2)).length = (lowR u rs).length := by rw [lowR_len, lowR_len, prod_len hlen]
      have mm : mulOk ((w : Int) * w2) w = true := mulO ((Bn.lit (by rw [← Int.natCast_mul]; omega)).mono (by decide)) ((Bn.lit (by omega)).mono (by decide))
      have lq := low_prod (x := lowU (u * u2) (prodR rs rs2)) (Q := lowR (u * u2) (prodR rs rs2)) (rs := rs) hEL.r.u1 u_0
      generalize hz1 : lowU (u * u2) (prodR rs rs2) = z1 at *
      generalize hz2 : lowR (u * u2) (prodR rs rs2) = z2 at *
      by_cases h3 : (w : Int) * w2 * w ≤ 64
      · have h3n : w * w2 * w ≤ 64 := by have : ((w * w2 * w : Nat) : Int) ≤ 64 := by rw [Int.natCast_mul, Int.natCast_mul]; exact h3
                                         omega
        have e11 := A.pairs z1 u (w * w2) w z2 rs [c_u2] (by rw [hl2, lowR_len]) hEL.l4 hEL.r T.r (by omega) (by omega) h3n (bL.mono (by decide)) (bu.mono (by decide))
        have e12 : bothD z1 (lowU u rs) (w * w2) w z2 (lowR u rs) = .lst false [.int (lowU (z1 * u) (prodR z2 rs)), .lst false (ds (lowR (z1 * u) (prodR z2 rs)))] := by
          unfold bothD; rw [if_pos hl2, if_pos (by rw [Int.natCast_mul]; exact h3), lq.1, lq.2]
        rw [e12] at e9
        simp (maxSteps := 2000000) (disch := (first | assumption | omega | (simp only [dep_int, dep_bl, dep_non]; done) | (simp only [ds_len, mv_len, List.length_append, List.length_map, List.length_zip, List.length_range, List.length_cons, List.length_nil, enm_len, List.length_drop, List.length_take, List.length_set, List.length_flatMap]; omega) | (apply Bn.use; (focus (repeat' first | assumption | exact (by assumption : BnL _ _) _ (by assumption) | exact (by assumption : BnR _ _) _ (by assumption) _ (by assumption) | exact BnL.at (by assumption) _ | exact BnL.at (BnR.at (by assumption) _) _ | exact BnL.at ((by assumption : BnR _ _) _ (by assumption)) _ | exact Bn.lit (by omega) | refine Bn.mul ?_ ?_ | refine Bn.add' ?_ ?_ | refine Bn.sub' ?_ ?_ | refine Bn.neg ?_ | refine Bn.fdiv ?_ _ | refine Bn.gcd' ?_ ?_)); first | decide | omega) | decide | (intro _ h; cases h))) [-List.map_map, -exs_cons, -exs_nil, -exs_wipe, -ex_asg, -ex_fld, -ex_fld2, -ex_retn, -ex_raise, -ex_raise0, -ex_try, -ex_par, -ex_setix, -ex_expr, -ex_ret, -ex_ifs, -ex_for, -ex_while, wipeM, hdGo, hxD, haD, haDs, List.lookup, isiF, tyD, isiT, iscF, attrF, methF, opmF, opOk, noX, lenB, mulO, divO, cmpD_eq, cmpD_ne, wp_pos, wp_neg, tst_pos, tst_neg, ifF_pos, ifF_neg, mtOk, rg1, rg2, rg3, Int.fmod_eq_emod_of_nonneg, w_k16_k12, w_k16_t12, e8, l0, mm, h3, e10, e11, e9, hk]
        exact tl _ _ _ _ _ _ _ _ _ _ hc_u2 (by omega) u2_0 u2_1 w2_0 w2_1 T2
      · have e12 : bothD z1 (lowU u rs) (w * w2) w z2 (lowR u rs) = .lst false [.str (Str.ofString "many"), .int ((w : Int) * w2 * w)] := by
          unfold bothD; rw [if_pos hl2, if_neg (by rw [Int.natCast_mul]; exact h3), Int.natCast_mul]
        rw [e12] at e9
        have s2 : PyData.strOk (Str.ofString "many") = true := by decide +kernel
        simp (maxSteps := 2000000) (disch := (first | assumption | omega | (simp only [dep_int, dep_bl, dep_non]; done) | (simp only [ds_len, mv_len, List.length_append, List.length_map, List.length_zip, List.length_range, List.length_cons, List.length_nil, enm_len, List.length_drop, List.length_take, List.length_set, List.length_flatMap]; omega) | (apply Bn.use; (focus (repeat' first | assumption | exact (by assumption : BnL _ _) _ (by assumption) | exact (by assumption : BnR _ _) _ (by assumption) _ (by assumption) | exact BnL.at (by assumption) _ | exact BnL.at (BnR.at (by assumption) _) _ | exact BnL.at ((by assumption : BnR _ _) _ (by assumption)) _ | exact Bn.lit (by omega) | refine Bn.mul ?_ ?_ | refine Bn.add' ?_ ?_ | refine Bn.sub' ?_ ?_ | refine Bn.neg ?_ | refine Bn.fdiv ?_ _ | refine Bn.gcd' ?_ ?_)); first | decide | omega) | decide | (intro _ h; cases h))) [-List.map_map, -exs_cons, -exs_nil, -exs_wipe, -ex_asg, -ex_fld, -ex_fld2, -ex_retn, -ex_raise, -ex_raise0, -ex_try, -ex_par, -ex_setix, -ex_expr, -ex_ret, -ex_ifs, -ex_for, -ex_while, wipeM, hdGo, hxD, haD, haDs, List.lookup, isiF, tyD, isiT, iscF, attrF, methF, opmF, opOk, noX, lenB, mulO, divO, cmpD_eq, cmpD_ne, wp_pos, wp_neg, tst_pos, tst_neg, ifF_pos, ifF_neg, mtOk, rg1, rg2, rg3, Int.fmod_eq_emod_of_nonneg, w_k16_k12, w_k16_t12, e8, l0, mm, h3, e9, dep_str, s2]
        exact tl _ _ _ _ _ _ _ _ _ _ hc_u2 (by omega) u2_0 u2_1 w2_0 w2_1 T2
    · simp (maxSteps := 2000000) (disch := (first | assumption | omega | (simp only [dep_int, dep_bl, dep_non]; done) | (simp only [ds_len, mv_len, List.length_append, List.length_map, List.length_zip, List.length_range, List.length_cons, List.length_nil, enm_len, List.length_drop, List.length_take, List.length_set, List.length_flatMap]; omega) | (apply Bn.use; (focus (repeat' first | assumption | exact (by assumption : BnL _ _) _ (by assumption) | exact (by assumption : BnR _ _) _ (by assumption) _ (by assumption) | exact BnL.at (by assumption) _ | exact BnL.at (BnR.at (by assumption) _) _ | exact BnL.at ((by assumption : BnR _ _) _ (by assumption)) _ | exact Bn.lit (by omega) | refine Bn.mul ?_ ?_ | refine Bn.add' ?_ ?_ | refine Bn.sub' ?_ ?_ | refine Bn.neg ?_ | refine Bn.fdiv ?_ _ | refine Bn.gcd' ?_ ?_)); first | decide | omega) | decide | (intro _ h; cases h))) [-List.map_map, -exs_cons, -exs_nil, -exs_wipe, -ex_asg, -ex_fld, -ex_fld2, -ex_retn, -ex_raise, -ex_raise0, -ex_try, -ex_par, -ex_setix, -ex_expr, -ex_ret, -ex_ifs, -ex_for, -ex_while, wipeM, hdGo, hxD, haD, haDs, List.lookup, isiF, tyD, isiT, iscF, attrF, methF, opmF, opOk, noX, lenB, mulO, divO, cmpD_eq, cmpD_ne, wp_pos, wp_neg, tst_pos, tst_neg, ifF_pos, ifF_neg, mtOk, rg1, rg2, rg3, Int.fmod_eq_emod_of_nonneg, h2, w_k16_k12, w_k16_t12]
      exact tl _ _ _ _ _ _ _ _ _ _ hc_u2 (by omega) u2_0 u2_1 w2_0 w2_1 T2
end Mi
namespace Mi
open PySem L2 PyProof.Rows
/-! ### law_k16_both_and_again: the text, printed by gen3.py -/
def progL : List (String × Df) := [("is_integer", d_is_integer), ("divisor", d_divisor), ("lowest", d_lowest), ("ratio", d_ratio), ("is_number_of", d_is_number_of), ("check_unit", d_check_unit), ("check_rows", d_check_rows), ("in_lowest_terms", d_in_lowest_terms), ("Experiment.__init__", d_Experiment__init), ("Experiment.rows", d_Experiment_rows), ("Experiment.__len__", d_Experiment__len), ("Experiment.__getitem__", d_Experiment__getitem), ("Experiment.__eq__", d_Experiment__eq), ("check_same_states", d_check_same_states), ("check_states", d_check_states), ("uninformative", d_uninformative), ("check_count", d_check_count), ("pairs", d_pairs), ("both", d_both), ("again", d_again), ("_law_pool", l_pool), ("_law_take", l_take), ("_law_is_number", l_is_number), ("_law_divisor", l_divisor), ("_law_lowest", l_lowest_2), ("_law_row", l_row), ("_law_rows", l_rows), ("_law_table", l_table), ("_law_shows", l_shows), ("_law_of", l_of), ("_law_pairs", l_pairs), ("_law_told", l_told), ("_law_again", l_again), ("_law_due", l_due), ("law", w_k16)]
def prog : String → Option Df := Prog progL
def fns : Tx := { fs := ["is_integer", "divisor", "lowest", "ratio", "is_number_of", "check_unit", "check_rows", "in_lowest_terms", "check_same_states", "check_states", "uninformative", "check_count", "pairs", "both", "again", "_law_pool", "_law_take", "_law_is_number", "_law_divisor", "_law_lowest", "_law_row", "_law_rows", "_law_table", "_law_shows", "_law_of", "_law_pairs", "_law_told", "_law_again", "_law_due", "law"], gl := [("MOST_SIGNALS", 64), ("MOST_STATES", 4), ("MOST_TIMES", 6)], gt := [], df := [], sw := [], xf := [("BadRatio", "bottom"), ("BadRow", "index"), ("BadSize", "size"), ("BadTimes", "times"), ("BadUnit", "unit"), ("NoSignal", "signal"), ("NoState", "state"), ("TooMany", "count")], x0 := ["Mismatch"], xm := [("BadRatio", "BadTimes", false), ("BadRatio", "Mismatch", false), ("BadRatio", "TooMany", false), ("BadRow", "BadTimes", false), ("BadRow", "Mismatch", false), ("BadRow", "TooMany", false), ("BadSize", "BadTimes", false), ("BadSize", "Mismatch", false), ("BadSize", "TooMany", false), ("BadTimes", "BadTimes", true), ("BadTimes", "Mismatch", false), ("BadTimes", "TooMany", false), ("BadUnit", "BadTimes", false), ("BadUnit", "Mismatch", false), ("BadUnit", "TooMany", false), ("Mismatch", "BadTimes", false), ("Mismatch", "Mismatch", true), ("Mismatch", "TooMany", false), ("NoSignal", "BadTimes", false), ("NoSignal", "Mismatch", false), ("NoSignal", "TooMany", false), ("NoState", "BadTimes", false), ("NoState", "Mismatch", false), ("NoState", "TooMany", false), ("TooMany", "BadTimes", false), ("TooMany", "Mismatch", false), ("TooMany", "TooMany", true)], hg := [], cls := ["Experiment"], ms := [("Experiment", "rows")], pr := [], nw := ["Experiment"], fld := ["grid", "signals", "states", "unit"] }
def clss : List String := ["Experiment"]
def topS (i : Nat) : Stmt := PySem.Challenge.pw_everydecider_k16_both_and_again.main.body.getD i (.Pass ⟨0, 0, 0, 0⟩)
abbrev s_d_is_integer : Stmt := topS 12
theorem sc_d_is_integer : FnScope (d_is_integer.names.map Str.ofString) ((d_is_integer.names.take d_is_integer.np).map Str.ofString) (defScope s_d_is_integer) := ⟨rfl, rfl, rfl, by decide +kernel, by decide +kernel, by decide +kernel, by decide +kernel⟩
theorem same_d_is_integer : sameB fns (d_is_integer.names.map Str.ofString) (defScope s_d_is_integer) d_is_integer.body (defBody s_d_is_integer) = true := by decide +kernel
abbrev s_d_divisor : Stmt := topS 13
theorem sc_d_divisor : FnScope (d_divisor.names.map Str.ofString) ((d_divisor.names.take d_divisor.np).map Str.ofString) (defScope s_d_divisor) := ⟨rfl, rfl, rfl, by decide +kernel, by decide +kernel, by decide +kernel, by decide +kernel⟩
theorem same_d_divisor : sameB fns (d_divisor.names.map Str.ofString) (defScope s_d_divisor) d_divisor.body (defBody s_d_divisor) = true := by decide +kernel
abbrev s_d_lowest : Stmt := topS 14
theorem sc_d_lowest : FnScope (d_lowest.names.map Str.ofString) ((d_lowest.names.take d_lowest.np).map Str.ofString) (defScope s_d_lowest) := ⟨rfl, rfl, rfl, by decide +kernel, by decide +kernel, by decide +kernel, by decide +kernel⟩
theorem same_d_lowest : sameB fns (d_lowest.names.map Str.ofString) (defScope s_d_lowest) d_lowest.body (defBody s_d_lowest) = true := by decide +kernel
abbrev s_d_ratio : Stmt := topS 15
theorem sc_d_ratio : FnScope (d_ratio.names.map Str.ofString) ((d_ratio.names.take d_ratio.np).map Str.ofString) (defScope s_d_ratio) := ⟨rfl, rfl, rfl, by decide +kernel, by decide +kernel, by decide +kernel, by decide +kernel⟩
theorem same_d_ratio : sameB fns (d_ratio.names.map Str.ofString) (defScope s_d_ratio) d_ratio.body (defBody s_d_ratio) = true := by decide +kernel
abbrev s_d_is_number_of : Stmt := topS 18
theorem sc_d_is_number_of : FnScope (d_is_number_of.names.map Str.ofString) ((d_is_number_of.names.take d_is_number_of.np).map Str.ofString) (defScope s_d_is_number_of) := ⟨rfl, rfl, rfl, by decide +kernel, by decide +kernel, by decide +kernel, by decide +kernel⟩
theorem same_d_is_number_of : sameB fns (d_is_number_of.names.map Str.ofString) (defScope s_d_is_number_of) d_is_number_of.body (defBody s_d_is_number_of) = true := by decide +kernel
abbrev s_d_check_unit : Stmt := topS 19
theorem sc_d_check_unit : FnScope (d_check_unit.names.map Str.ofString) ((d_check_unit.names.take d_check_unit.np).map Str.ofString) (defScope s_d_check_unit) := ⟨rfl, rfl, rfl, by decide +kernel, by decide +kernel, by decide +kernel, by decide +kernel⟩
theorem same_d_check_unit : sameB fns (d_check_unit.names.map Str.ofString) (defScope s_d_check_unit) d_check_unit.body (defBody s_d_check_unit) = true := by decide +kernel
abbrev s_d_check_rows : Stmt := topS 20
theorem sc_d_check_rows : FnScope (d_check_rows.names.map Str.ofString) ((d_check_rows.names.take d_check_rows.np).map Str.ofString) (defScope s_d_check_rows) := ⟨rfl, rfl, rfl, by decide +kernel, by decide +kernel, by decide +kernel, by decide +kernel⟩
theorem same_d_check_rows : sameB fns (d_check_rows.names.map Str.ofString) (defScope s_d_check_rows) d_check_rows.body (defBody s_d_check_rows) = true := by decide +kernel
abbrev s_d_in_lowest_terms : Stmt := topS 21
theorem sc_d_in_lowest_terms : FnScope (d_in_lowest_terms.names.map Str.ofString) ((d_in_lowest_terms.names.take d_in_lowest_terms.np).map Str.ofString) (defScope s_d_in_lowest_terms) := ⟨rfl, rfl, rfl, by decide +kernel, by decide +kernel, by decide +kernel, by decide +kernel⟩
theorem same_d_in_lowest_terms : sameB fns (d_in_lowest_terms.names.map Str.ofString) (defScope s_d_in_lowest_terms) d_in_lowest_terms.body (defBody s_d_in_lowest_terms) = true := by decide +kernel
abbrev s_d_Experiment__init : Stmt := methS 0 (topS 22)
theorem sc_d_Experiment__init : FnScope (d_Experiment__init.names.map Str.ofString) ((d_Experiment__init.names.take d_Experiment__init.np).map Str.ofString) (defScope s_d_Experiment__init) := ⟨rfl, rfl, rfl, by decide +kernel, by decide +kernel, by decide +kernel, by decide +kernel⟩
theorem same_d_Experiment__init : sameB fns (d_Experiment__init.names.map Str.ofString) (defScope s_d_Experiment__init) d_Experiment__init.body (defBody s_d_Experiment__init) = true := by decide +kernel
abbrev s_d_Experiment_rows : Stmt := methS 1 (topS 22)
theorem sc_d_Experiment_rows : FnScope (d_Experiment_rows.names.map Str.ofString) ((d_Experiment_rows.names.take d_Experiment_rows.np).map Str.ofString) (defScope s_d_Experiment_rows) := ⟨rfl, rfl, rfl, by decide +kernel, by decide +kernel, by decide +kernel, by decide +kernel⟩
theorem same_d_Experiment_rows : sameB fns (d_Experiment_rows.names.map Str.ofString) (defScope s_d_Experiment_rows) d_Experiment_rows.body (defBody s_d_Experiment_rows) = true := by decide +kernel
abbrev s_d_Experiment__len : Stmt := methS 2 (topS 22)
theorem sc_d_Experiment__len : FnScope (d_Experiment__len.names.map Str.ofString) ((d_Experiment__len.names.take d_Experiment__len.np).map Str.ofString) (defScope s_d_Experiment__len) := ⟨rfl, rfl, rfl, by decide +kernel, by decide +kernel, by decide +kernel, by decide +kernel⟩
theorem same_d_Experiment__len : sameB fns (d_Experiment__len.names.map Str.ofString) (defScope s_d_Experiment__len) d_Experiment__len.body (defBody s_d_Experiment__len) = true := by decide +kernel
abbrev s_d_Experiment__getitem : Stmt := methS 4 (topS 22)
theorem sc_d_Experiment__getitem : FnScope (d_Experiment__getitem.names.map Str.ofString) ((d_Experiment__getitem.names.take d_Experiment__getitem.np).map Str.ofString) (defScope s_d_Experiment__getitem) := ⟨rfl, rfl, rfl, by decide +kernel, by decide +kernel, by decide +kernel, by decide +kernel⟩
theorem same_d_Experiment__getitem : sameB fns (d_Experiment__getitem.names.map Str.ofString) (defScope s_d_Experiment__getitem) d_Experiment__getitem.body (defBody s_d_Experiment__getitem) = true := by decide +kernel
abbrev s_d_Experiment__eq : Stmt := methS 5 (topS 22)
theorem sc_d_Experiment__eq : FnScope (d_Experiment__eq.names.map Str.ofString) ((d_Experiment__eq.names.take d_Experiment__eq.np).map Str.ofString) (defScope s_d_Experiment__eq) := ⟨rfl, rfl, rfl, by decide +kernel, by decide +kernel, by decide +kernel, by decide +kernel⟩
theorem same_d_Experiment__eq : sameB fns (d_Experiment__eq.names.map Str.ofString) (defScope s_d_Experiment__eq) d_Experiment__eq.body (defBody s_d_Experiment__eq) = true := by decide +kernel
abbrev s_d_check_same_states : Stmt := topS 23
theorem sc_d_check_same_states : FnScope (d_check_same_states.names.map Str.ofString) ((d_check_same_states.names.take d_check_same_states.np).map Str.ofString) (defScope s_d_check_same_states) := ⟨rfl, rfl, rfl, by decide +kernel, by decide +kernel, by decide +kernel, by decide +kernel⟩
theorem same_d_check_same_states : sameB fns (d_check_same_states.names.map Str.ofString) (defScope s_d_check_same_states) d_check_same_states.body (defBody s_d_check_same_states) = true := by decide +kernel
abbrev s_d_check_states : Stmt := topS 24
theorem sc_d_check_states : FnScope (d_check_states.names.map Str.ofString) ((d_check_states.names.take d_check_states.np).map Str.ofString) (defScope s_d_check_states) := ⟨rfl, rfl, rfl, by decide +kernel, by decide +kernel, by decide +kernel, by decide +kernel⟩
theorem same_d_check_states : sameB fns (d_check_states.names.map Str.ofString) (defScope s_d_check_states) d_check_states.body (defBody s_d_check_states) = true := by decide +kernel
abbrev s_d_uninformative : Stmt := topS 25
theorem sc_d_uninformative : FnScope (d_uninformative.names.map Str.ofString) ((d_uninformative.names.take d_uninformative.np).map Str.ofString) (defScope s_d_uninformative) := ⟨rfl, rfl, rfl, by decide +kernel, by decide +kernel, by decide +kernel, by decide +kernel⟩
theorem same_d_uninformative : sameB fns (d_uninformative.names.map Str.ofString) (defScope s_d_uninformative) d_uninformative.body (defBody s_d_uninformative) = true := by decide +kernel
abbrev s_d_check_count : Stmt := topS 29
theorem sc_d_check_count : FnScope (d_check_count.names.map Str.ofString) ((d_check_count.names.take d_check_count.np).map Str.ofString) (defScope s_d_check_count) := ⟨rfl, rfl, rfl, by decide +kernel, by decide +kernel, by decide +kernel, by decide +kernel⟩
theorem same_d_check_count : sameB fns (d_check_count.names.map Str.ofString) (defScope s_d_check_count) d_check_count.body (defBody s_d_check_count) = true := by decide +kernel
abbrev s_d_pairs : Stmt := topS 30
theorem sc_d_pairs : FnScope (d_pairs.names.map Str.ofString) ((d_pairs.names.take d_pairs.np).map Str.ofString) (defScope s_d_pairs) := ⟨rfl, rfl, rfl, by decide +kernel, by decide +kernel, by decide +kernel, by decide +kernel⟩
theorem same_d_pairs : sameB fns (d_pairs.names.map Str.ofString) (defScope s_d_pairs) d_pairs.body (defBody s_d_pairs) = true := by decide +kernel
abbrev s_d_both : Stmt := topS 31
theorem sc_d_both : FnScope (d_both.names.map Str.ofString) ((d_both.names.take d_both.np).map Str.ofString) (defScope s_d_both) := ⟨rfl, rfl, rfl, by decide +kernel, by decide +kernel, by decide +kernel, by decide +kernel⟩
theorem same_d_both : sameB fns (d_both.names.map Str.ofString) (defScope s_d_both) d_both.body (defBody s_d_both) = true := by decide +kernel
abbrev s_d_again : Stmt := topS 32
theorem sc_d_again : FnScope (d_again.names.map Str.ofString) ((d_again.names.take d_again.np).map Str.ofString) (defScope s_d_again) := ⟨rfl, rfl, rfl, by decide +kernel, by decide +kernel, by decide +kernel, by decide +kernel⟩
theorem same_d_again : sameB fns (d_again.names.map Str.ofString) (defScope s_d_again) d_again.body (defBody s_d_again) = true := by decide +kernel
abbrev s_l_pool : Stmt := topS 34
theorem sc_l_pool : FnScope (l_pool.names.map Str.ofString) ((l_pool.names.take l_pool.np).map Str.ofString) (defScope s_l_pool) := ⟨rfl, rfl, rfl, by decide +kernel, by decide +kernel, by decide +kernel, by decide +kernel⟩
theorem same_l_pool : sameB fns (l_pool.names.map Str.ofString) (defScope s_l_pool) l_pool.body (defBody s_l_pool) = true := by decide +kernel
abbrev s_l_take : Stmt := topS 35
theorem sc_l_take : FnScope (l_take.names.map Str.ofString) ((l_take.names.take l_take.np).map Str.ofString) (defScope s_l_take) := ⟨rfl, rfl, rfl, by decide +kernel, by decide +kernel, by decide +kernel, by decide +kernel⟩
theorem same_l_take : sameB fns (l_take.names.map Str.ofString) (defScope s_l_take) l_take.body (defBody s_l_take) = true := by decide +kernel
abbrev s_l_is_number : Stmt := topS 36
theorem sc_l_is_number : FnScope (l_is_number.names.map Str.ofString) ((l_is_number.names.take l_is_number.np).map Str.ofString) (defScope s_l_is_number) := ⟨rfl, rfl, rfl, by decide +kernel, by decide +kernel, by decide +kernel, by decide +kernel⟩
theorem same_l_is_number : sameB fns (l_is_number.names.map Str.ofString) (defScope s_l_is_number) l_is_number.body (defBody s_l_is_number) = true := by decide +kernel
abbrev s_l_divisor : Stmt := topS 37
theorem sc_l_divisor : FnScope (l_divisor.names.map Str.ofString) ((l_divisor.names.take l_divisor.np).map Str.ofString) (defScope s_l_divisor) := ⟨rfl, rfl, rfl, by decide +kernel, by decide +kernel, by decide +kernel, by decide +kernel⟩
theorem same_l_divisor : sameB fns (l_divisor.names.map Str.ofString) (defScope s_l_divisor) l_divisor.body (defBody s_l_divisor) = true := by decide +kernel
abbrev s_l_lowest_2 : Stmt := topS 38
theorem sc_l_lowest_2 : FnScope (l_lowest_2.names.map Str.ofString) ((l_lowest_2.names.take l_lowest_2.np).map Str.ofString) (defScope s_l_lowest_2) := ⟨rfl, rfl, rfl, by decide +kernel, by decide +kernel, by decide +kernel, by decide +kernel⟩
theorem same_l_lowest_2 : sameB fns (l_lowest_2.names.map Str.ofString) (defScope s_l_lowest_2) l_lowest_2.body (defBody s_l_lowest_2) = true := by decide +kernel
abbrev s_l_row : Stmt := topS 39
theorem sc_l_row : FnScope (l_row.names.map Str.ofString) ((l_row.names.take l_row.np).map Str.ofString) (defScope s_l_row) := ⟨rfl, rfl, rfl, by decide +kernel, by decide +kernel, by decide +kernel, by decide +kernel⟩
theorem same_l_row : sameB fns (l_row.names.map Str.ofString) (defScope s_l_row) l_row.body (defBody s_l_row) = true := by decide +kernel
abbrev s_l_rows : Stmt := topS 40
theorem sc_l_rows : FnScope (l_rows.names.map Str.ofString) ((l_rows.names.take l_rows.np).map Str.ofString) (defScope s_l_rows) := ⟨rfl, rfl, rfl, by decide +kernel, by decide +kernel, by decide +kernel, by decide +kernel⟩
theorem same_l_rows : sameB fns (l_rows.names.map Str.ofString) (defScope s_l_rows) l_rows.body (defBody s_l_rows) = true := by decide +kernel
abbrev s_l_table : Stmt := topS 41
theorem sc_l_table : FnScope (l_table.names.map Str.ofString) ((l_table.names.take l_table.np).map Str.ofString) (defScope s_l_table) := ⟨rfl, rfl, rfl, by decide +kernel, by decide +kernel, by decide +kernel, by decide +kernel⟩
theorem same_l_table : sameB fns (l_table.names.map Str.ofString) (defScope s_l_table) l_table.body (defBody s_l_table) = true := by decide +kernel
abbrev s_l_shows : Stmt := topS 42
theorem sc_l_shows : FnScope (l_shows.names.map Str.ofString) ((l_shows.names.take l_shows.np).map Str.ofString) (defScope s_l_shows) := ⟨rfl, rfl, rfl, by decide +kernel, by decide +kernel, by decide +kernel, by decide +kernel⟩
theorem same_l_shows : sameB fns (l_shows.names.map Str.ofString) (defScope s_l_shows) l_shows.body (defBody s_l_shows) = true := by decide +kernel
abbrev s_l_of : Stmt := topS 43
theorem sc_l_of : FnScope (l_of.names.map Str.ofString) ((l_of.names.take l_of.np).map Str.ofString) (defScope s_l_of) := ⟨rfl, rfl, rfl, by decide +kernel, by decide +kernel, by decide +kernel, by decide +kernel⟩
theorem same_l_of : sameB fns (l_of.names.map Str.ofString) (defScope s_l_of) l_of.body (defBody s_l_of) = true := by decide +kernel
abbrev s_l_pairs : Stmt := topS 44
theorem sc_l_pairs : FnScope (l_pairs.names.map Str.ofString) ((l_pairs.names.take l_pairs.np).map Str.ofString) (defScope s_l_pairs) := ⟨rfl, rfl, rfl, by decide +kernel, by decide +kernel, by decide +kernel, by decide +kernel⟩
theorem same_l_pairs : sameB fns (l_pairs.names.map Str.ofString) (defScope s_l_pairs) l_pairs.body (defBody s_l_pairs) = true := by decide +kernel
abbrev s_l_told : Stmt := topS 45
theorem sc_l_told : FnScope (l_told.names.map Str.ofString) ((l_told.names.take l_told.np).map Str.ofString) (defScope s_l_told) := ⟨rfl, rfl, rfl, by decide +kernel, by decide +kernel, by decide +kernel, by decide +kernel⟩
theorem same_l_told : sameB fns (l_told.names.map Str.ofString) (defScope s_l_told) l_told.body (defBody s_l_told) = true := by decide +kernel
abbrev s_l_again : Stmt := topS 46
theorem sc_l_again : FnScope (l_again.names.map Str.ofString) ((l_again.names.take l_again.np).map Str.ofString) (defScope s_l_again) := ⟨rfl, rfl, rfl, by decide +kernel, by decide +kernel, by decide +kernel, by decide +kernel⟩
theorem same_l_again : sameB fns (l_again.names.map Str.ofString) (defScope s_l_again) l_again.body (defBody s_l_again) = true := by decide +kernel
abbrev s_l_due : Stmt := topS 47
theorem sc_l_due : FnScope (l_due.names.map Str.ofString) ((l_due.names.take l_due.np).map Str.ofString) (defScope s_l_due) := ⟨rfl, rfl, rfl, by decide +kernel, by decide +kernel, by decide +kernel, by decide +kernel⟩
theorem same_l_due : sameB fns (l_due.names.map Str.ofString) (defScope s_l_due) l_due.body (defBody s_l_due) = true := by decide +kernel
abbrev s_w_k16 : Stmt := topS 48
theorem sc_w_k16 : FnScope (w_k16.names.map Str.ofString) ((w_k16.names.take w_k16.np).map Str.ofString) (defScope s_w_k16) := ⟨rfl, rfl, rfl, by decide +kernel, by decide +kernel, by decide +kernel, by decide +kernel⟩
theorem same_w_k16 : sameB fns (w_k16.names.map Str.ofString) (defScope s_w_k16) w_k16.body (defBody s_w_k16) = true := by decide +kernel
abbrev i_BadRatio : Stmt := methS 0 (topS 2)
abbrev i_BadRow : Stmt := methS 0 (topS 5)
abbrev i_BadSize : Stmt := methS 0 (topS 4)
abbrev i_BadTimes : Stmt := methS 0 (topS 7)
abbrev i_BadUnit : Stmt := methS 0 (topS 3)
abbrev i_NoSignal : Stmt := methS 0 (topS 9)
abbrev i_NoState : Stmt := methS 0 (topS 10)
abbrev i_TooMany : Stmt := methS 0 (topS 8)
theorem all_mk {w : World} {K : PySem.W.Frag} {h : Heap} {mg : Str → Option Value} {fa : Addr} (lv : Nat) (X : K.In h) (G : h.Ns mainGlobals mg) (hfa : mg "law" = some (.ref fa))
    {f1 : Addr} {od1 an1 : Option Addr} {sl1 : Array (Option Value)} {oc1 kV1 dc1 pm1 cd1 ct1 : Value}
    (a1 : PySem.W.nsIn K mainGlobals "is_integer" = some (some (.ref f1)))
    {f2 : Addr} {od2 an2 : Option Addr} {sl2 : Array (Option Value)} {oc2 kV2 dc2 pm2 cd2 ct2 : Value}
    (a2 : PySem.W.nsIn K mainGlobals "divisor" = some (some (.ref f2)))
    {f3 : Addr} {od3 an3 : Option Addr} {sl3 : Array (Option Value)} {oc3 kV3 dc3 pm3 cd3 ct3 : Value}
    (a3 : PySem.W.nsIn K mainGlobals "lowest" = some (some (.ref f3)))
    {f4 : Addr} {od4 an4 : Option Addr} {sl4 : Array (Option Value)} {oc4 kV4 dc4 pm4 cd4 ct4 : Value}
    {T4 : Addr} {oT4 : Value} {dT4 : Option Addr} {nT4 : Nat} {sT4 : Array (Option Value)} {tT4 : Tok}
    (a4 : PySem.W.nsIn K mainGlobals "ratio" = some (some (.ref f4)))
    {f5 : Addr} {od5 an5 : Option Addr} {sl5 : Array (Option Value)} {oc5 kV5 dc5 pm5 cd5 ct5 : Value}
    (a5 : PySem.W.nsIn K mainGlobals "is_number_of" = some (some (.ref f5)))
    {f6 : Addr} {od6 an6 : Option Addr} {sl6 : Array (Option Value)} {oc6 kV6 dc6 pm6 cd6 ct6 : Value}
    (a6 : PySem.W.nsIn K mainGlobals "check_unit" = some (some (.ref f6)))
    {f7 : Addr} {od7 an7 : Option Addr} {sl7 : Array (Option Value)} {oc7 kV7 dc7 pm7 cd7 ct7 : Value}
    (a7 : PySem.W.nsIn K mainGlobals "check_rows" = some (some (.ref f7)))
    {f8 : Addr} {od8 an8 : Option Addr} {sl8 : Array (Option Value)} {oc8 kV8 dc8 pm8 cd8 ct8 : Value}
    (a8 : PySem.W.nsIn K mainGlobals "in_lowest_terms" = some (some (.ref f8)))
    {f9 : Addr} {od9 an9 : Option Addr} {sl9 : Array (Option Value)} {oc9 kV9 dc9 pm9 cd9 ct9 : Value}
    {f10 : Addr} {od10 an10 : Option Addr} {sl10 : Array (Option Value)} {oc10 kV10 dc10 pm10 cd10 ct10 : Value}
    {f11 : Addr} {od11 an11 : Option Addr} {sl11 : Array (Option Value)} {oc11 kV11 dc11 pm11 cd11 ct11 : Value}
    {f12 : Addr} {od12 an12 : Option Addr} {sl12 : Array (Option Value)} {oc12 kV12 dc12 pm12 cd12 ct12 : Value}
    {f13 : Addr} {od13 an13 : Option Addr} {sl13 : Array (Option Value)} {oc13 kV13 dc13 pm13 cd13 ct13 : Value}
    {f14 : Addr} {od14 an14 : Option Addr} {sl14 : Array (Option Value)} {oc14 kV14 dc14 pm14 cd14 ct14 : Value}
    (a14 : PySem.W.nsIn K mainGlobals "check_same_states" = some (some (.ref f14)))
    {f15 : Addr} {od15 an15 : Option Addr} {sl15 : Array (Option Value)} {oc15 kV15 dc15 pm15 cd15 ct15 : Value}
    (a15 : PySem.W.nsIn K mainGlobals "check_states" = some (some (.ref f15)))
    {f16 : Addr} {od16 an16 : Option Addr} {sl16 : Array (Option Value)} {oc16 kV16 dc16 pm16 cd16 ct16 : Value}
    (a16 : PySem.W.nsIn K mainGlobals "uninformative" = some (some (.ref f16)))
    {f17 : Addr} {od17 an17 : Option Addr} {sl17 : Array (Option Value)} {oc17 kV17 dc17 pm17 cd17 ct17 : Value}
    (a17 : PySem.W.nsIn K mainGlobals "check_count" = some (some (.ref f17)))
    {f18 : Addr} {od18 an18 : Option Addr} {sl18 : Array (Option Value)} {oc18 kV18 dc18 pm18 cd18 ct18 : Value}
    (a18 : PySem.W.nsIn K mainGlobals "pairs" = some (some (.ref f18)))
    {f19 : Addr} {od19 an19 : Option Addr} {sl19 : Array (Option Value)} {oc19 kV19 dc19 pm19 cd19 ct19 : Value}
    (a19 : PySem.W.nsIn K mainGlobals "both" = some (some (.ref f19)))
    {f20 : Addr} {od20 an20 : Option Addr} {sl20 : Array (Option Value)} {oc20 kV20 dc20 pm20 cd20 ct20 : Value}
    (a20 : PySem.W.nsIn K mainGlobals "again" = some (some (.ref f20)))
    {f21 : Addr} {od21 an21 : Option Addr} {sl21 : Array (Option Value)} {oc21 kV21 dc21 pm21 cd21 ct21 : Value}
    (a21 : PySem.W.nsIn K mainGlobals "_law_pool" = some (some (.ref f21)))
    {f22 : Addr} {od22 an22 : Option Addr} {sl22 : Array (Option Value)} {oc22 kV22 dc22 pm22 cd22 ct22 : Value}
    (a22 : PySem.W.nsIn K mainGlobals "_law_take" = some (some (.ref f22)))
    {f23 : Addr} {od23 an23 : Option Addr} {sl23 : Array (Option Value)} {oc23 kV23 dc23 pm23 cd23 ct23 : Value}
    (a23 : PySem.W.nsIn K mainGlobals "_law_is_number" = some (some (.ref f23)))
    {f24 : Addr} {od24 an24 : Option Addr} {sl24 : Array (Option Value)} {oc24 kV24 dc24 pm24 cd24 ct24 : Value}
    (a24 : PySem.W.nsIn K mainGlobals "_law_divisor" = some (some (.ref f24)))
    {f25 : Addr} {od25 an25 : Option Addr} {sl25 : Array (Option Value)} {oc25 kV25 dc25 pm25 cd25 ct25 : Value}
    (a25 : PySem.W.nsIn K mainGlobals "_law_lowest" = some (some (.ref f25)))
    {f26 : Addr} {od26 an26 : Option Addr} {sl26 : Array (Option Value)} {oc26 kV26 dc26 pm26 cd26 ct26 : Value}
    (a26 : PySem.W.nsIn K mainGlobals "_law_row" = some (some (.ref f26)))
    {f27 : Addr} {od27 an27 : Option Addr} {sl27 : Array (Option Value)} {oc27 kV27 dc27 pm27 cd27 ct27 : Value}
    (a27 : PySem.W.nsIn K mainGlobals "_law_rows" = some (some (.ref f27)))
    {f28 : Addr} {od28 an28 : Option Addr} {sl28 : Array (Option Value)} {oc28 kV28 dc28 pm28 cd28 ct28 : Value}
    (a28 : PySem.W.nsIn K mainGlobals "_law_table" = some (some (.ref f28)))
    {f29 : Addr} {od29 an29 : Option Addr} {sl29 : Array (Option Value)} {oc29 kV29 dc29 pm29 cd29 ct29 : Value}
    (a29 : PySem.W.nsIn K mainGlobals "_law_shows" = some (some (.ref f29)))
    {f30 : Addr} {od30 an30 : Option Addr} {sl30 : Array (Option Value)} {oc30 kV30 dc30 pm30 cd30 ct30 : Value}
    (a30 : PySem.W.nsIn K mainGlobals "_law_of" = some (some (.ref f30)))
    {f31 : Addr} {od31 an31 : Option Addr} {sl31 : Array (Option Value)} {oc31 kV31 dc31 pm31 cd31 ct31 : Value}
    (a31 : PySem.W.nsIn K mainGlobals "_law_pairs" = some (some (.ref f31)))
    {f32 : Addr} {od32 an32 : Option Addr} {sl32 : Array (Option Value)} {oc32 kV32 dc32 pm32 cd32 ct32 : Value}
    (a32 : PySem.W.nsIn K mainGlobals "_law_told" = some (some (.ref f32)))
    {f33 : Addr} {od33 an33 : Option Addr} {sl33 : Array (Option Value)} {oc33 kV33 dc33 pm33 cd33 ct33 : Value}
    (a33 : PySem.W.nsIn K mainGlobals "_law_again" = some (some (.ref f33)))
    {f34 : Addr} {od34 an34 : Option Addr} {sl34 : Array (Option Value)} {oc34 kV34 dc34 pm34 cd34 ct34 : Value}
    (a34 : PySem.W.nsIn K mainGlobals "_law_due" = some (some (.ref f34)))
    {f35 : Addr} {od35 an35 : Option Addr} {sl35 : Array (Option Value)} {oc35 kV35 dc35 pm35 cd35 ct35 : Value}
    (a35 : PySem.W.nsIn K mainGlobals "law" = some (some (.ref f35)))
    {C0 : Addr}
    (ca0 : PySem.W.nsIn K mainGlobals "Experiment" = some (some (.ref C0)))
    (a9 : PySem.W.findIn K (.ref C0) "__init__" = some (some (.ref f9)))
    (fn9 : PySem.W.isFn K (.ref f9) = true)
    (a10 : PySem.W.findIn K (.ref C0) "rows" = some (some (.ref f10)))
    (fn10 : PySem.W.isFn K (.ref f10) = true)
    (a11 : PySem.W.findIn K (.ref C0) "__len__" = some (some (.ref f11)))
    (fn11 : PySem.W.isFn K (.ref f11) = true)
    (a12 : PySem.W.findIn K (.ref C0) "__getitem__" = some (some (.ref f12)))
    (fn12 : PySem.W.isFn K (.ref f12) = true)
    (a13 : PySem.W.findIn K (.ref C0) "__eq__" = some (some (.ref f13)))
    (fn13 : PySem.W.isFn K (.ref f13) = true)
    (l1 : K.lookup f1 = some ⟨oc1, od1, .func (PySem.W.fnOf "is_integer" "is_integer" (defArgs s_d_is_integer) (defBody s_d_is_integer) (defScope s_d_is_integer) .none kV1 dc1 pm1 an1 cd1 ct1), sl1⟩)
    (c1 : PySem.W.codeIn K cd1 "is_integer" = true)
    (k1 : PySem.W.keepIn K (.ref f1) = true)
    (l2 : K.lookup f2 = some ⟨oc2, od2, .func (PySem.W.fnOf "divisor" "divisor" (defArgs s_d_divisor) (defBody s_d_divisor) (defScope s_d_divisor) .none kV2 dc2 pm2 an2 cd2 ct2), sl2⟩)
    (c2 : PySem.W.codeIn K cd2 "divisor" = true)
    (k2 : PySem.W.keepIn K (.ref f2) = true)
    (l3 : K.lookup f3 = some ⟨oc3, od3, .func (PySem.W.fnOf "lowest" "lowest" (defArgs s_d_lowest) (defBody s_d_lowest) (defScope s_d_lowest) .none kV3 dc3 pm3 an3 cd3 ct3), sl3⟩)
    (c3 : PySem.W.codeIn K cd3 "lowest" = true)
    (k3 : PySem.W.keepIn K (.ref f3) = true)
    (l4 : K.lookup f4 = some ⟨oc4, od4, .func (PySem.W.fnOf "ratio" "ratio" (defArgs s_d_ratio) (defBody s_d_ratio) (defScope s_d_ratio) (.ref T4) kV4 dc4 pm4 an4 cd4 ct4), sl4⟩)
    (c4 : PySem.W.codeIn K cd4 "ratio" = true)
    (k4 : PySem.W.keepIn K (.ref f4) = true)
    (lT4 : K.lookup T4 = some ⟨oT4, dT4, .seq #[.int 1 tT4] nT4, sT4⟩)
    (l5 : K.lookup f5 = some ⟨oc5, od5, .func (PySem.W.fnOf "is_number_of" "is_number_of" (defArgs s_d_is_number_of) (defBody s_d_is_number_of) (defScope s_d_is_number_of) .none kV5 dc5 pm5 an5 cd5 ct5), sl5⟩)
    (c5 : PySem.W.codeIn K cd5 "is_number_of" = true)
    (k5 : PySem.W.keepIn K (.ref f5) = true)
    (l6 : K.lookup f6 = some ⟨oc6, od6, .func (PySem.W.fnOf "check_unit" "check_unit" (defArgs s_d_check_unit) (defBody s_d_check_unit) (defScope s_d_check_unit) .none kV6 dc6 pm6 an6 cd6 ct6), sl6⟩)
    (c6 : PySem.W.codeIn K cd6 "check_unit" = true)
    (k6 : PySem.W.keepIn K (.ref f6) = true)
    (l7 : K.lookup f7 = some ⟨oc7, od7, .func (PySem.W.fnOf "check_rows" "check_rows" (defArgs s_d_check_rows) (defBody s_d_check_rows) (defScope s_d_check_rows) .none kV7 dc7 pm7 an7 cd7 ct7), sl7⟩)
    (c7 : PySem.W.codeIn K cd7 "check_rows" = true)
    (k7 : PySem.W.keepIn K (.ref f7) = true)
    (l8 : K.lookup f8 = some ⟨oc8, od8, .func (PySem.W.fnOf "in_lowest_terms" "in_lowest_terms" (defArgs s_d_in_lowest_terms) (defBody s_d_in_lowest_terms) (defScope s_d_in_lowest_terms) .none kV8 dc8 pm8 an8 cd8 ct8), sl8⟩)
    (c8 : PySem.W.codeIn K cd8 "in_lowest_terms" = true)
    (k8 : PySem.W.keepIn K (.ref f8) = true)
    (l9 : K.lookup f9 = some ⟨oc9, od9, .func (PySem.W.fnOf "__init__" "Experiment.__init__" (defArgs s_d_Experiment__init) (defBody s_d_Experiment__init) (defScope s_d_Experiment__init) .none kV9 dc9 pm9 an9 cd9 ct9), sl9⟩)
    (c9 : PySem.W.codeIn K cd9 "Experiment.__init__" = true)
    (k9 : PySem.W.keepIn K (.ref f9) = true)
    (l10 : K.lookup f10 = some ⟨oc10, od10, .func (PySem.W.fnOf "rows" "Experiment.rows" (defArgs s_d_Experiment_rows) (defBody s_d_Experiment_rows) (defScope s_d_Experiment_rows) .none kV10 dc10 pm10 an10 cd10 ct10), sl10⟩)
    (c10 : PySem.W.codeIn K cd10 "Experiment.rows" = true)
    (k10 : PySem.W.keepIn K (.ref f10) = true)
    (l11 : K.lookup f11 = some ⟨oc11, od11, .func (PySem.W.fnOf "__len__" "Experiment.__len__" (defArgs s_d_Experiment__len) (defBody s_d_Experiment__len) (defScope s_d_Experiment__len) .none kV11 dc11 pm11 an11 cd11 ct11), sl11⟩)
    (c11 : PySem.W.codeIn K cd11 "Experiment.__len__" = true)
    (k11 : PySem.W.keepIn K (.ref f11) = true)
    (l12 : K.lookup f12 = some ⟨oc12, od12, .func (PySem.W.fnOf "__getitem__" "Experiment.__getitem__" (defArgs s_d_Experiment__getitem) (defBody s_d_Experiment__getitem) (defScope s_d_Experiment__getitem) .none kV12 dc12 pm12 an12 cd12 ct12), sl12⟩)
    (c12 : PySem.W.codeIn K cd12 "Experiment.__getitem__" = true)
    (k12 : PySem.W.keepIn K (.ref f12) = true)
    (l13 : K.lookup f13 = some ⟨oc13, od13, .func (PySem.W.fnOf "__eq__" "Experiment.__eq__" (defArgs s_d_Experiment__eq) (defBody s_d_Experiment__eq) (defScope s_d_Experiment__eq) .none kV13 dc13 pm13 an13 cd13 ct13), sl13⟩)
    (c13 : PySem.W.codeIn K cd13 "Experiment.__eq__" = true)
    (k13 : PySem.W.keepIn K (.ref f13) = true)
    (l14 : K.lookup f14 = some ⟨oc14, od14, .func (PySem.W.fnOf "check_same_states" "check_same_states" (defArgs s_d_check_same_states) (defBody s_d_check_same_states) (defScope s_d_check_same_states) .none kV14 dc14 pm14 an14 cd14 ct14), sl14⟩)
    (c14 : PySem.W.codeIn K cd14 "check_same_states" = true)
    (k14 : PySem.W.keepIn K (.ref f14) = true)
    (l15 : K.lookup f15 = some ⟨oc15, od15, .func (PySem.W.fnOf "check_states" "check_states" (defArgs s_d_check_states) (defBody s_d_check_states) (defScope s_d_check_states) .none kV15 dc15 pm15 an15 cd15 ct15), sl15⟩)
    (c15 : PySem.W.codeIn K cd15 "check_states" = true)
    (k15 : PySem.W.keepIn K (.ref f15) = true)
    (l16 : K.lookup f16 = some ⟨oc16, od16, .func (PySem.W.fnOf "uninformative" "uninformative" (defArgs s_d_uninformative) (defBody s_d_uninformative) (defScope s_d_uninformative) .none kV16 dc16 pm16 an16 cd16 ct16), sl16⟩)
    (c16 : PySem.W.codeIn K cd16 "uninformative" = true)
    (k16 : PySem.W.keepIn K (.ref f16) = true)
    (l17 : K.lookup f17 = some ⟨oc17, od17, .func (PySem.W.fnOf "check_count" "check_count" (defArgs s_d_check_count) (defBody s_d_check_count) (defScope s_d_check_count) .none kV17 dc17 pm17 an17 cd17 ct17), sl17⟩)
    (c17 : PySem.W.codeIn K cd17 "check_count" = true)
    (k17 : PySem.W.keepIn K (.ref f17) = true)
    (l18 : K.lookup f18 = some ⟨oc18, od18, .func (PySem.W.fnOf "pairs" "pairs" (defArgs s_d_pairs) (defBody s_d_pairs) (defScope s_d_pairs) .none kV18 dc18 pm18 an18 cd18 ct18), sl18⟩)
    (c18 : PySem.W.codeIn K cd18 "pairs" = true)
    (k18 : PySem.W.keepIn K (.ref f18) = true)
    (l19 : K.lookup f19 = some ⟨oc19, od19, .func (PySem.W.fnOf "both" "both" (defArgs s_d_both) (defBody s_d_both) (defScope s_d_both) .none kV19 dc19 pm19 an19 cd19 ct19), sl19⟩)
    (c19 : PySem.W.codeIn K cd19 "both" = true)
    (k19 : PySem.W.keepIn K (.ref f19) = true)
    (l20 : K.lookup f20 = some ⟨oc20, od20, .func (PySem.W.fnOf "again" "again" (defArgs s_d_again) (defBody s_d_again) (defScope s_d_again) .none kV20 dc20 pm20 an20 cd20 ct20), sl20⟩)
    (c20 : PySem.W.codeIn K cd20 "again" = true)
    (k20 : PySem.W.keepIn K (.ref f20) = true)
    (l21 : K.lookup f21 = some ⟨oc21, od21, .func (PySem.W.fnOf "_law_pool" "_law_pool" (defArgs s_l_pool) (defBody s_l_pool) (defScope s_l_pool) .none kV21 dc21 pm21 an21 cd21 ct21), sl21⟩)
    (c21 : PySem.W.codeIn K cd21 "_law_pool" = true)
    (k21 : PySem.W.keepIn K (.ref f21) = true)
    (l22 : K.lookup f22 = some ⟨oc22, od22, .func (PySem.W.fnOf "_law_take" "_law_take" (defArgs s_l_take) (defBody s_l_take) (defScope s_l_take) .none kV22 dc22 pm22 an22 cd22 ct22), sl22⟩)
    (c22 : PySem.W.codeIn K cd22 "_law_take" = true)
    (k22 : PySem.W.keepIn K (.ref f22) = true)
    (l23 : K.lookup f23 = some ⟨oc23, od23, .func (PySem.W.fnOf "_law_is_number" "_law_is_number" (defArgs s_l_is_number) (defBody s_l_is_number) (defScope s_l_is_number) .none kV23 dc23 pm23 an23 cd23 ct23), sl23⟩)
    (c23 : PySem.W.codeIn K cd23 "_law_is_number" = true)
    (k23 : PySem.W.keepIn K (.ref f23) = true)
    (l24 : K.lookup f24 = some ⟨oc24, od24, .func (PySem.W.fnOf "_law_divisor" "_law_divisor" (defArgs s_l_divisor) (defBody s_l_divisor) (defScope s_l_divisor) .none kV24 dc24 pm24 an24 cd24 ct24), sl24⟩)
    (c24 : PySem.W.codeIn K cd24 "_law_divisor" = true)
    (k24 : PySem.W.keepIn K (.ref f24) = true)
    (l25 : K.lookup f25 = some ⟨oc25, od25, .func (PySem.W.fnOf "_law_lowest" "_law_lowest" (defArgs s_l_lowest_2) (defBody s_l_lowest_2) (defScope s_l_lowest_2) .none kV25 dc25 pm25 an25 cd25 ct25), sl25⟩)
    (c25 : PySem.W.codeIn K cd25 "_law_lowest" = true)
    (k25 : PySem.W.keepIn K (.ref f25) = true)
    (l26 : K.lookup f26 = some ⟨oc26, od26, .func (PySem.W.fnOf "_law_row" "_law_row" (defArgs s_l_row) (defBody s_l_row) (defScope s_l_row) .none kV26 dc26 pm26 an26 cd26 ct26), sl26⟩)
    (c26 : PySem.W.codeIn K cd26 "_law_row" = true)
    (k26 : PySem.W.keepIn K (.ref f26) = true)
    (l27 : K.lookup f27 = some ⟨oc27, od27, .func (PySem.W.fnOf "_law_rows" "_law_rows" (defArgs s_l_rows) (defBody s_l_rows) (defScope s_l_rows) .none kV27 dc27 pm27 an27 cd27 ct27), sl27⟩)
    (c27 : PySem.W.codeIn K cd27 "_law_rows" = true)
    (k27 : PySem.W.keepIn K (.ref f27) = true)
    (l28 : K.lookup f28 = some ⟨oc28, od28, .func (PySem.W.fnOf "_law_table" "_law_table" (defArgs s_l_table) (defBody s_l_table) (defScope s_l_table) .none kV28 dc28 pm28 an28 cd28 ct28), sl28⟩)
    (c28 : PySem.W.codeIn K cd28 "_law_table" = true)
    (k28 : PySem.W.keepIn K (.ref f28) = true)
    (l29 : K.lookup f29 = some ⟨oc29, od29, .func (PySem.W.fnOf "_law_shows" "_law_shows" (defArgs s_l_shows) (defBody s_l_shows) (defScope s_l_shows) .none kV29 dc29 pm29 an29 cd29 ct29), sl29⟩)
    (c29 : PySem.W.codeIn K cd29 "_law_shows" = true)
    (k29 : PySem.W.keepIn K (.ref f29) = true)
    (l30 : K.lookup f30 = some ⟨oc30, od30, .func (PySem.W.fnOf "_law_of" "_law_of" (defArgs s_l_of) (defBody s_l_of) (defScope s_l_of) .none kV30 dc30 pm30 an30 cd30 ct30), sl30⟩)
    (c30 : PySem.W.codeIn K cd30 "_law_of" = true)
    (k30 : PySem.W.keepIn K (.ref f30) = true)
    (l31 : K.lookup f31 = some ⟨oc31, od31, .func (PySem.W.fnOf "_law_pairs" "_law_pairs" (defArgs s_l_pairs) (defBody s_l_pairs) (defScope s_l_pairs) .none kV31 dc31 pm31 an31 cd31 ct31), sl31⟩)
    (c31 : PySem.W.codeIn K cd31 "_law_pairs" = true)
    (k31 : PySem.W.keepIn K (.ref f31) = true)
    (l32 : K.lookup f32 = some ⟨oc32, od32, .func (PySem.W.fnOf "_law_told" "_law_told" (defArgs s_l_told) (defBody s_l_told) (defScope s_l_told) .none kV32 dc32 pm32 an32 cd32 ct32), sl32⟩)
    (c32 : PySem.W.codeIn K cd32 "_law_told" = true)
    (k32 : PySem.W.keepIn K (.ref f32) = true)
    (l33 : K.lookup f33 = some ⟨oc33, od33, .func (PySem.W.fnOf "_law_again" "_law_again" (defArgs s_l_again) (defBody s_l_again) (defScope s_l_again) .none kV33 dc33 pm33 an33 cd33 ct33), sl33⟩)
    (c33 : PySem.W.codeIn K cd33 "_law_again" = true)
    (k33 : PySem.W.keepIn K (.ref f33) = true)
    (l34 : K.lookup f34 = some ⟨oc34, od34, .func (PySem.W.fnOf "_law_due" "_law_due" (defArgs s_l_due) (defBody s_l_due) (defScope s_l_due) .none kV34 dc34 pm34 an34 cd34 ct34), sl34⟩)
    (c34 : PySem.W.codeIn K cd34 "_law_due" = true)
    (k34 : PySem.W.keepIn K (.ref f34) = true)
    (l35 : K.lookup f35 = some ⟨oc35, od35, .func (PySem.W.fnOf "law" "law" (defArgs s_w_k16) (defBody s_w_k16) (defScope s_w_k16) .none kV35 dc35 pm35 an35 cd35 ct35), sl35⟩)
    (c35 : PySem.W.codeIn K cd35 "law" = true)
    (k35 : PySem.W.keepIn K (.ref f35) = true)
    {x0C x0f x0cc x0cda x0N : Addr} {x0n0 x0q : Str} {x0bs x0bm : List Value} {x0sn : List Str} {x0sub : List Value} {x0ab : Bool} {x0col : Option Bool} {x0dd : Option Addr} {x0k0 x0k1 x0k2 x0k3 x0k5 : Option Value}
    {x0oc : Value} {x0od : Option Addr} {x0doc x0pm : Value} {x0an : Option Addr} {x0ct : Value} {x0osl : Array (Option Value)} {x0ccl : Value} {x0cdd : Option Addr} {x0vs : Array Value} {x0ccs : Array (Option Value)} {x0cl : Value} {x0cld : Option Addr} {x0csl : Array (Option Value)} {x0file : Str} {x0tf : Tok}
    (x0a : PySem.W.nsIn K mainGlobals "BadRatio" = some (some (.ref x0C)))
    (x0l : K.lookup x0C = some (excClassObj x0n0 x0q x0C x0N x0bs x0bm true x0sn x0sub x0ab x0col x0dd x0k0 x0k1 x0k2 x0k3 x0k5 "ValueError.__new__"))
    (x0r : HandSPX.refsVE x0bm = true)
    (x0sa : PySem.W.findIn K (.ref x0C) "__setattr__" = some (some (.builtin "object.__setattr__")))
    (x0ga : PySem.W.findIn K (.ref x0C) "__getattribute__" = some (some (.builtin "BaseException.__getattribute__")))
    (x0gg : PySem.W.findIn K (.ref x0C) "__getattr__" = some none)
    (x0nn : PySem.W.findIn K (.ref x0C) "bottom" = some none)
    (x0kc : PySem.W.keepIn K (.ref x0C) = true)
    (x0ex : PySem.W.subIn K (.ref x0C) (.type "BaseException") = some true)
    (x0ve : PySem.W.subIn K (.ref x0C) (.type "ValueError") = some true)
    (x0me : PySem.W.mroIn K x0C (.ref x0C) = some true)
    (x0ty : PySem.W.typeIn K (.ref x0C) = some (.type "type"))
    (x0hd : PySem.W.hasDictIn K x0C = true)
    (x0sup : PySem.W.ks_superIn K x0C x0C "__init__" = some (some (.builtin "ValueError.__init__")))
    (x0i : PySem.W.findIn K (.ref x0C) "__init__" = some (some (.ref x0f)))
    (x0it : PySem.W.typeIn K (.ref x0f) = some (.type "function"))
    (x0il : K.lookup x0f = some ⟨x0oc, x0od, .func (PySem.W.ksFn "__init__" "BadRatio.__init__" (defArgs i_BadRatio) (defBody i_BadRatio) (defScope i_BadRatio) .none .none x0doc x0pm x0an (.ref x0cda) x0ct x0cc), x0osl⟩)
    (x0ic : PySem.W.codeIn K (.ref x0cda) "BadRatio.__init__" = true)
    (x0cd : K.lookup x0cda = some ⟨x0ccl, x0cdd, .fields x0vs, x0ccs⟩)
    (x0vz : x0vs[2]? = some (.str x0file x0tf))
    (x0fi : ((PySem.Challenge.rw_everydecider_k16_both_and_again.prog.main.file : Str) == x0file) = true)
    (x0cw : K.lookup x0cc = some ⟨x0cl, x0cld, .cell (some (.ref x0C)), x0csl⟩)
    {x1C x1f x1cc x1cda x1N : Addr} {x1n0 x1q : Str} {x1bs x1bm : List Value} {x1sn : List Str} {x1sub : List Value} {x1ab : Bool} {x1col : Option Bool} {x1dd : Option Addr} {x1k0 x1k1 x1k2 x1k3 x1k5 : Option Value}
    {x1oc : Value} {x1od : Option Addr} {x1doc x1pm : Value} {x1an : Option Addr} {x1ct : Value} {x1osl : Array (Option Value)} {x1ccl : Value} {x1cdd : Option Addr} {x1vs : Array Value} {x1ccs : Array (Option Value)} {x1cl : Value} {x1cld : Option Addr} {x1csl : Array (Option Value)} {x1file : Str} {x1tf : Tok}
    (x1a : PySem.W.nsIn K mainGlobals "BadRow" = some (some (.ref x1C)))
    (x1l : K.lookup x1C = some (excClassObj x1n0 x1q x1C x1N x1bs x1bm true x1sn x1sub x1ab x1col x1dd x1k0 x1k1 x1k2 x1k3 x1k5 "ValueError.__new__"))
    (x1r : HandSPX.refsVE x1bm = true)
    (x1sa : PySem.W.findIn K (.ref x1C) "__setattr__" = some (some (.builtin "object.__setattr__")))
    (x1ga : PySem.W.findIn K (.ref x1C) "__getattribute__" = some (some (.builtin "BaseException.__getattribute__")))
    (x1gg : PySem.W.findIn K (.ref x1C) "__getattr__" = some none)
    (x1nn : PySem.W.findIn K (.ref x1C) "index" = some none)
    (x1kc : PySem.W.keepIn K (.ref x1C) = true)
    (x1ex : PySem.W.subIn K (.ref x1C) (.type "BaseException") = some true)
    (x1ve : PySem.W.subIn K (.ref x1C) (.type "ValueError") = some true)
    (x1me : PySem.W.mroIn K x1C (.ref x1C) = some true)
    (x1ty : PySem.W.typeIn K (.ref x1C) = some (.type "type"))
    (x1hd : PySem.W.hasDictIn K x1C = true)
    (x1sup : PySem.W.ks_superIn K x1C x1C "__init__" = some (some (.builtin "ValueError.__init__")))
    (x1i : PySem.W.findIn K (.ref x1C) "__init__" = some (some (.ref x1f)))
    (x1it : PySem.W.typeIn K (.ref x1f) = some (.type "function"))
    (x1il : K.lookup x1f = some ⟨x1oc, x1od, .func (PySem.W.ksFn "__init__" "BadRow.__init__" (defArgs i_BadRow) (defBody i_BadRow) (defScope i_BadRow) .none .none x1doc x1pm x1an (.ref x1cda) x1ct x1cc), x1osl⟩)
    (x1ic : PySem.W.codeIn K (.ref x1cda) "BadRow.__init__" = true)
    (x1cd : K.lookup x1cda = some ⟨x1ccl, x1cdd, .fields x1vs, x1ccs⟩)
    (x1vz : x1vs[2]? = some (.str x1file x1tf))
    (x1fi : ((PySem.Challenge.rw_everydecider_k16_both_and_again.prog.main.file : Str) == x1file) = true)
    (x1cw : K.lookup x1cc = some ⟨x1cl, x1cld, .cell (some (.ref x1C)), x1csl⟩)
    {x2C x2f x2cc x2cda x2N : Addr} {x2n0 x2q : Str} {x2bs x2bm : List Value} {x2sn : List Str} {x2sub : List Value} {x2ab : Bool} {x2col : Option Bool} {x2dd : Option Addr} {x2k0 x2k1 x2k2 x2k3 x2k5 : Option Value}
    {x2oc : Value} {x2od : Option Addr} {x2doc x2pm : Value} {x2an : Option Addr} {x2ct : Value} {x2osl : Array (Option Value)} {x2ccl : Value} {x2cdd : Option Addr} {x2vs : Array Value} {x2ccs : Array (Option Value)} {x2cl : Value} {x2cld : Option Addr} {x2csl : Array (Option Value)} {x2file : Str} {x2tf : Tok}
    (x2a : PySem.W.nsIn K mainGlobals "BadSize" = some (some (.ref x2C)))
    (x2l : K.lookup x2C = some (excClassObj x2n0 x2q x2C x2N x2bs x2bm true x2sn x2sub x2ab x2col x2dd x2k0 x2k1 x2k2 x2k3 x2k5 "ValueError.__new__"))
    (x2r : HandSPX.refsVE x2bm = true)
    (x2sa : PySem.W.findIn K (.ref x2C) "__setattr__" = some (some (.builtin "object.__setattr__")))
    (x2ga : PySem.W.findIn K (.ref x2C) "__getattribute__" = some (some (.builtin "BaseException.__getattribute__")))
    (x2gg : PySem.W.findIn K (.ref x2C) "__getattr__" = some none)
    (x2nn : PySem.W.findIn K (.ref x2C) "size" = some none)
    (x2kc : PySem.W.keepIn K (.ref x2C) = true)
    (x2ex : PySem.W.subIn K (.ref x2C) (.type "BaseException") = some true)
    (x2ve : PySem.W.subIn K (.ref x2C) (.type "ValueError") = some true)
    (x2me : PySem.W.mroIn K x2C (.ref x2C) = some true)
    (x2ty : PySem.W.typeIn K (.ref x2C) = some (.type "type"))
    (x2hd : PySem.W.hasDictIn K x2C = true)
    (x2sup : PySem.W.ks_superIn K x2C x2C "__init__" = some (some (.builtin "ValueError.__init__")))
    (x2i : PySem.W.findIn K (.ref x2C) "__init__" = some (some (.ref x2f)))
    (x2it : PySem.W.typeIn K (.ref x2f) = some (.type "function"))
    (x2il : K.lookup x2f = some ⟨x2oc, x2od, .func (PySem.W.ksFn "__init__" "BadSize.__init__" (defArgs i_BadSize) (defBody i_BadSize) (defScope i_BadSize) .none .none x2doc x2pm x2an (.ref x2cda) x2ct x2cc), x2osl⟩)
    (x2ic : PySem.W.codeIn K (.ref x2cda) "BadSize.__init__" = true)
    (x2cd : K.lookup x2cda = some ⟨x2ccl, x2cdd, .fields x2vs, x2ccs⟩)
    (x2vz : x2vs[2]? = some (.str x2file x2tf))
    (x2fi : ((PySem.Challenge.rw_everydecider_k16_both_and_again.prog.main.file : Str) == x2file) = true)
    (x2cw : K.lookup x2cc = some ⟨x2cl, x2cld, .cell (some (.ref x2C)), x2csl⟩)
    {x3C x3f x3cc x3cda x3N : Addr} {x3n0 x3q : Str} {x3bs x3bm : List Value} {x3sn : List Str} {x3sub : List Value} {x3ab : Bool} {x3col : Option Bool} {x3dd : Option Addr} {x3k0 x3k1 x3k2 x3k3 x3k5 : Option Value}
    {x3oc : Value} {x3od : Option Addr} {x3doc x3pm : Value} {x3an : Option Addr} {x3ct : Value} {x3osl : Array (Option Value)} {x3ccl : Value} {x3cdd : Option Addr} {x3vs : Array Value} {x3ccs : Array (Option Value)} {x3cl : Value} {x3cld : Option Addr} {x3csl : Array (Option Value)} {x3file : Str} {x3tf : Tok}
    (x3a : PySem.W.nsIn K mainGlobals "BadTimes" = some (some (.ref x3C)))
    (x3l : K.lookup x3C = some (excClassObj x3n0 x3q x3C x3N x3bs x3bm true x3sn x3sub x3ab x3col x3dd x3k0 x3k1 x3k2 x3k3 x3k5 "ValueError.__new__"))
    (x3r : HandSPX.refsVE x3bm = true)
    (x3sa : PySem.W.findIn K (.ref x3C) "__setattr__" = some (some (.builtin "object.__setattr__")))
    (x3ga : PySem.W.findIn K (.ref x3C) "__getattribute__" = some (some (.builtin "BaseException.__getattribute__")))
    (x3gg : PySem.W.findIn K (.ref x3C) "__getattr__" = some none)
    (x3nn : PySem.W.findIn K (.ref x3C) "times" = some none)
    (x3kc : PySem.W.keepIn K (.ref x3C) = true)
    (x3ex : PySem.W.subIn K (.ref x3C) (.type "BaseException") = some true)
    (x3ve : PySem.W.subIn K (.ref x3C) (.type "ValueError") = some true)
    (x3me : PySem.W.mroIn K x3C (.ref x3C) = some true)
    (x3ty : PySem.W.typeIn K (.ref x3C) = some (.type "type"))
    (x3hd : PySem.W.hasDictIn K x3C = true)
    (x3sup : PySem.W.ks_superIn K x3C x3C "__init__" = some (some (.builtin "ValueError.__init__")))
    (x3i : PySem.W.findIn K (.ref x3C) "__init__" = some (some (.ref x3f)))
    (x3it : PySem.W.typeIn K (.ref x3f) = some (.type "function"))
    (x3il : K.lookup x3f = some ⟨x3oc, x3od, .func (PySem.W.ksFn "__init__" "BadTimes.__init__" (defArgs i_BadTimes) (defBody i_BadTimes) (defScope i_BadTimes) .none .none x3doc x3pm x3an (.ref x3cda) x3ct x3cc), x3osl⟩)
    (x3ic : PySem.W.codeIn K (.ref x3cda) "BadTimes.__init__" = true)
    (x3cd : K.lookup x3cda = some ⟨x3ccl, x3cdd, .fields x3vs, x3ccs⟩)
    (x3vz : x3vs[2]? = some (.str x3file x3tf))
    (x3fi : ((PySem.Challenge.rw_everydecider_k16_both_and_again.prog.main.file : Str) == x3file) = true)
    (x3cw : K.lookup x3cc = some ⟨x3cl, x3cld, .cell (some (.ref x3C)), x3csl⟩)
    {x4C x4f x4cc x4cda x4N : Addr} {x4n0 x4q : Str} {x4bs x4bm : List Value} {x4sn : List Str} {x4sub : List Value} {x4ab : Bool} {x4col : Option Bool} {x4dd : Option Addr} {x4k0 x4k1 x4k2 x4k3 x4k5 : Option Value}
    {x4oc : Value} {x4od : Option Addr} {x4doc x4pm : Value} {x4an : Option Addr} {x4ct : Value} {x4osl : Array (Option Value)} {x4ccl : Value} {x4cdd : Option Addr} {x4vs : Array Value} {x4ccs : Array (Option Value)} {x4cl : Value} {x4cld : Option Addr} {x4csl : Array (Option Value)} {x4file : Str} {x4tf : Tok}
    (x4a : PySem.W.nsIn K mainGlobals "BadUnit" = some (some (.ref x4C)))
    (x4l : K.lookup x4C = some (excClassObj x4n0 x4q x4C x4N x4bs x4bm true x4sn x4sub x4ab x4col x4dd x4k0 x4k1 x4k2 x4k3 x4k5 "ValueError.__new__"))
    (x4r : HandSPX.refsVE x4bm = true)
    (x4sa : PySem.W.findIn K (.ref x4C) "__setattr__" = some (some (.builtin "object.__setattr__")))
    (x4ga : PySem.W.findIn K (.ref x4C) "__getattribute__" = some (some (.builtin "BaseException.__getattribute__")))
    (x4gg : PySem.W.findIn K (.ref x4C) "__getattr__" = some none)
    (x4nn : PySem.W.findIn K (.ref x4C) "unit" = some none)
    (x4kc : PySem.W.keepIn K (.ref x4C) = true)
    (x4ex : PySem.W.subIn K (.ref x4C) (.type "BaseException") = some true)
    (x4ve : PySem.W.subIn K (.ref x4C) (.type "ValueError") = some true)
    (x4me : PySem.W.mroIn K x4C (.ref x4C) = some true)
    (x4ty : PySem.W.typeIn K (.ref x4C) = some (.type "type"))
    (x4hd : PySem.W.hasDictIn K x4C = true)
    (x4sup : PySem.W.ks_superIn K x4C x4C "__init__" = some (some (.builtin "ValueError.__init__")))
    (x4i : PySem.W.findIn K (.ref x4C) "__init__" = some (some (.ref x4f)))
    (x4it : PySem.W.typeIn K (.ref x4f) = some (.type "function"))
    (x4il : K.lookup x4f = some ⟨x4oc, x4od, .func (PySem.W.ksFn "__init__" "BadUnit.__init__" (defArgs i_BadUnit) (defBody i_BadUnit) (defScope i_BadUnit) .none .none x4doc x4pm x4an (.ref x4cda) x4ct x4cc), x4osl⟩)
    (x4ic : PySem.W.codeIn K (.ref x4cda) "BadUnit.__init__" = true)
    (x4cd : K.lookup x4cda = some ⟨x4ccl, x4cdd, .fields x4vs, x4ccs⟩)
    (x4vz : x4vs[2]? = some (.str x4file x4tf))
    (x4fi : ((PySem.Challenge.rw_everydecider_k16_both_and_again.prog.main.file : Str) == x4file) = true)
    (x4cw : K.lookup x4cc = some ⟨x4cl, x4cld, .cell (some (.ref x4C)), x4csl⟩)
    {x5C x5f x5cc x5cda x5N : Addr} {x5n0 x5q : Str} {x5bs x5bm : List Value} {x5sn : List Str} {x5sub : List Value} {x5ab : Bool} {x5col : Option Bool} {x5dd : Option Addr} {x5k0 x5k1 x5k2 x5k3 x5k5 : Option Value}
    {x5oc : Value} {x5od : Option Addr} {x5doc x5pm : Value} {x5an : Option Addr} {x5ct : Value} {x5osl : Array (Option Value)} {x5ccl : Value} {x5cdd : Option Addr} {x5vs : Array Value} {x5ccs : Array (Option Value)} {x5cl : Value} {x5cld : Option Addr} {x5csl : Array (Option Value)} {x5file : Str} {x5tf : Tok}
    (x5a : PySem.W.nsIn K mainGlobals "NoSignal" = some (some (.ref x5C)))
    (x5l : K.lookup x5C = some (excClassObj x5n0 x5q x5C x5N x5bs x5bm true x5sn x5sub x5ab x5col x5dd x5k0 x5k1 x5k2 x5k3 x5k5 "ValueError.__new__"))
    (x5r : HandSPX.refsVE x5bm = true)
    (x5sa : PySem.W.findIn K (.ref x5C) "__setattr__" = some (some (.builtin "object.__setattr__")))
    (x5ga : PySem.W.findIn K (.ref x5C) "__getattribute__" = some (some (.builtin "BaseException.__getattribute__")))
    (x5gg : PySem.W.findIn K (.ref x5C) "__getattr__" = some none)
    (x5nn : PySem.W.findIn K (.ref x5C) "signal" = some none)
    (x5kc : PySem.W.keepIn K (.ref x5C) = true)
    (x5ex : PySem.W.subIn K (.ref x5C) (.type "BaseException") = some true)
    (x5ve : PySem.W.subIn K (.ref x5C) (.type "ValueError") = some true)
    (x5me : PySem.W.mroIn K x5C (.ref x5C) = some true)
    (x5ty : PySem.W.typeIn K (.ref x5C) = some (.type "type"))
    (x5hd : PySem.W.hasDictIn K x5C = true)
    (x5sup : PySem.W.ks_superIn K x5C x5C "__init__" = some (some (.builtin "ValueError.__init__")))
    (x5i : PySem.W.findIn K (.ref x5C) "__init__" = some (some (.ref x5f)))
    (x5it : PySem.W.typeIn K (.ref x5f) = some (.type "function"))
    (x5il : K.lookup x5f = some ⟨x5oc, x5od, .func (PySem.W.ksFn "__init__" "NoSignal.__init__" (defArgs i_NoSignal) (defBody i_NoSignal) (defScope i_NoSignal) .none .none x5doc x5pm x5an (.ref x5cda) x5ct x5cc), x5osl⟩)
    (x5ic : PySem.W.codeIn K (.ref x5cda) "NoSignal.__init__" = true)
    (x5cd : K.lookup x5cda = some ⟨x5ccl, x5cdd, .fields x5vs, x5ccs⟩)
    (x5vz : x5vs[2]? = some (.str x5file x5tf))
    (x5fi : ((PySem.Challenge.rw_everydecider_k16_both_and_again.prog.main.file : Str) == x5file) = true)
    (x5cw : K.lookup x5cc = some ⟨x5cl, x5cld, .cell (some (.ref x5C)), x5csl⟩)
    {x6C x6f x6cc x6cda x6N : Addr} {x6n0 x6q : Str} {x6bs x6bm : List Value} {x6sn : List Str} {x6sub : List Value} {x6ab : Bool} {x6col : Option Bool} {x6dd : Option Addr} {x6k0 x6k1 x6k2 x6k3 x6k5 : Option Value}
    {x6oc : Value} {x6od : Option Addr} {x6doc x6pm : Value} {x6an : Option Addr} {x6ct : Value} {x6osl : Array (Option Value)} {x6ccl : Value} {x6cdd : Option Addr} {x6vs : Array Value} {x6ccs : Array (Option Value)} {x6cl : Value} {x6cld : Option Addr} {x6csl : Array (Option Value)} {x6file : Str} {x6tf : Tok}
    (x6a : PySem.W.nsIn K mainGlobals "NoState" = some (some (.ref x6C)))
    (x6l : K.lookup x6C = some (excClassObj x6n0 x6q x6C x6N x6bs x6bm true x6sn x6sub x6ab x6col x6dd x6k0 x6k1 x6k2 x6k3 x6k5 "ValueError.__new__"))
    (x6r : HandSPX.refsVE x6bm = true)
    (x6sa : PySem.W.findIn K (.ref x6C) "__setattr__" = some (some (.builtin "object.__setattr__")))
    (x6ga : PySem.W.findIn K (.ref x6C) "__getattribute__" = some (some (.builtin "BaseException.__getattribute__")))
    (x6gg : PySem.W.findIn K (.ref x6C) "__getattr__" = some none)
    (x6nn : PySem.W.findIn K (.ref x6C) "state" = some none)
    (x6kc : PySem.W.keepIn K (.ref x6C) = true)
    (x6ex : PySem.W.subIn K (.ref x6C) (.type "BaseException") = some true)
    (x6ve : PySem.W.subIn K (.ref x6C) (.type "ValueError") = some true)
    (x6me : PySem.W.mroIn K x6C (.ref x6C) = some true)
    (x6ty : PySem.W.typeIn K (.ref x6C) = some (.type "type"))
    (x6hd : PySem.W.hasDictIn K x6C = true)
    (x6sup : PySem.W.ks_superIn K x6C x6C "__init__" = some (some (.builtin "ValueError.__init__")))
    (x6i : PySem.W.findIn K (.ref x6C) "__init__" = some (some (.ref x6f)))
    (x6it : PySem.W.typeIn K (.ref x6f) = some (.type "function"))
    (x6il : K.lookup x6f = some ⟨x6oc, x6od, .func (PySem.W.ksFn "__init__" "NoState.__init__" (defArgs i_NoState) (defBody i_NoState) (defScope i_NoState) .none .none x6doc x6pm x6an (.ref x6cda) x6ct x6cc), x6osl⟩)
    (x6ic : PySem.W.codeIn K (.ref x6cda) "NoState.__init__" = true)
    (x6cd : K.lookup x6cda = some ⟨x6ccl, x6cdd, .fields x6vs, x6ccs⟩)
    (x6vz : x6vs[2]? = some (.str x6file x6tf))
    (x6fi : ((PySem.Challenge.rw_everydecider_k16_both_and_again.prog.main.file : Str) == x6file) = true)
    (x6cw : K.lookup x6cc = some ⟨x6cl, x6cld, .cell (some (.ref x6C)), x6csl⟩)
    {x7C x7f x7cc x7cda x7N : Addr} {x7n0 x7q : Str} {x7bs x7bm : List Value} {x7sn : List Str} {x7sub : List Value} {x7ab : Bool} {x7col : Option Bool} {x7dd : Option Addr} {x7k0 x7k1 x7k2 x7k3 x7k5 : Option Value}
    {x7oc : Value} {x7od : Option Addr} {x7doc x7pm : Value} {x7an : Option Addr} {x7ct : Value} {x7osl : Array (Option Value)} {x7ccl : Value} {x7cdd : Option Addr} {x7vs : Array Value} {x7ccs : Array (Option Value)} {x7cl : Value} {x7cld : Option Addr} {x7csl : Array (Option Value)} {x7file : Str} {x7tf : Tok}
    (x7a : PySem.W.nsIn K mainGlobals "TooMany" = some (some (.ref x7C)))
    (x7l : K.lookup x7C = some (excClassObj x7n0 x7q x7C x7N x7bs x7bm true x7sn x7sub x7ab x7col x7dd x7k0 x7k1 x7k2 x7k3 x7k5 "ValueError.__new__"))
    (x7r : HandSPX.refsVE x7bm = true)
    (x7sa : PySem.W.findIn K (.ref x7C) "__setattr__" = some (some (.builtin "object.__setattr__")))
    (x7ga : PySem.W.findIn K (.ref x7C) "__getattribute__" = some (some (.builtin "BaseException.__getattribute__")))
    (x7gg : PySem.W.findIn K (.ref x7C) "__getattr__" = some none)
    (x7nn : PySem.W.findIn K (.ref x7C) "count" = some none)
    (x7kc : PySem.W.keepIn K (.ref x7C) = true)
    (x7ex : PySem.W.subIn K (.ref x7C) (.type "BaseException") = some true)
    (x7ve : PySem.W.subIn K (.ref x7C) (.type "ValueError") = some true)
    (x7me : PySem.W.mroIn K x7C (.ref x7C) = some true)
    (x7ty : PySem.W.typeIn K (.ref x7C) = some (.type "type"))
    (x7hd : PySem.W.hasDictIn K x7C = true)
    (x7sup : PySem.W.ks_superIn K x7C x7C "__init__" = some (some (.builtin "ValueError.__init__")))
    (x7i : PySem.W.findIn K (.ref x7C) "__init__" = some (some (.ref x7f)))
    (x7it : PySem.W.typeIn K (.ref x7f) = some (.type "function"))
    (x7il : K.lookup x7f = some ⟨x7oc, x7od, .func (PySem.W.ksFn "__init__" "TooMany.__init__" (defArgs i_TooMany) (defBody i_TooMany) (defScope i_TooMany) .none .none x7doc x7pm x7an (.ref x7cda) x7ct x7cc), x7osl⟩)
    (x7ic : PySem.W.codeIn K (.ref x7cda) "TooMany.__init__" = true)
    (x7cd : K.lookup x7cda = some ⟨x7ccl, x7cdd, .fields x7vs, x7ccs⟩)
    (x7vz : x7vs[2]? = some (.str x7file x7tf))
    (x7fi : ((PySem.Challenge.rw_everydecider_k16_both_and_again.prog.main.file : Str) == x7file) = true)
    (x7cw : K.lookup x7cc = some ⟨x7cl, x7cld, .cell (some (.ref x7C)), x7csl⟩)
    {y0C : Addr}
    (y0a : PySem.W.nsIn K mainGlobals "Mismatch" = some (some (.ref y0C)))
    (y0x : PySem.W.excIn K y0C [.type "ValueError", .type "Exception", .type "BaseException", .type "object"] "ValueError.__new__" = true)
    (y0k : PySem.W.keepIn K (.ref y0C) = true)
    (y0b : PySem.W.subIn K (.ref y0C) (.type "BaseException") = some true)
    (y0t : PySem.W.typeIn K (.ref y0C) = some (.type "type"))
    (hb_BadTimes : PySem.W.subIn K (.ref x3C) (.type "BaseException") = some true)
    (hi_BadTimes : PySem.W.isClsIn K x3C = true)
    (ht_BadTimes : PySem.W.typeIn K (.ref x3C) = some (.type "type"))
    (hb_Mismatch : PySem.W.subIn K (.ref y0C) (.type "BaseException") = some true)
    (hi_Mismatch : PySem.W.isClsIn K y0C = true)
    (ht_Mismatch : PySem.W.typeIn K (.ref y0C) = some (.type "type"))
    (hb_TooMany : PySem.W.subIn K (.ref x7C) (.type "BaseException") = some true)
    (hi_TooMany : PySem.W.isClsIn K x7C = true)
    (ht_TooMany : PySem.W.typeIn K (.ref x7C) = some (.type "type"))
    (m0 : PySem.W.subIn K (.ref x0C) (.ref x3C) = some false)
    (m1 : PySem.W.subIn K (.ref x0C) (.ref y0C) = some false)
    (m2 : PySem.W.subIn K (.ref x0C) (.ref x7C) = some false)
    (m3 : PySem.W.subIn K (.ref x1C) (.ref x3C) = some false)
    (m4 : PySem.W.subIn K (.ref x1C) (.ref y0C) = some false)
    (m5 : PySem.W.subIn K (.ref x1C) (.ref x7C) = some false)
    (m6 : PySem.W.subIn K (.ref x2C) (.ref x3C) = some false)
    (m7 : PySem.W.subIn K (.ref x2C) (.ref y0C) = some false)
    (m8 : PySem.W.subIn K (.ref x2C) (.ref x7C) = some false)
    (m9 : PySem.W.subIn K (.ref x3C) (.ref x3C) = some true)
    (m10 : PySem.W.subIn K (.ref x3C) (.ref y0C) = some false)
    (m11 : PySem.W.subIn K (.ref x3C) (.ref x7C) = some false)
    (m12 : PySem.W.subIn K (.ref x4C) (.ref x3C) = some false)
    (m13 : PySem.W.subIn K (.ref x4C) (.ref y0C) = some false)
    (m14 : PySem.W.subIn K (.ref x4C) (.ref x7C) = some false)
    (m15 : PySem.W.subIn K (.ref y0C) (.ref x3C) = some false)
    (m16 : PySem.W.subIn K (.ref y0C) (.ref y0C) = some true)
    (m17 : PySem.W.subIn K (.ref y0C) (.ref x7C) = some false)
    (m18 : PySem.W.subIn K (.ref x5C) (.ref x3C) = some false)
    (m19 : PySem.W.subIn K (.ref x5C) (.ref y0C) = some false)
    (m20 : PySem.W.subIn K (.ref x5C) (.ref x7C) = some false)
    (m21 : PySem.W.subIn K (.ref x6C) (.ref x3C) = some false)
    (m22 : PySem.W.subIn K (.ref x6C) (.ref y0C) = some false)
    (m23 : PySem.W.subIn K (.ref x6C) (.ref x7C) = some false)
    (m24 : PySem.W.subIn K (.ref x7C) (.ref x3C) = some false)
    (m25 : PySem.W.subIn K (.ref x7C) (.ref y0C) = some false)
    (m26 : PySem.W.subIn K (.ref x7C) (.ref x7C) = some true)
    {g0t : Tok}
    (glb0 : PySem.W.nsIn K mainGlobals "MOST_SIGNALS" = some (some (.int 64 g0t)))
    {g1t : Tok}
    (glb1 : PySem.W.nsIn K mainGlobals "MOST_STATES" = some (some (.int 4 g1t)))
    {g2t : Tok}
    (glb2 : PySem.W.nsIn K mainGlobals "MOST_TIMES" = some (some (.int 6 g2t)))
    (z0 : PySem.W.nsIn K mainGlobals "abs" = some none)
    (z1 : PySem.W.nsIn K mainGlobals "int" = some none)
    (z2 : PySem.W.nsIn K mainGlobals "max" = some none)
    (z3 : PySem.W.nsIn K mainGlobals "len" = some none)
    (z4 : PySem.W.nsIn K mainGlobals "list" = some none)
    (z5 : PySem.W.nsIn K mainGlobals "tuple" = some none)
    (z6 : PySem.W.nsIn K mainGlobals "isinstance" = some none)
    (z7 : PySem.W.nsIn K mainGlobals "range" = some none)
    (z8 : PySem.W.nsIn K mainGlobals "bool" = some none)
    (z9 : PySem.W.nsIn K mainGlobals "str" = some none)
    (z10 : PySem.W.nsIn K mainGlobals "sum" = some none)
    (z11 : PySem.W.nsIn K mainGlobals "min" = some none)
    (z12 : PySem.W.nsIn K mainGlobals "any" = some none)
    (z13 : PySem.W.nsIn K mainGlobals "all" = some none)
    (z14 : PySem.W.nsIn K mainGlobals "sorted" = some none)
    (z15 : PySem.W.nsIn K mainGlobals "enumerate" = some none)
    (z16 : PySem.W.nsIn K mainGlobals "zip" = some none)
    (zsup : PySem.W.nsIn K mainGlobals "super" = some none)
    (third : PySem.W.nsIn K cStatics "thirdparty.any" = some none)
    (chn : PySem.W.specialIn K (.builtin "object.__class__") "__get__" = some (some (.builtin "getset_descriptor.__get__")))
    (chtk : PySem.W.takesIn K (.builtin "object.__class__") = some true)
    (q0pg : PySem.W.plainGet K C0 Str.empty = true)
    (q0hd : PySem.W.hasDictIn K C0 = true)
    (q0po : PySem.W.plainOver K C0 = true)
    (q0sa : PySem.W.findIn K (.ref C0) "__setattr__" = some (some (.builtin "object.__setattr__")))
    (q0ha : PySem.W.findIn K (.ref C0) "__class__" = some (some (.builtin "object.__class__")))
    (q0mr : PySem.W.mroIn K C0 (.type "object") = some true)
    (q0bint : PySem.W.kitOne K (.ref C0) (.type "int") = some false)
    (q0bbool : PySem.W.kitOne K (.ref C0) (.type "bool") = some false)
    (q0bstr : PySem.W.kitOne K (.ref C0) (.type "str") = some false)
    (q0blist : PySem.W.kitOne K (.ref C0) (.type "list") = some false)
    (q0btuple : PySem.W.kitOne K (.ref C0) (.type "tuple") = some false)
    (q0iNoneType : PySem.W.kitOne K (.type "NoneType") (.ref C0) = some false)
    (q0ibool : PySem.W.kitOne K (.type "bool") (.ref C0) = some false)
    (q0iint : PySem.W.kitOne K (.type "int") (.ref C0) = some false)
    (q0istr : PySem.W.kitOne K (.type "str") (.ref C0) = some false)
    (q0ituple : PySem.W.kitOne K (.type "tuple") (.ref C0) = some false)
    (q0ilist : PySem.W.kitOne K (.type "list") (.ref C0) = some false)
    (q0c0 : PySem.W.kitOne K (.ref C0) (.ref C0) = some true)
    (q0n0 : PySem.W.findIn K (.ref C0) "grid" = some none)
    (q0n1 : PySem.W.findIn K (.ref C0) "signals" = some none)
    (q0n2 : PySem.W.findIn K (.ref C0) "states" = some none)
    (q0n3 : PySem.W.findIn K (.ref C0) "unit" = some none)
    (q0mk : PySem.W.makesIn K C0 = true)
    (q0kp : PySem.W.keepIn K (.ref C0) = true) :
    ∃ fd : FuncData, (∀ (s : Shared) (u : Value), BindsTo s fd ⟨[u], []⟩ [("_law_script", u)]) ∧ ∀ base : Heap, K.In base → base.Ns mainGlobals mg → FnOk PySem.Challenge.rw_everydecider_k16_both_and_again.prog w K mg base (L2N.CX PySem.Challenge.rw_everydecider_k16_both_and_again.prog w) (2 * (lv + 1) + 1) fa fd ["_law_script"] (SpN (wdOf clss K) (callN prog Fu (lv + 1) "law")) := by
  have F1 := fn_mk (st := s_d_is_integer) l1 c1 k1
  have B1 : Binds K (PySem.W.fnOf "is_integer" "is_integer" (defArgs s_d_is_integer) (defBody s_d_is_integer) (defScope s_d_is_integer) .none kV1 dc1 pm1 an1 cd1 ct1) ((d_is_integer.names.take d_is_integer.np).map Str.ofString) [] := .all fun us hl => match us, hl with | [_], _ => rfl
  have Y1 : Bd fns K d_is_integer f1 (PySem.W.fnOf "is_integer" "is_integer" (defArgs s_d_is_integer) (defBody s_d_is_integer) (defScope s_d_is_integer) .none kV1 dc1 pm1 an1 cd1 ct1) := ⟨_, _, s_d_is_integer, F1, sc_d_is_integer, B1, same_d_is_integer, by decide⟩
  have D1 : DfOk fns K mg "is_integer" d_is_integer := ⟨f1, _, Y1, PySem.W.mg_of X G a1, k1, (fun i hi => by cases hi), (fun k1 k2 hk => by cases hk)⟩
  have F2 := fn_mk (st := s_d_divisor) l2 c2 k2
  have B2 : Binds K (PySem.W.fnOf "divisor" "divisor" (defArgs s_d_divisor) (defBody s_d_divisor) (defScope s_d_divisor) .none kV2 dc2 pm2 an2 cd2 ct2) ((d_divisor.names.take d_divisor.np).map Str.ofString) [] := .all fun us hl => match us, hl with | [_, _], _ => rfl
  have Y2 : Bd fns K d_divisor f2 (PySem.W.fnOf "divisor" "divisor" (defArgs s_d_divisor) (defBody s_d_divisor) (defScope s_d_divisor) .none kV2 dc2 pm2 an2 cd2 ct2) := ⟨_, _, s_d_divisor, F2, sc_d_divisor, B2, same_d_divisor, by decide⟩
  have D2 : DfOk fns K mg "divisor" d_divisor := ⟨f2, _, Y2, PySem.W.mg_of X G a2, k2, (fun i hi => by cases hi), (fun k1 k2 hk => by cases hk)⟩
  have F3 := fn_mk (st := s_d_lowest) l3 c3 k3
  have B3 : Binds K (PySem.W.fnOf "lowest" "lowest" (defArgs s_d_lowest) (defBody s_d_lowest) (defScope s_d_lowest) .none kV3 dc3 pm3 an3 cd3 ct3) ((d_lowest.names.take d_lowest.np).map Str.ofString) [] := .all fun us hl => match us, hl with | [_], _ => rfl
  have Y3 : Bd fns K d_lowest f3 (PySem.W.fnOf "lowest" "lowest" (defArgs s_d_lowest) (defBody s_d_lowest) (defScope s_d_lowest) .none kV3 dc3 pm3 an3 cd3 ct3) := ⟨_, _, s_d_lowest, F3, sc_d_lowest, B3, same_d_lowest, by decide⟩
  have D3 : DfOk fns K mg "lowest" d_lowest := ⟨f3, _, Y3, PySem.W.mg_of X G a3, k3, (fun i hi => by cases hi), (fun k1 k2 hk => by cases hk)⟩
  have F4 := fn_mk (st := s_d_ratio) l4 c4 k4
  have B4 : Binds K (PySem.W.fnOf "ratio" "ratio" (defArgs s_d_ratio) (defBody s_d_ratio) (defScope s_d_ratio) (.ref T4) kV4 dc4 pm4 an4 cd4 ct4) ((d_ratio.names.take d_ratio.np).map Str.ofString) [] := binds_nil fun s us XX hl => match us, hl with | [_, _], _ => by first | exact .of_eq rfl | exact PySem.W.binds_K XX rfl lT4 rfl rfl rfl
  have BD4 : Binds K (PySem.W.fnOf "ratio" "ratio" (defArgs s_d_ratio) (defBody s_d_ratio) (defScope s_d_ratio) (.ref T4) kV4 dc4 pm4 an4 cd4 ct4) ((d_ratio.names.take d_ratio.np).map Str.ofString) [.int 1 tT4] := binds_one fun s us XX hl => match us, hl with | [_], _ => by exact PySem.W.binds_K XX rfl lT4 rfl rfl rfl
  have Y4 : Bd fns K d_ratio f4 (PySem.W.fnOf "ratio" "ratio" (defArgs s_d_ratio) (defBody s_d_ratio) (defScope s_d_ratio) (.ref T4) kV4 dc4 pm4 an4 cd4 ct4) := ⟨_, _, s_d_ratio, F4, sc_d_ratio, B4, same_d_ratio, by decide⟩
  have D4 : DfOk fns K mg "ratio" d_ratio := ⟨f4, _, Y4, PySem.W.mg_of X G a4, k4, (fun i hi => by cases hi), (fun k1 k2 hk => by cases hk)⟩
  have F5 := fn_mk (st := s_d_is_number_of) l5 c5 k5
  have B5 : Binds K (PySem.W.fnOf "is_number_of" "is_number_of" (defArgs s_d_is_number_of) (defBody s_d_is_number_of) (defScope s_d_is_number_of) .none kV5 dc5 pm5 an5 cd5 ct5) ((d_is_number_of.names.take d_is_number_of.np).map Str.ofString) [] := .all fun us hl => match us, hl with | [_, _], _ => rfl
  have Y5 : Bd fns K d_is_number_of f5 (PySem.W.fnOf "is_number_of" "is_number_of" (defArgs s_d_is_number_of) (defBody s_d_is_number_of) (defScope s_d_is_number_of) .none kV5 dc5 pm5 an5 cd5 ct5) := ⟨_, _, s_d_is_number_of, F5, sc_d_is_number_of, B5, same_d_is_number_of, by decide⟩
  have D5 : DfOk fns K mg "is_number_of" d_is_number_of := ⟨f5, _, Y5, PySem.W.mg_of X G a5, k5, (fun i hi => by cases hi), (fun k1 k2 hk => by cases hk)⟩
  have F6 := fn_mk (st := s_d_check_unit) l6 c6 k6
  have B6 : Binds K (PySem.W.fnOf "check_unit" "check_unit" (defArgs s_d_check_unit) (defBody s_d_check_unit) (defScope s_d_check_unit) .none kV6 dc6 pm6 an6 cd6 ct6) ((d_check_unit.names.take d_check_unit.np).map Str.ofString) [] := .all fun us hl => match us, hl with | [_], _ => rfl
  have Y6 : Bd fns K d_check_unit f6 (PySem.W.fnOf "check_unit" "check_unit" (defArgs s_d_check_unit) (defBody s_d_check_unit) (defScope s_d_check_unit) .none kV6 dc6 pm6 an6 cd6 ct6) := ⟨_, _, s_d_check_unit, F6, sc_d_check_unit, B6, same_d_check_unit, by decide⟩
  have D6 : DfOk fns K mg "check_unit" d_check_unit := ⟨f6, _, Y6, PySem.W.mg_of X G a6, k6, (fun i hi => by cases hi), (fun k1 k2 hk => by cases hk)⟩
  have F7 := fn_mk (st := s_d_check_rows) l7 c7 k7
  have B7 : Binds K (PySem.W.fnOf "check_rows" "check_rows" (defArgs s_d_check_rows) (defBody s_d_check_rows) (defScope s_d_check_rows) .none kV7 dc7 pm7 an7 cd7 ct7) ((d_check_rows.names.take d_check_rows.np).map Str.ofString) [] := .all fun us hl => match us, hl with | [_, _], _ => rfl
  have Y7 : Bd fns K d_check_rows f7 (PySem.W.fnOf "check_rows" "check_rows" (defArgs s_d_check_rows) (defBody s_d_check_rows) (defScope s_d_check_rows) .none kV7 dc7 pm7 an7 cd7 ct7) := ⟨_, _, s_d_check_rows, F7, sc_d_check_rows, B7, same_d_check_rows, by decide⟩
  have D7 : DfOk fns K mg "check_rows" d_check_rows := ⟨f7, _, Y7, PySem.W.mg_of X G a7, k7, (fun i hi => by cases hi), (fun k1 k2 hk => by cases hk)⟩
  have F8 := fn_mk (st := s_d_in_lowest_terms) l8 c8 k8
  have B8 : Binds K (PySem.W.fnOf "in_lowest_terms" "in_lowest_terms" (defArgs s_d_in_lowest_terms) (defBody s_d_in_lowest_terms) (defScope s_d_in_lowest_terms) .none kV8 dc8 pm8 an8 cd8 ct8) ((d_in_lowest_terms.names.take d_in_lowest_terms.np).map Str.ofString) [] := .all fun us hl => match us, hl with | [_, _], _ => rfl
  have Y8 : Bd fns K d_in_lowest_terms f8 (PySem.W.fnOf "in_lowest_terms" "in_lowest_terms" (defArgs s_d_in_lowest_terms) (defBody s_d_in_lowest_terms) (defScope s_d_in_lowest_terms) .none kV8 dc8 pm8 an8 cd8 ct8) := ⟨_, _, s_d_in_lowest_terms, F8, sc_d_in_lowest_terms, B8, same_d_in_lowest_terms, by decide⟩
  have D8 : DfOk fns K mg "in_lowest_terms" d_in_lowest_terms := ⟨f8, _, Y8, PySem.W.mg_of X G a8, k8, (fun i hi => by cases hi), (fun k1 k2 hk => by cases hk)⟩
  have F9 := fn_mk (st := s_d_Experiment__init) l9 c9 k9
  have B9 : Binds K (PySem.W.fnOf "__init__" "Experiment.__init__" (defArgs s_d_Experiment__init) (defBody s_d_Experiment__init) (defScope s_d_Experiment__init) .none kV9 dc9 pm9 an9 cd9 ct9) ((d_Experiment__init.names.take d_Experiment__init.np).map Str.ofString) [] := .all fun us hl => match us, hl with | [_, _, _], _ => rfl
  have Y9 : Bd fns K d_Experiment__init f9 (PySem.W.fnOf "__init__" "Experiment.__init__" (defArgs s_d_Experiment__init) (defBody s_d_Experiment__init) (defScope s_d_Experiment__init) .none kV9 dc9 pm9 an9 cd9 ct9) := ⟨_, _, s_d_Experiment__init, F9, sc_d_Experiment__init, B9, same_d_Experiment__init, by decide⟩
  have F10 := fn_mk (st := s_d_Experiment_rows) l10 c10 k10
  have B10 : Binds K (PySem.W.fnOf "rows" "Experiment.rows" (defArgs s_d_Experiment_rows) (defBody s_d_Experiment_rows) (defScope s_d_Experiment_rows) .none kV10 dc10 pm10 an10 cd10 ct10) ((d_Experiment_rows.names.take d_Experiment_rows.np).map Str.ofString) [] := .all fun us hl => match us, hl with | [_], _ => rfl
  have Y10 : Bd fns K d_Experiment_rows f10 (PySem.W.fnOf "rows" "Experiment.rows" (defArgs s_d_Experiment_rows) (defBody s_d_Experiment_rows) (defScope s_d_Experiment_rows) .none kV10 dc10 pm10 an10 cd10 ct10) := ⟨_, _, s_d_Experiment_rows, F10, sc_d_Experiment_rows, B10, same_d_Experiment_rows, by decide⟩
  have F11 := fn_mk (st := s_d_Experiment__len) l11 c11 k11
  have B11 : Binds K (PySem.W.fnOf "__len__" "Experiment.__len__" (defArgs s_d_Experiment__len) (defBody s_d_Experiment__len) (defScope s_d_Experiment__len) .none kV11 dc11 pm11 an11 cd11 ct11) ((d_Experiment__len.names.take d_Experiment__len.np).map Str.ofString) [] := .all fun us hl => match us, hl with | [_], _ => rfl
  have Y11 : Bd fns K d_Experiment__len f11 (PySem.W.fnOf "__len__" "Experiment.__len__" (defArgs s_d_Experiment__len) (defBody s_d_Experiment__len) (defScope s_d_Experiment__len) .none kV11 dc11 pm11 an11 cd11 ct11) := ⟨_, _, s_d_Experiment__len, F11, sc_d_Experiment__len, B11, same_d_Experiment__len, by decide⟩
  have F12 := fn_mk (st := s_d_Experiment__getitem) l12 c12 k12
  have B12 : Binds K (PySem.W.fnOf "__getitem__" "Experiment.__getitem__" (defArgs s_d_Experiment__getitem) (defBody s_d_Experiment__getitem) (defScope s_d_Experiment__getitem) .none kV12 dc12 pm12 an12 cd12 ct12) ((d_Experiment__getitem.names.take d_Experiment__getitem.np).map Str.ofString) [] := .all fun us hl => match us, hl with | [_, _], _ => rfl
  have Y12 : Bd fns K d_Experiment__getitem f12 (PySem.W.fnOf "__getitem__" "Experiment.__getitem__" (defArgs s_d_Experiment__getitem) (defBody s_d_Experiment__getitem) (defScope s_d_Experiment__getitem) .none kV12 dc12 pm12 an12 cd12 ct12) := ⟨_, _, s_d_Experiment__getitem, F12, sc_d_Experiment__getitem, B12, same_d_Experiment__getitem, by decide⟩
  have F13 := fn_mk (st := s_d_Experiment__eq) l13 c13 k13
  have B13 : Binds K (PySem.W.fnOf "__eq__" "Experiment.__eq__" (defArgs s_d_Experiment__eq) (defBody s_d_Experiment__eq) (defScope s_d_Experiment__eq) .none kV13 dc13 pm13 an13 cd13 ct13) ((d_Experiment__eq.names.take d_Experiment__eq.np).map Str.ofString) [] := .all fun us hl => match us, hl with | [_, _], _ => rfl
  have Y13 : Bd fns K d_Experiment__eq f13 (PySem.W.fnOf "__eq__" "Experiment.__eq__" (defArgs s_d_Experiment__eq) (defBody s_d_Experiment__eq) (defScope s_d_Experiment__eq) .none kV13 dc13 pm13 an13 cd13 ct13) := ⟨_, _, s_d_Experiment__eq, F13, sc_d_Experiment__eq, B13, same_d_Experiment__eq, by decide⟩
  have F14 := fn_mk (st := s_d_check_same_states) l14 c14 k14
  have B14 : Binds K (PySem.W.fnOf "check_same_states" "check_same_states" (defArgs s_d_check_same_states) (defBody s_d_check_same_states) (defScope s_d_check_same_states) .none kV14 dc14 pm14 an14 cd14 ct14) ((d_check_same_states.names.take d_check_same_states.np).map Str.ofString) [] := .all fun us hl => match us, hl with | [_], _ => rfl
  have Y14 : Bd fns K d_check_same_states f14 (PySem.W.fnOf "check_same_states" "check_same_states" (defArgs s_d_check_same_states) (defBody s_d_check_same_states) (defScope s_d_check_same_states) .none kV14 dc14 pm14 an14 cd14 ct14) := ⟨_, _, s_d_check_same_states, F14, sc_d_check_same_states, B14, same_d_check_same_states, by decide⟩
  have D14 : DfOk fns K mg "check_same_states" d_check_same_states := ⟨f14, _, Y14, PySem.W.mg_of X G a14, k14, (fun i hi => by cases hi), (fun k1 k2 hk => by cases hk)⟩
  have F15 := fn_mk (st := s_d_check_states) l15 c15 k15
  have B15 : Binds K (PySem.W.fnOf "check_states" "check_states" (defArgs s_d_check_states) (defBody s_d_check_states) (defScope s_d_check_states) .none kV15 dc15 pm15 an15 cd15 ct15) ((d_check_states.names.take d_check_states.np).map Str.ofString) [] := .all fun us hl => match us, hl with | [_], _ => rfl
  have Y15 : Bd fns K d_check_states f15 (PySem.W.fnOf "check_states" "check_states" (defArgs s_d_check_states) (defBody s_d_check_states) (defScope s_d_check_states) .none kV15 dc15 pm15 an15 cd15 ct15) := ⟨_, _, s_d_check_states, F15, sc_d_check_states, B15, same_d_check_states, by decide⟩
  have D15 : DfOk fns K mg "check_states" d_check_states := ⟨f15, _, Y15, PySem.W.mg_of X G a15, k15, (fun i hi => by cases hi), (fun k1 k2 hk => by cases hk)⟩
  have F16 := fn_mk (st := s_d_uninformative) l16 c16 k16
  have B16 : Binds K (PySem.W.fnOf "uninformative" "uninformative" (defArgs s_d_uninformative) (defBody s_d_uninformative) (defScope s_d_uninformative) .none kV16 dc16 pm16 an16 cd16 ct16) ((d_uninformative.names.take d_uninformative.np).map Str.ofString) [] := .all fun us hl => match us, hl with | [_], _ => rfl
  have Y16 : Bd fns K d_uninformative f16 (PySem.W.fnOf "uninformative" "uninformative" (defArgs s_d_uninformative) (defBody s_d_uninformative) (defScope s_d_uninformative) .none kV16 dc16 pm16 an16 cd16 ct16) := ⟨_, _, s_d_uninformative, F16, sc_d_uninformative, B16, same_d_uninformative, by decide⟩
  have D16 : DfOk fns K mg "uninformative" d_uninformative := ⟨f16, _, Y16, PySem.W.mg_of X G a16, k16, (fun i hi => by cases hi), (fun k1 k2 hk => by cases hk)⟩
  have F17 := fn_mk (st := s_d_check_count) l17 c17 k17
  have B17 : Binds K (PySem.W.fnOf "check_count" "check_count" (defArgs s_d_check_count) (defBody s_d_check_count) (defScope s_d_check_count) .none kV17 dc17 pm17 an17 cd17 ct17) ((d_check_count.names.take d_check_count.np).map Str.ofString) [] := .all fun us hl => match us, hl with | [_], _ => rfl
  have Y17 : Bd fns K d_check_count f17 (PySem.W.fnOf "check_count" "check_count" (defArgs s_d_check_count) (defBody s_d_check_count) (defScope s_d_check_count) .none kV17 dc17 pm17 an17 cd17 ct17) := ⟨_, _, s_d_check_count, F17, sc_d_check_count, B17, same_d_check_count, by decide⟩
  have D17 : DfOk fns K mg "check_count" d_check_count := ⟨f17, _, Y17, PySem.W.mg_of X G a17, k17, (fun i hi => by cases hi), (fun k1 k2 hk => by cases hk)⟩
  have F18 := fn_mk (st := s_d_pairs) l18 c18 k18
  have B18 : Binds K (PySem.W.fnOf "pairs" "pairs" (defArgs s_d_pairs) (defBody s_d_pairs) (defScope s_d_pairs) .none kV18 dc18 pm18 an18 cd18 ct18) ((d_pairs.names.take d_pairs.np).map Str.ofString) [] := .all fun us hl => match us, hl with | [_, _], _ => rfl
  have Y18 : Bd fns K d_pairs f18 (PySem.W.fnOf "pairs" "pairs" (defArgs s_d_pairs) (defBody s_d_pairs) (defScope s_d_pairs) .none kV18 dc18 pm18 an18 cd18 ct18) := ⟨_, _, s_d_pairs, F18, sc_d_pairs, B18, same_d_pairs, by decide⟩
  have D18 : DfOk fns K mg "pairs" d_pairs := ⟨f18, _, Y18, PySem.W.mg_of X G a18, k18, (fun i hi => by cases hi), (fun k1 k2 hk => by cases hk)⟩
  have F19 := fn_mk (st := s_d_both) l19 c19 k19
  have B19 : Binds K (PySem.W.fnOf "both" "both" (defArgs s_d_both) (defBody s_d_both) (defScope s_d_both) .none kV19 dc19 pm19 an19 cd19 ct19) ((d_both.names.take d_both.np).map Str.ofString) [] := .all fun us hl => match us, hl with | [_, _], _ => rfl
  have Y19 : Bd fns K d_both f19 (PySem.W.fnOf "both" "both" (defArgs s_d_both) (defBody s_d_both) (defScope s_d_both) .none kV19 dc19 pm19 an19 cd19 ct19) := ⟨_, _, s_d_both, F19, sc_d_both, B19, same_d_both, by decide⟩
  have D19 : DfOk fns K mg "both" d_both := ⟨f19, _, Y19, PySem.W.mg_of X G a19, k19, (fun i hi => by cases hi), (fun k1 k2 hk => by cases hk)⟩
  have F20 := fn_mk (st := s_d_again) l20 c20 k20
  have B20 : Binds K (PySem.W.fnOf "again" "again" (defArgs s_d_again) (defBody s_d_again) (defScope s_d_again) .none kV20 dc20 pm20 an20 cd20 ct20) ((d_again.names.take d_again.np).map Str.ofString) [] := .all fun us hl => match us, hl with | [_, _], _ => rfl
  have Y20 : Bd fns K d_again f20 (PySem.W.fnOf "again" "again" (defArgs s_d_again) (defBody s_d_again) (defScope s_d_again) .none kV20 dc20 pm20 an20 cd20 ct20) := ⟨_, _, s_d_again, F20, sc_d_again, B20, same_d_again, by decide⟩
  have D20 : DfOk fns K mg "again" d_again := ⟨f20, _, Y20, PySem.W.mg_of X G a20, k20, (fun i hi => by cases hi), (fun k1 k2 hk => by cases hk)⟩
  have F21 := fn_mk (st := s_l_pool) l21 c21 k21
  have B21 : Binds K (PySem.W.fnOf "_law_pool" "_law_pool" (defArgs s_l_pool) (defBody s_l_pool) (defScope s_l_pool) .none kV21 dc21 pm21 an21 cd21 ct21) ((l_pool.names.take l_pool.np).map Str.ofString) [] := .all fun us hl => match us, hl with | [_], _ => rfl
  have Y21 : Bd fns K l_pool f21 (PySem.W.fnOf "_law_pool" "_law_pool" (defArgs s_l_pool) (defBody s_l_pool) (defScope s_l_pool) .none kV21 dc21 pm21 an21 cd21 ct21) := ⟨_, _, s_l_pool, F21, sc_l_pool, B21, same_l_pool, by decide⟩
  have D21 : DfOk fns K mg "_law_pool" l_pool := ⟨f21, _, Y21, PySem.W.mg_of X G a21, k21, (fun i hi => by cases hi), (fun k1 k2 hk => by cases hk)⟩
  have F22 := fn_mk (st := s_l_take) l22 c22 k22
  have B22 : Binds K (PySem.W.fnOf "_law_take" "_law_take" (defArgs s_l_take) (defBody s_l_take) (defScope s_l_take) .none kV22 dc22 pm22 an22 cd22 ct22) ((l_take.names.take l_take.np).map Str.ofString) [] := .all fun us hl => match us, hl with | [_, _], _ => rfl
  have Y22 : Bd fns K l_take f22 (PySem.W.fnOf "_law_take" "_law_take" (defArgs s_l_take) (defBody s_l_take) (defScope s_l_take) .none kV22 dc22 pm22 an22 cd22 ct22) := ⟨_, _, s_l_take, F22, sc_l_take, B22, same_l_take, by decide⟩
  have D22 : DfOk fns K mg "_law_take" l_take := ⟨f22, _, Y22, PySem.W.mg_of X G a22, k22, (fun i hi => by cases hi), (fun k1 k2 hk => by cases hk)⟩
  have F23 := fn_mk (st := s_l_is_number) l23 c23 k23
  have B23 : Binds K (PySem.W.fnOf "_law_is_number" "_law_is_number" (defArgs s_l_is_number) (defBody s_l_is_number) (defScope s_l_is_number) .none kV23 dc23 pm23 an23 cd23 ct23) ((l_is_number.names.take l_is_number.np).map Str.ofString) [] := .all fun us hl => match us, hl with | [_], _ => rfl
  have Y23 : Bd fns K l_is_number f23 (PySem.W.fnOf "_law_is_number" "_law_is_number" (defArgs s_l_is_number) (defBody s_l_is_number) (defScope s_l_is_number) .none kV23 dc23 pm23 an23 cd23 ct23) := ⟨_, _, s_l_is_number, F23, sc_l_is_number, B23, same_l_is_number, by decide⟩
  have D23 : DfOk fns K mg "_law_is_number" l_is_number := ⟨f23, _, Y23, PySem.W.mg_of X G a23, k23, (fun i hi => by cases hi), (fun k1 k2 hk => by cases hk)⟩
  have F24 := fn_mk (st := s_l_divisor) l24 c24 k24
  have B24 : Binds K (PySem.W.fnOf "_law_divisor" "_law_divisor" (defArgs s_l_divisor) (defBody s_l_divisor) (defScope s_l_divisor) .none kV24 dc24 pm24 an24 cd24 ct24) ((l_divisor.names.take l_divisor.np).map Str.ofString) [] := .all fun us hl => match us, hl with | [_], _ => rfl
  have Y24 : Bd fns K l_divisor f24 (PySem.W.fnOf "_law_divisor" "_law_divisor" (defArgs s_l_divisor) (defBody s_l_divisor) (defScope s_l_divisor) .none kV24 dc24 pm24 an24 cd24 ct24) := ⟨_, _, s_l_divisor, F24, sc_l_divisor, B24, same_l_divisor, by decide⟩
  have D24 : DfOk fns K mg "_law_divisor" l_divisor := ⟨f24, _, Y24, PySem.W.mg_of X G a24, k24, (fun i hi => by cases hi), (fun k1 k2 hk => by cases hk)⟩
  have F25 := fn_mk (st := s_l_lowest_2) l25 c25 k25
  have B25 : Binds K (PySem.W.fnOf "_law_lowest" "_law_lowest" (defArgs s_l_lowest_2) (defBody s_l_lowest_2) (defScope s_l_lowest_2) .none kV25 dc25 pm25 an25 cd25 ct25) ((l_lowest_2.names.take l_lowest_2.np).map Str.ofString) [] := .all fun us hl => match us, hl with | [_, _], _ => rfl
  have Y25 : Bd fns K l_lowest_2 f25 (PySem.W.fnOf "_law_lowest" "_law_lowest" (defArgs s_l_lowest_2) (defBody s_l_lowest_2) (defScope s_l_lowest_2) .none kV25 dc25 pm25 an25 cd25 ct25) := ⟨_, _, s_l_lowest_2, F25, sc_l_lowest_2, B25, same_l_lowest_2, by decide⟩
  have D25 : DfOk fns K mg "_law_lowest" l_lowest_2 := ⟨f25, _, Y25, PySem.W.mg_of X G a25, k25, (fun i hi => by cases hi), (fun k1 k2 hk => by cases hk)⟩
  have F26 := fn_mk (st := s_l_row) l26 c26 k26
  have B26 : Binds K (PySem.W.fnOf "_law_row" "_law_row" (defArgs s_l_row) (defBody s_l_row) (defScope s_l_row) .none kV26 dc26 pm26 an26 cd26 ct26) ((l_row.names.take l_row.np).map Str.ofString) [] := .all fun us hl => match us, hl with | [_, _, _], _ => rfl
  have Y26 : Bd fns K l_row f26 (PySem.W.fnOf "_law_row" "_law_row" (defArgs s_l_row) (defBody s_l_row) (defScope s_l_row) .none kV26 dc26 pm26 an26 cd26 ct26) := ⟨_, _, s_l_row, F26, sc_l_row, B26, same_l_row, by decide⟩
  have D26 : DfOk fns K mg "_law_row" l_row := ⟨f26, _, Y26, PySem.W.mg_of X G a26, k26, (fun i hi => by cases hi), (fun k1 k2 hk => by cases hk)⟩
  have F27 := fn_mk (st := s_l_rows) l27 c27 k27
  have B27 : Binds K (PySem.W.fnOf "_law_rows" "_law_rows" (defArgs s_l_rows) (defBody s_l_rows) (defScope s_l_rows) .none kV27 dc27 pm27 an27 cd27 ct27) ((l_rows.names.take l_rows.np).map Str.ofString) [] := .all fun us hl => match us, hl with | [_, _, _, _], _ => rfl
  have Y27 : Bd fns K l_rows f27 (PySem.W.fnOf "_law_rows" "_law_rows" (defArgs s_l_rows) (defBody s_l_rows) (defScope s_l_rows) .none kV27 dc27 pm27 an27 cd27 ct27) := ⟨_, _, s_l_rows, F27, sc_l_rows, B27, same_l_rows, by decide⟩
  have D27 : DfOk fns K mg "_law_rows" l_rows := ⟨f27, _, Y27, PySem.W.mg_of X G a27, k27, (fun i hi => by cases hi), (fun k1 k2 hk => by cases hk)⟩
  have F28 := fn_mk (st := s_l_table) l28 c28 k28
  have B28 : Binds K (PySem.W.fnOf "_law_table" "_law_table" (defArgs s_l_table) (defBody s_l_table) (defScope s_l_table) .none kV28 dc28 pm28 an28 cd28 ct28) ((l_table.names.take l_table.np).map Str.ofString) [] := .all fun us hl => match us, hl with | [_, _, _, _], _ => rfl
  have Y28 : Bd fns K l_table f28 (PySem.W.fnOf "_law_table" "_law_table" (defArgs s_l_table) (defBody s_l_table) (defScope s_l_table) .none kV28 dc28 pm28 an28 cd28 ct28) := ⟨_, _, s_l_table, F28, sc_l_table, B28, same_l_table, by decide⟩
  have D28 : DfOk fns K mg "_law_table" l_table := ⟨f28, _, Y28, PySem.W.mg_of X G a28, k28, (fun i hi => by cases hi), (fun k1 k2 hk => by cases hk)⟩
  have F29 := fn_mk (st := s_l_shows) l29 c29 k29
  have B29 : Binds K (PySem.W.fnOf "_law_shows" "_law_shows" (defArgs s_l_shows) (defBody s_l_shows) (defScope s_l_shows) .none kV29 dc29 pm29 an29 cd29 ct29) ((l_shows.names.take l_shows.np).map Str.ofString) [] := .all fun us hl => match us, hl with | [_, _], _ => rfl
  have Y29 : Bd fns K l_shows f29 (PySem.W.fnOf "_law_shows" "_law_shows" (defArgs s_l_shows) (defBody s_l_shows) (defScope s_l_shows) .none kV29 dc29 pm29 an29 cd29 ct29) := ⟨_, _, s_l_shows, F29, sc_l_shows, B29, same_l_shows, by decide⟩
  have D29 : DfOk fns K mg "_law_shows" l_shows := ⟨f29, _, Y29, PySem.W.mg_of X G a29, k29, (fun i hi => by cases hi), (fun k1 k2 hk => by cases hk)⟩
  have F30 := fn_mk (st := s_l_of) l30 c30 k30
  have B30 : Binds K (PySem.W.fnOf "_law_of" "_law_of" (defArgs s_l_of) (defBody s_l_of) (defScope s_l_of) .none kV30 dc30 pm30 an30 cd30 ct30) ((l_of.names.take l_of.np).map Str.ofString) [] := .all fun us hl => match us, hl with | [_], _ => rfl
  have Y30 : Bd fns K l_of f30 (PySem.W.fnOf "_law_of" "_law_of" (defArgs s_l_of) (defBody s_l_of) (defScope s_l_of) .none kV30 dc30 pm30 an30 cd30 ct30) := ⟨_, _, s_l_of, F30, sc_l_of, B30, same_l_of, by decide⟩
  have D30 : DfOk fns K mg "_law_of" l_of := ⟨f30, _, Y30, PySem.W.mg_of X G a30, k30, (fun i hi => by cases hi), (fun k1 k2 hk => by cases hk)⟩
  have F31 := fn_mk (st := s_l_pairs) l31 c31 k31
  have B31 : Binds K (PySem.W.fnOf "_law_pairs" "_law_pairs" (defArgs s_l_pairs) (defBody s_l_pairs) (defScope s_l_pairs) .none kV31 dc31 pm31 an31 cd31 ct31) ((l_pairs.names.take l_pairs.np).map Str.ofString) [] := .all fun us hl => match us, hl with | [_, _], _ => rfl
  have Y31 : Bd fns K l_pairs f31 (PySem.W.fnOf "_law_pairs" "_law_pairs" (defArgs s_l_pairs) (defBody s_l_pairs) (defScope s_l_pairs) .none kV31 dc31 pm31 an31 cd31 ct31) := ⟨_, _, s_l_pairs, F31, sc_l_pairs, B31, same_l_pairs, by decide⟩
  have D31 : DfOk fns K mg "_law_pairs" l_pairs := ⟨f31, _, Y31, PySem.W.mg_of X G a31, k31, (fun i hi => by cases hi), (fun k1 k2 hk => by cases hk)⟩
  have F32 := fn_mk (st := s_l_told) l32 c32 k32
  have B32 : Binds K (PySem.W.fnOf "_law_told" "_law_told" (defArgs s_l_told) (defBody s_l_told) (defScope s_l_told) .none kV32 dc32 pm32 an32 cd32 ct32) ((l_told.names.take l_told.np).map Str.ofString) [] := .all fun us hl => match us, hl with | [_, _], _ => rfl
  have Y32 : Bd fns K l_told f32 (PySem.W.fnOf "_law_told" "_law_told" (defArgs s_l_told) (defBody s_l_told) (defScope s_l_told) .none kV32 dc32 pm32 an32 cd32 ct32) := ⟨_, _, s_l_told, F32, sc_l_told, B32, same_l_told, by decide⟩
  have D32 : DfOk fns K mg "_law_told" l_told := ⟨f32, _, Y32, PySem.W.mg_of X G a32, k32, (fun i hi => by cases hi), (fun k1 k2 hk => by cases hk)⟩
  have F33 := fn_mk (st := s_l_again) l33 c33 k33
  have B33 : Binds K (PySem.W.fnOf "_law_again" "_law_again" (defArgs s_l_again) (defBody s_l_again) (defScope s_l_again) .none kV33 dc33 pm33 an33 cd33 ct33) ((l_again.names.take l_again.np).map Str.ofString) [] := .all fun us hl => match us, hl with | [_, _], _ => rfl
  have Y33 : Bd fns K l_again f33 (PySem.W.fnOf "_law_again" "_law_again" (defArgs s_l_again) (defBody s_l_again) (defScope s_l_again) .none kV33 dc33 pm33 an33 cd33 ct33) := ⟨_, _, s_l_again, F33, sc_l_again, B33, same_l_again, by decide⟩
  have D33 : DfOk fns K mg "_law_again" l_again := ⟨f33, _, Y33, PySem.W.mg_of X G a33, k33, (fun i hi => by cases hi), (fun k1 k2 hk => by cases hk)⟩
  have F34 := fn_mk (st := s_l_due) l34 c34 k34
  have B34 : Binds K (PySem.W.fnOf "_law_due" "_law_due" (defArgs s_l_due) (defBody s_l_due) (defScope s_l_due) .none kV34 dc34 pm34 an34 cd34 ct34) ((l_due.names.take l_due.np).map Str.ofString) [] := .all fun us hl => match us, hl with | [_, _], _ => rfl
  have Y34 : Bd fns K l_due f34 (PySem.W.fnOf "_law_due" "_law_due" (defArgs s_l_due) (defBody s_l_due) (defScope s_l_due) .none kV34 dc34 pm34 an34 cd34 ct34) := ⟨_, _, s_l_due, F34, sc_l_due, B34, same_l_due, by decide⟩
  have D34 : DfOk fns K mg "_law_due" l_due := ⟨f34, _, Y34, PySem.W.mg_of X G a34, k34, (fun i hi => by cases hi), (fun k1 k2 hk => by cases hk)⟩
  have F35 := fn_mk (st := s_w_k16) l35 c35 k35
  have B35 : Binds K (PySem.W.fnOf "law" "law" (defArgs s_w_k16) (defBody s_w_k16) (defScope s_w_k16) .none kV35 dc35 pm35 an35 cd35 ct35) ((w_k16.names.take w_k16.np).map Str.ofString) [] := .all fun us hl => match us, hl with | [_], _ => rfl
  have Y35 : Bd fns K w_k16 f35 (PySem.W.fnOf "law" "law" (defArgs s_w_k16) (defBody s_w_k16) (defScope s_w_k16) .none kV35 dc35 pm35 an35 cd35 ct35) := ⟨_, _, s_w_k16, F35, sc_w_k16, B35, same_w_k16, by decide⟩
  have D35 : DfOk fns K mg "law" w_k16 := ⟨f35, _, Y35, PySem.W.mg_of X G a35, k35, (fun i hi => by cases hi), (fun k1 k2 hk => by cases hk)⟩
  have nob : ∀ x ∈ bnames, mg (Str.ofString x) = none := by
    intro x hx
    simp only [bnames, List.mem_cons, List.mem_nil_iff, or_false] at hx
    rcases hx with rfl | rfl | rfl | rfl | rfl | rfl | rfl | rfl | rfl | rfl | rfl | rfl | rfl | rfl | rfl | rfl | rfl
    · exact PySem.W.mg_none_of X G z0
    · exact PySem.W.mg_none_of X G z1
    · exact PySem.W.mg_none_of X G z2
    · exact PySem.W.mg_none_of X G z3
    · exact PySem.W.mg_none_of X G z4
    · exact PySem.W.mg_none_of X G z5
    · exact PySem.W.mg_none_of X G z6
    · exact PySem.W.mg_none_of X G z7
    · exact PySem.W.mg_none_of X G z8
    · exact PySem.W.mg_none_of X G z9
    · exact PySem.W.mg_none_of X G z10
    · exact PySem.W.mg_none_of X G z11
    · exact PySem.W.mg_none_of X G z12
    · exact PySem.W.mg_none_of X G z13
    · exact PySem.W.mg_none_of X G z14
    · exact PySem.W.mg_none_of X G z15
    · exact PySem.W.mg_none_of X G z16
  have X0 : XcT PySem.Challenge.rw_everydecider_k16_both_and_again.prog K mg (Str.ofString "BadRatio") (Str.ofString "bottom") x0C :=
    { gC := PySem.W.mg_of X G x0a, cls := ⟨_, _, _, _, _, _, _, _, _, _, _, _, _, _, _, x0l, x0r⟩, sa := x0sa, ga := x0ga, gg := x0gg, noN := x0nn, kC := x0kc, exC := x0ex, veC := x0ve, meC := x0me, tyC := x0ty, hdC := x0hd, third := third, sup := x0sup, nosup := PySem.W.mg_none_of X G zsup, topsup := by decide +kernel,
      fn := ⟨x0f, x0cc, x0cda, _, _, _, _, _, _, _, _, _, _, _, _, _, _, _, _, _, _, _, _, _, x0i, x0it, x0il, x0ic, x0cd, x0vz, x0fi, x0cw, by decide +kernel, by decide +kernel, rfl, rfl, fun s u v => .of_eq rfl⟩ }
  have X1 : XcT PySem.Challenge.rw_everydecider_k16_both_and_again.prog K mg (Str.ofString "BadRow") (Str.ofString "index") x1C :=
    { gC := PySem.W.mg_of X G x1a, cls := ⟨_, _, _, _, _, _, _, _, _, _, _, _, _, _, _, x1l, x1r⟩, sa := x1sa, ga := x1ga, gg := x1gg, noN := x1nn, kC := x1kc, exC := x1ex, veC := x1ve, meC := x1me, tyC := x1ty, hdC := x1hd, third := third, sup := x1sup, nosup := PySem.W.mg_none_of X G zsup, topsup := by decide +kernel,
      fn := ⟨x1f, x1cc, x1cda, _, _, _, _, _, _, _, _, _, _, _, _, _, _, _, _, _, _, _, _, _, x1i, x1it, x1il, x1ic, x1cd, x1vz, x1fi, x1cw, by decide +kernel, by decide +kernel, rfl, rfl, fun s u v => .of_eq rfl⟩ }
  have X2 : XcT PySem.Challenge.rw_everydecider_k16_both_and_again.prog K mg (Str.ofString "BadSize") (Str.ofString "size") x2C :=
    { gC := PySem.W.mg_of X G x2a, cls := ⟨_, _, _, _, _, _, _, _, _, _, _, _, _, _, _, x2l, x2r⟩, sa := x2sa, ga := x2ga, gg := x2gg, noN := x2nn, kC := x2kc, exC := x2ex, veC := x2ve, meC := x2me, tyC := x2ty, hdC := x2hd, third := third, sup := x2sup, nosup := PySem.W.mg_none_of X G zsup, topsup := by decide +kernel,
      fn := ⟨x2f, x2cc, x2cda, _, _, _, _, _, _, _, _, _, _, _, _, _, _, _, _, _, _, _, _, _, x2i, x2it, x2il, x2ic, x2cd, x2vz, x2fi, x2cw, by decide +kernel, by decide +kernel, rfl, rfl, fun s u v => .of_eq rfl⟩ }
  have X3 : XcT PySem.Challenge.rw_everydecider_k16_both_and_again.prog K mg (Str.ofString "BadTimes") (Str.ofString "times") x3C :=
    { gC := PySem.W.mg_of X G x3a, cls := ⟨_, _, _, _, _, _, _, _, _, _, _, _, _, _, _, x3l, x3r⟩, sa := x3sa, ga := x3ga, gg := x3gg, noN := x3nn, kC := x3kc, exC := x3ex, veC := x3ve, meC := x3me, tyC := x3ty, hdC := x3hd, third := third, sup := x3sup, nosup := PySem.W.mg_none_of X G zsup, topsup := by decide +kernel,
      fn := ⟨x3f, x3cc, x3cda, _, _, _, _, _, _, _, _, _, _, _, _, _, _, _, _, _, _, _, _, _, x3i, x3it, x3il, x3ic, x3cd, x3vz, x3fi, x3cw, by decide +kernel, by decide +kernel, rfl, rfl, fun s u v => .of_eq rfl⟩ }
  have X4 : XcT PySem.Challenge.rw_everydecider_k16_both_and_again.prog K mg (Str.ofString "BadUnit") (Str.ofString "unit") x4C :=
    { gC := PySem.W.mg_of X G x4a, cls := ⟨_, _, _, _, _, _, _, _, _, _, _, _, _, _, _, x4l, x4r⟩, sa := x4sa, ga := x4ga, gg := x4gg, noN := x4nn, kC := x4kc, exC := x4ex, veC := x4ve, meC := x4me, tyC := x4ty, hdC := x4hd, third := third, sup := x4sup, nosup := PySem.W.mg_none_of X G zsup, topsup := by decide +kernel,
      fn := ⟨x4f, x4cc, x4cda, _, _, _, _, _, _, _, _, _, _, _, _, _, _, _, _, _, _, _, _, _, x4i, x4it, x4il, x4ic, x4cd, x4vz, x4fi, x4cw, by decide +kernel, by decide +kernel, rfl, rfl, fun s u v => .of_eq rfl⟩ }
  have X5 : XcT PySem.Challenge.rw_everydecider_k16_both_and_again.prog K mg (Str.ofString "NoSignal") (Str.ofString "signal") x5C :=
    { gC := PySem.W.mg_of X G x5a, cls := ⟨_, _, _, _, _, _, _, _, _, _, _, _, _, _, _, x5l, x5r⟩, sa := x5sa, ga := x5ga, gg := x5gg, noN := x5nn, kC := x5kc, exC := x5ex, veC := x5ve, meC := x5me, tyC := x5ty, hdC := x5hd, third := third, sup := x5sup, nosup := PySem.W.mg_none_of X G zsup, topsup := by decide +kernel,
      fn := ⟨x5f, x5cc, x5cda, _, _, _, _, _, _, _, _, _, _, _, _, _, _, _, _, _, _, _, _, _, x5i, x5it, x5il, x5ic, x5cd, x5vz, x5fi, x5cw, by decide +kernel, by decide +kernel, rfl, rfl, fun s u v => .of_eq rfl⟩ }
  have X6 : XcT PySem.Challenge.rw_everydecider_k16_both_and_again.prog K mg (Str.ofString "NoState") (Str.ofString "state") x6C :=
    { gC := PySem.W.mg_of X G x6a, cls := ⟨_, _, _, _, _, _, _, _, _, _, _, _, _, _, _, x6l, x6r⟩, sa := x6sa, ga := x6ga, gg := x6gg, noN := x6nn, kC := x6kc, exC := x6ex, veC := x6ve, meC := x6me, tyC := x6ty, hdC := x6hd, third := third, sup := x6sup, nosup := PySem.W.mg_none_of X G zsup, topsup := by decide +kernel,
      fn := ⟨x6f, x6cc, x6cda, _, _, _, _, _, _, _, _, _, _, _, _, _, _, _, _, _, _, _, _, _, x6i, x6it, x6il, x6ic, x6cd, x6vz, x6fi, x6cw, by decide +kernel, by decide +kernel, rfl, rfl, fun s u v => .of_eq rfl⟩ }
  have X7 : XcT PySem.Challenge.rw_everydecider_k16_both_and_again.prog K mg (Str.ofString "TooMany") (Str.ofString "count") x7C :=
    { gC := PySem.W.mg_of X G x7a, cls := ⟨_, _, _, _, _, _, _, _, _, _, _, _, _, _, _, x7l, x7r⟩, sa := x7sa, ga := x7ga, gg := x7gg, noN := x7nn, kC := x7kc, exC := x7ex, veC := x7ve, meC := x7me, tyC := x7ty, hdC := x7hd, third := third, sup := x7sup, nosup := PySem.W.mg_none_of X G zsup, topsup := by decide +kernel,
      fn := ⟨x7f, x7cc, x7cda, _, _, _, _, _, _, _, _, _, _, _, _, _, _, _, _, _, _, _, _, _, x7i, x7it, x7il, x7ic, x7cd, x7vz, x7fi, x7cw, by decide +kernel, by decide +kernel, rfl, rfl, fun s u v => .of_eq rfl⟩ }
  have cinv : ∀ c D, (wdOf clss K).cl c = some D → (c = "Experiment" ∧ D = C0) := by
    intro c D h
    obtain ⟨h1, h2⟩ := wd_inv h
    simp only [clss, List.mem_cons, List.mem_nil_iff, or_false] at h1
    rcases h1 with rfl
    · exact ⟨rfl, (Option.some.inj ((clOf_of ca0).symm.trans h2)).symm⟩
  have isf : IsF (wdOf clss K) := by
    refine ⟨fun c D h => ?_, fun c D h ty hty => ?_, fun c D h t ht => ?_, fun c C d D h1 h2 => ?_⟩
    · rcases cinv c D h with ⟨rfl, rfl⟩
      · exact ⟨⟨q0pg, q0hd, q0po, q0sa⟩, q0ha, chn, chtk, q0mr⟩
    · simp only [List.mem_cons, List.mem_nil_iff, or_false] at hty
      rcases cinv c D h with ⟨rfl, rfl⟩
      · rcases hty with rfl | rfl | rfl | rfl | rfl
        · exact q0bint
        · exact q0bbool
        · exact q0bstr
        · exact q0blist
        · exact q0btuple
    · simp only [List.mem_cons, List.mem_nil_iff, or_false] at ht
      rcases cinv c D h with ⟨rfl, rfl⟩
      · rcases ht with rfl | rfl | rfl | rfl | rfl | rfl
        · exact q0iNoneType
        · exact q0ibool
        · exact q0iint
        · exact q0istr
        · exact q0ituple
        · exact q0ilist
    · rcases cinv c C h1 with ⟨rfl, rfl⟩
      · rcases cinv d D h2 with ⟨rfl, rfl⟩
        · exact q0c0
  have noa0 : ∀ c D, (wdOf clss K).cl c = some D → NoAttr K D (Str.ofString "grid") := by
    intro c D h
    rcases cinv c D h with ⟨rfl, rfl⟩
    · exact q0n0
  have noa1 : ∀ c D, (wdOf clss K).cl c = some D → NoAttr K D (Str.ofString "signals") := by
    intro c D h
    rcases cinv c D h with ⟨rfl, rfl⟩
    · exact q0n1
  have noa2 : ∀ c D, (wdOf clss K).cl c = some D → NoAttr K D (Str.ofString "states") := by
    intro c D h
    rcases cinv c D h with ⟨rfl, rfl⟩
    · exact q0n2
  have noa3 : ∀ c D, (wdOf clss K).cl c = some D → NoAttr K D (Str.ofString "unit") := by
    intro c D h
    rcases cinv c D h with ⟨rfl, rfl⟩
    · exact q0n3
  have pk : Pk fns (wdOf clss K) PySem.Challenge.rw_everydecider_k16_both_and_again.prog K mg :=
    { kk := rfl, nob := nob, isf := isf, glob := ⟨⟨_, PySem.W.mg_of X G glb0⟩, ⟨_, PySem.W.mg_of X G glb1⟩, ⟨_, PySem.W.mg_of X G glb2⟩, trivial⟩,
      gtup := trivial,
      noa := ⟨noa0, noa1, noa2, noa3, trivial⟩,
      cls := ⟨⟨_, wd_cl (by decide) ca0, PySem.W.mg_of X G ca0⟩, trivial⟩,
      xf := ⟨⟨_, clOf_of x0a, X0⟩, ⟨_, clOf_of x1a, X1⟩, ⟨_, clOf_of x2a, X2⟩, ⟨_, clOf_of x3a, X3⟩, ⟨_, clOf_of x4a, X4⟩, ⟨_, clOf_of x5a, X5⟩, ⟨_, clOf_of x6a, X6⟩, ⟨_, clOf_of x7a, X7⟩, trivial⟩,
      x0 := ⟨⟨_, clOf_of y0a, PySem.W.mg_of X G y0a, y0x, y0k, y0b, y0t⟩, trivial⟩,
      xm := ⟨⟨_, _, clOf_of x0a, clOf_of x3a, PySem.W.mg_of X G x3a, exm_of hb_BadTimes hi_BadTimes ht_BadTimes m0⟩, ⟨_, _, clOf_of x0a, clOf_of y0a, PySem.W.mg_of X G y0a, exm_of hb_Mismatch hi_Mismatch ht_Mismatch m1⟩, ⟨_, _, clOf_of x0a, clOf_of x7a, PySem.W.mg_of X G x7a, exm_of hb_TooMany hi_TooMany ht_TooMany m2⟩, ⟨_, _, clOf_of x1a, clOf_of x3a, PySem.W.mg_of X G x3a, exm_of hb_BadTimes hi_BadTimes ht_BadTimes m3⟩, ⟨_, _, clOf_of x1a, clOf_of y0a, PySem.W.mg_of X G y0a, exm_of hb_Mismatch hi_Mismatch ht_Mismatch m4⟩, ⟨_, _, clOf_of x1a, clOf_of x7a, PySem.W.mg_of X G x7a, exm_of hb_TooMany hi_TooMany ht_TooMany m5⟩, ⟨_, _, clOf_of x2a, clOf_of x3a, PySem.W.mg_of X G x3a, exm_of hb_BadTimes hi_BadTimes ht_BadTimes m6⟩, ⟨_, _, clOf_of x2a, clOf_of y0a, PySem.W.mg_of X G y0a, exm_of hb_Mismatch hi_Mismatch ht_Mismatch m7⟩, ⟨_, _, clOf_of x2a, clOf_of x7a, PySem.W.mg_of X G x7a, exm_of hb_TooMany hi_TooMany ht_TooMany m8⟩, ⟨_, _, clOf_of x3a, clOf_of x3a, PySem.W.mg_of X G x3a, exm_of hb_BadTimes hi_BadTimes ht_BadTimes m9⟩, ⟨_, _, clOf_of x3a, clOf_of y0a, PySem.W.mg_of X G y0a, exm_of hb_Mismatch hi_Mismatch ht_Mismatch m10⟩, ⟨_, _, clOf_of x3a, clOf_of x7a, PySem.W.mg_of X G x7a, exm_of hb_TooMany hi_TooMany ht_TooMany m11⟩, ⟨_, _, clOf_of x4a, clOf_of x3a, PySem.W.mg_of X G x3a, exm_of hb_BadTimes hi_BadTimes ht_BadTimes m12⟩, ⟨_, _, clOf_of x4a, clOf_of y0a, PySem.W.mg_of X G y0a, exm_of hb_Mismatch hi_Mismatch ht_Mismatch m13⟩, ⟨_, _, clOf_of x4a, clOf_of x7a, PySem.W.mg_of X G x7a, exm_of hb_TooMany hi_TooMany ht_TooMany m14⟩, ⟨_, _, clOf_of y0a, clOf_of x3a, PySem.W.mg_of X G x3a, exm_of hb_BadTimes hi_BadTimes ht_BadTimes m15⟩, ⟨_, _, clOf_of y0a, clOf_of y0a, PySem.W.mg_of X G y0a, exm_of hb_Mismatch hi_Mismatch ht_Mismatch m16⟩, ⟨_, _, clOf_of y0a, clOf_of x7a, PySem.W.mg_of X G x7a, exm_of hb_TooMany hi_TooMany ht_TooMany m17⟩, ⟨_, _, clOf_of x5a, clOf_of x3a, PySem.W.mg_of X G x3a, exm_of hb_BadTimes hi_BadTimes ht_BadTimes m18⟩, ⟨_, _, clOf_of x5a, clOf_of y0a, PySem.W.mg_of X G y0a, exm_of hb_Mismatch hi_Mismatch ht_Mismatch m19⟩, ⟨_, _, clOf_of x5a, clOf_of x7a, PySem.W.mg_of X G x7a, exm_of hb_TooMany hi_TooMany ht_TooMany m20⟩, ⟨_, _, clOf_of x6a, clOf_of x3a, PySem.W.mg_of X G x3a, exm_of hb_BadTimes hi_BadTimes ht_BadTimes m21⟩, ⟨_, _, clOf_of x6a, clOf_of y0a, PySem.W.mg_of X G y0a, exm_of hb_Mismatch hi_Mismatch ht_Mismatch m22⟩, ⟨_, _, clOf_of x6a, clOf_of x7a, PySem.W.mg_of X G x7a, exm_of hb_TooMany hi_TooMany ht_TooMany m23⟩, ⟨_, _, clOf_of x7a, clOf_of x3a, PySem.W.mg_of X G x3a, exm_of hb_BadTimes hi_BadTimes ht_BadTimes m24⟩, ⟨_, _, clOf_of x7a, clOf_of y0a, PySem.W.mg_of X G y0a, exm_of hb_Mismatch hi_Mismatch ht_Mismatch m25⟩, ⟨_, _, clOf_of x7a, clOf_of x7a, PySem.W.mg_of X G x7a, exm_of hb_TooMany hi_TooMany ht_TooMany m26⟩, trivial⟩,
      hg := trivial }
  have tie : Tie fns (wdOf clss K) K mg prog :=
    { fn := ⟨⟨_, rfl, D1⟩, ⟨_, rfl, D2⟩, ⟨_, rfl, D3⟩, ⟨_, rfl, D4⟩, ⟨_, rfl, D5⟩, ⟨_, rfl, D6⟩, ⟨_, rfl, D7⟩, ⟨_, rfl, D8⟩, ⟨_, rfl, D14⟩, ⟨_, rfl, D15⟩, ⟨_, rfl, D16⟩, ⟨_, rfl, D17⟩, ⟨_, rfl, D18⟩, ⟨_, rfl, D19⟩, ⟨_, rfl, D20⟩, ⟨_, rfl, D21⟩, ⟨_, rfl, D22⟩, ⟨_, rfl, D23⟩, ⟨_, rfl, D24⟩, ⟨_, rfl, D25⟩, ⟨_, rfl, D26⟩, ⟨_, rfl, D27⟩, ⟨_, rfl, D28⟩, ⟨_, rfl, D29⟩, ⟨_, rfl, D30⟩, ⟨_, rfl, D31⟩, ⟨_, rfl, D32⟩, ⟨_, rfl, D33⟩, ⟨_, rfl, D34⟩, ⟨_, rfl, D35⟩, trivial⟩,
      mt := ⟨⟨_, rfl, C0, f10, _, wd_cl (by decide) ca0, ⟨a10, fn10, k10⟩, ⟨(fun z => absurd z (by decide)), (fun z => absurd z (by decide)), (fun z => absurd z (by decide))⟩, Y10⟩, trivial⟩,
      pr := trivial,
      nw := ⟨⟨_, rfl, C0, f9, _, wd_cl (by decide) ca0, PySem.W.mg_of X G ca0, ⟨q0mk, a9, fn9, q0kp⟩, Y9⟩, trivial⟩ }
  have e := hfa.symm.trans (PySem.W.mg_of X G a35)
  cases e
  refine ⟨PySem.W.fnOf "law" "law" (defArgs s_w_k16) (defBody s_w_k16) (defScope s_w_k16) .none kV35 dc35 pm35 an35 cd35 ct35, fun s u => .of_eq rfl, fun base _ _ => ?_⟩
  have pf := defs_ok (w := w) (base := base) (P := prog) (fu := Fu) pk tie lv
  exact def_step pf rfl Y35
end Mi
namespace Mi
open PySem L2
theorem pInt (n : Nat) : SpInt (callN prog Fu (n + 1)) := spInt rfl
theorem pExp (n : Nat) : SpExp (callN prog Fu (n + 5)) :=
  spExp (n := n + 4) rfl (spUnit (n := n + 3) rfl (pInt _)) (spRows (n := n + 3) rfl (pInt _)) (spTermsX (n := n + 3) rfl (spLowest (n := n + 2) rfl (spDiv (n := n + 1) rfl)))
theorem pUn (n : Nat) : SpUn (callN prog Fu (n + 6)) := spUn (n := n + 5) rfl (spStates (n := n + 4) rfl (pInt _)) (pExp n)
theorem pBoth (n : Nat) : SpBoth (callN prog Fu (n + 6)) := spBoth (n := n + 5) rfl (spSame2 (n := n + 4) rfl) (spCount (n := n + 4) rfl) (spIRows (n := n + 4) rfl) (spPairs (n := n + 4) rfl) (pExp n)
theorem pLlow (n : Nat) : TLlow (callN prog Fu (n + 2)) := llow2 (n := n + 1) rfl (spLdiv (n := n) rfl)
theorem pOf (n : Nat) : TOf (callN prog Fu (n + 2)) := tOf (n := n + 1) rfl (tIRows (spIRows (n := n) rfl))
theorem pAgain (n : Nat) : SpAgain (callN prog Fu (n + 7)) := spAgain (n := n + 6) rfl (pInt _) (spCount (n := n + 5) rfl) (pUn n) (pBoth n)
theorem pPairs (n : Nat) : TLpairs (callN prog Fu (n + 3)) := tLpairs (spLpairs (n := n + 2) rfl (pLlow n))
theorem pTable (n : Nat) : TTable (callN prog Fu (n + 4)) := tTable (spTable (n := n + 3) rfl (spTake (n := n + 2) rfl) (spLrows (n := n + 2) rfl (spRow (n := n + 1) rfl (spTake (n := n) rfl))))
theorem all16 : All16 (callN prog Fu 12) where
  pool := tPool (n := 11) rfl
  take := tTk (n := 11) rfl
  table := pTable 8
  exp := tExp (pExp 7)
  pairs := pPairs 9
  told := tTold (n := 11) rfl (tBoth (pBoth 5)) (pOf 9)
  shows := tShows (n := 11) rfl (pLlow 9) (tIRows (spIRows (n := 10) rfl))
  again := tAgain (pAgain 5)
  lagain := tLagain (n := 11) rfl (tAgain (pAgain 4)) (tAgainX (n := 10) rfl (tInt (pInt _))) (pOf 9)
  due := tDue (n := 11) rfl (tNum (spNumX (n := 10) rfl)) (pPairs 8)
  both := tBoth (pBoth 6)
  of := pOf 10
theorem law_true : ∀ ns : List Int, ns.length ≤ 63 → (∀ z ∈ ns, Builtin.Int.intBits z ≤ 1048576) → ∃ S', callN prog Fu (LV + 1) "law" [.d (.scr ns)] [] = .ok (.d (.bl true)) S' := fun ns hns _ =>
  law_W (n := 12) rfl rfl (law16 all16 ns hns)
end Mi
open PySem PySem.W PyProof.Rows in
set_option maxRecDepth 100000 in
set_option maxHeartbeats 0 in
theorem PySem.Challenge.cw_everydecider_k16_both_and_again_holds : PySem.Challenge.rw_everydecider_k16_both_and_again.Holds := by
  w_on; o_law; k_head; (case hw => w_witness2)
  k_fill
  refine Mi.walk (l := PySem.Challenge.rw_everydecider_k16_both_and_again) (C := Mi.callN Mi.prog Mi.Fu (Mi.LV + 1)) (k := 2 * (Mi.LV + 1) + 1) (x := "_law_script") (by decide) rfl rfl (fun w h Y => PySem.W.kIn_of Y) Mi.law_true (fun p => Mi.wdOf Mi.clss _) (fun p => rfl) ?F
  case F =>
    intro w mg fa h KX G hmg
    refine' Mi.all_mk Mi.LV KX G hmg ?a1 ?a2 ?a3 ?a4 ?a5 ?a6 ?a7 ?a8 ?a14 ?a15 ?a16 ?a17 ?a18 ?a19 ?a20 ?a21 ?a22 ?a23 ?a24 ?a25 ?a26 ?a27 ?a28 ?a29 ?a30 ?a31 ?a32 ?a33 ?a34 ?a35 ?ca0 ?a9 ?fn9 ?a10 ?fn10 ?a11 ?fn11 ?a12 ?fn12 ?a13 ?fn13 ?l1 ?c1 ?k1 ?l2 ?c2 ?k2 ?l3 ?c3 ?k3 ?l4 ?c4 ?k4 ?lT4 ?l5 ?c5 ?k5 ?l6 ?c6 ?k6 ?l7 ?c7 ?k7 ?l8 ?c8 ?k8 ?l9 ?c9 ?k9 ?l10 ?c10 ?k10 ?l11 ?c11 ?k11 ?l12 ?c12 ?k12 ?l13 ?c13 ?k13 ?l14 ?c14 ?k14 ?l15 ?c15 ?k15 ?l16 ?c16 ?k16 ?l17 ?c17 ?k17 ?l18 ?c18 ?k18 ?l19 ?c19 ?k19 ?l20 ?c20 ?k20 ?l21 ?c21 ?k21 ?l22 ?c22 ?k22 ?l23 ?c23 ?k23 ?l24 ?c24 ?k24 ?l25 ?c25 ?k25 ?l26 ?c26 ?k26 ?l27 ?c27 ?k27 ?l28 ?c28 ?k28 ?l29 ?c29 ?k29 ?l30 ?c30 ?k30 ?l31 ?c31 ?k31 ?l32 ?c32 ?k32 ?l33 ?c33 ?k33 ?l34 ?c34 ?k34 ?l35 ?c35 ?k35 ?x0a ?x0l ?x0r ?x0sa ?x0ga ?x0gg ?x0nn ?x0kc ?x0ex ?x0ve ?x0me ?x0ty ?x0hd ?x0sup ?x0i ?x0it ?x0il ?x0ic ?x0cd ?x0vz ?x0fi ?x0cw ?x1a ?x1l ?x1r ?x1sa ?x1ga ?x1gg ?x1nn ?x1kc ?x1ex ?x1ve ?x1me ?x1ty ?x1hd ?x1sup ?x1i ?x1it ?x1il ?x1ic ?x1cd ?x1vz ?x1fi ?x1cw ?x2a ?x2l ?x2r ?x2sa ?x2ga ?x2gg ?x2nn ?x2kc ?x2ex ?x2ve ?x2me ?x2ty ?x2hd ?x2sup ?x2i ?x2it ?x2il ?x2ic ?x2cd ?x2vz ?x2fi ?x2cw ?x3a ?x3l ?x3r ?x3sa ?x3ga ?x3gg ?x3nn ?x3kc ?x3ex ?x3ve ?x3me ?x3ty ?x3hd ?x3sup ?x3i ?x3it ?x3il ?x3ic ?x3cd ?x3vz ?x3fi ?x3cw ?x4a ?x4l ?x4r ?x4sa ?x4ga ?x4gg ?x4nn ?x4kc ?x4ex ?x4ve ?x4me ?x4ty ?x4hd ?x4sup ?x4i ?x4it ?x4il ?x4ic ?x4cd ?x4vz ?x4fi ?x4cw ?x5a ?x5l ?x5r ?x5sa ?x5ga ?x5gg ?x5nn ?x5kc ?x5ex ?x5ve ?x5me ?x5ty ?x5hd ?x5sup ?x5i ?x5it ?x5il ?x5ic ?x5cd ?x5vz ?x5fi ?x5cw ?x6a ?x6l ?x6r ?x6sa ?x6ga ?x6gg ?x6nn ?x6kc ?x6ex ?x6ve ?x6me ?x6ty ?x6hd ?x6sup ?x6i ?x6it ?x6il ?x6ic ?x6cd ?x6vz ?x6fi ?x6cw ?x7a ?x7l ?x7r ?x7sa ?x7ga ?x7gg ?x7nn ?x7kc ?x7ex ?x7ve ?x7me ?x7ty ?x7hd ?x7sup ?x7i ?x7it ?x7il ?x7ic ?x7cd ?x7vz ?x7fi ?x7cw ?y0a ?y0x ?y0k ?y0b ?y0t ?hb_BadTimes ?hi_BadTimes ?ht_BadTimes ?hb_Mismatch ?hi_Mismatch ?ht_Mismatch ?hb_TooMany ?hi_TooMany ?ht_TooMany ?m0 ?m1 ?m2 ?m3 ?m4 ?m5 ?m6 ?m7 ?m8 ?m9 ?m10 ?m11 ?m12 ?m13 ?m14 ?m15 ?m16 ?m17 ?m18 ?m19 ?m20 ?m21 ?m22 ?m23 ?m24 ?m25 ?m26 ?glb0 ?glb1 ?glb2 ?z0 ?z1 ?z2 ?z3 ?z4 ?z5 ?z6 ?z7 ?z8 ?z9 ?z10 ?z11 ?z12 ?z13 ?z14 ?z15 ?z16 ?zsup ?third ?chn ?chtk ?q0pg ?q0hd ?q0po ?q0sa ?q0ha ?q0mr ?q0bint ?q0bbool ?q0bstr ?q0blist ?q0btuple ?q0iNoneType ?q0ibool ?q0iint ?q0istr ?q0ituple ?q0ilist ?q0c0 ?q0n0 ?q0n1 ?q0n2 ?q0n3 ?q0mk ?q0kp
    (case a1 => k_is)
    (case a2 => k_is)
    (case a3 => k_is)
    (case a4 => k_is)
    (case a5 => k_is)
    (case a6 => k_is)
    (case a7 => k_is)
    (case a8 => k_is)
    (case a14 => k_is)
    (case a15 => k_is)
    (case a16 => k_is)
    (case a17 => k_is)
    (case a18 => k_is)
    (case a19 => k_is)
    (case a20 => k_is)
    (case a21 => k_is)
    (case a22 => k_is)
    (case a23 => k_is)
    (case a24 => k_is)
    (case a25 => k_is)
    (case a26 => k_is)
    (case a27 => k_is)
    (case a28 => k_is)
    (case a29 => k_is)
    (case a30 => k_is)
    (case a31 => k_is)
    (case a32 => k_is)
    (case a33 => k_is)
    (case a34 => k_is)
    (case a35 => k_is)
    (case ca0 => k_is)
    (case a9 => k_is)
    (case fn9 => k_is)
    (case a10 => k_is)
    (case fn10 => k_is)
    (case a11 => k_is)
    (case fn11 => k_is)
    (case a12 => k_is)
    (case fn12 => k_is)
    (case a13 => k_is)
    (case fn13 => k_is)
    (case l1 => k_is)
    (case c1 => k_is)
    (case k1 => k_is)
    (case l2 => k_is)
    (case c2 => k_is)
    (case k2 => k_is)
    (case l3 => k_is)
    (case c3 => k_is)
    (case k3 => k_is)
    (case l4 => k_is)
    (case c4 => k_is)
    (case k4 => k_is)
    (case lT4 => k_is)
    (case l5 => k_is)
    (case c5 => k_is)
    (case k5 => k_is)
    (case l6 => k_is)
    (case c6 => k_is)
    (case k6 => k_is)
    (case l7 => k_is)
    (case c7 => k_is)
    (case k7 => k_is)
    (case l8 => k_is)
    (case c8 => k_is)
    (case k8 => k_is)
    (case l9 => k_is)
    (case c9 => k_is)
    (case k9 => k_is)
    (case l10 => k_is)
    (case c10 => k_is)
    (case k10 => k_is)
    (case l11 => k_is)
    (case c11 => k_is)
    (case k11 => k_is)
    (case l12 => k_is)
    (case c12 => k_is)
    (case k12 => k_is)
    (case l13 => k_is)
    (case c13 => k_is)
    (case k13 => k_is)
    (case l14 => k_is)
    (case c14 => k_is)
    (case k14 => k_is)
    (case l15 => k_is)
    (case c15 => k_is)
    (case k15 => k_is)
    (case l16 => k_is)
    (case c16 => k_is)
    (case k16 => k_is)
    (case l17 => k_is)
    (case c17 => k_is)
    (case k17 => k_is)
    (case l18 => k_is)
    (case c18 => k_is)
    (case k18 => k_is)
    (case l19 => k_is)
    (case c19 => k_is)
    (case k19 => k_is)
    (case l20 => k_is)
    (case c20 => k_is)
    (case k20 => k_is)
    (case l21 => k_is)
    (case c21 => k_is)
    (case k21 => k_is)
    (case l22 => k_is)
    (case c22 => k_is)
    (case k22 => k_is)
    (case l23 => k_is)
    (case c23 => k_is)
    (case k23 => k_is)
    (case l24 => k_is)
    (case c24 => k_is)
    (case k24 => k_is)
    (case l25 => k_is)
    (case c25 => k_is)
    (case k25 => k_is)
    (case l26 => k_is)
    (case c26 => k_is)
    (case k26 => k_is)
    (case l27 => k_is)
    (case c27 => k_is)
    (case k27 => k_is)
    (case l28 => k_is)
    (case c28 => k_is)
    (case k28 => k_is)
    (case l29 => k_is)
    (case c29 => k_is)
    (case k29 => k_is)
    (case l30 => k_is)
    (case c30 => k_is)
    (case k30 => k_is)
    (case l31 => k_is)
    (case c31 => k_is)
    (case k31 => k_is)
    (case l32 => k_is)
    (case c32 => k_is)
    (case k32 => k_is)
    (case l33 => k_is)
    (case c33 => k_is)
    (case k33 => k_is)
    (case l34 => k_is)
    (case c34 => k_is)
    (case k34 => k_is)
    (case l35 => k_is)
    (case c35 => k_is)
    (case k35 => k_is)
    (case x0a => k_is)
    (case x0l => k_is)
    (case x0r => decide +kernel)
    (case x0sa => k_is)
    (case x0ga => k_is)
    (case x0gg => k_is)
    (case x0nn => k_is)
    (case x0kc => k_is)
    (case x0ex => k_is)
    (case x0ve => k_is)
    (case x0me => k_is)
    (case x0ty => k_is)
    (case x0hd => k_is)
    (case x0sup => ks_is)
    (case x0i => k_is)
    (case x0it => k_is)
    (case x0il => k_is)
    (case x0ic => k_is)
    (case x0cd => k_is)
    (case x0vz => rfl)
    (case x0fi => decide +kernel)
    (case x0cw => k_is)
    (case x1a => k_is)
    (case x1l => k_is)
    (case x1r => decide +kernel)
    (case x1sa => k_is)
    (case x1ga => k_is)
    (case x1gg => k_is)
    (case x1nn => k_is)
    (case x1kc => k_is)
    (case x1ex => k_is)
    (case x1ve => k_is)
    (case x1me => k_is)
    (case x1ty => k_is)
    (case x1hd => k_is)
    (case x1sup => ks_is)
    (case x1i => k_is)
    (case x1it => k_is)
    (case x1il => k_is)
    (case x1ic => k_is)
    (case x1cd => k_is)
    (case x1vz => rfl)
    (case x1fi => decide +kernel)
    (case x1cw => k_is)
    (case x2a => k_is)
    (case x2l => k_is)
    (case x2r => decide +kernel)
    (case x2sa => k_is)
    (case x2ga => k_is)
    (case x2gg => k_is)
    (case x2nn => k_is)
    (case x2kc => k_is)
    (case x2ex => k_is)
    (case x2ve => k_is)
    (case x2me => k_is)
    (case x2ty => k_is)
    (case x2hd => k_is)
    (case x2sup => ks_is)
    (case x2i => k_is)
    (case x2it => k_is)
    (case x2il => k_is)
    (case x2ic => k_is)
    (case x2cd => k_is)
    (case x2vz => rfl)
    (case x2fi => decide +kernel)
    (case x2cw => k_is)
    (case x3a => k_is)
    (case x3l => k_is)
    (case x3r => decide +kernel)
    (case x3sa => k_is)
    (case x3ga => k_is)
    (case x3gg => k_is)
    (case x3nn => k_is)
    (case x3kc => k_is)
    (case x3ex => k_is)
    (case x3ve => k_is)
    (case x3me => k_is)
    (case x3ty => k_is)
    (case x3hd => k_is)
    (case x3sup => ks_is)
    (case x3i => k_is)
    (case x3it => k_is)
    (case x3il => k_is)
    (case x3ic => k_is)
    (case x3cd => k_is)
    (case x3vz => rfl)
    (case x3fi => decide +kernel)
    (case x3cw => k_is)
    (case x4a => k_is)
    (case x4l => k_is)
    (case x4r => decide +kernel)
    (case x4sa => k_is)
    (case x4ga => k_is)
    (case x4gg => k_is)
    (case x4nn => k_is)
    (case x4kc => k_is)
    (case x4ex => k_is)
    (case x4ve => k_is)
    (case x4me => k_is)
    (case x4ty => k_is)
    (case x4hd => k_is)
    (case x4sup => ks_is)
    (case x4i => k_is)
    (case x4it => k_is)
    (case x4il => k_is)
    (case x4ic => k_is)
    (case x4cd => k_is)
    (case x4vz => rfl)
    (case x4fi => decide +kernel)
    (case x4cw => k_is)
    (case x5a => k_is)
    (case x5l => k_is)
    (case x5r => decide +kernel)
    (case x5sa => k_is)
    (case x5ga => k_is)
    (case x5gg => k_is)
    (case x5nn => k_is)
    (case x5kc => k_is)
    (case x5ex => k_is)
    (case x5ve => k_is)
    (case x5me => k_is)
    (case x5ty => k_is)
    (case x5hd => k_is)
    (case x5sup => ks_is)
    (case x5i => k_is)
    (case x5it => k_is)
    (case x5il => k_is)
    (case x5ic => k_is)
    (case x5cd => k_is)
    (case x5vz => rfl)
    (case x5fi => decide +kernel)
    (case x5cw => k_is)
    (case x6a => k_is)
    (case x6l => k_is)
    (case x6r => decide +kernel)
    (case x6sa => k_is)
    (case x6ga => k_is)
    (case x6gg => k_is)
    (case x6nn => k_is)
    (case x6kc => k_is)
    (case x6ex => k_is)
    (case x6ve => k_is)
    (case x6me => k_is)
    (case x6ty => k_is)
    (case x6hd => k_is)
    (case x6sup => ks_is)
    (case x6i => k_is)
    (case x6it => k_is)
    (case x6il => k_is)
    (case x6ic => k_is)
    (case x6cd => k_is)
    (case x6vz => rfl)
    (case x6fi => decide +kernel)
    (case x6cw => k_is)
    (case x7a => k_is)
    (case x7l => k_is)
    (case x7r => decide +kernel)
    (case x7sa => k_is)
    (case x7ga => k_is)
    (case x7gg => k_is)
    (case x7nn => k_is)
    (case x7kc => k_is)
    (case x7ex => k_is)
    (case x7ve => k_is)
    (case x7me => k_is)
    (case x7ty => k_is)
    (case x7hd => k_is)
    (case x7sup => ks_is)
    (case x7i => k_is)
    (case x7it => k_is)
    (case x7il => k_is)
    (case x7ic => k_is)
    (case x7cd => k_is)
    (case x7vz => rfl)
    (case x7fi => decide +kernel)
    (case x7cw => k_is)
    (case y0a => k_is)
    (case y0x => k_exc)
    (case y0k => k_is)
    (case y0b => k_is)
    (case y0t => k_is)
    (case hb_BadTimes => k_is)
    (case hi_BadTimes => k_is)
    (case ht_BadTimes => k_is)
    (case hb_Mismatch => k_is)
    (case hi_Mismatch => k_is)
    (case ht_Mismatch => k_is)
    (case hb_TooMany => k_is)
    (case hi_TooMany => k_is)
    (case ht_TooMany => k_is)
    (case m0 => k_is)
    (case m1 => k_is)
    (case m2 => k_is)
    (case m3 => k_is)
    (case m4 => k_is)
    (case m5 => k_is)
    (case m6 => k_is)
    (case m7 => k_is)
    (case m8 => k_is)
    (case m9 => k_is)
    (case m10 => k_is)
    (case m11 => k_is)
    (case m12 => k_is)
    (case m13 => k_is)
    (case m14 => k_is)
    (case m15 => k_is)
    (case m16 => k_is)
    (case m17 => k_is)
    (case m18 => k_is)
    (case m19 => k_is)
    (case m20 => k_is)
    (case m21 => k_is)
    (case m22 => k_is)
    (case m23 => k_is)
    (case m24 => k_is)
    (case m25 => k_is)
    (case m26 => k_is)
    (case glb0 => k_is)
    (case glb1 => k_is)
    (case glb2 => k_is)
    (case z0 => k_is)
    (case z1 => k_is)
    (case z2 => k_is)
    (case z3 => k_is)
    (case z4 => k_is)
    (case z5 => k_is)
    (case z6 => k_is)
    (case z7 => k_is)
    (case z8 => k_is)
    (case z9 => k_is)
    (case z10 => k_is)
    (case z11 => k_is)
    (case z12 => k_is)
    (case z13 => k_is)
    (case z14 => k_is)
    (case z15 => k_is)
    (case z16 => k_is)
    (case zsup => k_is)
    (case third => k_is)
    (case chn => k_is)
    (case chtk => k_is)
    (case q0pg => k_is)
    (case q0hd => k_is)
    (case q0po => k_is)
    (case q0sa => k_is)
    (case q0ha => k_is)
    (case q0mr => k_is)
    (case q0bint => kit_is)
    (case q0bbool => kit_is)
    (case q0bstr => kit_is)
    (case q0blist => kit_is)
    (case q0btuple => kit_is)
    (case q0iNoneType => kit_is)
    (case q0ibool => kit_is)
    (case q0iint => kit_is)
    (case q0istr => kit_is)
    (case q0ituple => kit_is)
    (case q0ilist => kit_is)
    (case q0c0 => kit_is)
    (case q0n0 => k_is)
    (case q0n1 => k_is)
    (case q0n2 => k_is)
    (case q0n3 => k_is)
    (case q0mk => k_is)
    (case q0kp => k_is)
