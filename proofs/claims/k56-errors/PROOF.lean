import PyProof.Rows.All
import Wide.All
import OpenK.AllK
import Wide.FinOn
import KE.KFromBytes
import HandS.Base
import HandS.Call
import HandS.Exc
import HandS.ExcOwn
import HandS.ExcCtx
import HandS.ExcInit
import HandS.ExcValue
import KE.KExcSuper
import KE.KSuper
import HandS.Head3
import HandS.Head4
import HandS.Lambda
import HandS.Words
import HandS.Head0
import HandS.Head1
import HandS.Head2
import HandS.HeadEnd
import HandS.HeadHook1
import HandS.HeadHook2
import HandS.HeadHook3
import HandS.HeadHook4
import HandS.HeadWalk
import HandS.ForMost
import HandS.ForExc
import HandS.Wide
import HandS.Gcd
import HandS.IsInst
import HandS.TupAny
import HandS.TupMul
import HandS.Deep
import HandS.ExcIs
import HandS.ExcSuper
import HandS.ExcField
import HandS.CallLocal
import HandS.CallSlots
import HandS.Hot
import HandS.HotCalls
import HandS.Flow
import HandS.Style
import HandS.Zip
import HandS.Conv
import HandS.SetKeys
import HandS.RaiseMore
import KE.GoesZip
import KE.GoesEnum
import HandS.Comp
import HandS.TryOnly
import PyProof.TupleIter
import HandS.Defaults
import HandS.Codes
import KE.KMathG
import PySem.Challenge.RW_latticequarry_k56_errors_and_limits_of_a
set_option Elab.async false
set_option linter.all false
set_option maxRecDepth 100000
set_option maxHeartbeats 4000000
/-! Mini, part W: a class over ValueError whose __init__ says super().__init__(limit) and self.limit = limit. -/
namespace MiniW
open PySem PySem.Spec PySem.Calls PyProof.Rows PySem.W L2

abbrev bmV : List Value := [.type "ValueError", .type "Exception", .type "BaseException", .type "object"]
/-- the def's body -/
def bodyOk : List Stmt → Bool
  | [.Expr (.Call (.Attribute (.Call (.Name a _) [] [] _) b p) [.Name c _] [] q) _, .Assign [.Attribute (.Name d _) e _] (.Name f _) _] =>
    (p.endLine == q.line) && ((a == ("super" : Str)) && ((b == ("__init__" : Str)) && ((c == ("limit" : Str)) && ((d == ("self" : Str)) && ((e == ("limit" : Str)) && (f == ("limit" : Str)))))))
  | _ => false
def argsOk2 : Arguments → Bool
  | ⟨[], [⟨a, _, _⟩, ⟨b, _, _⟩], none, [], [], none, []⟩ => (a == ("self" : Str)) && (b == ("limit" : Str))
  | _ => false
def scopeOk (sc : Scope) : Bool :=
  (sc.kind == .function) && (!sc.isCoroutine && (!sc.isGenerator && ((sc.names.lookup ("super" : Str) == some .globalImplicit) && ((sc.names.lookup ("__class__" : Str) == some .free) &&
  ((sc.names.lookup ("self" : Str) == some .local) && ((sc.names.lookup ("limit" : Str) == some .local) && sc.names.all fun p => p.2 != .cell))))))
/-- the def -/
structure IniF (prog : Program) (K : Frag) (C fI cc cda : Addr) (qual : Str) (params : Arguments) (body : List Stmt) (scope : Scope) (kV doc pm : Value) (an : Option Addr) (ct : Value) : Prop where
  fi : findIn K (.ref C) "__init__" = some (some (.ref fI))
  ty : typeIn K (.ref fI) = some (.type "function")
  lk : ∃ oc od osl, K.lookup fI = some ⟨oc, od, .func (ksFn "__init__" qual params body scope .none kV doc pm an (.ref cda) ct cc), osl⟩
  cd : codeIn K (.ref cda) qual = true
  file : ∃ ccl cdd vs ccs file tf, K.lookup cda = some ⟨ccl, cdd, .fields vs, ccs⟩ ∧ vs[2]? = some (.str file tf) ∧ ((prog.main.file : Str) == file) = true
  cell : ∃ cl cld csl, K.lookup cc = some ⟨cl, cld, .cell (some (.ref C)), csl⟩
  top : (prog.main.scope.names.lookup ("super" : Str)).isSome = false
  bd : bodyOk body = true
  ar : argsOk2 params = true
  sc : scopeOk scope = true
abbrev bnd (a b : Value) : List (Str × Value) := [("self", a), ("limit", b)]
/-- the class -/
structure LimF (prog : Program) (K : Frag) (mg : Str → Option Value) (c : Str) (C : Addr) : Prop where
  gl : mg c = some (.ref C)
  ms : mg "super" = none
  T : OexC K C
  ini : excInitIn K C bmV "ValueError.__new__" = true
  sup : ks_superIn K C C "__init__" = some (some (.builtin "ValueError.__init__"))
  sv : subIn K (.ref C) (.type "ValueError") = some true
  own : mroIn K C (.ref C) = some true
  cls : ∃ cdD, clsIn K C = some cdD
  opq : nsIn K cStatics "thirdparty.any" = some none
  nol : findIn K (.ref C) "limit" = some none
  fn : ∃ fI cc cda qual params body scope kV doc pm an ct, IniF prog K C fI cc cda qual params body scope kV doc pm an ct

theorem call_form {o e : Expr} {name : Str} {apos pos : Pos} {env : Env} (hs : starEach [e] env = [(false, eval e env)]) (hl : (apos.endLine == pos.line) = true) : eval (.Call (.Attribute o name apos) [e] [] pos) env = (do
      let ov ← attributeBase o name env (eval o env)
      standAt apos.atName
      let (f, first) ← holding [ov] (getMethod ov name (do return (← importBound o env).getD true))
      callWith pos f first (backTo pos (starEach [e] env)) []) := by
  rw [arm_eval_Call, hs]
  have hf : methodCallForm ([e].length + ([] : List Keyword).length) (backTo pos [(false, eval e env)]) (backToKw pos (keywordEach [] env)) = true := rfl
  unfold methodCall
  rw [hf]
  unfold calleeOf methodCallPos
  simp only [hl, if_true, Bool.not_true, Bool.or_true, pure_bind]
  rfl
section
variable {prog : Program} {w : World} {A : Around} {K : Frag} {mg : Str → Option Value} {base : Heap} {c : Str} {C fI cc cda e t0 : Addr} {qual : Str} {params : Arguments} {body : List Stmt} {scope : Scope} {kV doc pm ct : Value} {an : Option Addr}
  {s : Shared} {v : Value} {R : Result → Shared → Prop}
theorem binds2 (h : argsOk2 params = true) (a b : Value) : bindArgs (ksFn "__init__" qual params body scope .none kV doc pm an (.ref cda) ct cc) ⟨[a, b], []⟩ = pure (bnd a b) := by
  unfold argsOk2 at h
  split at h
  · simp only [Bool.and_eq_true, beq_iff_eq] at h
    obtain ⟨rfl, rfl⟩ := h
    rfl
  · cases h
/-- the walk of the def's body -/
theorem walk (M : Mod K mg base) (L : LimF prog K mg c C) (F : IniF prog K C fI cc cda qual params body scope kV doc pm an ct) (hk : ∀ b o, base.get? b = some o → s.heap.get? b = some o) (be : base.get? e = none) (he : s.heap.get? e = some (HandSPX.excO C t0)) (hroom : A.depth < recursionLimit)
    (hq : ∀ h' t1 dx tk, (∀ b o, b ≠ e → s.heap.get? b = some o → h'.get? b = some o) → s.heap.get? dx = none → dx ≠ e → h'.get? e = some ({ cls := .ref C, dict := some dx, data := .fields #[.ref t1, .none, .none, .none, .bool false, .none] } : Obj) →
      h'.Ns1 dx (fun y => if y = "limit" then some v else none) → R (.ok (.ret .none)) { s with heap := h', toks := tk }) :
    codeAny (model prog w) A (.call (.ref fI) ⟨[.ref e, v], []⟩) R s := by
  obtain ⟨hp, g, d, t, os⟩ := s
  obtain ⟨oc, od, osl, lk⟩ := F.lk
  obtain ⟨ccl, cdd, vs, ccs, file, tf, hcode, hvs, hfile⟩ := F.file
  obtain ⟨cl, cld, csl, hcell⟩ := F.cell
  obtain ⟨cdD, hcD⟩ := L.cls
  have hsc := F.sc
  simp only [scopeOk, Bool.and_eq_true, beq_iff_eq, Bool.not_eq_true', List.all_eq_true, bne_iff_ne] at hsc
  obtain ⟨sk, sco, sge, s1, s2, s3, s4, s5⟩ := hsc
  obtain ⟨knd, nms, gn, co, mr⟩ := scope
  dsimp only at sk sco sge s1 s2 s3 s4 s5
  subst sk sco sge
  have KX : K.In hp := M.kin.keeps hk
  have gs : ∀ b o, (hp.hide e).get? b = some o → b ≠ e ∧ hp.get? b = some o := fun b o z => by
    by_cases hb : b = e
    · rw [hb, Heap.hide_self] at z
      cases z
    · exact ⟨hb, Heap.of_hide z⟩
  have gb : ∀ b o, base.get? b = some o → (hp.hide e).get? b = some o := fun b o z => by
    have hb : b ≠ e := fun y => by
      rw [y, be] at z
      cases z
    rw [Heap.hide_ne hp hb]
    exact hk b o z
  have KG : K.In (hp.hide e) := M.kin.keeps gb
  obtain ⟨ar, hpar, harg⟩ : ∃ ar : Arg, (params.posonlyargs ++ params.args).head? = some ar ∧ ar.arg = "self" := by
    have h := F.ar
    unfold argsOk2 at h
    split at h
    · simp only [Bool.and_eq_true, beq_iff_eq] at h
      exact ⟨_, rfl, h.1⟩
    · cases h
  refine ks_codeAny_call_defAt (fd := ksFn "__init__" qual params body ⟨.function, nms, false, false, mr⟩ .none kV doc pm an (.ref cda) ct cc) (body := body) (binds := bnd (.ref e) v) hroom (KX _ _ lk) rfl (M.nolimit.keeps hk) (codeRec_of KX F.cd) rfl (.of_eq (binds2 F.ar _ _)) (fun x hx => s5 x hx)
    (fun x hx => ?_) (fun h1 hns k1 => ?_) rfl rfl rfl
  · rcases List.mem_cons.mp hx with rfl | hx
    · exact s3
    · cases List.mem_singleton.mp hx
      exact s4
  have F1 : Fr (hp.hide e) hp.objs.size h1 (fun x => (bnd (.ref e) v).reverse.lookup x) := ⟨hns, fun b o z => k1 b o (gs b o z).2, Nat.le_of_eq (Heap.hide_size _ _)⟩
  have N1 : News (hp.hide e) hp.objs.size h1 [(e, excObj C t0 none .none)] := fun p hp' => by
    cases List.mem_singleton.mp hp'
    exact ⟨k1 _ _ he, Nat.ne_of_lt (Heap.lt_size he), Heap.hide_self _ _⟩
  have lself : (fun x => (bnd (.ref e) v).reverse.lookup x) "self" = some (.ref e) := by rfl
  have llim : (fun x => (bnd (.ref e) v).reverse.lookup x) "limit" = some v := by rfl
  have kb1 : ∀ b o, base.get? b = some o → h1.get? b = some o := fun b o z => k1 b o (hk b o z)
  have X1 : K.In h1 := M.kin.keeps kb1
  obtain ⟨mb, hmb, hmbx⟩ := M.blt
  obtain ⟨oD, hD1, hD2⟩ : ∃ oD, h1.get? C = some oD ∧ oD.data = .cls cdD := by
    unfold clsIn at hcD
    split at hcD
    · rename_i c d cd' sl ho
      cases hcD
      exact ⟨_, X1 _ _ ho, rfl⟩
    · cases hcD
  have hb := F.bd
  unfold bodyOk at hb
  split at hb
  · rename_i a b1 b2 b b3 c' b4 b5 b6 d' b7 e' b8 f b9 b10
    simp only [Bool.and_eq_true, beq_iff_eq] at hb
    obtain ⟨hline, rfl, rfl, rfl, rfl, rfl, rfl⟩ := hb
    refine ks_wpAt_execs_cons (ks_wpAt_Expr_any (ks_wpAt_MethodCall ?_ (call_form rfl (beq_iff_eq.mpr hline))))
    refine ks_wpAt_super_base s1 s2 rfl rfl (X1 _ _ lk) rfl hpar rfl (X1 _ _ hcode) rfl hvs hfile F.top ?_
    refine ks_loadName_global rfl s1 (loadGlobal_builtin (M.glob.keeps kb1) L.ms (hmb.keeps kb1) ((hmbx _ (by decide +kernel)).trans (by boot_by_name)) ⟨rfl, ?_⟩)
    refine wpAny_loadName_free rfl s2 rfl ⟨_, X1 _ _ hcell, rfl⟩ ?_
    rw [harg]
    refine wpAny_loadName_local rfl s3 hns lself ?_
    refine ks_wpAny_isType_cls hD1 hD2 ⟨rfl, ?_⟩
    refine ks_wpAny_call_super hD1 hD2 (k1 _ _ he) rfl (fun c e => by cases e) (looks_mroIn X1 L.own) (fun h2 eso k2 => ?_)
    obtain ⟨F2, N2, l2⟩ := ks_newsPush (s := ⟨h1, g, d, t + 2, os⟩) F1 N1 rfl eso k2
    have i2 : InstAt h2 e (excObj C t0 none .none) C none := InstAt.of_exc0 N2 (.tail _ (.head _))
    refine kxs_method (s := ⟨h2, g, d, t + 2, os⟩) kxs_ValueError F2 KG N2 (.head _) i2 L.opq L.sup L.sv rfl (fun q h3 F3 N3 l3 => ?_)
    have q1 : q ≠ e := Nat.ne_of_gt (l3 _ (.tail _ (.head _)))
    have q2 : h1.objs.size ≠ e := Nat.ne_of_gt (l2 _ (.head _))
    refine kxs_callWith1 (i := "ValueError.__init__") (x := e) N3 (.head _) (spliced_more (wpAny_Name (wpAny_loadName_local rfl s4 F3.ns llim ?_) (by decide)) rfl)
    refine spliced_none ⟨kxs_at N3 (.head _), ?_⟩
    refine kxs_call F3 KG N3 PySem.F.excBase_ValueError L.ini (.head _) (.tail q1 (.tail q2 (.head fun _ z => nomatch z))) (by rw [sizeLine_eq]; exact Nat.le_of_lt (by show 1 < 16777216; decide)) (fun t1 h4 F4 N4 l4 => ?_)
    have q4 : t1 ≠ e := Nat.ne_of_gt (l4 _ (.tail _ (.tail _ (.head _))))
    have he4 := (N4 (e, excObj C t1 none .none) (.tail _ (.tail _ (.tail _ (.head _))))).1
    obtain ⟨nm, q, Nn, bs, bm, sn, sub, ab, col, dd, k0, k1', k2', k3, k5, hC, hbm⟩ := L.T.cls
    have hcl : clsIn K C = some { name := nm, bases := bs, mro := .ref C :: bm, ns := Nn, qualname := q, hasDict := true, slotNames := sn, subclasses := sub, abstract := ab, collection := col, hasDel := false } := by unfold clsIn; rw [hC] <;> rfl
    have X4 : K.In h4 := KG.keeps F4.keep
    refine ks_wpAt_execs_cons (ks_wpAt_Assign_Attr (wpAt_of_wpAny (wpAny_Name (wpAny_loadName_local rfl s4 F4.ns llim ?_) (by decide))))
    refine wpAny_Name (wpAny_loadName_local rfl s3 F4.ns lself ?_) (by decide)
    refine set_plain (ox := excObj C t1 none .none) (od := none) X4 ⟨he4, rfl, rfl, trivial⟩ L.T.sa ?_
    refine HandSPX.exc_osa X4 he4 hcl (show HandSPX.refsVE (.ref C :: bm) = true from hbm) rfl L.nol (fun h5 tk' dx kk dn dne hx5 hn5 => ?_)
    refine wpAt_of_wpAny (wpAny_execs_nil ?_)
    have old : ∀ b o, b ≠ e → hp.get? b = some o → h4.get? b = some o := fun b o hb z => F4.keep b o (by rw [Heap.hide_ne hp hb]; exact z)
    refine hq h5 t1 dx tk' (fun b o hb z => kk b o hb (old b o hb z)) ?_ dne hx5 hn5
    cases z : hp.get? dx with
    | none => rfl
    | some o => exact absurd (Nat.lt_of_lt_of_le (Heap.lt_size (old dx o dne z)) dn) (Nat.lt_irrefl _)
  · cases hb
end
section
variable {X : Cx} {x : Str} {C : Addr} {e : Expr} {p pos : Pos} {ta : TA}
/-- C(e) -/
theorem pmk_lim (L : LimF X.prog X.K X.mg x C) (hd : X.A.depth + 2 < recursionLimit) (hg : Gl X x) (ha : PA X [e] ta)
    (hdb : (x == ("__debug__" : Str)) = false := by decide) (he : starEach [e] X.env = (false, eval e X.env) :: starEach [] X.env := by rfl) (hpl : (backTo pos (starEach [] X.env)).any (·.1) = false := by rfl) :
    L2N.PMk X (.Call (.Name x p) [e] [] pos) (fun σ H Q => ta σ H fun vs H1 => ∃ y, vs = [y] ∧ ∀ dx, H1 dx = none → Q (.ref C) (some dx) (upd H1 dx (.xd [("limit", y)]))) := by
  intro pins s σ H Q I h
  obtain ⟨nm, q, N, bs, bm, sn, sub, ab, col, dd, k0, k1, k2, k3, k5, hC, hbm⟩ := L.T.cls
  obtain ⟨fI, cc, cda, qual, params, body, scope, kV, doc, pm, an, ct, F⟩ := L.fn
  refine wpAny_Call_Name_kw (ld_glob I hg L.gl ?_ hdb)
  refine PySem.W.callWith_K (h₀ := X.base) I.ok.mod.kin L.T.kC (thn (ha.run pos pins s σ H _ I h) fun us s1 ⟨vs, H1, I1, r1, y, ev, q1⟩ => ⟨I1.kIn, ?_⟩) he hpl
  subst ev
  obtain ⟨u, eu, ru⟩ : ∃ u, us = [u] ∧ RelV y u := by
    cases r1 with
    | cons ru rn =>
      cases rn
      exact ⟨_, rfl, ru⟩
  subst eu
  show wpAny _ _ (call (.ref C) [u]) _ _ _
  obtain ⟨hp, g, dr, tk, os⟩ := s1
  have kk : ∀ b o, hp.get? b = some o → ((hp.push (PySem.W.kdv_tup [u])).push (HandSPX.excO C hp.objs.size)).get? b = some o := fun b o z => Heap.get?_push_of_some _ (Heap.get?_push_of_some _ z)
  have hget : ((hp.push (PySem.W.kdv_tup [u])).push (HandSPX.excO C hp.objs.size)).get? (hp.objs.size + 1) = some (HandSPX.excO C hp.objs.size) := by heap_get
  have ne : ∀ {b : Addr} {o : Obj}, hp.get? b = some o → b ≠ hp.objs.size + 1 := fun {b o} z y => by
    have q := Heap.lt_size z
    rw [y] at q
    exact absurd q (Nat.not_lt_of_le (Nat.le_succ _))
  refine wpAny_call (HandSPX.call_own PySem.F.excBase_ValueError (fun Y => HandSPX.refsVE_contains Y bm hbm) (I1.kIn _ _ hC) (looks_findIn I1.kIn F.fi) (fun self => bind_fn I1.kIn self F.ty) (by rw [sizeLine_eq]; exact Nat.le_of_lt (by show 1 < 16777216; decide)) ?_)
  have bn : X.base.get? (hp.objs.size + 1) = none := by
    cases z : X.base.get? (hp.objs.size + 1) with
    | none => rfl
    | some o => exact absurd rfl (ne (I1.bk _ _ z))
  refine walk I.ok.mod L F (fun b o z => kk b o (I1.bk b o z)) bn hget (by rw [make_depth]; exact Nat.lt_of_succ_lt hd) (fun h' t1 dx tk' k dn dne hx hns => ?_)
  refine ⟨rfl, ?_⟩
  have dn0 : hp.get? dx = none := by
    cases z : hp.get? dx with
    | none => rfl
    | some o =>
      have y := kk _ _ z
      rw [show ((hp.push (PySem.W.kdv_tup [u])).push (HandSPX.excO C hp.objs.size)).get? dx = none from dn] at y
      cases y
  have hd1 : H1 dx = none := I1.hok.gone dn0
  have ha1 : H1 (hp.objs.size + 1) = none := I1.hok.fresh (Nat.le_succ _)
  obtain ⟨G, g1, g2⟩ := restrict h' fun b => decide (b ≠ hp.objs.size + 1)
  have gk : ∀ b, b ≠ hp.objs.size + 1 → G.get? b = h'.get? b := fun b hb => g1 b (decide_eq_true hb)
  have ge : G.get? (hp.objs.size + 1) = none := g2 _ (by simp)
  have J : Inv X pins σ (upd H1 dx (.xd [("limit", y)])) ⟨G, g, dr, tk', os⟩ := I1.laidN (t' := tk') (h' := G) (fun b o z => by
      rw [gk b (ne z)]
      exact k b o (ne z) (kk b o z)) dn0 hd1 ⟨_, hns.at fun o z => (gk dx dne).trans z, relO_put (fs := []) ru fun f => True.intro⟩
  refine ⟨hp.objs.size + 1, _, _, ⟨G, g, dr, tk', os⟩, _, .ref C, some dx, rfl, J, fun b o z => ?_, ge, hx, ⟨rfl, rfl, fun vs e => by cases e; rfl⟩, rfl, rfl, ?_, rfl, I1.bare, raises_own L.T.exC L.T.tyC, q1 dx hd1⟩
  · by_cases hb : b = hp.objs.size + 1
    · rw [hb, ge] at z
      cases z
    · exact (gk b hb).symm.trans z
  · rw [upd_ne (Ne.symm dne)]
    exact ha1
end
end MiniW

set_option maxHeartbeats 4000000
/-! Mini, part M: what is read of the heap behind the head; the head's run in three parts. -/
namespace Mini
open PySem PySem.Spec PyProof.Rows L2 LamX
def oexB (K : PySem.W.Frag) (C : Addr) : Bool := match K.lookup C with
  | some ⟨.type t, _, .cls cd, sl⟩ => (t == "type") && (match cd.mro, sl.toList with
    | .ref D :: bm, [_, _, _, _, some (.builtin n), _] => (D == C) && ((n == "ValueError.__new__") && ((!cd.hasDel) && (cd.hasDict && HandSPX.refsVE bm)))
    | _, _ => false)
  | _ => false
def iniB (F : Str) (K : PySem.W.Frag) (C : Addr) : Bool := match PySem.W.findIn K (.ref C) "__init__" with
  | some (some (.ref fI)) => decide (PySem.W.typeIn K (.ref fI) = some (.type "function")) && (match K.lookup fI with
    | some ⟨_, _, .func ⟨nm, qn, pa, .stmts bd, sc, gl, [(cn, cc)], .none, _, _, _, _, .ref cda, _, bn⟩, _⟩ =>
      (nm == ("__init__" : Str)) && ((gl == mainGlobals) && ((cn == ("__class__" : Str)) && ((bn == builtinsNs) && (PySem.W.codeIn K (.ref cda) qn && (MiniW.bodyOk bd && (MiniW.argsOk2 pa && (MiniW.scopeOk sc &&
      ((match K.lookup cda with
        | some ⟨_, _, .fields vs, _⟩ => (match (vs[2]? : Option Value) with
          | some (.str f _) => F == f
          | _ => false)
        | _ => false) && (match K.lookup cc with
        | some ⟨_, _, .cell (some (.ref D)), _⟩ => D == C
        | _ => false)))))))))
    | _ => false)
  | _ => false
def limB (F : Str) (K : PySem.W.Frag) (C : Addr) : Bool :=
  oexB K C && (He.eqO (PySem.W.findIn K (.ref C) "__setattr__") (some (some (.builtin "object.__setattr__"))) && (decide (PySem.W.subIn K (.ref C) (.type "BaseException") = some true) && (decide (PySem.W.typeIn K (.ref C) = some (.type "type")) &&
  (PySem.W.keepIn K (.ref C) && (PySem.W.excInitIn K C MiniW.bmV "ValueError.__new__" && (He.eqO (PySem.W.ks_superIn K C C "__init__") (some (some (.builtin "ValueError.__init__"))) && (decide (PySem.W.subIn K (.ref C) (.type "ValueError") = some true) &&
  (decide (PySem.W.mroIn K C (.ref C) = some true) && ((PySem.W.clsIn K C).isSome && (He.eqO (PySem.W.nsIn K cStatics "thirdparty.any") (some none) && (He.eqO (PySem.W.findIn K (.ref C) "limit") (some none) && iniB F K C)))))))))))
def excB (K : PySem.W.Frag) (D : Addr) : Bool :=
  He.eqO (PySem.W.findIn K (.ref D) "__getattribute__") (some (some (.builtin "BaseException.__getattribute__"))) && (He.eqO (PySem.W.findIn K (.ref D) "__getattr__") (some none) &&
  (decide (PySem.W.subIn K (.ref D) (.type "BaseException") = some true) && (PySem.W.hasDictIn K D && (He.eqO (PySem.W.findIn K (.ref D) "__class__") (some (some (.builtin "object.__class__"))) &&
  (He.eqO (PySem.W.specialIn K (.builtin "object.__class__") "__get__") (some (some (.builtin "getset_descriptor.__get__"))) && (decide (PySem.W.takesIn K (.builtin "object.__class__") = some true) && decide (PySem.W.mroIn K D (.type "object") = some true)))))))
/-- the checks of the part: other modules' names, other names of defs, the classes -/
def exG (mb : List (Str × String)) (al : List (Str × Option Str)) (xs lims : List Str) (hasSuper : Bool) (tf : List He.Defn) (F : Str) (K : PySem.W.Frag) : Bool :=
  (mb.all fun p => He.eqO (PySem.W.nsIn K mainGlobals p.1) (some (some (.builtin p.2)))) && ((al.all fun p => match p.2 with
    | some x => He.eqO (PySem.W.nsIn K mainGlobals p.1) (some (some (.ref (He.ga K x))))
    | none => false) && ((xs.all fun c => excB K (He.ga K c)) && ((xs.all fun c => xs.all fun t => decide (PySem.W.kitOne K (.ref (He.ga K c)) (.ref (He.ga K t)) = some (c == t))) &&
    ((xs.all fun c => He.eqO (PySem.W.findIn K (.ref (He.ga K c)) "limit") (some none)) && (decide ((tf.map fun p => (He.cT K p).2).Nodup) &&
    ((lims.isEmpty || hasSuper) && (lims.all fun c => limB F K (He.ga K c))))))))
/-! the part that is read: what the globals reach, and the interpreter's own settings -/
def namedBy (o : Obj) : List Addr := match o.data with
  | .func fd => (match fd.code with
    | .ref c => [c]
    | _ => []) ++ fd.closure.map (·.2)
  | .cls cd => [cd.ns]
  | .dict _ _ => He.refsO o
  | _ => []
def further (g : Addr → Option Obj) (as : List Addr) : List Addr := as.flatMap fun a => match g a with
  | some o => namedBy o
  | none => []
def asY (g : Addr → Option Obj) : Nat → List Addr → List Addr
  | 0, as => as
  | n + 1, as => as ++ asY g n (further g as)
def fgY (n : Nat) (g : Addr → Option Obj) : PySem.W.Frag := He.frT g (cStatics :: asY g n [mainGlobals])
def obsY (n : Nat) (fa : List He.Fa) (fn : List He.DefD) (tf : List He.Defn) (ex : PySem.W.Frag → Bool) (g : Addr → Option Obj) : He.AlX :=
  (He.obsT fa fn [] (fgY n g), ex (fgY n g) && He.tabsB g tf (fgY n g))
/-! the head's run in three parts: each holds less -/
theorem map4 {α A B C D : Type} {o : Option α} {f : α → A} {g : α → B} {h : α → C} {i : α → D} {a : A} {b : B} {c : C} {d : D} (e1 : o.map (fun x => (f x, g x)) = some (a, b)) (e2 : o.map h = some c) (e3 : o.map i = some d) :
    o.map (fun x => (f x, g x, h x, i x)) = some (a, b, c, d) := by
  cases o with
  | none => cases e2
  | some x =>
    have e1 := Option.some.inj e1
    have e2 := Option.some.inj e2
    have e3 := Option.some.inj e3
    have e4 := Prod.mk.inj e1
    show some (f x, g x, h x, i x) = _
    rw [e4.1, e4.2, e2, e3]
open HandSHeadRun PySem.W PySem.Calls in
def RunA (r : OpenRow) (q : Program) (M : Nat) (loose : List PySem.Str) (w : World) : Prop :=
  (wholeF (fun p => stepQ (denQ tabQ) p w) fenceQ M r.prog).map (fun x => (looksF r.prog x.1.heap x.2.abs, seenQ q loose (importedModules r.prog.main.body) (fun s => xlAt q [] s && recOk r.toRowW.records s) x.2.abs)) = some (true, openGood q loose)
open HandSHeadRun PySem.W PySem.Calls in
def RunB (r : OpenRow) (M n : Nat) (fa : List He.Fa) (fn : List He.DefD) (w : World) : Prop :=
  (wholeF (fun p => stepQ (denQ tabQ) p w) fenceQ M r.prog).map (fun x => He.obsT fa fn [] (fgY n (getT x.2))) = some (He.valT fn [] w)
open HandSHeadRun PySem.W PySem.Calls in
def RunC (r : OpenRow) (M n : Nat) (tf : List He.Defn) (ex : PySem.W.Frag → Bool) (w : World) : Prop :=
  (wholeF (fun p => stepQ (denQ tabQ) p w) fenceQ M r.prog).map (fun x => ex (fgY n (getT x.2)) && He.tabsB (getT x.2) tf (fgY n (getT x.2))) = some true
end Mini

set_option maxHeartbeats 0
namespace K56
open PySem PySem.Spec PyProof.Rows L2 LamX Mini
def top (i : Nat) : Stmt := PySem.Challenge.pw_latticequarry_k56_errors_and_limits_of_a.main.body.getD i (.Pass ⟨0, 0, 0, 0⟩)
def ln0 : List PySem.Str := ["QuarryError", "InvalidNumber", "InvalidTable", "InvalidBase", "InvalidCounts", "TooMany", "is_whole", "need_whole", "is_tuple_of", "is_ascending", "GREAT_portions", "is_portion", "lowest", "plus", "times", "times_portions", "SIZE", "PART_tables", "is_row_of", "minors", "is_table", "pairs_below", "mates_of", "times_tables", "determinant", "left_out", "is_base", "ROWS_alikes", "PART_alikes", "is_handy_in"]
def ln1 : List PySem.Str := ["need_handy", "carried_by", "unit_rows", "shortened", "steps_of", "tuples_to", "rows_to", "by_length", "goes_on", "whole_from", "back_rows", "carrying_in", "is_carrying_in", "is_handy", "are_alike", "carrying", "is_carrying", "GREAT_perfects", "pairs_in", "places_of", "square_row", "put_in", "steps_by", "rank_in", "flat_in", "thinned", "common", "is_form_of", "sum_by", "short_pairs"]
def ln2 : List PySem.Str := ["perfect_rank", "is_perfect", "perfect_rows", "flat_table", "are_perfect_rows", "is_flat", "ROWS_bestones", "RATIOS", "best_in", "least_in", "ratio_in", "best_table", "best_ratio", "ratio_of", "is_best", "best_carrying", "MOST_lengthnumbers", "GREAT_lengthnumbers", "numbers_in", "are_counts", "length_numbers", "parting_length", "numbers_beside", "ROWS_oneforms", "need_three", "can_go_on", "next_rows", "bases_in", "one_form", "one_base"]
def ln3 : List PySem.Str := ["is_short_base", "count_short_bases", "MOST_orders", "GREATEST", "need_base", "behind", "powers_of", "prime_powers", "rows_for", "block_of", "base_in", "order_of", "least_rows", "possible_orders", "base_with", "kept_table", "does_keep", "LIMIT", "known_rows", "counts_in", "number_in", "all_turnings", "count_turnings", "place_counts", "turnings_of", "is_turning", "NONE", "inverse_by", "less", "by"]
def ln4 : List PySem.Str := ["solved", "answers", "equations", "bounded", "joined", "between", "form_by", "weighed", "are_weights_in", "is_slanting_in", "weights_of", "slanting", "are_weights", "is_slanting", "_law_cup", "_law_roll", "_law_some", "_law_mixed", "_law_error", "_law_product", "_law_carried", "_law_units", "_law_base", "_law_tables_right", "_law_numbers_right", "_law_bases_right"]
abbrev lns : List PySem.Str := ln0 ++ ln1 ++ ln2 ++ ln3 ++ ln4
abbrev RR : PySem.W.OpenRow := PySem.W.OpenLaw.row PySem.Challenge.rw_latticequarry_k56_errors_and_limits_of_a
abbrev fl : PySem.Str := (PySem.Challenge.pw_latticequarry_k56_errors_and_limits_of_a).main.file
def nmp : List (PySem.Str × Nat) := [((PySem.Str.ofString "is_whole"), 10), ((PySem.Str.ofString "need_whole"), 11), ((PySem.Str.ofString "is_tuple_of"), 12), ((PySem.Str.ofString "is_ascending"), 13), ((PySem.Str.ofString "is_portion"), 16), ((PySem.Str.ofString "lowest"), 17), ((PySem.Str.ofString "plus"), 18), ((PySem.Str.ofString "times"), 29), ((PySem.Str.ofString "is_row_of"), 24), ((PySem.Str.ofString "minors"), 25), ((PySem.Str.ofString "is_table"), 26), ((PySem.Str.ofString "pairs_below"), 27), ((PySem.Str.ofString "mates_of"), 28), ((PySem.Str.ofString "determinant"), 31), ((PySem.Str.ofString "left_out"), 32), ((PySem.Str.ofString "is_base"), 33), ((PySem.Str.ofString "is_handy_in"), 37), ((PySem.Str.ofString "need_handy"), 38), ((PySem.Str.ofString "carried_by"), 39), ((PySem.Str.ofString "unit_rows"), 40), ((PySem.Str.ofString "shortened"), 41), ((PySem.Str.ofString "steps_of"), 42), ((PySem.Str.ofString "tuples_to"), 43), ((PySem.Str.ofString "rows_to"), 44), ((PySem.Str.ofString "by_length"), 45), ((PySem.Str.ofString "goes_on"), 46), ((PySem.Str.ofString "whole_from"), 47), ((PySem.Str.ofString "back_rows"), 48), ((PySem.Str.ofString "carrying_in"), 49), ((PySem.Str.ofString "is_carrying_in"), 50), ((PySem.Str.ofString "is_handy"), 51), ((PySem.Str.ofString "are_alike"), 52), ((PySem.Str.ofString "carrying"), 53), ((PySem.Str.ofString "is_carrying"), 54), ((PySem.Str.ofString "pairs_in"), 57), ((PySem.Str.ofString "places_of"), 58), ((PySem.Str.ofString "square_row"), 59), ((PySem.Str.ofString "put_in"), 60), ((PySem.Str.ofString "steps_by"), 61), ((PySem.Str.ofString "rank_in"), 62), ((PySem.Str.ofString "flat_in"), 63), ((PySem.Str.ofString "thinned"), 64), ((PySem.Str.ofString "common"), 65), ((PySem.Str.ofString "is_form_of"), 66), ((PySem.Str.ofString "sum_by"), 67), ((PySem.Str.ofString "short_pairs"), 68), ((PySem.Str.ofString "perfect_rank"), 69), ((PySem.Str.ofString "is_perfect"), 70), ((PySem.Str.ofString "perfect_rows"), 71), ((PySem.Str.ofString "flat_table"), 72), ((PySem.Str.ofString "are_perfect_rows"), 73), ((PySem.Str.ofString "is_flat"), 74), ((PySem.Str.ofString "best_in"), 78), ((PySem.Str.ofString "least_in"), 79), ((PySem.Str.ofString "ratio_in"), 80), ((PySem.Str.ofString "best_table"), 81), ((PySem.Str.ofString "best_ratio"), 82), ((PySem.Str.ofString "ratio_of"), 83), ((PySem.Str.ofString "is_best"), 84), ((PySem.Str.ofString "best_carrying"), 85), ((PySem.Str.ofString "numbers_in"), 89), ((PySem.Str.ofString "are_counts"), 90), ((PySem.Str.ofString "length_numbers"), 91), ((PySem.Str.ofString "parting_length"), 92), ((PySem.Str.ofString "numbers_beside"), 93), ((PySem.Str.ofString "need_three"), 96), ((PySem.Str.ofString "can_go_on"), 97), ((PySem.Str.ofString "next_rows"), 98), ((PySem.Str.ofString "bases_in"), 99), ((PySem.Str.ofString "one_form"), 100), ((PySem.Str.ofString "one_base"), 101), ((PySem.Str.ofString "is_short_base"), 102), ((PySem.Str.ofString "count_short_bases"), 103), ((PySem.Str.ofString "need_base"), 107), ((PySem.Str.ofString "behind"), 108), ((PySem.Str.ofString "powers_of"), 109), ((PySem.Str.ofString "prime_powers"), 110), ((PySem.Str.ofString "rows_for"), 111), ((PySem.Str.ofString "block_of"), 112), ((PySem.Str.ofString "base_in"), 113), ((PySem.Str.ofString "order_of"), 114), ((PySem.Str.ofString "least_rows"), 115), ((PySem.Str.ofString "possible_orders"), 116), ((PySem.Str.ofString "base_with"), 117), ((PySem.Str.ofString "kept_table"), 118), ((PySem.Str.ofString "does_keep"), 119), ((PySem.Str.ofString "known_rows"), 122), ((PySem.Str.ofString "counts_in"), 123), ((PySem.Str.ofString "number_in"), 124), ((PySem.Str.ofString "all_turnings"), 125), ((PySem.Str.ofString "count_turnings"), 126), ((PySem.Str.ofString "place_counts"), 127), ((PySem.Str.ofString "turnings_of"), 128), ((PySem.Str.ofString "is_turning"), 129), ((PySem.Str.ofString "inverse_by"), 132), ((PySem.Str.ofString "less"), 133), ((PySem.Str.ofString "by"), 134), ((PySem.Str.ofString "solved"), 135), ((PySem.Str.ofString "answers"), 136), ((PySem.Str.ofString "equations"), 137), ((PySem.Str.ofString "bounded"), 138), ((PySem.Str.ofString "joined"), 139), ((PySem.Str.ofString "between"), 140), ((PySem.Str.ofString "form_by"), 141), ((PySem.Str.ofString "weighed"), 142), ((PySem.Str.ofString "are_weights_in"), 143), ((PySem.Str.ofString "is_slanting_in"), 144), ((PySem.Str.ofString "weights_of"), 145), ((PySem.Str.ofString "slanting"), 146), ((PySem.Str.ofString "are_weights"), 147), ((PySem.Str.ofString "is_slanting"), 148), ((PySem.Str.ofString "_law_cup"), 150), ((PySem.Str.ofString "_law_roll"), 151), ((PySem.Str.ofString "_law_some"), 152), ((PySem.Str.ofString "_law_mixed"), 153), ((PySem.Str.ofString "_law_error"), 154), ((PySem.Str.ofString "_law_product"), 155), ((PySem.Str.ofString "_law_carried"), 156), ((PySem.Str.ofString "_law_units"), 157), ((PySem.Str.ofString "_law_base"), 158), ((PySem.Str.ofString "_law_tables_right"), 159), ((PySem.Str.ofString "_law_numbers_right"), 160), ((PySem.Str.ofString "_law_bases_right"), 161), ((PySem.Str.ofString "law"), 162)]
def fnX : List He.DefD := nmp.map fun p => ⟨(p.1, none), p.1, p.1, defArgs (top p.2), defBody (top p.2), defScope (top p.2), [], []⟩
def tfX : List He.Defn := [((PySem.Str.ofString "_law_tables_right"), none), ((PySem.Str.ofString "_law_numbers_right"), none), ((PySem.Str.ofString "_law_bases_right"), none)]
def faX : List He.Fa := (nmp.map fun p => He.Fa.glo p.1) ++ ((([(PySem.Str.ofString "abs"), (PySem.Str.ofString "all"), (PySem.Str.ofString "any"), (PySem.Str.ofString "bool"), (PySem.Str.ofString "enumerate"), (PySem.Str.ofString "int"), (PySem.Str.ofString "isinstance"), (PySem.Str.ofString "len"), (PySem.Str.ofString "list"), (PySem.Str.ofString "max"), (PySem.Str.ofString "min"), (PySem.Str.ofString "range"), (PySem.Str.ofString "str"), (PySem.Str.ofString "sum"), (PySem.Str.ofString "super"), (PySem.Str.ofString "tuple"), (PySem.Str.ofString "zip")] : List PySem.Str)).map He.Fa.free ++ ((([((PySem.Str.ofString "GREATEST"), 60), ((PySem.Str.ofString "GREAT_lengthnumbers"), 1000000000), ((PySem.Str.ofString "GREAT_perfects"), 1000000000000000000000000000000000000000000000000000000000000), ((PySem.Str.ofString "GREAT_portions"), 1000000000000000000000000000000000000000000000000000000000000), ((PySem.Str.ofString "LIMIT"), 400), ((PySem.Str.ofString "MOST_lengthnumbers"), 30), ((PySem.Str.ofString "MOST_orders"), 100), ((PySem.Str.ofString "PART_alikes"), 30), ((PySem.Str.ofString "PART_tables"), 1000000), ((PySem.Str.ofString "ROWS_alikes"), 4), ((PySem.Str.ofString "ROWS_bestones"), 4), ((PySem.Str.ofString "ROWS_oneforms"), 3), ((PySem.Str.ofString "SIZE"), 8)] : List (PySem.Str × Int)).map fun p => He.Fa.int p.1 p.2) ++ (((([(PySem.Str.ofString "InvalidBase"), (PySem.Str.ofString "InvalidCounts"), (PySem.Str.ofString "InvalidNumber"), (PySem.Str.ofString "InvalidTable")] : List PySem.Str) ++ ([(PySem.Str.ofString "TooMany")] : List PySem.Str))).map He.Fa.glo ++ ((([(PySem.Str.ofString "InvalidBase"), (PySem.Str.ofString "InvalidCounts"), (PySem.Str.ofString "InvalidNumber"), (PySem.Str.ofString "InvalidTable")] : List PySem.Str)).map He.Fa.exc ++ ((((([(PySem.Str.ofString "InvalidBase"), (PySem.Str.ofString "InvalidCounts"), (PySem.Str.ofString "InvalidNumber"), (PySem.Str.ofString "InvalidTable")] : List PySem.Str) ++ ([(PySem.Str.ofString "TooMany")] : List PySem.Str))).map fun c => He.Fa.exm c (PySem.Str.ofString "QuarryError") true) ++ [He.Fa.glo (PySem.Str.ofString "QuarryError")])))))
def exX : PySem.W.Frag → Bool := exG [((PySem.Str.ofString "gcd"), "math.gcd"), ((PySem.Str.ofString "isqrt"), "math.isqrt")] [((PySem.Str.ofString "times_tables"), some (PySem.Str.ofString "times"))] (([(PySem.Str.ofString "InvalidBase"), (PySem.Str.ofString "InvalidCounts"), (PySem.Str.ofString "InvalidNumber"), (PySem.Str.ofString "InvalidTable")] : List PySem.Str) ++ ([(PySem.Str.ofString "TooMany")] : List PySem.Str)) ([(PySem.Str.ofString "TooMany")] : List PySem.Str) true tfX fl
theorem run_a (w : World) : RunA RR (PySem.W.view RR.prog [0, 1, 162]) 12000 lns w := by
  unfold RunA
  kernel_rfl
theorem run_b (w : World) : RunB RR 12000 4 faX fnX w := by
  unfold RunB
  kernel_rfl
theorem run_c (w : World) : RunC RR 12000 4 tfX exX w := by
  unfold RunC
  kernel_rfl
end K56

set_option maxHeartbeats 4000000
/-! Mini, part A: values, results, the small language and what its pieces compute. -/
namespace Mini
open PySem PySem.Spec PyProof.Rows L2

inductive U where
  | non | bl (b : Bool) | int (i : Int) | str (s : Str)
  | tup (xs : List U) | lst (xs : List U) | rol (xs : List U)
  | ref (n : Nat) | fn (j : Nat) | exn
  | dref (n : Nat) | dtag
abbrev Mem := List (List U)
structure Exn where
  cls : Str
  lim : Option Int
inductive R (α : Type) where
  | ok (a : α) (μ : Mem)
  | exc (c : Exn) (μ : Mem)
  | bad
def R.bind {α β : Type} : R α → (α → Mem → R β) → R β
  | .ok a μ, f => f a μ
  | .exc c μ, _ => .exc c μ
  | .bad, _ => .bad
abbrev Slots := List (Option U)
inductive Fl where
  | next (ρ : Slots) | ret (u : U) | brk (ρ : Slots) | cont (ρ : Slots)

mutual
inductive IE where
  | var (i : Nat)
  | int (n : Int) | str (s : Str) | bl (b : Bool) | non
  | gint (x : Str) (n : Int)
  | fnv (j : Nat)
  | bin (m : Bool) (op : Operator) (a b : IE)
  | neg (a : IE) | not (a : IE)
  | cmp (op : CmpOp) (a b : IE)
  | chain (o1 o2 : CmpOp) (a b c : IE)
  | and (a b : IE) | or (a b : IE)
  | ite (c a b : IE)
  | tup (es : IEs) | lst (m : Bool) (es : IEs)
  | idx (a b : IE)
  | slc (a : IE) (lo hi : IEs)
  | call (j : Nat) (es : IEs)
  | cvar (i : Nat) (es : IEs)
  | bi (m : Bool) (b : Str) (es : IEs)
  | isi (e : IE) (t : Str)
  | comp (m : Bool) (own : List Nat) (elt : IE) (tg : IT) (it : II) (ifs : IEs)
  | lam (j : Nat) (e : IE)
  | app (o e : IE)
  | isE (i : Nat) (c : Str) | eLim (i : Nat)
  | join (o e : IE)
  | rev (m : Bool) (e : IE)
  | hole
  | comp2 (m : Bool) (own own1 : List Nat) (elt : IE) (tg : IT) (it : II) (ifs : IEs) (tg1 : IT) (it1 : II) (ifs1 : IEs)
  | pop (o : IE) (es : IEs)
  | dnew
  | dget (d k e : IE)
  | dsa (d k v : IE)
  | lrg (tu : Bool) (m : Bool) (it : II)
inductive IEs where
  | nil | cons (e : IE) (es : IEs)
inductive II where
  | of (e : IE) | rng1 (a : IE) | rng2 (a b : IE) | zip2 (a b : IE) | enum (a : IE)
  | rng3 (a b c : IE)
inductive IT where
  | name (i : Nat) | tup (ts : ITs)
inductive ITs where
  | nil | cons (t : IT) (ts : ITs)
inductive IPs where
  | nil | name (i : Nat) (ps : IPs) | sub (o i : IE) (ps : IPs)
end
mutual
inductive IS where
  | set (t : IT) (e : IE)
  | seti (o i e : IE)
  | par (i j : Nat) (a b : IE)
  | parN (is : List Nat) (es : IEs)
  | aug (i : Nat) (op : Operator) (e : IE)
  | exp (e : IE)
  | ite (c : IE) (a b : ISs)
  | ret (e : IE) | retN
  | for_ (t : IT) (it : II) (b : ISs)
  | while_ (n : Nat) (c : IE) (b : ISs)
  | raise (c : Str) (msg : Str)
  | raiseL (c : Str) (e : IE)
  | pass | brk | cont
  | hole
  | put (ps : IPs) (es : IEs)
inductive ISs where
  | nil | cons (s : IS) (ss : ISs)
end

/-! ### values -/
def bigL : Nat := 16777216
/-- the list at a place of the memory -/
def getL (μ : Mem) (n : Nat) : Option (List U) := match μ[n]? with
  | some (.dtag :: _) => none
  | o => o
/-- the pairs of the dict at a place of the memory -/
def getD (μ : Mem) (n : Nat) : Option (List U) := match μ[n]? with
  | some (.dtag :: ps) => some ps
  | _ => none
/-- the items of a list or tuple -/
def seqOf (μ : Mem) : U → Option (List U)
  | .tup xs => some xs
  | .lst xs => some xs
  | .rol xs => some xs
  | .ref n => getL μ n
  | _ => none
def lstOf (μ : Mem) : U → Option (List U)
  | .lst xs => some xs
  | .ref n => getL μ n
  | _ => none
/-- a new list: of its own place in the memory, or never changed -/
def alloc (m : Bool) (xs : List U) (μ : Mem) : R U := if m then .ok (.ref μ.length) (μ ++ [xs]) else .ok (.lst xs) μ
mutual
def toD : U → Option PyData
  | .non => some .none
  | .bl b => some (.bool b)
  | .int i => some (.int i)
  | .str s => some (.str s)
  | .tup xs => (toDs xs).map .tuple
  | .lst xs => (toDs xs).map .list
  | .rol xs => (toDs xs).map .list
  | .ref _ => none
  | .fn _ => none
  | .exn => none
  | .dref _ => none
  | .dtag => none
def toDs : List U → Option (List PyData)
  | [] => some []
  | x :: xs => match toD x, toDs xs with
    | some d, some ds => some (d :: ds)
    | _, _ => none
end
def toDM (μ : Mem) : U → Option PyData
  | .ref n => match getL μ n with
    | some xs => (toDs xs).map .list
    | none => none
  | u => toD u
def truth (μ : Mem) : U → Option Bool
  | .non => some false
  | .bl b => some b
  | .int i => some (i != 0)
  | .str _ => none
  | .tup xs => some (!xs.isEmpty)
  | .lst xs => some (!xs.isEmpty)
  | .rol xs => some (!xs.isEmpty)
  | .ref n => match getL μ n with
    | some xs => some (!xs.isEmpty)
    | none => none
  | .fn _ => none
  | .exn => none
  | .dref _ => none
  | .dtag => none

/-! ### operators -/
def mulOk (i j : Int) : Bool := decide (i.natAbs < 2 ^ 64) || decide (j.natAbs < 2 ^ 64) || (decide (i.natAbs < 2 ^ 9000) && decide (j.natAbs < 2 ^ 9000))
def divOk (j : Int) : Bool := j != 0 && decide (j.natAbs < 2 ^ 9000)
def powOk (i j : Int) : Bool := decide (0 ≤ j) && decide (j ≤ 1000000) && decide (i.natAbs < 2 ^ 64)
def repOk (n : Nat) (k : Int) : Bool := decide (-(2 ^ 62) ≤ k) && decide (k < 2 ^ 62) && decide (n * k.toNat ≤ bigL)
def repTOk (xs : List U) (k : Int) : Bool := !xs.isEmpty && decide (2 ≤ k) && decide (k ≤ 1000) && decide (xs.length ≤ 1000)
def rep (xs : List U) (k : Int) : List U := (List.replicate k.toNat xs).flatten
def binD (m : Bool) (op : Operator) (a b : U) (μ : Mem) : R U :=
  match op with
  | .Add => match a, b with
    | .int i, .int j => .ok (.int (i + j)) μ
    | .str x, .str y => if x.length + y.length ≤ bigL then .ok (.str (x ++ y)) μ else .bad
    | .tup xs, .tup ys => if xs.length + ys.length ≤ bigL then .ok (.tup (xs ++ ys)) μ else .bad
    | a, b => match lstOf μ a, lstOf μ b with
      | some xs, some ys => if xs.length + ys.length ≤ bigL then alloc m (xs ++ ys) μ else .bad
      | _, _ => .bad
  | .Sub => match a, b with
    | .int i, .int j => .ok (.int (i - j)) μ
    | _, _ => .bad
  | .Mult => match a, b with
    | .int i, .int j => if mulOk i j then .ok (.int (i * j)) μ else .bad
    | .tup xs, .int k => if repTOk xs k then .ok (.tup (rep xs k)) μ else .bad
    | a, .int k => match lstOf μ a with
      | some xs => if repOk xs.length k then alloc m (rep xs k) μ else .bad
      | none => .bad
    | _, _ => .bad
  | .FloorDiv => match a, b with
    | .int i, .int j => if divOk j then .ok (.int (i.fdiv j)) μ else .bad
    | _, _ => .bad
  | .Mod => match a, b with
    | .int i, .int j => if j != 0 then .ok (.int (i.fmod j)) μ else .bad
    | _, _ => .bad
  | .Pow => match a, b with
    | .int i, .int j => if powOk i j then .ok (.int (i ^ j.toNat)) μ else .bad
    | _, _ => .bad
  | .LShift => match a, b with
    | .int i, .int j => if powOk i j then .ok (.int (i * 2 ^ j.toNat)) μ else .bad
    | _, _ => .bad
  | _ => .bad
def negD (a : U) (μ : Mem) : R U := match a with
  | .int i => .ok (.int (-i)) μ
  | _ => .bad
def eqD (μ : Mem) (a b : U) : Option Bool := match a, b with
  | .int i, .int j => some (i == j)
  | .str x, .str y => some (x == y)
  | a, b => match toDM μ a, toDM μ b with
    | some d, some e => if SeqAt.shaped d && SeqAt.shaped e then some (PyData.eqv d e) else none
    | _, _ => none
def inD (μ : Mem) (a b : U) : Option Bool := match toD a, toDM μ b with
  | some d, some (.list ds) => if SeqAt.shaped d && SeqAt.shaped (.list ds) then some (ds.any fun z => PyData.eqv z d) else none
  | some d, some (.tuple ds) => if SeqAt.shaped d && SeqAt.shaped (.tuple ds) then some (ds.any fun z => PyData.eqv z d) else none
  | _, _ => none
def cmpD (op : CmpOp) (a b : U) (μ : Mem) : Option Bool :=
  match op with
  | .Eq => eqD μ a b
  | .NotEq => (eqD μ a b).map (!·)
  | .Lt => match a, b with
    | .int i, .int j => some (decide (i < j))
    | _, _ => none
  | .LtE => match a, b with
    | .int i, .int j => some (decide (i ≤ j))
    | _, _ => none
  | .Gt => match a, b with
    | .int i, .int j => some (decide (j < i))
    | _, _ => none
  | .GtE => match a, b with
    | .int i, .int j => some (decide (j ≤ i))
    | _, _ => none
  | .Is => match b with
    | .non => match a with
      | .non => some true
      | _ => some false
    | .bl k => match a with
      | .bl j => some (j == k)
      | _ => none
    | _ => none
  | .IsNot => match b with
    | .non => match a with
      | .non => some false
      | _ => some true
    | .bl k => match a with
      | .bl j => some (!(j == k))
      | _ => none
    | _ => none
  | .In => inD μ a b
  | .NotIn => (inD μ a b).map (!·)
def cmpR (op : CmpOp) (a b : U) (μ : Mem) : R U := match cmpD op a b μ with
  | some k => .ok (.bl k) μ
  | none => .bad
/-- the place in a row of n -/
def atU (xs : List U) (i : Int) : Option U := (ixN xs.length i).bind fun j => xs[j]?
def idxD (a b : U) (μ : Mem) : R U := match b with
  | .int i => match seqOf μ a with
    | some xs => match atU xs i with
      | some u => .ok u μ
      | none => .bad
    | none => .bad
  | _ => .bad
def cutU (xs : List U) (lo hi : Option Int) : List U := (xs.drop (HT.sIx xs.length 0 lo)).take (HT.sIx xs.length xs.length hi - HT.sIx xs.length 0 lo)
def slcD (a : U) (lo hi : Option Int) (μ : Mem) : R U := match a with
  | .tup xs => .ok (.tup (cutU xs lo hi)) μ
  | a => match lstOf μ a with
    | some xs => .ok (.lst (cutU xs lo hi)) μ
    | none => .bad

/-- a written end of a slice, or none -/
def optI : List U → Option (Option Int)
  | [] => some none
  | [.int i] => some (some i)
  | _ => none

/-! ### built-in functions -/
def sumI : List U → Option Int
  | [] => some 0
  | .int i :: xs => (sumI xs).map (i + ·)
  | _ => none
def boolsOf : List U → Option (List Bool)
  | [] => some []
  | .bl b :: xs => (boolsOf xs).map (b :: ·)
  | _ => none
def intsOf : List U → Option (List Int)
  | [] => some []
  | .int b :: xs => (intsOf xs).map (b :: ·)
  | _ => none
def strsOf : List U → Option (List Str)
  | [] => some []
  | .str b :: xs => (strsOf xs).map (b :: ·)
  | _ => none
def one1 : List U → Option U
  | [x] => some x
  | _ => none
def int1 : List U → Option Int
  | [.int i] => some i
  | _ => none
def int2 : List U → Option (Int × Int)
  | [.int i, .int j] => some (i, j)
  | _ => none
def truthsOf : List U → Option (List Bool)
  | [] => some []
  | .bl b :: xs => (truthsOf xs).map (b :: ·)
  | .int i :: xs => (truthsOf xs).map ((i != 0) :: ·)
  | _ => none
def str1 : List U → Option Str
  | [.int i] => if i.natAbs.log2 < 1920 then some (toString i) else none
  | _ => none
def nat1 : List U → Option Nat
  | [.int i] => if decide (0 ≤ i) && decide (i < 2 ^ 64) then some i.toNat else none
  | _ => none
def seq1 (μ : Mem) (us : List U) : Option (List U) := (one1 us).bind (seqOf μ)
/-- a list (not a tuple) -/
def lsq (μ : Mem) : U → Option (List U)
  | .lst xs => some xs
  | .rol xs => some xs
  | .ref n => getL μ n
  | _ => none
def lsq1 (μ : Mem) (us : List U) : Option (List U) := (one1 us).bind (lsq μ)
def maxI : List Int → Option Int
  | [] => none
  | x :: xs => match maxI xs with
    | none => some x
    | some m => some (if m ≤ x then x else m)
def minI : List Int → Option Int
  | [] => none
  | x :: xs => match minI xs with
    | none => some x
    | some m => some (if x ≤ m then x else m)
def getOr {A : Type} (o : Option A) (f : A → R U) : R U := match o with
  | some a => f a
  | none => .bad
def biD (m : Bool) (b : Str) (us : List U) (μ : Mem) : R U :=
  if b = "len" then getOr (seq1 μ us) fun xs => .ok (.int xs.length) μ
  else if b = "abs" then getOr (int1 us) fun i => .ok (.int (if i < 0 then -i else i)) μ
  else if b = "int" then getOr (int1 us) fun i => .ok (.int i) μ
  else if b = "gcd" then getOr (int2 us) fun p => .ok (.int (Nat.gcd p.1.natAbs p.2.natAbs : Nat)) μ
  else if b = "list" then getOr (seq1 μ us) fun xs => alloc m xs μ
  else if b = "tuple" then getOr (seq1 μ us) fun xs => .ok (.tup xs) μ
  else if b = "sum" then getOr ((lsq1 μ us).bind intsOf) fun ns => .ok (.int ns.sum) μ
  else if b = "all" then getOr ((lsq1 μ us).bind boolsOf) fun bs => .ok (.bl (bs.all id)) μ
  else if b = "any" then getOr ((seq1 μ us).bind truthsOf) fun bs => .ok (.bl (bs.any id)) μ
  else if b = "str" then getOr (str1 us) fun s => .ok (.str s) μ
  else if b = "isqrt" then getOr (nat1 us) fun n => .ok (.int (PySem.Float64.isqrt n : Nat)) μ
  else if b = "max" then match int2 us with
    | some p => .ok (.int (if p.2 > p.1 then p.2 else p.1)) μ
    | none => getOr (((lsq1 μ us).bind intsOf).bind maxI) fun n => .ok (.int n) μ
  else if b = "min" then match int2 us with
    | some p => .ok (.int (if p.2 < p.1 then p.2 else p.1)) μ
    | none => getOr (((lsq1 μ us).bind intsOf).bind minI) fun n => .ok (.int n) μ
  else .bad
/-- sep.join(rows) -/
def joinD (a : Str) (v : U) (μ : Mem) : R U := getOr ((seqOf μ v).bind strsOf) fun ys => if (ys.map (·.length)).sum + ys.length * a.length ≤ bigL then .ok (.str (Txt.join a ys)) μ else .bad
/-- isinstance by a class's name -/
def isiD (t : Str) (u : U) : Option Bool :=
  if t = "int" then match u with
    | .int _ => some true
    | .bl _ => some true
    | .fn _ => none
    | .exn => none
    | .dref _ => none
    | .dtag => none
    | _ => some false
  else if t = "bool" then match u with
    | .bl _ => some true
    | .fn _ => none
    | .exn => none
    | .dref _ => none
    | .dtag => none
    | _ => some false
  else if t = "str" then match u with
    | .str _ => some true
    | .fn _ => none
    | .exn => none
    | .dref _ => none
    | .dtag => none
    | _ => some false
  else if t = "tuple" then match u with
    | .tup _ => some true
    | .fn _ => none
    | .exn => none
    | .dref _ => none
    | .dtag => none
    | _ => some false
  else if t = "list" then match u with
    | .lst _ => some true
    | .rol _ => some true
    | .ref _ => some true
    | .fn _ => none
    | .exn => none
    | .dref _ => none
    | .dtag => none
    | _ => some false
  else none

/-! ### targets, loops -/
mutual
def setT : IT → U → Mem → Slots → Option Slots
  | .name i, u, _, ρ => some (ρ.set i (some u))
  | .tup ts, u, μ, ρ => match seqOf μ u with
    | some xs => setTs ts xs μ ρ
    | none => none
def setTs : ITs → List U → Mem → Slots → Option Slots
  | .nil, [], _, ρ => some ρ
  | .cons t ts, x :: xs, μ, ρ => match setT t x μ ρ with
    | some ρ1 => setTs ts xs μ ρ1
    | none => none
  | _, _, _, _ => none
end
mutual
def tgS : IT → List Nat
  | .name i => [i]
  | .tup ts => tgSs ts
def tgSs : ITs → List Nat
  | .nil => []
  | .cons t ts => tgS t ++ tgSs ts
end
def wipeU (ρ : Slots) : List Nat → Slots
  | [] => ρ
  | v :: vs => (wipeU ρ vs).set v none
/-! are two values the same? -/
mutual
def eqU : U → U → Bool
  | .non, .non => true
  | .bl a, .bl b => a == b
  | .int a, .int b => a == b
  | .str a, .str b => a == b
  | .tup a, .tup b => eqUs a b
  | .lst a, .lst b => eqUs a b
  | .rol a, .rol b => eqUs a b
  | .ref a, .ref b => a == b
  | .fn a, .fn b => a == b
  | .exn, .exn => true
  | .dref a, .dref b => a == b
  | .dtag, .dtag => true
  | _, _ => false
def eqUs : List U → List U → Bool
  | [], [] => true
  | a :: as, b :: bs => eqU a b && eqUs as bs
  | _, _ => false
end
/-- the lists of the memory that a loop walks, as they stand at its start -/
abbrev Srcs := List (Nat × List U)
/-- a loop over lists of the memory goes on while they stay as they are -/
def gd (src : Srcs) (μ : Mem) : Bool := src.all fun p => match getL μ p.1 with
  | some ys => eqUs ys p.2
  | none => false
def srcsOf (u : U) (xs : List U) : Srcs := match u with
  | .ref n => [(n, xs)]
  | _ => []
def compLoop (g : Mem → Bool) (step : Slots → Mem → R (Option U)) (set : U → Mem → Option Slots) : List U → Mem → R (List U)
  | [], μ => if g μ then .ok [] μ else .bad
  | x :: xs, μ => if g μ then (match set x μ with
    | none => .bad
    | some ρ => match step ρ μ with
      | .ok none μ1 => compLoop g step set xs μ1
      | .ok (some u) μ1 => match compLoop g step set xs μ1 with
        | .ok us μ2 => .ok (u :: us) μ2
        | _ => .bad
      | _ => .bad) else .bad
/-- a comprehension of two clauses: what each turn of the first one makes -/
def compLoopN (g : Mem → Bool) (step : Slots → Mem → R (List U)) (set : U → Mem → Option Slots) : List U → Mem → R (List U)
  | [], μ => if g μ then .ok [] μ else .bad
  | x :: xs, μ => if g μ then (match set x μ with
    | none => .bad
    | some ρ => match step ρ μ with
      | .ok us1 μ1 => match compLoopN g step set xs μ1 with
        | .ok us μ2 => .ok (us1 ++ us) μ2
        | _ => .bad
      | _ => .bad) else .bad
def forLoop (g : Mem → Bool) (body : Slots → Mem → R Fl) (set : U → Mem → Slots → Option Slots) : List U → Slots → Mem → R Fl
  | [], ρ, μ => if g μ then .ok (.next ρ) μ else .bad
  | x :: xs, ρ, μ => if g μ then (match set x μ ρ with
    | none => .bad
    | some ρ1 => match body ρ1 μ with
      | .ok (.next ρ2) μ1 => forLoop g body set xs ρ2 μ1
      | .ok (.cont ρ2) μ1 => forLoop g body set xs ρ2 μ1
      | .ok (.brk ρ2) μ1 => .ok (.next ρ2) μ1
      | .ok (.ret u) μ1 => .ok (.ret u) μ1
      | .exc c μ1 => .exc c μ1
      | .bad => .bad) else .bad
def whileLoop (test : Slots → Mem → R Bool) (body : Slots → Mem → R Fl) : Nat → Slots → Mem → R Fl
  | 0, _, _ => .bad
  | n + 1, ρ, μ => match test ρ μ with
    | .ok false μ1 => .ok (.next ρ) μ1
    | .ok true μ1 => match body ρ μ1 with
      | .ok (.next ρ2) μ2 => whileLoop test body n ρ2 μ2
      | .ok (.cont ρ2) μ2 => whileLoop test body n ρ2 μ2
      | .ok (.brk ρ2) μ2 => .ok (.next ρ2) μ2
      | .ok (.ret u) μ2 => .ok (.ret u) μ2
      | .exc c μ2 => .exc c μ2
      | .bad => .bad
    | .exc c μ1 => .exc c μ1
    | .bad => .bad
def truR (r : R U) : R Bool := r.bind fun u μ => match truth μ u with
  | some b => .ok b μ
  | none => .bad
def rngOk (i : Int) : Bool := decide (-(2 ^ 62) ≤ i) && decide (i < 2 ^ 62)
def rng3Ok (i j c : Int) : Bool := rngOk i && rngOk j && c == -1
def rngL (lo hi : Int) : List U := (List.range (hi - lo).toNat).map fun k => .int (lo + (k : Nat))
def rngC (lo c : Int) (n : Nat) : List U := (List.range n).map fun k => .int (lo + (k : Nat) * c)
/-- how many there are in a range with a step -/
def rngN (i j c : Int) : Nat := (i - j).toNat
def zipU : List U → List U → List U
  | x :: xs, y :: ys => .tup [x, y] :: zipU xs ys
  | _, _ => []
def enumU (n : Nat) : List U → List U
  | [] => []
  | x :: xs => .tup [.int n, x] :: enumU (n + 1) xs

/-- several stores, the last first -/
def setsU (ρ : Slots) : List (Nat × U) → Slots
  | [] => ρ
  | (i, u) :: r => setsU (ρ.set i (some u)) r
def stored (o : Option Slots) (μ : Mem) : R Fl := match o with
  | some ρ => .ok (.next ρ) μ
  | none => .bad
/-- one turn of a comprehension -/
def stepD (dt : Slots → Mem → R Bool) (de : Slots → Mem → R U) (ρ : Slots) (μ : Mem) : R (Option U) := match dt ρ μ with
  | .ok true μ1 => (de ρ μ1).bind fun u μ2 => .ok (some u) μ2
  | .ok false μ1 => .ok none μ1
  | .exc c μ1 => .exc c μ1
  | .bad => .bad
/-- one turn of the first clause -/
def step2D (dt : Slots → Mem → R Bool) (di : Slots → Mem → R (Srcs × List U)) (dt1 : Slots → Mem → R Bool) (de : Slots → Mem → R U) (set1 : Slots → U → Mem → Option Slots) (ρ : Slots) (μ : Mem) : R (List U) := match dt ρ μ with
  | .ok true μ1 => (di ρ μ1).bind fun ys μ2 => compLoop (gd ys.1) (stepD dt1 de) (set1 ρ) ys.2 μ2
  | .ok false μ1 => .ok [] μ1
  | .exc c μ1 => .exc c μ1
  | .bad => .bad
/-! ### dicts with ints and strings as keys: pairs in order -/
def keyOf : U → Option L2.Key
  | .int i => some (.inl i)
  | .str s => some (.inr s)
  | _ => none
def dval : List U → L2.Key → Option U
  | .tup [u, v] :: r, k => if keyOf u = some k then some v else dval r k
  | _, _ => none
def dgetD (μ : Mem) (d k e : U) : R U := match d with
  | .dref n => match getD μ n, keyOf k with
    | some ps, some k => .ok ((dval ps k).getD e) μ
    | _, _ => .bad
  | _ => .bad
/-- d.setdefault(k, []) -/
def dsdD (μ : Mem) (d k : U) : R U := match d with
  | .dref n => match getD μ n, keyOf k with
    | some ps, some k' => if ps.length < bigL then (match dval ps k' with
      | some (.ref j) => .ok (.ref j) μ
      | some _ => .bad
      | none => .ok (.ref μ.length) ((μ ++ [[]]).set n (U.dtag :: (ps ++ [U.tup [k, U.ref μ.length]])))) else .bad
    | _, _ => .bad
  | _ => .bad
def appD (μ : Mem) (u v : U) : R U := match u with
  | .ref n => match getL μ n with
    | some xs => if xs.length < bigL then .ok .non (μ.set n (xs ++ [v])) else .bad
    | none => .bad
  | _ => .bad
def popD (μ : Mem) (o : U) (es : List U) : R U := match o with
  | .ref n => match getL μ n with
    | some xs => if es.isEmpty then (match xs[xs.length - 1]? with
        | some y => .ok y (μ.set n xs.dropLast)
        | none => .bad)
      else match int1 es with
        | some i => if xs.length ≤ bigL then (match ixN xs.length i with
          | some j => match xs[j]? with
            | some y => .ok y (μ.set n (xs.eraseIdx j))
            | none => .bad
          | none => .bad) else .bad
        | none => .bad
    | none => .bad
  | _ => .bad
/-- o[i] = v -/
def setiD (u k v : U) (μ : Mem) : Option Mem := match u, k with
  | .ref n, .int k => match getL μ n with
    | some xs => match ixN xs.length k with
      | some j => some (μ.set n (xs.set j v))
      | none => none
    | none => none
  | _, _ => none

/-! ### what calls do: by the def's number -/
structure Orc where
  call : Nat → List U → Mem → R U
  lam : Nat → R U → R U
  exn : Option Exn

mutual
def denE (C : Orc) : IE → Slots → Mem → R U
  | .var i, ρ, μ => match ρ[i]? with
    | some (some u) => .ok u μ
    | _ => .bad
  | .int n, _, μ => .ok (.int n) μ
  | .str s, _, μ => .ok (.str s) μ
  | .bl b, _, μ => .ok (.bl b) μ
  | .non, _, μ => .ok .non μ
  | .gint _ n, _, μ => .ok (.int n) μ
  | .fnv j, _, μ => .ok (.fn j) μ
  | .bin m op a b, ρ, μ => (denE C a ρ μ).bind fun u μ1 => (denE C b ρ μ1).bind fun v μ2 => binD m op u v μ2
  | .neg a, ρ, μ => (denE C a ρ μ).bind negD
  | .not a, ρ, μ => (truR (denE C a ρ μ)).bind fun k μ1 => .ok (.bl (!k)) μ1
  | .cmp op a b, ρ, μ => (denE C a ρ μ).bind fun u μ1 => (denE C b ρ μ1).bind fun v μ2 => cmpR op u v μ2
  | .chain o1 o2 a b c, ρ, μ => (denE C a ρ μ).bind fun u μ1 => (denE C b ρ μ1).bind fun v μ2 => match cmpD o1 u v μ2 with
    | some true => (denE C c ρ μ2).bind fun z μ3 => cmpR o2 v z μ3
    | some false => .ok (.bl false) μ2
    | none => .bad
  | .and a b, ρ, μ => (denE C a ρ μ).bind fun u μ1 => match u with
    | .bl true => denE C b ρ μ1
    | .bl false => .ok (.bl false) μ1
    | _ => .bad
  | .or a b, ρ, μ => (denE C a ρ μ).bind fun u μ1 => match u with
    | .bl true => .ok (.bl true) μ1
    | .bl false => denE C b ρ μ1
    | _ => .bad
  | .ite c a b, ρ, μ => (truR (denE C c ρ μ)).bind fun k μ1 => match k with
    | true => denE C a ρ μ1
    | false => denE C b ρ μ1
  | .tup es, ρ, μ => (denEs C es ρ μ).bind fun us μ1 => if us.length ≤ bigL then .ok (.tup us) μ1 else .bad
  | .lst m es, ρ, μ => (denEs C es ρ μ).bind fun us μ1 => if us.length ≤ bigL then alloc m us μ1 else .bad
  | .idx a b, ρ, μ => (denE C a ρ μ).bind fun u μ1 => (denE C b ρ μ1).bind fun v μ2 => idxD u v μ2
  | .slc a lo hi, ρ, μ => (denE C a ρ μ).bind fun u μ1 => (denEs C lo ρ μ1).bind fun l μ2 => match optI l with
    | none => .bad
    | some x => (denEs C hi ρ μ2).bind fun h μ3 => match optI h with
      | none => .bad
      | some y => slcD u x y μ3
  | .call j es, ρ, μ => (denEs C es ρ μ).bind fun us μ1 => C.call j us μ1
  | .cvar i es, ρ, μ => match ρ[i]? with
    | some (some (.fn j)) => (denEs C es ρ μ).bind fun us μ1 => C.call j us μ1
    | _ => .bad
  | .bi m b es, ρ, μ => (denEs C es ρ μ).bind fun us μ1 => biD m b us μ1
  | .isi e t, ρ, μ => (denE C e ρ μ).bind fun u μ1 => match isiD t u with
    | some b => .ok (.bl b) μ1
    | none => .bad
  | .comp m own elt tg it ifs, ρ, μ => (denI C it ρ μ).bind fun xs μ1 =>
    match compLoop (gd xs.1) (stepD (fun ρ μ => denTs C ifs ρ μ) (fun ρ μ => denE C elt ρ μ)) (fun u μ => setT tg u μ (wipeU ρ own)) xs.2 μ1 with
    | .ok us μ2 => if us.length ≤ bigL then alloc m us μ2 else .bad
    | _ => .bad
  | .lam j e, ρ, μ => C.lam j (denE C e ρ μ)
  | .app o e, ρ, μ => (denE C o ρ μ).bind fun u μ1 => match u with
    | .ref n => (denE C e ρ μ1).bind fun v μ2 => match getL μ2 n with
      | some xs => if xs.length < bigL then .ok .non (μ2.set n (xs ++ [v])) else .bad
      | none => .bad
    | _ => .bad
  | .hole, _, _ => .bad
  | .comp2 m own own1 elt tg it ifs tg1 it1 ifs1, ρ, μ => (denI C it ρ μ).bind fun xs μ1 =>
    match compLoopN (gd xs.1) (step2D (fun ρ μ => denTs C ifs ρ μ) (fun ρ μ => denI C it1 ρ μ) (fun ρ μ => denTs C ifs1 ρ μ) (fun ρ μ => denE C elt ρ μ) (fun ρ u μ => setT tg1 u μ (wipeU ρ own1))) (fun u μ => setT tg u μ (wipeU ρ own)) xs.2 μ1 with
    | .ok us μ2 => if us.length ≤ bigL then alloc m us μ2 else .bad
    | _ => .bad
  | .pop o es, ρ, μ => (denE C o ρ μ).bind fun u μ1 => match u with
    | .ref n => (denEs C es ρ μ1).bind fun us μ2 => popD μ2 (.ref n) us
    | _ => .bad
  | .dnew, _, μ => .ok (.dref μ.length) (μ ++ [[.dtag]])
  | .dget d k e, ρ, μ => (denE C d ρ μ).bind fun u μ1 => match u with
    | .dref n => (denE C k ρ μ1).bind fun v μ2 => (denE C e ρ μ2).bind fun w μ3 => dgetD μ3 (.dref n) v w
    | _ => .bad
  | .dsa d k e, ρ, μ => (denE C d ρ μ).bind fun u μ1 => match u with
    | .dref n => (denE C k ρ μ1).bind fun v μ2 => (dsdD μ2 (.dref n) v).bind fun l μ3 => (denE C e ρ μ3).bind fun w μ4 => appD μ4 l w
    | _ => .bad
  | .lrg tu m it, ρ, μ => (denI C it ρ μ).bind fun xs μ1 => if xs.2.length ≤ bigL then (if tu then .ok (.tup xs.2) μ1 else alloc m xs.2 μ1) else .bad
  | .isE i c, ρ, μ => match ρ[i]? with
    | some (some .exn) => match C.exn with
      | some ⟨k, _⟩ => .ok (.bl (k == c)) μ
      | _ => .bad
    | _ => .bad
  | .eLim i, ρ, μ => match ρ[i]? with
    | some (some .exn) => match C.exn with
      | some ⟨_, some n⟩ => .ok (.int n) μ
      | _ => .bad
    | _ => .bad
  | .rev m e, ρ, μ => (denE C e ρ μ).bind fun u μ1 => getOr (lsq1 μ1 [u]) fun xs => alloc m xs.reverse μ1
  | .join o e, ρ, μ => (denE C o ρ μ).bind fun u μ1 => match u with
    | .str a => (denE C e ρ μ1).bind fun v μ2 => joinD a v μ2
    | _ => .bad
def denEs (C : Orc) : IEs → Slots → Mem → R (List U)
  | .nil, _, μ => .ok [] μ
  | .cons e es, ρ, μ => (denE C e ρ μ).bind fun u μ1 => (denEs C es ρ μ1).bind fun us μ2 => .ok (u :: us) μ2
/-- tests of a comprehension: all of them -/
def denTs (C : Orc) : IEs → Slots → Mem → R Bool
  | .nil, _, μ => .ok true μ
  | .cons e es, ρ, μ => (truR (denE C e ρ μ)).bind fun k μ1 => match k with
    | true => denTs C es ρ μ1
    | false => .ok false μ1
def denI (C : Orc) : II → Slots → Mem → R (Srcs × List U)
  | .of e, ρ, μ => (denE C e ρ μ).bind fun u μ1 => match seqOf μ1 u with
    | some xs => .ok (srcsOf u xs, xs) μ1
    | none => .bad
  | .rng1 a, ρ, μ => (denE C a ρ μ).bind fun u μ1 => match u with
    | .int i => if rngOk i then .ok ([], rngL 0 i) μ1 else .bad
    | _ => .bad
  | .rng2 a b, ρ, μ => (denE C a ρ μ).bind fun u μ1 => (denE C b ρ μ1).bind fun v μ2 => match u, v with
    | .int i, .int j => if rngOk i && rngOk j then .ok ([], rngL i j) μ2 else .bad
    | _, _ => .bad
  | .rng3 a b c, ρ, μ => (denE C a ρ μ).bind fun u μ1 => (denE C b ρ μ1).bind fun v μ2 => (denE C c ρ μ2).bind fun w μ3 => match u, v, w with
    | .int i, .int j, .int c => if rng3Ok i j c then .ok ([], rngC i c (rngN i j c)) μ3 else .bad
    | _, _, _ => .bad
  | .zip2 a b, ρ, μ => (denE C a ρ μ).bind fun u μ1 => (denE C b ρ μ1).bind fun v μ2 => match seqOf μ2 u, seqOf μ2 v with
    | some xs, some ys => .ok (srcsOf u xs ++ srcsOf v ys, zipU xs ys) μ2
    | _, _ => .bad
  | .enum a, ρ, μ => (denE C a ρ μ).bind fun u μ1 => match seqOf μ1 u with
    | some xs => .ok (srcsOf u xs, enumU 0 xs) μ1
    | none => .bad
end
def psLen : IPs → Nat
  | .nil => 0
  | .name _ ps => psLen ps + 1
  | .sub _ _ ps => psLen ps + 1
/-- the stores of a parallel assignment, the first first -/
def denPs (C : Orc) : IPs → List U → Slots → Mem → R Slots
  | .nil, [], ρ, μ => .ok ρ μ
  | .name i ps, u :: us, ρ, μ => denPs C ps us (ρ.set i (some u)) μ
  | .sub o i ps, u :: us, ρ, μ => (denE C o ρ μ).bind fun v μ1 => (denE C i ρ μ1).bind fun k μ2 => match setiD v k u μ2 with
    | some μ3 => denPs C ps us ρ μ3
    | none => .bad
  | _, _, _, _ => .bad
mutual
def denS (C : Orc) : IS → Slots → Mem → R Fl
  | .set t e, ρ, μ => (denE C e ρ μ).bind fun u μ1 => stored (setT t u μ1 ρ) μ1
  | .seti o i e, ρ, μ => (denE C e ρ μ).bind fun v μ1 => (denE C o ρ μ1).bind fun u μ2 => (denE C i ρ μ2).bind fun k μ3 => match setiD u k v μ3 with
    | some μ4 => .ok (.next ρ) μ4
    | none => .bad
  | .par i j a b, ρ, μ => (denE C a ρ μ).bind fun u μ1 => (denE C b ρ μ1).bind fun v μ2 => .ok (.next ((ρ.set i (some u)).set j (some v))) μ2
  | .parN is es, ρ, μ => (denEs C es ρ μ).bind fun us μ1 => if us.length = is.length ∧ us.length ≤ bigL then .ok (.next (setsU ρ (is.reverse.zip us.reverse))) μ1 else .bad
  | .aug i op e, ρ, μ => match ρ[i]? with
    | some (some u) => (denE C e ρ μ).bind fun v μ1 => match u, v with
      | .int x, .int y => (binD false op (.int x) (.int y) μ1).bind fun z μ2 => .ok (.next (ρ.set i (some z))) μ2
      | _, _ => .bad
    | _ => .bad
  | .exp e, ρ, μ => (denE C e ρ μ).bind fun _ μ1 => .ok (.next ρ) μ1
  | .ite c a b, ρ, μ => (truR (denE C c ρ μ)).bind fun k μ1 => match k with
    | true => denSs C a ρ μ1
    | false => denSs C b ρ μ1
  | .ret e, ρ, μ => (denE C e ρ μ).bind fun u μ1 => .ok (.ret u) μ1
  | .retN, _, μ => .ok (.ret .non) μ
  | .for_ t it b, ρ, μ => (denI C it ρ μ).bind fun xs μ1 => forLoop (gd xs.1) (fun ρ μ => denSs C b ρ μ) (fun u μ ρ => setT t u μ ρ) xs.2 ρ μ1
  | .while_ n c b, ρ, μ => whileLoop (fun ρ μ => truR (denE C c ρ μ)) (fun ρ μ => denSs C b ρ μ) n ρ μ
  | .raise c _, _, μ => .exc ⟨c, none⟩ μ
  | .raiseL c e, ρ, μ => (denE C e ρ μ).bind fun u μ1 => match u with
    | .int n => .exc ⟨c, some n⟩ μ1
    | _ => .bad
  | .pass, ρ, μ => .ok (.next ρ) μ
  | .brk, ρ, μ => .ok (.brk ρ) μ
  | .cont, ρ, μ => .ok (.cont ρ) μ
  | .hole, _, _ => .bad
  | .put ps es, ρ, μ => (denEs C es ρ μ).bind fun us μ1 => if us.length = psLen ps ∧ us.length ≤ bigL then (denPs C ps us ρ μ1).bind fun ρ1 μ2 => .ok (.next ρ1) μ2 else .bad
def denSs (C : Orc) : ISs → Slots → Mem → R Fl
  | .nil, ρ, μ => .ok (.next ρ) μ
  | .cons s ss, ρ, μ => match denS C s ρ μ with
    | .ok (.next ρ1) μ1 => denSs C ss ρ1 μ1
    | .ok (.ret u) μ1 => .ok (.ret u) μ1
    | .ok (.brk ρ1) μ1 => .ok (.brk ρ1) μ1
    | .ok (.cont ρ1) μ1 => .ok (.cont ρ1) μ1
    | .exc c μ1 => .exc c μ1
    | .bad => .bad
end

/-! ### defs -/
structure DefS where
  name : Str
  np : Nat
  N : List Str
  gc : Bool
  loc : Bool
  lv : Nat
  body : ISs
/-- def name(call): try: call() / except ..: suite; rest -/
structure DefX where
  name : Str
  q : Str
  ei : Nat
  N : List Str
  suite : ISs
  rest : Str
inductive Def where
  | std (d : DefS) | err (d : DefX)
mutual
def frz (get : Nat → Option U) : U → Option U
  | .tup xs => (frzs get xs).map .tup
  | .lst xs => (frzs get xs).map .lst
  | .rol xs => (frzs get xs).map .rol
  | .ref n => get n
  | .non => some .non
  | .bl b => some (.bl b)
  | .int i => some (.int i)
  | .str x => some (.str x)
  | .fn j => some (.fn j)
  | .exn => none
  | .dref _ => none
  | .dtag => none
def frzs (get : Nat → Option U) : List U → Option (List U)
  | [] => some []
  | x :: xs => match frz get x, frzs get xs with
    | some u, some us => some (u :: us)
    | _, _ => none
end
def getF (μ : Mem) (n0 : Nat) : Nat → Nat → Option U
  | 0, _ => none
  | k + 1, n => if n < n0 then some (.ref n) else match getL μ n with
    | some xs => (frzs (getF μ n0 k) xs).map .lst
    | none => none
/-! no place from n0 on is named -/
mutual
def below (n0 : Nat) : U → Bool
  | .tup xs => belows n0 xs
  | .lst xs => belows n0 xs
  | .rol xs => belows n0 xs
  | .ref n => decide (n < n0)
  | .non => true
  | .bl _ => true
  | .int _ => true
  | .str _ => true
  | .fn _ => true
  | .exn => false
  | .dref n => decide (n < n0)
  | .dtag => true
def belows (n0 : Nat) : List U → Bool
  | [] => true
  | x :: xs => below n0 x && belows n0 xs
end
def swept (n0 : Nat) (μ : Mem) : Bool := (μ.take n0).all (belows n0)
/-- behind a def that made lists: they are never changed from here on -/
def sweep (n0 : Nat) : R U → R U
  | .ok u μ => if swept n0 μ then match frz (getF μ n0 9) u with
    | some v => .ok v (μ.take n0)
    | none => .bad else .bad
  | .exc c μ => if swept n0 μ then .exc c (μ.take n0) else .bad
  | .bad => .bad
def ended : R Fl → R U
  | .ok (.ret u) μ => .ok u μ
  | .ok (.next _) μ => .ok .non μ
  | .ok _ _ => .bad
  | .exc c μ => .exc c μ
  | .bad => .bad
def startU (N : List Str) (us : List U) : Slots := us.map some ++ List.replicate (N.length - us.length) none
/-- behind a def that ran in a memory of its own -/
def locD (μ : Mem) : R U → R U
  | .ok u μ' => match frz (getF μ' 0 9) u with
    | some v => .ok v μ
    | none => .bad
  | .exc c _ => .exc c μ
  | .bad => .bad
def runD (d : DefS) (C : Orc) (us : List U) (μ : Mem) : R U :=
  if us.length = d.np then (if d.loc && belows 0 us then locD μ (ended (denSs C d.body (startU d.N us) [])) else if d.gc then sweep μ.length (ended (denSs C d.body (startU d.N us) μ)) else ended (denSs C d.body (startU d.N us) μ)) else .bad
def noOrc (x : Option Exn) : Orc := ⟨fun _ _ _ => .bad, fun _ _ => .bad, x⟩
def retOnly : R Fl → R U
  | .ok (.ret u) μ => .ok u μ
  | _ => .bad
def lamX (d : DefX) : R U → R U
  | .ok _ μ => .ok (.str d.rest) μ
  | .exc c μ => sweep μ.length (retOnly (denSs (noOrc (some c)) d.suite ((List.replicate d.N.length none).set d.ei (some .exn)) μ))
  | .bad => .bad
def lamD (Ds : List Def) (j : Nat) (r : R U) : R U := match Ds[j]? with
  | some (.err d) => lamX d r
  | _ => .bad
def callD (Ds : List Def) : Nat → Nat → List U → Mem → R U
  | 0, _, _, _ => .bad
  | k + 1, j, us, μ => match Ds[j]? with
    | some (.std d) => if d.lv ≤ k then callD Ds k j us μ else runD d ⟨callD Ds k, lamD Ds, none⟩ us μ
    | _ => .bad
abbrev orc (Ds : List Def) (k : Nat) : Orc := ⟨callD Ds k, lamD Ds, none⟩
end Mini

set_option maxHeartbeats 4000000
/-! Mini, part B: how values and memories lie in the model's heap. -/
namespace Mini
open PySem PySem.Spec PyProof.Rows L2 LamX

/-- where defs and classes stand; the tables of code objects -/
structure En where
  ad : Nat → Addr
  ca : Str → Addr
  fld : Str → Str
  dfn : Nat → Prop
  T : List (Addr × Str)
  ea : Option Addr
  el : Option (Addr × Str × Int)
  exs : List Str

def KL (K : PySem.W.Frag) (a : Addr) (vs : List V) : Prop :=
  ∃ (o : Obj) (its : Array Value) (n : Nat), K.lookup a = some o ∧ o.cls = .type "list" ∧ o.dict = none ∧ o.data = .seq its n ∧ its.size ≤ sizeLine ∧ Vals vs its.toList
def KT (K : PySem.W.Frag) (a : Addr) (vs : List V) : Prop :=
  ∃ (o : Obj) (its : Array Value) (n : Nat), K.lookup a = some o ∧ o.cls = .type "tuple" ∧ o.data = .seq its n ∧ its.size ≤ sizeLine ∧ Vals vs its.toList
/-- read and never changed -/
def Fz (α β : List Addr) (H : Hp) (a : Addr) (u : HO) : Prop := Rd H a u ∧ a ∉ α ∧ a ∉ β
def LstAt (K : PySem.W.Frag) (α β : List Addr) (H : Hp) (a : Addr) (vs : List V) : Prop := Fz α β H a (.lst vs) ∨ KL K a vs
def TupAt (K : PySem.W.Frag) (α β : List Addr) (H : Hp) (a : Addr) (vs : List V) : Prop := Fz α β H a (.tup vs) ∨ KT K a vs
theorem LstAt.seq {K : PySem.W.Frag} {α β : List Addr} {H : Hp} {a : Addr} {vs : List V} (h : LstAt K α β H a vs) : SqL K H a vs := by
  rcases h with h | h
  · exact .inl h.1
  · exact .inr h
theorem TupAt.seq {K : PySem.W.Frag} {α β : List Addr} {H : Hp} {a : Addr} {vs : List V} (h : TupAt K α β H a vs) : SqT K H a vs := by
  rcases h with h | h
  · exact .inl h.1
  · exact .inr h

mutual
def VR (K : PySem.W.Frag) (G : En) (α β : List Addr) (H : Hp) : U → V → Prop
  | .non, v => v = .non
  | .bl b, v => v = .bl b
  | .int i, v => v = .int i
  | .str s, v => v = .str s
  | .tup xs, v => ∃ a vs, v = .ref a ∧ TupAt K α β H a vs ∧ VRs K G α β H xs vs
  | .lst xs, v => ∃ a vs, v = .ref a ∧ (H a = some (.lst vs) ∧ a ∉ α ∧ a ∉ β) ∧ VRs K G α β H xs vs
  | .rol xs, v => ∃ a vs, v = .ref a ∧ LstAt K α β H a vs ∧ VRs K G α β H xs vs
  | .ref n, v => ∃ a, v = .ref a ∧ α[n]? = some a ∧ ∃ vs, H a = some (.lst vs)
  | .dref n, v => ∃ a, v = .ref a ∧ α[n]? = some a ∧ ∃ kvs, H a = some (.dK kvs)
  | .dtag, _ => False
  | .fn j, v => v = .ref (G.ad j) ∧ G.dfn j
  | .exn, v => ∃ a, G.ea = some a ∧ v = .ref a ∧ ∀ dd f n, G.el = some (dd, f, n) → H dd = some (.xd [(f, .int n)]) ∧ dd ∉ α ∧ dd ∉ β
def VRs (K : PySem.W.Frag) (G : En) (α β : List Addr) (H : Hp) : List U → List V → Prop
  | [], vs => vs = []
  | x :: xs, vs => ∃ v r, vs = v :: r ∧ VR K G α β H x v ∧ VRs K G α β H xs r
end

/-- all that is not of the memory stays, but for the tables -/
structure Ext (α : List Addr) (H : Hp) (α' : List Addr) (H' : Hp) : Prop where
  pre : α <+: α'
  keep : ∀ a o, H a = some o → (∀ ps, o ≠ .tbl ps) → a ∉ α → H' a = some o
  froz : ∀ a o, H a = some o → (∀ ps, o ≠ .tbl ps) → a ∉ α → a ∉ α'
  lst : ∀ a vs, H a = some (.lst vs) → ∃ ws, H' a = some (.lst ws)
  dk : ∀ a vs, H a = some (.dK vs) → ∃ ws, H' a = some (.dK ws)
theorem Ext.refl (α : List Addr) (H : Hp) : Ext α H α H := ⟨List.prefix_refl _, fun _ _ h _ _ => h, fun _ _ _ _ n => n, fun _ vs h => ⟨vs, h⟩, fun _ vs h => ⟨vs, h⟩⟩
theorem Ext.keepN {α α' : List Addr} {H H' : Hp} (e : Ext α H α' H') {a : Addr} {o : HO} (h : H a = some o) (n : a ∉ α) (t : ∀ ps, o ≠ .tbl ps) : H' a = some o := e.keep a o h t n
theorem Ext.trans {α α1 α2 : List Addr} {H H1 H2 : Hp} (a : Ext α H α1 H1) (b : Ext α1 H1 α2 H2) : Ext α H α2 H2 :=
  ⟨a.pre.trans b.pre, fun c o h t n => b.keep c o (a.keep c o h t n) t (a.froz c o h t n), fun c o h t n => b.froz c o (a.keep c o h t n) t (a.froz c o h t n),
    fun c vs h => (a.lst c vs h).elim fun ws g => b.lst c ws g, fun c vs h => (a.dk c vs h).elim fun ws g => b.dk c ws g⟩
theorem pre_get {α α' : List Addr} (p : α <+: α') {n : Nat} {a : Addr} (h : α[n]? = some a) : α'[n]? = some a := by
  obtain ⟨t, rfl⟩ := p
  rw [List.getElem?_append_left (List.getElem?_eq_some_iff.mp h).1]
  exact h

section
variable {K : PySem.W.Frag} {G : En} {α α' β β' : List Addr} {H H' : Hp}
theorem Fz.mono (e : Ext α H α' H') {a : Addr} {u : HO} (hu : ∀ ps, u ≠ .tbl ps) (h : Fz α β H a u) : Fz α' β H' a u := by
  obtain ⟨r, n, m⟩ := h
  rcases r with r | ⟨o, r⟩
  · exact ⟨.inl (e.keepN r n hu), e.froz a _ r hu n, m⟩
  · exact ⟨.inr ⟨o, e.keepN r n (fun ps z => by cases z)⟩, e.froz a _ r (fun ps z => by cases z) n, m⟩
mutual
theorem VR.mono (e : Ext α H α' H') : ∀ {u : U} {v : V}, VR K G α β H u v → VR K G α' β H' u v
  | .non, _, h => h
  | .bl _, _, h => h
  | .int _, _, h => h
  | .str _, _, h => h
  | .tup xs, _, h => by
    obtain ⟨a, vs, rfl, h1, h2⟩ := h
    exact ⟨a, vs, rfl, h1.imp (Fz.mono e (fun _ z => by cases z)) id, VRs.mono e h2⟩
  | .lst xs, _, h => by
    obtain ⟨a, vs, rfl, ⟨h1, h3, h4⟩, h2⟩ := h
    exact ⟨a, vs, rfl, ⟨e.keepN h1 h3 (fun _ z => by cases z), e.froz a _ h1 (fun _ z => by cases z) h3, h4⟩, VRs.mono e h2⟩
  | .rol xs, _, h => by
    obtain ⟨a, vs, rfl, h1, h2⟩ := h
    exact ⟨a, vs, rfl, h1.imp (Fz.mono e (fun _ z => by cases z)) id, VRs.mono e h2⟩
  | .ref n, _, h => by
    obtain ⟨a, rfl, h1, vs, h2⟩ := h
    exact ⟨a, rfl, pre_get e.pre h1, e.lst a vs h2⟩
  | .dref n, _, h => by
    obtain ⟨a, rfl, h1, vs, h2⟩ := h
    exact ⟨a, rfl, pre_get e.pre h1, e.dk a vs h2⟩
  | .dtag, _, h => h.elim
  | .fn _, _, h => h
  | .exn, _, h => by
    obtain ⟨a, e1, e2, h⟩ := h
    exact ⟨a, e1, e2, fun dd f n q => let ⟨h1, h2, h3⟩ := h dd f n q; ⟨e.keepN h1 h2 (fun _ z => by cases z), e.froz dd _ h1 (fun _ z => by cases z) h2, h3⟩⟩
theorem VRs.mono (e : Ext α H α' H') : ∀ {us : List U} {vs : List V}, VRs K G α β H us vs → VRs K G α' β H' us vs
  | [], _, h => h
  | _ :: _, _, h => by
    obtain ⟨v, r, rfl, h1, h2⟩ := h
    exact ⟨v, r, rfl, VR.mono e h1, VRs.mono e h2⟩
end
/-! private places may change, too -/
structure ExtP (α β : List Addr) (H : Hp) (α' : List Addr) (H' : Hp) : Prop where
  pre : α <+: α'
  keep : ∀ a o, H a = some o → (∀ ps, o ≠ .tbl ps) → a ∉ α → a ∉ β → H' a = some o
  froz : ∀ a o, H a = some o → (∀ ps, o ≠ .tbl ps) → a ∉ α → a ∉ β → a ∉ α'
  lst : ∀ a vs, H a = some (.lst vs) → ∃ ws, H' a = some (.lst ws)
  dk : ∀ a vs, H a = some (.dK vs) → ∃ ws, H' a = some (.dK ws)
theorem Ext.toP (e : Ext α H α' H') : ExtP α β H α' H' := ⟨e.pre, fun a o h t n _ => e.keep a o h t n, fun a o h t n _ => e.froz a o h t n, e.lst, e.dk⟩
theorem ExtP.trans {α1 α2 : List Addr} {H1 H2 : Hp} (a : ExtP α β H α1 H1) (b : Ext α1 H1 α2 H2) : ExtP α β H α2 H2 :=
  ⟨a.pre.trans b.pre, fun c o h t n m => b.keep c o (a.keep c o h t n m) t (a.froz c o h t n m), fun c o h t n m => b.froz c o (a.keep c o h t n m) t (a.froz c o h t n m),
    fun c vs h => (a.lst c vs h).elim fun ws g => b.lst c ws g, fun c vs h => (a.dk c vs h).elim fun ws g => b.dk c ws g⟩
theorem ExtP.wpriv {p : Addr} {ws zs : List V} (e : ExtP α β H α' H') (hp : p ∈ β) (hl : H' p = some (.lst ws)) : ExtP α β H α' (upd H' p (.lst zs)) :=
  ⟨e.pre, fun a o h t n m => by
    have na : a ≠ p := fun z => m (by rw [z]; exact hp)
    rw [upd_ne na]; exact e.keep a o h t n m, e.froz, fun a vs h => by
    by_cases z : a = p
    · exact ⟨zs, by rw [z, upd_same]⟩
    · rw [upd_ne z]; exact e.lst a vs h, fun a vs h => by
    by_cases z : a = p
    · subst z
      obtain ⟨ks, q⟩ := e.dk a vs h
      rw [hl] at q
      cases q
    · rw [upd_ne z]; exact e.dk a vs h⟩
theorem Fz.monoP (e : ExtP α β H α' H') {a : Addr} {u : HO} (hu : ∀ ps, u ≠ .tbl ps) (h : Fz α β H a u) : Fz α' β H' a u := by
  obtain ⟨r, n, m⟩ := h
  rcases r with r | ⟨o, r⟩
  · exact ⟨.inl (e.keep a _ r hu n m), e.froz a _ r hu n m, m⟩
  · exact ⟨.inr ⟨o, e.keep a _ r (fun ps z => by cases z) n m⟩, e.froz a _ r (fun ps z => by cases z) n m, m⟩
mutual
theorem VR.monoP (e : ExtP α β H α' H') : ∀ {u : U} {v : V}, VR K G α β H u v → VR K G α' β H' u v
  | .non, _, h => h
  | .bl _, _, h => h
  | .int _, _, h => h
  | .str _, _, h => h
  | .tup xs, _, h => by
    obtain ⟨a, vs, rfl, h1, h2⟩ := h
    exact ⟨a, vs, rfl, h1.imp (Fz.monoP e (fun _ z => by cases z)) id, VRs.monoP e h2⟩
  | .lst xs, _, h => by
    obtain ⟨a, vs, rfl, ⟨h1, h3, h4⟩, h2⟩ := h
    exact ⟨a, vs, rfl, ⟨e.keep a _ h1 (fun _ z => by cases z) h3 h4, e.froz a _ h1 (fun _ z => by cases z) h3 h4, h4⟩, VRs.monoP e h2⟩
  | .rol xs, _, h => by
    obtain ⟨a, vs, rfl, h1, h2⟩ := h
    exact ⟨a, vs, rfl, h1.imp (Fz.monoP e (fun _ z => by cases z)) id, VRs.monoP e h2⟩
  | .ref n, _, h => by
    obtain ⟨a, rfl, h1, vs, h2⟩ := h
    exact ⟨a, rfl, pre_get e.pre h1, e.lst a vs h2⟩
  | .dref n, _, h => by
    obtain ⟨a, rfl, h1, vs, h2⟩ := h
    exact ⟨a, rfl, pre_get e.pre h1, e.dk a vs h2⟩
  | .dtag, _, h => h.elim
  | .fn _, _, h => h
  | .exn, _, h => by
    obtain ⟨a, e1, e2, h⟩ := h
    exact ⟨a, e1, e2, fun dd f n q => let ⟨h1, h2, h3⟩ := h dd f n q; ⟨e.keep dd _ h1 (fun _ z => by cases z) h2 h3, e.froz dd _ h1 (fun _ z => by cases z) h2 h3, h3⟩⟩
theorem VRs.monoP (e : ExtP α β H α' H') : ∀ {us : List U} {vs : List V}, VRs K G α β H us vs → VRs K G α' β H' us vs
  | [], _, h => h
  | _ :: _, _, h => by
    obtain ⟨v, r, rfl, h1, h2⟩ := h
    exact ⟨v, r, rfl, VR.monoP e h1, VRs.monoP e h2⟩
end
/-! with other private places -/
mutual
theorem VR.priv (hb : ∀ a o, H a = some o → a ∉ α → a ∉ β → a ∉ β') : ∀ {u : U} {v : V}, VR K G α β H u v → VR K G α β' H u v
  | .non, _, h => h
  | .bl _, _, h => h
  | .int _, _, h => h
  | .str _, _, h => h
  | .tup xs, _, h => by
    obtain ⟨a, vs, rfl, h1, h2⟩ := h
    refine ⟨a, vs, rfl, h1.imp (fun ⟨r, n, m⟩ => ⟨r, n, ?_⟩) id, VRs.priv hb h2⟩
    rcases r with r | ⟨o, r⟩
    · exact hb a _ r n m
    · exact hb a _ r n m
  | .lst xs, _, h => by
    obtain ⟨a, vs, rfl, ⟨h1, h3, h4⟩, h2⟩ := h
    exact ⟨a, vs, rfl, ⟨h1, h3, hb a _ h1 h3 h4⟩, VRs.priv hb h2⟩
  | .rol xs, _, h => by
    obtain ⟨a, vs, rfl, h1, h2⟩ := h
    refine ⟨a, vs, rfl, h1.imp (fun ⟨r, n, m⟩ => ⟨r, n, ?_⟩) id, VRs.priv hb h2⟩
    rcases r with r | ⟨o, r⟩
    · exact hb a _ r n m
    · exact hb a _ r n m
  | .ref n, _, h => h
  | .dref n, _, h => h
  | .dtag, _, h => h
  | .fn _, _, h => h
  | .exn, _, h => by
    obtain ⟨a, e1, e2, h⟩ := h
    exact ⟨a, e1, e2, fun dd f n q => let ⟨h1, h2, h3⟩ := h dd f n q; ⟨h1, h2, hb dd _ h1 h2 h3⟩⟩
theorem VRs.priv (hb : ∀ a o, H a = some o → a ∉ α → a ∉ β → a ∉ β') : ∀ {us : List U} {vs : List V}, VRs K G α β H us vs → VRs K G α β' H us vs
  | [], _, h => h
  | _ :: _, _, h => by
    obtain ⟨v, r, rfl, h1, h2⟩ := h
    exact ⟨v, r, rfl, VR.priv hb h1, VRs.priv hb h2⟩
end
theorem VRs.len : ∀ {us : List U} {vs : List V}, VRs K G α β H us vs → us.length = vs.length
  | [], _, h => by cases h; rfl
  | _ :: _, _, h => by
    obtain ⟨v, r, rfl, _, h2⟩ := h
    simp [VRs.len h2]
theorem VRs.get : ∀ {us : List U} {vs : List V} {i : Nat} {u : U}, VRs K G α β H us vs → us[i]? = some u → ∃ v, vs[i]? = some v ∧ VR K G α β H u v
  | [], _, _, _, _, h => by simp at h
  | _ :: _, _, 0, _, h, e => by
    obtain ⟨v, r, rfl, h1, _⟩ := h
    simp at e; subst e
    exact ⟨v, rfl, h1⟩
  | _ :: _, _, i + 1, _, h, e => by
    obtain ⟨v, r, rfl, _, h2⟩ := h
    simp at e
    obtain ⟨w', h3, h4⟩ := VRs.get (i := i) h2 e
    exact ⟨w', by simpa using h3, h4⟩
theorem VRs.app : ∀ {us ws : List U} {vs zs : List V}, VRs K G α β H us vs → VRs K G α β H ws zs → VRs K G α β H (us ++ ws) (vs ++ zs)
  | [], _, _, _, h, g => by cases h; exact g
  | _ :: _, _, _, _, h, g => by
    obtain ⟨v, r, rfl, h1, h2⟩ := h
    exact ⟨v, _, rfl, h1, VRs.app h2 g⟩
theorem VRs.set {u : U} {v : V} (h : VR K G α β H u v) : ∀ {us : List U} {vs : List V} (i : Nat), VRs K G α β H us vs → VRs K G α β H (us.set i u) (vs.set i v)
  | [], _, _, g => by cases g; rfl
  | _ :: _, _, 0, g => by
    obtain ⟨w', r, rfl, _, h2⟩ := g
    exact ⟨v, r, rfl, h, h2⟩
  | _ :: _, _, i + 1, g => by
    obtain ⟨w', r, rfl, h1, h2⟩ := g
    exact ⟨w', _, rfl, h1, VRs.set h i h2⟩
theorem VRs.take : ∀ {us : List U} {vs : List V} (n : Nat), VRs K G α β H us vs → VRs K G α β H (us.take n) (vs.take n)
  | _, _, 0, _ => rfl
  | [], _, _ + 1, h => by cases h; rfl
  | _ :: _, _, n + 1, h => by
    obtain ⟨v, r, rfl, h1, h2⟩ := h
    exact ⟨v, _, rfl, h1, VRs.take n h2⟩
theorem VRs.drop : ∀ {us : List U} {vs : List V} (n : Nat), VRs K G α β H us vs → VRs K G α β H (us.drop n) (vs.drop n)
  | _, _, 0, h => h
  | [], _, _ + 1, h => by cases h; rfl
  | _ :: _, _, n + 1, h => by
    obtain ⟨v, r, rfl, _, h2⟩ := h
    exact VRs.drop n h2

/-! ### the memory -/
/-- pairs of a dict -/
def DRs (K : PySem.W.Frag) (G : En) (α β : List Addr) (H : Hp) : List U → List (L2.Key × V) → Prop
  | [], kvs => kvs = []
  | .tup [u, x] :: r, kvs => ∃ k v kr, kvs = (k, v) :: kr ∧ keyOf u = some k ∧ VR K G α β H x v ∧ DRs K G α β H r kr
  | _ :: _, _ => False
theorem DRs.cons_inv {u : U} {r : List U} {kvs : List (L2.Key × V)} (h : DRs K G α β H (u :: r) kvs) : ∃ u1 x k v kr, u = .tup [u1, x] ∧ kvs = (k, v) :: kr ∧ keyOf u1 = some k ∧ VR K G α β H x v ∧ DRs K G α β H r kr := by
  cases u with
  | tup xs =>
    match xs, h with
    | [u1, x], h =>
      obtain ⟨k, v, kr, h1, h2, h3, h4⟩ := h
      exact ⟨u1, x, k, v, kr, rfl, h1, h2, h3, h4⟩
    | [], h => exact h.elim
    | [_], h => exact h.elim
    | _ :: _ :: _ :: _, h => exact h.elim
  | _ => exact h.elim
theorem DRs.map {α' β' : List Addr} {H' : Hp} (f : ∀ u v, VR K G α β H u v → VR K G α' β' H' u v) : ∀ {ps : List U} {kvs : List (L2.Key × V)}, DRs K G α β H ps kvs → DRs K G α' β' H' ps kvs
  | [], _, h => h
  | _ :: _, _, h => by
    obtain ⟨u1, x, k, v, kr, rfl, rfl, h2, h3, h4⟩ := h.cons_inv
    exact ⟨k, v, kr, rfl, h2, f _ _ h3, DRs.map f h4⟩
/-- a place of the memory: a list, or a dict -/
def CellR (K : PySem.W.Frag) (G : En) (α β : List Addr) (H : Hp) (a : Addr) (xs : List U) : Prop :=
  (∃ vs, H a = some (.lst vs) ∧ VRs K G α β H xs vs) ∨ ∃ ps kvs, xs = .dtag :: ps ∧ H a = some (.dK kvs) ∧ DRs K G α β H ps kvs
def LD (H : Hp) (a : Addr) : Prop := (∃ vs, H a = some (.lst vs)) ∨ ∃ kvs, H a = some (.dK kvs)
theorem LD.some {a : Addr} (h : LD H a) : ∃ o, H a = some o ∧ ∀ ps, o ≠ .tbl ps := by
  rcases h with ⟨vs, h⟩ | ⟨vs, h⟩
  · exact ⟨_, h, fun _ z => by cases z⟩
  · exact ⟨_, h, fun _ z => by cases z⟩
theorem LD.of {a : Addr} (h : LD H a) (e : H' a = H a) : LD H' a := h.imp (fun ⟨vs, z⟩ => ⟨vs, e.trans z⟩) fun ⟨vs, z⟩ => ⟨vs, e.trans z⟩
theorem CellR.ld {a : Addr} {xs : List U} (h : CellR K G α β H a xs) : LD H a := by
  rcases h with ⟨vs, h, _⟩ | ⟨_, kvs, _, h, _⟩
  · exact .inl ⟨vs, h⟩
  · exact .inr ⟨kvs, h⟩
theorem CellR.map {α' β' : List Addr} {a : Addr} {xs : List U} (e : H' a = H a) (f : ∀ u v, VR K G α β H u v → VR K G α' β' H' u v) (fs : ∀ us vs, VRs K G α β H us vs → VRs K G α' β' H' us vs) (h : CellR K G α β H a xs) : CellR K G α' β' H' a xs := by
  rcases h with ⟨vs, h, r⟩ | ⟨ps, kvs, h0, h, r⟩
  · exact .inl ⟨vs, e.trans h, fs _ _ r⟩
  · exact .inr ⟨ps, kvs, h0, e.trans h, r.map f⟩
structure HR (K : PySem.W.Frag) (G : En) (μ : Mem) (α β : List Addr) (H : Hp) : Prop where
  len : α.length = μ.length
  nd : α.Nodup
  dis : ∀ a ∈ α, a ∉ β
  priv : ∀ a ∈ β, LD H a
  cell : ∀ (n : Nat) (xs : List U), μ[n]? = some xs → ∃ a, α[n]? = some a ∧ CellR K G α β H a xs
  tabs : Tabs G.T H
variable {μ : Mem}
theorem getL_get {n : Nat} {xs : List U} (h : getL μ n = some xs) : μ[n]? = some xs := by
  unfold getL at h
  split at h
  · cases h
  · exact h
theorem getL_dtag {n : Nat} {ps : List U} (h : getL μ n = some (.dtag :: ps)) : False := by
  have e := getL_get h
  unfold getL at h
  rw [e] at h
  cases h
theorem HR.at_ (h : HR K G μ α β H) (n : Nat) (xs : List U) (hx : getL μ n = some xs) : ∃ a vs, α[n]? = some a ∧ H a = some (.lst vs) ∧ VRs K G α β H xs vs := by
  obtain ⟨a, e1, c⟩ := h.cell n xs (getL_get hx)
  rcases c with ⟨vs, e2, e3⟩ | ⟨ps, kvs, e, _⟩
  · exact ⟨a, vs, e1, e2, e3⟩
  · subst e
    exact (getL_dtag hx).elim
theorem getD_get {n : Nat} {ps : List U} (h : getD μ n = some ps) : μ[n]? = some (.dtag :: ps) := by
  unfold getD at h
  split at h
  · rename_i e
    cases h
    exact e
  · cases h
theorem HR.dat (h : HR K G μ α β H) (n : Nat) (ps : List U) (hx : getD μ n = some ps) : ∃ a kvs, α[n]? = some a ∧ H a = some (.dK kvs) ∧ DRs K G α β H ps kvs := by
  obtain ⟨a, e1, c⟩ := h.cell n _ (getD_get hx)
  rcases c with ⟨vs, e2, e3⟩ | ⟨ps', kvs, e, e2, e3⟩
  · obtain ⟨_, _, _, z, _⟩ := e3
    exact z.elim
  · cases e
    exact ⟨a, kvs, e1, e2, e3⟩
theorem HR.trk (h : HR K G μ α β H) {a : Addr} (ha : a ∈ α) : LD H a := by
  obtain ⟨n, hn⟩ := List.getElem?_of_mem ha
  have hl : n < μ.length := by
    rw [← h.len]
    exact (List.getElem?_eq_some_iff.mp hn).1
  obtain ⟨a', e1, c⟩ := h.cell n _ (List.getElem?_eq_getElem hl)
  rw [hn] at e1
  cases e1
  exact c.ld
theorem HR.fresh (h : HR K G μ α β H) {p : Addr} (hp : H p = none) : p ∉ α ∧ p ∉ β := by
  refine ⟨fun z => ?_, fun z => ?_⟩
  · obtain ⟨vs, e, _⟩ := (h.trk z).some
    rw [hp] at e; cases e
  · obtain ⟨vs, e, _⟩ := (h.priv p z).some
    rw [hp] at e; cases e
theorem tabs_upd {T : List (Addr × Str)} {p : Addr} {o : HO} (hp : H p = none) (h : Tabs T H) : Tabs T (upd H p o) := h.ext fun b u e => by
  rw [upd_ne (ne_of_none e hp)]; exact e
/-- a new object that is not of the memory -/
theorem Ext.new {p : Addr} {o : HO} (hp : H p = none) : Ext α H α (upd H p o) :=
  ⟨List.prefix_refl _, fun a u h _ _ => by rw [upd_ne (ne_of_none h hp)]; exact h, fun _ _ _ _ n => n, fun a vs h => ⟨vs, by rw [upd_ne (ne_of_none h hp)]; exact h⟩, fun a vs h => ⟨vs, by rw [upd_ne (ne_of_none h hp)]; exact h⟩⟩
theorem HR.ext1 (h : HR K G μ α β H) (e : Ext α H α H') (ha : ∀ a ∈ α, H' a = H a) (t : Tabs G.T H') : HR K G μ α β H' := by
  refine ⟨h.len, h.nd, h.dis, fun a hb => ?_, fun n xs hx => ?_, t⟩
  · obtain ⟨o, ho, nt⟩ := (h.priv a hb).some
    exact (h.priv a hb).of ((e.keep _ _ ho nt fun z => h.dis a z hb).trans ho.symm)
  · obtain ⟨a, e1, c⟩ := h.cell n xs hx
    exact ⟨a, e1, c.map (ha a (List.mem_of_getElem? e1)) (fun _ _ z => z.mono e) fun _ _ z => z.mono e⟩
theorem HR.new (h : HR K G μ α β H) {p : Addr} {o : HO} (hp : H p = none) : HR K G μ α β (upd H p o) :=
  h.ext1 (Ext.new hp) (fun a ha => upd_ne fun z => by
    rw [z] at ha
    exact (h.fresh hp).1 ha) (tabs_upd hp h.tabs)
/-- a new list of the memory -/
theorem Ext.newRef {p : Addr} {o : HO} (hp : H p = none) : Ext α H (α ++ [p]) (upd H p o) :=
  ⟨List.prefix_append _ _, fun a u h _ _ => by rw [upd_ne (ne_of_none h hp)]; exact h, fun a u h _ n z => by
    rcases List.mem_append.mp z with z | z
    · exact n z
    · exact ne_of_none h hp (by simpa using z), fun a vs h => ⟨vs, by rw [upd_ne (ne_of_none h hp)]; exact h⟩, fun a vs h => ⟨vs, by rw [upd_ne (ne_of_none h hp)]; exact h⟩⟩
theorem HR.newCell (h : HR K G μ α β H) {p : Addr} {xs : List U} {o : HO} (hp : H p = none) (hx : CellR K G (α ++ [p]) β (upd H p o) p xs) : HR K G (μ ++ [xs]) (α ++ [p]) β (upd H p o) := by
  obtain ⟨f1, f2⟩ := h.fresh hp
  have e : Ext α H (α ++ [p]) (upd H p o) := Ext.newRef hp
  refine ⟨by simp [h.len], List.nodup_append.mpr ⟨h.nd, by simp, fun a ha b hb z => ?_⟩, fun a ha => ?_, fun a ha => ?_, fun n ys hy => ?_, tabs_upd hp h.tabs⟩
  · have hb' : b = p := by simpa using hb
    exact f1 (by rw [← hb', ← z]; exact ha)
  · rcases List.mem_append.mp ha with z | z
    · exact h.dis a z
    · have z' : a = p := by simpa using z
      rw [z']; exact f2
  · obtain ⟨o, ho, _⟩ := (h.priv a ha).some
    exact (h.priv a ha).of (by rw [upd_ne (ne_of_none ho hp)])
  · by_cases hn : n < μ.length
    · rw [List.getElem?_append_left hn] at hy
      obtain ⟨a, e1, c⟩ := h.cell n ys hy
      obtain ⟨o', ho, _⟩ := c.ld.some
      exact ⟨a, pre_get e.pre e1, c.map (by rw [upd_ne (ne_of_none ho hp)]) (fun _ _ z => z.mono e) fun _ _ z => z.mono e⟩
    · have hn' : n = μ.length := by
        have := (List.getElem?_eq_some_iff.mp hy).1
        simp at this
        omega
      subst hn'
      rw [List.getElem?_append_right (Nat.le_refl _)] at hy
      simp at hy
      subst hy
      refine ⟨p, ?_, hx⟩
      rw [← h.len, List.getElem?_append_right (Nat.le_refl _)]
      simp
theorem HR.newRef (h : HR K G μ α β H) {p : Addr} {xs : List U} {vs : List V} (hp : H p = none) (hx : VRs K G α β H xs vs) : HR K G (μ ++ [xs]) (α ++ [p]) β (upd H p (.lst vs)) :=
  h.newCell hp (.inl ⟨vs, upd_same, hx.mono (Ext.newRef hp)⟩)
/-- a place of the memory is written -/
theorem HR.setCell (h : HR K G μ α β H) {n : Nat} {a : Addr} {xs : List U} {o u : HO} (hn : α[n]? = some a) (ha : H a = some o) (nt : ∀ ps, o ≠ .tbl ps) (nm : ∀ φ, o ≠ .ext φ) (hx : Ext α H α (upd H a u) → CellR K G α β (upd H a u) a xs)
    (kl : ∀ vs, o = .lst vs → ∃ ws, u = .lst ws) (kd : ∀ vs, o = .dK vs → ∃ ws, u = .dK ws) :
    Ext α H α (upd H a u) ∧ HR K G (μ.set n xs) α β (upd H a u) := by
  have hm : a ∈ α := List.mem_of_getElem? hn
  have e : Ext α H α (upd H a u) := ⟨List.prefix_refl _, fun b o hb _ hc => by
    rw [upd_ne (fun z => hc (by rw [z]; exact hm))]; exact hb, fun _ _ _ _ z => z, fun b vs hb => by
      by_cases z : b = a
      · subst z
        rw [ha] at hb
        obtain ⟨ws, rfl⟩ := kl vs (Option.some.inj hb)
        exact ⟨ws, upd_same⟩
      · exact ⟨vs, by rw [upd_ne z]; exact hb⟩, fun b vs hb => by
      by_cases z : b = a
      · subst z
        rw [ha] at hb
        obtain ⟨ws, rfl⟩ := kd vs (Option.some.inj hb)
        exact ⟨ws, upd_same⟩
      · exact ⟨vs, by rw [upd_ne z]; exact hb⟩⟩
  refine ⟨e, by simpa using h.len, h.nd, h.dis, fun b hb => ?_, fun m ys hy => ?_, fun p hp => ?_⟩
  · exact (h.priv b hb).of (upd_ne fun z => h.dis a hm (z ▸ hb))
  · by_cases hmn : m = n
    · subst hmn
      have hl : m < μ.length := by
        have := (List.getElem?_eq_some_iff.mp hy).1
        simpa using this
      rw [List.getElem?_set_self hl] at hy
      cases hy
      exact ⟨a, hn, hx e⟩
    · rw [List.getElem?_set_ne (Ne.symm hmn)] at hy
      obtain ⟨b, e1, c⟩ := h.cell m ys hy
      have nb : b ≠ a := fun z => by
        subst z
        obtain ⟨h1, g1⟩ := List.getElem?_eq_some_iff.mp hn
        obtain ⟨h2, g2⟩ := List.getElem?_eq_some_iff.mp e1
        exact hmn ((List.getElem_inj h.nd).mp (g2.trans g1.symm))
      exact ⟨b, e1, c.map (upd_ne nb) (fun _ _ z => z.mono e) fun _ _ z => z.mono e⟩
  · obtain ⟨ps, h1, h2, h3⟩ := h.tabs p hp
    have n1 : p.1 ≠ a := fun z => by rw [z, ha] at h1; exact nt _ (Option.some.inj h1)
    refine ⟨ps, by rw [upd_ne n1]; exact h1, h2, fun pos cv hc => ?_⟩
    obtain ⟨c, e1, e2⟩ := h3 pos cv hc
    refine ⟨c, e1, ?_⟩
    rw [upd_ne (fun z => by rw [z, ha] at e2; exact nm _ (Option.some.inj e2))]
    exact e2
/-- a list of the memory is written -/
theorem HR.set (h : HR K G μ α β H) {n : Nat} {a : Addr} {xs : List U} {ws vs : List V} (hn : α[n]? = some a) (ha : H a = some (.lst ws)) (hx : VRs K G α β H xs vs) :
    Ext α H α (upd H a (.lst vs)) ∧ HR K G (μ.set n xs) α β (upd H a (.lst vs)) :=
  h.setCell hn ha (fun _ z => by cases z) (fun _ z => by cases z) (fun e => .inl ⟨vs, upd_same, hx.mono e⟩) (fun _ _ => ⟨vs, rfl⟩) (fun _ z => by cases z)
/-- a private place is taken -/
theorem HR.hide (h : HR K G μ α β H) {p : Addr} {ws : List V} (hp : H p = none) : HR K G μ α (p :: β) (upd H p (.lst ws)) := by
  obtain ⟨f1, f2⟩ := h.fresh hp
  have h1 := h.new (o := .lst ws) hp
  have pv : ∀ a u, upd H p (.lst ws) a = some u → a ∉ α → a ∉ β → a ≠ p → a ∉ p :: β := fun a u _ _ n m z => (List.mem_cons.mp z).elim m n
  refine ⟨h.len, h.nd, fun a ha z => ?_, fun a ha => ?_, fun n xs hx => ?_, h1.tabs⟩
  · rcases List.mem_cons.mp z with z | z
    · exact f1 (by rw [← z]; exact ha)
    · exact h.dis a ha z
  · rcases List.mem_cons.mp ha with z | z
    · exact .inl ⟨ws, by rw [z, upd_same]⟩
    · exact h1.priv a z
  · obtain ⟨a, e1, c⟩ := h.cell n xs hx
    obtain ⟨o, ho, _⟩ := c.ld.some
    have hb : ∀ b u, H b = some u → b ∉ α → b ∉ β → b ∉ p :: β := fun b u hb _ n z => by
      rcases List.mem_cons.mp z with z | z
      · exact ne_of_none hb hp z
      · exact n z
    exact ⟨a, e1, c.map (upd_ne (ne_of_none ho hp)) (fun _ _ z => (VR.priv hb z).mono (Ext.new hp)) fun _ _ z => (VRs.priv hb z).mono (Ext.new hp)⟩
/-- .. and given up -/
theorem HR.show_ {p : Addr} (h : HR K G μ α (p :: β) H) : HR K G μ α β H := by
  refine ⟨h.len, h.nd, fun a ha z => h.dis a ha (List.mem_cons_of_mem _ z), fun a ha => h.priv a (List.mem_cons_of_mem _ ha), fun n xs hx => ?_, h.tabs⟩
  obtain ⟨a, e1, c⟩ := h.cell n xs hx
  exact ⟨a, e1, c.map rfl (fun _ _ z => VR.priv (fun b u hb _ n z => n (List.mem_cons_of_mem _ z)) z) fun _ _ z => VRs.priv (fun b u hb _ n z => n (List.mem_cons_of_mem _ z)) z⟩
theorem VR.hide {u : U} {v : V} {p : Addr} (hp : H p = none) (h : VR K G α β H u v) : VR K G α (p :: β) H u v := h.priv fun b u hb _ n z => by
  rcases List.mem_cons.mp z with z | z
  · exact ne_of_none hb hp z
  · exact n z
theorem VR.show_ {u : U} {v : V} {p : Addr} (h : VR K G α (p :: β) H u v) : VR K G α β H u v := h.priv fun b u hb _ n z => n (List.mem_cons_of_mem _ z)
theorem VRs.show_ {u : List U} {v : List V} {p : Addr} (h : VRs K G α (p :: β) H u v) : VRs K G α β H u v := h.priv fun b u hb _ n z => n (List.mem_cons_of_mem _ z)

/-! ### slots -/
def SR (K : PySem.W.Frag) (G : En) (α β : List Addr) (H : Hp) (ρ : Slots) (σ : L2.St) : Prop := ρ.length = σ.length ∧ ∀ (i : Nat) (u : U), ρ[i]? = some (some u) → ∃ v, σ[i]? = some (some v) ∧ VR K G α β H u v
variable {ρ : Slots} {σ : L2.St}
theorem SR.mono (e : Ext α H α' H') (h : SR K G α β H ρ σ) : SR K G α' β H' ρ σ := ⟨h.1, fun i u hu => by
  obtain ⟨v, h1, h2⟩ := h.2 i u hu
  exact ⟨v, h1, h2.mono e⟩⟩
theorem SR.monoP (e : ExtP α β H α' H') (h : SR K G α β H ρ σ) : SR K G α' β H' ρ σ := ⟨h.1, fun i u hu => by
  obtain ⟨v, h1, h2⟩ := h.2 i u hu
  exact ⟨v, h1, h2.monoP e⟩⟩
theorem SR.hide {p : Addr} (hp : H p = none) (h : SR K G α β H ρ σ) : SR K G α (p :: β) H ρ σ := ⟨h.1, fun i u hu => by
  obtain ⟨v, h1, h2⟩ := h.2 i u hu
  exact ⟨v, h1, h2.hide hp⟩⟩
theorem SR.set (h : SR K G α β H ρ σ) {u : U} {v : V} (r : VR K G α β H u v) (i : Nat) : SR K G α β H (ρ.set i (some u)) (σ.set i (some v)) := by
  refine ⟨by simpa using h.1, fun j w' hw => ?_⟩
  by_cases hj : i = j
  · subst hj
    have hl : i < ρ.length := by
      have := (List.getElem?_eq_some_iff.mp hw).1
      simpa using this
    rw [List.getElem?_set_self hl] at hw
    cases hw
    exact ⟨v, List.getElem?_set_self (by rw [← h.1]; exact hl), r⟩
  · rw [List.getElem?_set_ne hj] at hw
    obtain ⟨z, h1, h2⟩ := h.2 j w' hw
    exact ⟨z, by rw [List.getElem?_set_ne hj]; exact h1, h2⟩
theorem SR.setN (h : SR K G α β H ρ σ) (i : Nat) (x : Option V) : SR K G α β H (ρ.set i none) (σ.set i x) := by
  refine ⟨by simpa using h.1, fun j w' hw => ?_⟩
  by_cases hj : i = j
  · subst hj
    have hl : i < ρ.length := by
      have := (List.getElem?_eq_some_iff.mp hw).1
      simpa using this
    rw [List.getElem?_set_self hl] at hw
    cases hw
  · rw [List.getElem?_set_ne hj] at hw
    obtain ⟨z, h1, h2⟩ := h.2 j w' hw
    exact ⟨z, by rw [List.getElem?_set_ne hj]; exact h1, h2⟩
theorem SR.wipe (h : SR K G α β H ρ σ) : ∀ vs : List Nat, SR K G α β H (wipeU ρ vs) (wipe σ vs)
  | [] => h
  | v :: vs => by
    unfold wipeU L2.wipe
    exact (SR.wipe h vs).setN v none
end

/-! ### what is wanted of a result -/
def XR (G : En) (c : Exn) (cls : Value) (d : Option Addr) (H : Hp) : Prop :=
  cls = .ref (G.ca c.cls) ∧ c.cls ∈ G.exs ∧ match c.lim with
    | none => d = none
    | some n => ∃ dd, d = some dd ∧ H dd = some (.xd [(G.fld c.cls, .int n)])
def PostG {A : Type} (K : PySem.W.Frag) (G : En) (β : List Addr) (W : WX) (r : R A) (α : List Addr) (H : Hp) (F : A → Mem → List Addr → Hp → Prop) : Prop :=
  match r with
  | .ok a μ => ∀ H' α', HR K G μ α' β H' → Ext α H α' H' → F a μ α' H'
  | .exc c μ => ∀ cls d σ H' α', XR G c cls d H' → HR K G μ α' β H' → Ext α H α' H' → W cls d σ H'
  | .bad => False
section
variable {K : PySem.W.Frag} {G : En} {α α1 β : List Addr} {H H1 : Hp} {W : WX} {A B : Type} {r : R A} {F F' : A → Mem → List Addr → Hp → Prop}
theorem PostG.rebase (e : Ext α H α1 H1) (h : PostG K G β W r α H F) : PostG K G β W r α1 H1 F := by
  cases r with
  | ok a μ => exact fun H' α' hr e' => h H' α' hr (e.trans e')
  | exc c μ => exact fun cls d σ H' α' x hr e' => h cls d σ H' α' x hr (e.trans e')
  | bad => exact h
theorem PostG.mono (h : PostG K G β W r α H F) (f : ∀ a μ α' H', HR K G μ α' β H' → Ext α H α' H' → F a μ α' H' → F' a μ α' H') : PostG K G β W r α H F' := by
  cases r with
  | ok a μ => exact fun H' α' hr e' => f _ _ _ _ hr e' (h H' α' hr e')
  | exc c μ => exact h
  | bad => exact h
theorem PostG.bind {f : A → Mem → R B} {F : B → Mem → List Addr → Hp → Prop} (h : PostG K G β W (r.bind f) α H F) : PostG K G β W r α H (fun a μ α1 H1 => PostG K G β W (f a μ) α1 H1 F) := by
  cases r with
  | ok a μ => exact fun H' α' hr e' => PostG.rebase e' h
  | exc c μ => exact h
  | bad => exact h
theorem PostG.ok {a : A} {μ : Mem} (hr : HR K G μ α β H) (h : PostG K G β W (.ok a μ) α H F) : F a μ α H := h H α hr (Ext.refl _ _)
end
end Mini

set_option maxHeartbeats 4000000
/-! Mini, part C: operators and built-in functions of the model do what binD, cmpD, biD say. -/
namespace Mini
open PySem PySem.Spec PyProof.Rows L2 LamX

/-- a result that is a value -/
abbrev PostV (K : PySem.W.Frag) (G : En) (β : List Addr) (W : WX) (r : R U) (α : List Addr) (H : Hp) (Q : VK) : Prop :=
  PostG K G β W r α H (fun u _ α' H' => ∀ v, VR K G α' β H' u v → Q v H')
def rM (K : PySem.W.Frag) (G : En) (W : WX) (f : U → U → Mem → R U) : R2 := fun x y H Q =>
  ∃ u w μ α β, HR K G μ α β H ∧ VR K G α β H u x ∧ VR K G α β H w y ∧ PostV K G β W (f u w μ) α H Q
def rMs (K : PySem.W.Frag) (G : En) (W : WX) (f : List U → Mem → R U) : List V → Hp → VK → Prop := fun xs H Q =>
  ∃ us μ α β, HR K G μ α β H ∧ VRs K G α β H us xs ∧ PostV K G β W (f us μ) α H Q
section
variable {K : PySem.W.Frag} {G : En} {α β : List Addr} {H : Hp} {W : WX} {μ : Mem} {Q : VK}
theorem PostV.val {u : U} {v : V} (h : PostV K G β W (.ok u μ) α H Q) (hr : HR K G μ α β H) (r : VR K G α β H u v) : Q v H := h H α hr (Ext.refl _ _) v r
/-- a new tuple -/
theorem post_tup {xs : List U} {vs : List V} (h : PostV K G β W (.ok (.tup xs) μ) α H Q) (hr : HR K G μ α β H) (r : VRs K G α β H xs vs) {p : Addr} (hp : H p = none) : Q (.ref p) (upd H p (.tup vs)) := by
  obtain ⟨f1, f2⟩ := hr.fresh hp
  exact h _ α (hr.new hp) (Ext.new hp) _ ⟨p, vs, rfl, .inl ⟨.inl upd_same, f1, f2⟩, r.mono (Ext.new hp)⟩
/-- a new list -/
theorem post_alloc {m : Bool} {xs : List U} {vs : List V} (h : PostV K G β W (alloc m xs μ) α H Q) (hr : HR K G μ α β H) (r : VRs K G α β H xs vs) {p : Addr} (hp : H p = none) : Q (.ref p) (upd H p (.lst vs)) := by
  obtain ⟨f1, f2⟩ := hr.fresh hp
  cases m with
  | false => exact h _ α (hr.new hp) (Ext.new hp) _ ⟨p, vs, rfl, ⟨upd_same, f1, f2⟩, r.mono (Ext.new hp)⟩
  | true =>
    refine h _ (α ++ [p]) (hr.newRef hp r) (Ext.newRef hp) _ ⟨p, rfl, ?_, vs, upd_same⟩
    rw [← hr.len, List.getElem?_append_right (Nat.le_refl _)]
    simp
theorem lstOf_at (hr : HR K G μ α β H) {u : U} {v : V} {xs : List U} (r : VR K G α β H u v) (h : lstOf μ u = some xs) : ∃ a vs, v = .ref a ∧ H a = some (.lst vs) ∧ VRs K G α β H xs vs := by
  cases u with
  | lst ys =>
    have e : some ys = some xs := h
    cases e
    obtain ⟨a, vs, h1, h2, h3⟩ := r
    exact ⟨a, vs, h1, h2.1, h3⟩
  | ref n =>
    have e : getL μ n = some xs := h
    obtain ⟨a, h1, h2, _⟩ := r
    obtain ⟨a', vs, e1, e2, e3⟩ := hr.at_ n xs e
    rw [h2] at e1
    cases e1
    exact ⟨a, vs, h1, e2, e3⟩
  | _ => exact nomatch (show none = some xs from h)
theorem seqOf_at (hr : HR K G μ α β H) {u : U} {v : V} {xs : List U} (r : VR K G α β H u v) (h : seqOf μ u = some xs) : ∃ a vs, v = .ref a ∧ (SqL K H a vs ∨ SqT K H a vs) ∧ VRs K G α β H xs vs := by
  cases u with
  | tup ys =>
    have e : some ys = some xs := h
    cases e
    obtain ⟨a, vs, h1, h2, h3⟩ := r
    exact ⟨a, vs, h1, .inr h2.seq, h3⟩
  | lst ys =>
    have e : some ys = some xs := h
    cases e
    obtain ⟨a, vs, h1, h2, h3⟩ := r
    exact ⟨a, vs, h1, .inl (SqL.of h2.1), h3⟩
  | rol ys =>
    have e : some ys = some xs := h
    cases e
    obtain ⟨a, vs, h1, h2, h3⟩ := r
    exact ⟨a, vs, h1, .inl h2.seq, h3⟩
  | ref n =>
    obtain ⟨a, vs, h1, h2, h3⟩ := lstOf_at hr r (show lstOf μ (.ref n) = some xs from h)
    exact ⟨a, vs, h1, .inl (SqL.of h2), h3⟩
  | _ => exact nomatch (show none = some xs from h)
mutual
theorem toD_dp : ∀ {u : U} {v : V} {d : PyData}, VR K G α β H u v → toD u = some d → Dp K H v d
  | .non, _, _, h, e => by cases h; cases e; exact .non
  | .bl _, _, _, h, e => by cases h; cases e; exact .bl _
  | .int _, _, _, h, e => by cases h; cases e; exact .int _
  | .str _, _, _, h, e => by cases h; cases e; exact .str _
  | .tup xs, _, _, h, e => by
    obtain ⟨a, vs, rfl, h1, h2⟩ := h
    have e : (toDs xs).map PyData.tuple = _ := e
    cases q : toDs xs with
    | none => rw [q] at e; cases e
    | some ds => rw [q] at e; cases e; exact .tup h1.seq (toDs_dp h2 q)
  | .lst xs, _, _, h, e => by
    obtain ⟨a, vs, rfl, h1, h2⟩ := h
    have e : (toDs xs).map PyData.list = _ := e
    cases q : toDs xs with
    | none => rw [q] at e; cases e
    | some ds => rw [q] at e; cases e; exact .lst (SqL.of h1.1) (toDs_dp h2 q)
  | .rol xs, _, _, h, e => by
    obtain ⟨a, vs, rfl, h1, h2⟩ := h
    have e : (toDs xs).map PyData.list = _ := e
    cases q : toDs xs with
    | none => rw [q] at e; cases e
    | some ds => rw [q] at e; cases e; exact .lst h1.seq (toDs_dp h2 q)
  | .ref _, _, _, _, e => nomatch e
  | .dref _, _, _, _, e => nomatch e
  | .dtag, _, _, h, _ => h.elim
  | .fn _, _, _, _, e => nomatch e
theorem toDs_dp : ∀ {us : List U} {vs : List V} {ds : List PyData}, VRs K G α β H us vs → toDs us = some ds → DpAll K H vs ds
  | [], _, _, h, e => by cases h; cases e; exact .nil
  | u :: us, _, _, h, e => by
    obtain ⟨v, r, rfl, h1, h2⟩ := h
    unfold toDs at e
    cases q : toD u with
    | none => rw [q] at e; cases e
    | some d =>
      cases q2 : toDs us with
      | none => rw [q, q2] at e; cases e
      | some ds =>
        rw [q, q2] at e
        cases e
        exact .cons (toD_dp h1 q) (toDs_dp h2 q2)
end
theorem toDM_dp (hr : HR K G μ α β H) {u : U} {v : V} {d : PyData} (r : VR K G α β H u v) (e : toDM μ u = some d) : Dp K H v d := by
  cases u with
  | ref n =>
    obtain ⟨a, rfl, h2, _⟩ := r
    have e : (match getL μ n with | some xs => (toDs xs).map PyData.list | none => none) = some d := e
    cases q : getL μ n with
    | none => rw [q] at e; cases e
    | some xs =>
      rw [q] at e
      obtain ⟨a', vs, e1, e2, e3⟩ := hr.at_ n xs q
      rw [h2] at e1
      cases e1
      cases q2 : toDs xs with
      | none => simp only [q2] at e; cases e
      | some ds =>
        simp only [q2] at e
        cases e
        exact .lst (SqL.of e2) (toDs_dp e3 q2)
  | _ => exact toD_dp r e
end

/-! ### arithmetic -/
theorem mulOk_ok {i j : Int} (h : mulOk i j = true) : IntMulOk i j := by
  unfold mulOk at h
  simp only [Bool.or_eq_true, Bool.and_eq_true, decide_eq_true_eq] at h
  rcases h with (h | h) | ⟨h1, h2⟩
  · exact CMul.ok (.inl (by omega))
  · exact CMul.ok (.inr (by omega))
  · exact (wide_mul (a := 9000) (b := 9000) h1 h2 (by decide) (by decide) (by decide)).ok
section
variable {X : Cx} {G : En} {W : WX}
theorem o_add {m : Bool} : OpR X (binaryOp .Add) (rM X.K G W (binD m .Add)) := by
  intro pins s σ H x y v u Q I rx ry h
  obtain ⟨a, b, μ, α, β, hr, ra, rb, q⟩ := h
  have lists : ∀ xs ys, lstOf μ a = some xs → lstOf μ b = some ys → PostV X.K G β W (if xs.length + ys.length ≤ bigL then alloc m (xs ++ ys) μ else .bad) α H Q → wpAny (model X.prog X.w) X.A (binaryOp .Add v u) (EP X pins σ Q) X.xe s := by
    intro xs ys h1 h2 q
    obtain ⟨p, vs, rfl, e1, r1⟩ := lstOf_at hr ra h1
    obtain ⟨p2, ws, rfl, e2, r2⟩ := lstOf_at hr rb h2
    by_cases hz : xs.length + ys.length ≤ bigL
    · rw [if_pos hz] at q
      exact op_cat pins s σ H _ _ v u Q I rx ry ⟨p, p2, vs, ws, rfl, rfl, e1, e2, by rw [← r1.len, ← r2.len, sizeLine_eq]; exact hz, fun p3 hp => post_alloc q hr (r1.app r2) hp⟩
    · rw [if_neg hz] at q
      exact q.elim
  have gen : PostV X.K G β W (match lstOf μ a, lstOf μ b with
      | some xs, some ys => if xs.length + ys.length ≤ bigL then alloc m (xs ++ ys) μ else .bad
      | _, _ => .bad) α H Q → wpAny (model X.prog X.w) X.A (binaryOp .Add v u) (EP X pins σ Q) X.xe s := by
    intro q
    cases h1 : lstOf μ a with
    | none => rw [h1] at q; exact q.elim
    | some xs =>
      cases h2 : lstOf μ b with
      | none => rw [h1, h2] at q; exact q.elim
      | some ys => rw [h1, h2] at q; exact lists xs ys h1 h2 q
  cases a with
  | int i =>
    cases b with
    | int j =>
      cases ra; cases rb
      exact op_add pins s σ H _ _ v u Q I rx ry ⟨i, j, rfl, rfl, PostV.val q hr rfl⟩
    | _ => exact gen q
  | str i =>
    cases b with
    | str j =>
      cases ra; cases rb
      have q : PostV X.K G β W (if i.length + j.length ≤ bigL then .ok (.str (i ++ j)) μ else .bad) α H Q := q
      by_cases hz : i.length + j.length ≤ bigL
      · rw [if_pos hz] at q
        exact op_add_str pins s σ H _ _ v u Q I rx ry ⟨i, j, rfl, rfl, by rw [sizeLine_eq]; exact hz, PostV.val q hr rfl⟩
      · rw [if_neg hz] at q
        exact q.elim
    | _ => exact gen q
  | tup xs =>
    cases b with
    | tup ys =>
      have q : PostV X.K G β W (if xs.length + ys.length ≤ bigL then .ok (.tup (xs ++ ys)) μ else .bad) α H Q := q
      by_cases hz : xs.length + ys.length ≤ bigL
      · rw [if_pos hz] at q
        obtain ⟨p, vs, rfl, e1, r1⟩ := ra
        obtain ⟨p2, ws, rfl, e2, r2⟩ := rb
        refine op_catA pins s σ H _ _ v u Q I rx ry ⟨p, p2, vs, ws, rfl, rfl, e1.seq, e2.seq, by rw [← r1.len, ← r2.len, sizeLine_eq]; exact hz, fun z => ?_, fun _ z => ?_, fun _ _ p3 hp => post_tup q hr (r1.app r2) hp⟩
        · subst z
          have e : xs = [] := List.eq_nil_of_length_eq_zero (by rw [r1.len]; rfl)
          subst e
          exact PostV.val q hr ⟨p2, ws, rfl, e2, r2⟩
        · subst z
          have e : ys = [] := List.eq_nil_of_length_eq_zero (by rw [r2.len]; rfl)
          subst e
          rw [List.append_nil] at q
          exact PostV.val q hr ⟨p, vs, rfl, e1, r1⟩
      · rw [if_neg hz] at q
        exact q.elim
    | _ => exact gen q
  | _ => exact gen q
theorem o_sub {m : Bool} : OpR X (binaryOp .Sub) (rM X.K G W (binD m .Sub)) := by
  intro pins s σ H x y v u Q I rx ry h
  obtain ⟨a, b, μ, α, β, hr, ra, rb, q⟩ := h
  cases a with
  | int i =>
    cases b with
    | int j =>
      cases ra; cases rb
      exact op_sub pins s σ H _ _ v u Q I rx ry ⟨i, j, rfl, rfl, PostV.val q hr rfl⟩
    | _ => exact q.elim
  | _ => exact q.elim
theorem VRs.rep {K : PySem.W.Frag} {α β : List Addr} {H : Hp} {us : List U} {vs : List V} (h : VRs K G α β H us vs) : ∀ n : Nat, VRs K G α β H (List.replicate n us).flatten (List.replicate n vs).flatten
  | 0 => rfl
  | n + 1 => by
    rw [List.replicate_succ, List.replicate_succ, List.flatten_cons, List.flatten_cons]
    exact h.app (VRs.rep h n)
theorem o_mul {m : Bool} : OpR X (binaryOp .Mult) (rM X.K G W (binD m .Mult)) := by
  intro pins s σ H x y v u Q I rx ry h
  obtain ⟨a, b, μ, α, β, hr, ra, rb, q⟩ := h
  have gen : ∀ k, b = .int k → PostV X.K G β W (match lstOf μ a with
      | some xs => if repOk xs.length k then alloc m (rep xs k) μ else .bad
      | none => .bad) α H Q → wpAny (model X.prog X.w) X.A (binaryOp .Mult v u) (EP X pins σ Q) X.xe s := by
    intro k e q'
    subst e
    cases rb
    cases h1 : lstOf μ a with
    | none => rw [h1] at q'; exact q'.elim
    | some xs =>
      rw [h1] at q'
      obtain ⟨p, vs, rfl, e1, r1⟩ := lstOf_at hr ra h1
      have q : PostV X.K G β W (if repOk xs.length k = true then alloc m (Mini.rep xs k) μ else .bad) α H Q := q'
      by_cases hz : repOk xs.length k = true
      · rw [if_pos hz] at q
        unfold repOk at hz
        simp only [Bool.and_eq_true, decide_eq_true_eq] at hz
        obtain ⟨⟨z1, z2⟩, z3⟩ := hz
        exact op_rep pins s σ H _ _ v u Q I rx ry ⟨p, k, vs, rfl, rfl, e1, by omega, by omega, by rw [← r1.len, sizeLine_eq]; exact z3, fun p3 hp => post_alloc q hr (VRs.rep r1 _) hp⟩
      · rw [if_neg hz] at q
        exact q.elim
  cases b with
  | int j =>
    cases a with
    | int i =>
      cases ra; cases rb
      have q : PostV X.K G β W (if mulOk i j = true then .ok (.int (i * j)) μ else .bad) α H Q := q
      by_cases hz : mulOk i j = true
      · rw [if_pos hz] at q
        obtain ⟨t, rfl⟩ := rx
        obtain ⟨t', rfl⟩ := ry
        exact mul_int ⟨.int _, H, I.tok _, ⟨_, rfl⟩, PostV.val q hr rfl⟩ (mulOk_ok hz)
      · rw [if_neg hz] at q
        exact q.elim
    | tup xs =>
      cases rb
      have q : PostV X.K G β W (if repTOk xs j = true then .ok (.tup (Mini.rep xs j)) μ else .bad) α H Q := q
      by_cases hz : repTOk xs j = true
      · rw [if_pos hz] at q
        obtain ⟨p, vs, rfl, e1, r1⟩ := ra
        unfold repTOk at hz
        simp only [Bool.and_eq_true, decide_eq_true_eq, Bool.not_eq_true', List.isEmpty_eq_false_iff] at hz
        obtain ⟨⟨⟨z1, z2⟩, z3⟩, z4⟩ := hz
        refine op_repT pins s σ H _ _ v u Q I rx ry ⟨p, j, vs, rfl, rfl, e1.seq, fun z => z1 (List.eq_nil_of_length_eq_zero (by rw [r1.len, z]; rfl)), z2, z3, by rw [← r1.len]; exact z4, fun p3 hp => post_tup q hr (VRs.rep r1 _) hp⟩
      · rw [if_neg hz] at q
        exact q.elim
    | _ => exact gen j rfl q
  | _ => cases a <;> exact q.elim
theorem o_fdiv {m : Bool} : OpR X (binaryOp .FloorDiv) (rM X.K G W (binD m .FloorDiv)) := by
  intro pins s σ H x y v u Q I rx ry h
  obtain ⟨a, b, μ, α, β, hr, ra, rb, q⟩ := h
  cases a with
  | int i =>
    cases b with
    | int j =>
      cases ra; cases rb
      have q : PostV X.K G β W (if divOk j = true then .ok (.int (i.fdiv j)) μ else .bad) α H Q := q
      by_cases hz : divOk j = true
      · rw [if_pos hz] at q
        unfold divOk at hz
        simp only [Bool.and_eq_true, decide_eq_true_eq, bne_iff_ne, ne_eq] at hz
        obtain ⟨t, rfl⟩ := rx
        obtain ⟨t', rfl⟩ := ry
        exact floordiv_int hz.1 ⟨.int _, H, I.tok _, ⟨_, rfl⟩, PostV.val q hr rfl⟩ (.inl (PyProof.noPylong_of_log2 (PySem.Flt.log2_lt_of (by decide) hz.2)))
      · rw [if_neg hz] at q
        exact q.elim
    | _ => exact q.elim
  | _ => exact q.elim
theorem o_mod {m : Bool} : OpR X (binaryOp .Mod) (rM X.K G W (binD m .Mod)) := by
  intro pins s σ H x y v u Q I rx ry h
  obtain ⟨a, b, μ, α, β, hr, ra, rb, q⟩ := h
  cases a with
  | int i =>
    cases b with
    | int j =>
      cases ra; cases rb
      have q : PostV X.K G β W (if (j != 0) = true then .ok (.int (i.fmod j)) μ else .bad) α H Q := q
      by_cases hz : (j != 0) = true
      · rw [if_pos hz] at q
        exact op_modN pins s σ H _ _ v u Q I rx ry ⟨i, j, rfl, rfl, by simpa using hz, PostV.val q hr rfl⟩
      · rw [if_neg hz] at q
        exact q.elim
    | _ => exact q.elim
  | _ => exact q.elim
theorem powOk_ok {i j : Int} (h : powOk i j = true) : CPow i j := by
  unfold powOk at h
  simp only [Bool.and_eq_true, decide_eq_true_eq] at h
  exact ⟨h.1.1, h.1.2, h.2⟩
theorem o_pow {m : Bool} : OpR X (binaryOp .Pow) (rM X.K G W (binD m .Pow)) := by
  intro pins s σ H x y v u Q I rx ry h
  obtain ⟨a, b, μ, α, β, hr, ra, rb, q⟩ := h
  cases a with
  | int i =>
    cases b with
    | int j =>
      cases ra; cases rb
      have q : PostV X.K G β W (if powOk i j = true then .ok (.int (i ^ j.toNat)) μ else .bad) α H Q := q
      by_cases hz : powOk i j = true
      · rw [if_pos hz] at q
        exact op_pow pins s σ H _ _ v u Q I rx ry ⟨i, j, rfl, rfl, powOk_ok hz, PostV.val q hr rfl⟩
      · rw [if_neg hz] at q
        exact q.elim
    | _ => exact q.elim
  | _ => exact q.elim
theorem o_shl {m : Bool} : OpR X (binaryOp .LShift) (rM X.K G W (binD m .LShift)) := by
  intro pins s σ H x y v u Q I rx ry h
  obtain ⟨a, b, μ, α, β, hr, ra, rb, q⟩ := h
  cases a with
  | int i =>
    cases b with
    | int j =>
      cases ra; cases rb
      have q : PostV X.K G β W (if powOk i j = true then .ok (.int (i * 2 ^ j.toNat)) μ else .bad) α H Q := q
      by_cases hz : powOk i j = true
      · rw [if_pos hz] at q
        exact op_shl pins s σ H _ _ v u Q I rx ry ⟨i, j, rfl, rfl, powOk_ok hz, PostV.val q hr rfl⟩
      · rw [if_neg hz] at q
        exact q.elim
    | _ => exact q.elim
  | _ => exact q.elim
/-- the operators that binD knows -/
def opOk : Operator → Bool
  | .Add | .Sub | .Mult | .FloorDiv | .Mod | .Pow | .LShift => true
  | _ => false
theorem o_bin {m : Bool} {op : Operator} (h : opOk op = true) : OpR X (binaryOp op) (rM X.K G W (binD m op)) := by
  cases op <;> first | exact o_add | exact o_sub | exact o_mul | exact o_fdiv | exact o_mod | exact o_pow | exact o_shl | cases h
theorem o_neg : UnR X (unaryOp .USub) (fun x H Q => ∃ u μ α β, HR X.K G μ α β H ∧ VR X.K G α β H u x ∧ PostV X.K G β W (negD u μ) α H Q) := by
  intro pins s σ H x v Q I rx h
  obtain ⟨a, μ, α, β, hr, ra, q⟩ := h
  cases a with
  | int i =>
    cases ra
    exact un_neg pins s σ H _ v Q I rx ⟨i, rfl, PostV.val q hr rfl⟩
  | _ => exact q.elim

/-! ### comparisons -/
/-- a result that is a bool -/
theorem cmp_bl {K : PySem.W.Frag} {μ : Mem} {α β : List Addr} {H : Hp} {Q : VK} {op : CmpOp} {a b : U} {k : Bool} (hr : HR K G μ α β H) (h : cmpD op a b μ = some k) (q : PostV K G β W (cmpR op a b μ) α H Q) : Q (.bl k) H := by
  unfold cmpR at q
  rw [h] at q
  exact PostV.val q hr rfl
theorem cmp_some {K : PySem.W.Frag} {μ : Mem} {α β : List Addr} {H : Hp} {Q : VK} {op : CmpOp} {a b : U} (q : PostV K G β W (cmpR op a b μ) α H Q) : ∃ k, cmpD op a b μ = some k := by
  unfold cmpR at q
  cases h : cmpD op a b μ with
  | none => rw [h] at q; exact q.elim
  | some k => exact ⟨k, rfl⟩
theorem eqD_gen {μ : Mem} {α β : List Addr} {H : Hp} {a b : U} {x y : V} {k : Bool} (hr : HR X.K G μ α β H) (ra : VR X.K G α β H a x) (rb : VR X.K G α β H b y) (h : (match toDM μ a, toDM μ b with
    | some d, some e => if SeqAt.shaped d && SeqAt.shaped e then some (PyData.eqv d e) else none
    | _, _ => none) = some k) :
    ∃ d e, Dp X.K H x d ∧ Dp X.K H y e ∧ SeqAt.shaped d = true ∧ SeqAt.shaped e = true ∧ PyData.eqv d e = k := by
  cases h1 : toDM μ a with
  | none => rw [h1] at h; cases h
  | some d =>
    cases h2 : toDM μ b with
    | none => rw [h1, h2] at h; cases h
    | some e =>
      rw [h1, h2] at h
      have h : (if (SeqAt.shaped d && SeqAt.shaped e) = true then some (PyData.eqv d e) else none) = some k := h
      by_cases hz : (SeqAt.shaped d && SeqAt.shaped e) = true
      · rw [if_pos hz] at h
        cases h
        simp only [Bool.and_eq_true] at hz
        exact ⟨d, e, toDM_dp hr ra h1, toDM_dp hr rb h2, hz.1, hz.2, rfl⟩
      · rw [if_neg hz] at h; cases h
/-- == : by scalars, or by data -/
theorem eqD_ok {μ : Mem} {α β : List Addr} {H : Hp} {a b : U} {x y : V} {k : Bool} (hr : HR X.K G μ α β H) (ra : VR X.K G α β H a x) (rb : VR X.K G α β H b y) (h : eqD μ a b = some k) :
    (scal x y = true ∧ decide (x = y) = k) ∨ ∃ d e, Dp X.K H x d ∧ Dp X.K H y e ∧ SeqAt.shaped d = true ∧ SeqAt.shaped e = true ∧ PyData.eqv d e = k := by
  cases a with
  | int i =>
    cases b with
    | int j =>
      have h : some (i == j) = some k := h
      cases h
      cases ra; cases rb
      exact .inl ⟨rfl, dec_int⟩
    | _ => exact .inr (eqD_gen hr ra rb h)
  | str i =>
    cases b with
    | str j =>
      have h : some (i == j) = some k := h
      cases h
      cases ra; cases rb
      exact .inl ⟨rfl, dec_str⟩
    | _ => exact .inr (eqD_gen hr ra rb h)
  | _ => exact .inr (eqD_gen hr ra rb h)
theorem o_eq (hu : X.A.units + 64 < cLine) : OpR X (compareOp .Eq) (rM X.K G W (cmpR .Eq)) := by
  intro pins s σ H x y v u Q I rx ry h
  obtain ⟨a, b, μ, α, β, hr, ra, rb, q⟩ := h
  obtain ⟨k, hk⟩ := cmp_some q
  have q := cmp_bl hr hk q
  rcases eqD_ok hr ra rb hk with ⟨h1, h2⟩ | ⟨d, e, h1, h2, h3, h4, h5⟩
  · exact L2.op_eq pins s σ H x y v u Q I rx ry ⟨h1, by rw [h2]; exact q⟩
  · exact op_eqD hu pins s σ H x y v u Q I rx ry ⟨d, e, h1, h2, h3, h4, by rw [h5]; exact q⟩
theorem o_ne (hu : X.A.units + 64 < cLine) : OpR X (compareOp .NotEq) (rM X.K G W (cmpR .NotEq)) := by
  intro pins s σ H x y v u Q I rx ry h
  obtain ⟨a, b, μ, α, β, hr, ra, rb, q⟩ := h
  obtain ⟨k, hk⟩ := cmp_some q
  have q := cmp_bl hr hk q
  have hk : (eqD μ a b).map (!·) = some k := hk
  cases hk2 : eqD μ a b with
  | none => rw [hk2] at hk; cases hk
  | some k2 =>
    rw [hk2] at hk
    cases hk
    rcases eqD_ok hr ra rb hk2 with ⟨h1, h2⟩ | ⟨d, e, h1, h2, h3, h4, h5⟩
    · exact L2.op_ne pins s σ H x y v u Q I rx ry ⟨h1, by rw [h2]; exact q⟩
    · exact op_neD hu pins s σ H x y v u Q I rx ry ⟨d, e, h1, h2, h3, h4, by rw [h5]; exact q⟩
theorem cmp_ints {op : CmpOp} {p : Int → Int → Bool} (o : OpR X (compareOp op) (rI0 fun i j => .bl (p i j))) (hp : ∀ a b μ k, cmpD op a b μ = some k → ∃ i j, a = .int i ∧ b = .int j ∧ k = p i j) : OpR X (compareOp op) (rM X.K G W (cmpR op)) := by
  intro pins s σ H x y v u Q I rx ry h
  obtain ⟨a, b, μ, α, β, hr, ra, rb, q⟩ := h
  obtain ⟨k, hk⟩ := cmp_some q
  have q := cmp_bl hr hk q
  obtain ⟨i, j, rfl, rfl, rfl⟩ := hp a b μ k hk
  cases ra; cases rb
  exact o pins s σ H _ _ v u Q I rx ry ⟨i, j, rfl, rfl, q⟩
theorem o_lt : OpR X (compareOp .Lt) (rM X.K G W (cmpR .Lt)) := cmp_ints op_lt fun a b μ k h => by
  cases a <;> cases b <;> first | (cases h; exact ⟨_, _, rfl, rfl, rfl⟩) | cases h
theorem o_le : OpR X (compareOp .LtE) (rM X.K G W (cmpR .LtE)) := cmp_ints op_le fun a b μ k h => by
  cases a <;> cases b <;> first | (cases h; exact ⟨_, _, rfl, rfl, rfl⟩) | cases h
theorem o_gt : OpR X (compareOp .Gt) (rM X.K G W (cmpR .Gt)) := cmp_ints op_gt fun a b μ k h => by
  cases a <;> cases b <;> first | (cases h; exact ⟨_, _, rfl, rfl, rfl⟩) | cases h
theorem o_ge : OpR X (compareOp .GtE) (rM X.K G W (cmpR .GtE)) := cmp_ints op_ge fun a b μ k h => by
  cases a <;> cases b <;> first | (cases h; exact ⟨_, _, rfl, rfl, rfl⟩) | cases h
theorem is_non {K : PySem.W.Frag} {α β : List Addr} {H : Hp} {a : U} {x : V} (r : VR K G α β H a x) : decide (x = V.non) = (match a with | .non => true | _ => false) := by
  cases a with
  | non => cases r; rfl
  | bl _ => cases r; rfl
  | int _ => cases r; rfl
  | str _ => cases r; rfl
  | fn _ => obtain ⟨rfl, _⟩ := r; rfl
  | exn => obtain ⟨_, _, rfl, _⟩ := r; rfl
  | tup _ => obtain ⟨_, _, rfl, _⟩ := r; rfl
  | lst _ => obtain ⟨_, _, rfl, _⟩ := r; rfl
  | rol _ => obtain ⟨_, _, rfl, _⟩ := r; rfl
  | ref _ => obtain ⟨_, rfl, _⟩ := r; rfl
  | dref _ => obtain ⟨_, rfl, _⟩ := r; rfl
  | dtag => exact r.elim
theorem o_is : OpR X (compareOp .Is) (rM X.K G W (cmpR .Is)) := by
  intro pins s σ H x y v u Q I rx ry h
  obtain ⟨a, b, μ, α, β, hr, ra, rb, q⟩ := h
  obtain ⟨k, hk⟩ := cmp_some q
  have q := cmp_bl hr hk q
  cases b with
  | non =>
    cases rb
    refine op_isN pins s σ H x _ v u Q I rx ry ⟨rfl, ?_⟩
    rw [is_non ra]
    cases a <;> first | exact ra.elim | (cases hk <;> exact q)
  | bl c =>
    cases rb
    cases a with
    | bl j =>
      cases ra
      cases hk
      refine op_isBl pins s σ H _ _ v u Q I rx ry ⟨j, c, rfl, rfl, ?_⟩
      have e : decide (j = c) = (j == c) := by cases j <;> cases c <;> rfl
      rw [e]
      exact q
    | _ => cases hk
  | _ => cases hk
theorem o_isnot : OpR X (compareOp .IsNot) (rM X.K G W (cmpR .IsNot)) := by
  intro pins s σ H x y v u Q I rx ry h
  obtain ⟨a, b, μ, α, β, hr, ra, rb, q⟩ := h
  obtain ⟨k, hk⟩ := cmp_some q
  have q := cmp_bl hr hk q
  cases b with
  | non =>
    cases rb
    refine op_notN pins s σ H x _ v u Q I rx ry ⟨rfl, ?_⟩
    rw [is_non ra]
    cases a <;> first | exact ra.elim | (cases hk <;> exact q)
  | bl c =>
    cases rb
    cases a with
    | bl j =>
      cases ra
      cases hk
      refine op_notBl pins s σ H _ _ v u Q I rx ry ⟨j, c, rfl, rfl, ?_⟩
      have e : decide (j = c) = (j == c) := by cases j <;> cases c <;> rfl
      rw [e]
      exact q
    | _ => cases hk
  | _ => cases hk
theorem inD_ok {μ : Mem} {α β : List Addr} {H : Hp} {a b : U} {x y : V} {k : Bool} (hr : HR X.K G μ α β H) (ra : VR X.K G α β H a x) (rb : VR X.K G α β H b y) (h : inD μ a b = some k) :
    ∃ d ds, Dp X.K H x d ∧ SeqAt.shaped d = true ∧ (ds.any fun z => PyData.eqv z d) = k ∧ ((Dp X.K H y (.list ds) ∧ SeqAt.shaped (.list ds) = true) ∨ (Dp X.K H y (.tuple ds) ∧ SeqAt.shaped (.tuple ds) = true)) := by
  unfold inD at h
  cases h1 : toD a with
  | none => rw [h1] at h; cases h
  | some d =>
    cases h2 : toDM μ b with
    | none => rw [h1, h2] at h; cases h
    | some e =>
      rw [h1, h2] at h
      cases e with
      | list ds =>
        have h : (if (SeqAt.shaped d && SeqAt.shaped (.list ds)) = true then some (ds.any fun z => PyData.eqv z d) else none) = some k := h
        by_cases hz : (SeqAt.shaped d && SeqAt.shaped (.list ds)) = true
        · rw [if_pos hz] at h
          cases h
          simp only [Bool.and_eq_true] at hz
          exact ⟨d, ds, toD_dp ra h1, hz.1, rfl, .inl ⟨toDM_dp hr rb h2, hz.2⟩⟩
        · rw [if_neg hz] at h; cases h
      | tuple ds =>
        have h : (if (SeqAt.shaped d && SeqAt.shaped (.tuple ds)) = true then some (ds.any fun z => PyData.eqv z d) else none) = some k := h
        by_cases hz : (SeqAt.shaped d && SeqAt.shaped (.tuple ds)) = true
        · rw [if_pos hz] at h
          cases h
          simp only [Bool.and_eq_true] at hz
          exact ⟨d, ds, toD_dp ra h1, hz.1, rfl, .inr ⟨toDM_dp hr rb h2, hz.2⟩⟩
        · rw [if_neg hz] at h; cases h
      | _ => cases h
theorem shaped_all {ds : List PyData} (h : SeqAt.shaped (.tuple ds) = true) : PyData.canLayAll0 ds = true := by
  have := SeqAt.canLay_of_shaped h
  simpa [PyData.canLay0] using this
theorem o_in (hu : X.A.units + 65 < cLine) : OpR X (compareOp .In) (rM X.K G W (cmpR .In)) := by
  intro pins s σ H x y v u Q I rx ry h
  obtain ⟨a, b, μ, α, β, hr, ra, rb, q⟩ := h
  obtain ⟨k, hk⟩ := cmp_some q
  have q := cmp_bl hr hk q
  obtain ⟨d, ds, h1, h2, h3, h4⟩ := inD_ok hr ra rb hk
  rcases h4 with ⟨h4, h5⟩ | ⟨h4, h5⟩
  · exact op_inD hu pins s σ H x y v u Q I rx ry ⟨d, ds, h1, h4, h2, h5, by rw [h3]; exact q⟩
  · obtain ⟨as, r1⟩ := Dp.reads I d x v h1 rx
    obtain ⟨bs, r2⟩ := Dp.reads I (.tuple ds) y u h4 ry
    exact SeqAt.in_tuple_reads r2 r1 (shaped_all h5) (SeqAt.canLay_of_shaped h2) (room_in_shaped h2 hu) ⟨.bl _, H, I, rfl, by rw [h3]; exact q⟩
theorem o_notin (hu : X.A.units + 65 < cLine) : OpR X (compareOp .NotIn) (rM X.K G W (cmpR .NotIn)) := by
  intro pins s σ H x y v u Q I rx ry h
  obtain ⟨a, b, μ, α, β, hr, ra, rb, q⟩ := h
  obtain ⟨k, hk⟩ := cmp_some q
  have q := cmp_bl hr hk q
  have hk : (inD μ a b).map (!·) = some k := hk
  cases hk2 : inD μ a b with
  | none => rw [hk2] at hk; cases hk
  | some k2 =>
    rw [hk2] at hk
    cases hk
    obtain ⟨d, ds, h1, h2, h3, h4⟩ := inD_ok hr ra rb hk2
    rcases h4 with ⟨h4, h5⟩ | ⟨h4, h5⟩
    · exact op_notInD hu pins s σ H x y v u Q I rx ry ⟨d, ds, h1, h4, h2, h5, by rw [h3]; exact q⟩
    · obtain ⟨as, r1⟩ := Dp.reads I d x v h1 rx
      obtain ⟨bs, r2⟩ := Dp.reads I (.tuple ds) y u h4 ry
      exact SeqAt.notIn_tuple_reads r2 r1 (shaped_all h5) (SeqAt.canLay_of_shaped h2) (room_in_shaped h2 hu) ⟨.bl _, H, I, rfl, by rw [h3]; exact q⟩
theorem o_cmp (hu : X.A.units + 65 < cLine) (op : CmpOp) : OpR X (compareOp op) (rM X.K G W (cmpR op)) := by
  cases op with
  | Eq => exact o_eq (by omega)
  | NotEq => exact o_ne (by omega)
  | Lt => exact o_lt
  | LtE => exact o_le
  | Gt => exact o_gt
  | GtE => exact o_ge
  | Is => exact o_is
  | IsNot => exact o_isnot
  | In => exact o_in hu
  | NotIn => exact o_notin hu

/-! ### places, slices -/
theorem VRs.at {K : PySem.W.Frag} {α β : List Addr} {H : Hp} {us : List U} {vs : List V} {i : Int} {u : U} (h : VRs K G α β H us vs) (e : atU us i = some u) : ∃ v, atI vs i = some v ∧ VR K G α β H u v := by
  unfold atU at e
  unfold atI
  rw [← h.len]
  cases q : ixN us.length i with
  | none => rw [q] at e; cases e
  | some j =>
    rw [q] at e
    exact h.get e
theorem o_idx : IxR X (rM X.K G W idxD) := by
  intro value slice pins s σ H x y v u Q I rx ry h hs
  obtain ⟨a, b, μ, α, β, hr, ra, rb, q⟩ := h
  cases b with
  | int i =>
    cases rb
    have q : PostV X.K G β W (match seqOf μ a with
      | some xs => match atU xs i with
        | some u => .ok u μ
        | none => .bad
      | none => .bad) α H Q := q
    cases h1 : seqOf μ a with
    | none => rw [h1] at q; exact q.elim
    | some xs =>
      rw [h1] at q
      have q : PostV X.K G β W (match atU xs i with
        | some u => .ok u μ
        | none => .bad) α H Q := q
      cases h2 : atU xs i with
      | none => rw [h2] at q; exact q.elim
      | some z =>
        rw [h2] at q
        obtain ⟨p, vs, rfl, h3, h4⟩ := seqOf_at hr ra h1
        obtain ⟨zv, h5, h6⟩ := h4.at h2
        have q := PostV.val q hr h6
        rcases h3 with h3 | h3
        · exact ix_list value slice pins s σ H _ _ v u Q I rx ry ⟨p, vs, i, zv, rfl, rfl, h3, h5, q⟩ hs
        · exact ix_tup value slice pins s σ H _ _ v u Q I rx ry ⟨p, vs, i, zv, rfl, rfl, h3, h5, q⟩ hs
  | _ => exact q.elim
theorem VRs.cut {K : PySem.W.Frag} {α β : List Addr} {H : Hp} {us : List U} {vs : List V} (h : VRs K G α β H us vs) (lo hi : Option Int) : VRs K G α β H (cutU us lo hi) (cutV vs lo hi) := by
  unfold cutU cutV
  rw [h.len]
  exact (h.drop _).take _
theorem cutU_whole {us : List U} {lo hi : Option Int} (h : HT.sIx us.length 0 lo = 0 ∧ HT.sIx us.length us.length hi = us.length) : cutU us lo hi = us := by
  unfold cutU
  rw [h.1, h.2]
  simp
theorem o_slc : SlR X (fun x lo hi H Q => ∃ u μ α β, HR X.K G μ α β H ∧ VR X.K G α β H u x ∧ PostV X.K G β W (slcD u lo hi μ) α H Q) := by
  intro pins s σ H x v vl vu lo hi sl Q I rx hsl pl pu h
  obtain ⟨a, μ, α, β, hr, ra, q⟩ := h
  have gen : PostV X.K G β W (match lstOf μ a with
      | some xs => .ok (.lst (cutU xs lo hi)) μ
      | none => .bad) α H Q → ∃ T id, typeLookup (.type T) "__getitem__" = pure (some (.builtin id)) ∧ s.TypeIs v T ∧ wpAny (model X.prog X.w) X.A (getItem v (.ref sl)) (EP X pins σ Q) X.xe s := by
    intro q
    cases h1 : lstOf μ a with
    | none => rw [h1] at q; exact q.elim
    | some xs =>
      rw [h1] at q
      obtain ⟨p, vs, rfl, h3, h4⟩ := lstOf_at hr ra h1
      exact sl_list pins s σ H _ v vl vu lo hi sl Q I rx hsl pl pu ⟨p, vs, rfl, SqL.of h3, fun p3 hp => post_alloc (m := false) q hr (h4.cut lo hi) hp⟩
  cases a with
  | tup xs =>
    have q : PostV X.K G β W (.ok (.tup (cutU xs lo hi)) μ) α H Q := q
    obtain ⟨p, vs, rfl, h3, h4⟩ := ra
    refine sl_tupA pins s σ H _ v vl vu lo hi sl Q I rx hsl pl pu ⟨p, vs, rfl, h3.seq, fun hw => ?_, fun _ p3 hp => post_tup q hr (h4.cut lo hi) hp⟩
    have hw' := hw
    rw [← h4.len] at hw'
    rw [cutU_whole hw'] at q
    exact PostV.val q hr ⟨p, vs, rfl, h3, h4⟩
  | _ => exact gen q
end
end Mini

set_option maxHeartbeats 4000000
/-! Mini, part D: which piece of the text a piece of the small language stands for. -/
namespace Mini
open PySem PySem.Spec PyProof.Rows L2 LamX

/-- what the text's pieces are held against: the defs, the names that no module binds, built-ins and ints of the module -/
structure Sg where
  Ds : List Def
  fr : List Str
  mb : List (Str × String)
  gi : List (Str × Int)
  exs : List Str
  q : Str
  al : List (Str × Nat)
  lims : List Str
def Sg.xs (S : Sg) : List Str := S.exs ++ S.lims
/-- where a piece stands: the names whose cells are its own; may lambdas be made; the slot of the exception that is handled -/
structure Md where
  cell : Str → Bool
  lam : Bool
  hot : Option Nat
def Md.blk (md : Md) (scope : Scope) : Md := ⟨fun x => scope.names.lookup x == some .cell, md.lam, md.hot⟩
def Md.inner : Md := ⟨fun _ => false, false, none⟩
def Md.calm (md : Md) : Bool := md.hot.isNone
/-- x names the j-th def -/
def nmB (S : Sg) (j : Nat) (x : Str) : Bool := match S.Ds[j]? with
  | some (.std d) => d.name == x || S.al.contains (x, j)
  | _ => false
def nameOk (x : Str) : Bool := !(x == ("__debug__" : Str)) && !(x == ("__classdict__" : Str)) && !(x == ("__name__" : Str))
def visB (sc : Scope) (x : Str) : Bool := match sc.names.lookup x with
  | some .local | some .cell | some .free => true
  | _ => false
def locB (fb : Md) (sc : Scope) (x : Str) : Bool := match sc.names.lookup x with
  | some .local => true
  | some .cell => fb.cell x
  | _ => false
def gloB (sc : Scope) (x : Str) : Bool := decide (sc.names.lookup x = some .globalImplicit) && nameOk x
def notStar : Expr → Bool
  | .Starred .. => false
  | _ => true
def notComp : Expr → Bool
  | .ListComp .. | .SetComp .. | .DictComp .. => false
  | _ => true
def isLC : Expr → Bool
  | .ListComp .. => true
  | _ => false
def notCall : Expr → Bool
  | .Call .. => false
  | _ => true
def notSlice : Expr → Bool
  | .Slice .. => false
  | _ => true
def notSet : Expr → Bool
  | .Set .. => false
  | _ => true
def notTup : Expr → Bool
  | .Tuple .. => false
  | _ => true
def augOk : Operator → Bool
  | .Add => true
  | .Sub => true
  | _ => false
def noArgs : Arguments → Bool
  | ⟨[], [], none, [], [], none, []⟩ => true
  | _ => false
def freeB (S : Sg) (sc : Scope) (x : Str) : Bool := gloB sc x && S.fr.contains x
/-- the built-in functions that biD knows -/
def biFun : List (Str × String) := [("len", "len"), ("abs", "abs")]
/-- .. where no exception is handled -/
def biCalm : List (Str × String) := [("sum", "sum"), ("all", "all"), ("any", "any"), ("max", "max"), ("min", "min")]
def biTy : List (Str × String) := [("int", "int"), ("list", "list"), ("tuple", "tuple"), ("str", "str")]
def biMod : List (Str × String) := [("gcd", "math.gcd"), ("isqrt", "math.isqrt")]
def biB (S : Sg) (fb : Md) (sc : Scope) (b x : Str) : Bool :=
  (b == x) && gloB sc x && ((fb.calm && S.fr.contains x && (biCalm.any fun p => p.1 == x)) || (S.fr.contains x && ((biFun.any fun p => p.1 == x) || (biTy.any fun p => p.1 == x))) || (biMod.any fun p => p.1 == x && S.mb.contains p))
def isTys : List Str := ["int", "bool", "str", "tuple", "list"]
/-- the comprehension's own names with their places -/
def ownOf (N : List Str) (own : List Nat) : List (Str × Nat) := own.map fun i => (N.getD i "", i)
mutual
def chkT (N : List Str) (fb : Md) (sc : Scope) : IT → Expr → Bool
  | .name i, e => match e with
    | .Name x _ => decide (N[i]? = some x) && locB fb sc x
    | _ => false
  | .tup ts, e => match e with
    | .Tuple es _ _ => chkTs N fb sc ts es
    | _ => false
def chkTs (N : List Str) (fb : Md) (sc : Scope) : ITs → List Expr → Bool
  | .nil, [] => true
  | .cons t ts, e :: es => chkT N fb sc t e && notStar e && chkTs N fb sc ts es
  | _, _ => false
end
/-- the second half of an and, an or -/
def boRest (op : BoolOp) (b : Expr) (rest : List Expr) (pos : Pos) : Expr := match rest with
  | [] => b
  | _ :: _ => .BoolOp op (b :: rest) pos
mutual
def chkE (S : Sg) (N : List Str) : Md → Scope → IE → Expr → Bool
  | _, sc, .var i, e => match e with
    | .Name x _ => decide (N[i]? = some x) && visB sc x && nameOk x
    | _ => false
  | _, _, .int n, e => match e with
    | .Constant (.int m) _ _ => n == m
    | _ => false
  | _, _, .str n, e => match e with
    | .Constant (.str m) _ _ => n == m
    | _ => false
  | _, _, .bl n, e => match e with
    | .Constant (.bool m) _ _ => n == m
    | _ => false
  | _, _, .non, e => match e with
    | .Constant .none _ _ => true
    | _ => false
  | _, sc, .gint x n, e => match e with
    | .Name y _ => (x == y) && gloB sc x && S.gi.contains (x, n)
    | _ => false
  | _, sc, .fnv j, e => match e with
    | .Name y _ => gloB sc y && nmB S j y
    | _ => false
  | fb, sc, .bin _ op a b, e => match e with
    | .BinOp a' op' b' _ => decide (op = op') && opOk op && chkE S N fb sc a a' && chkE S N fb sc b b'
    | _ => false
  | fb, sc, .neg a, e => match e with
    | .UnaryOp .USub a' _ => chkE S N fb sc a a'
    | _ => false
  | fb, sc, .not a, e => match e with
    | .UnaryOp .Not a' _ => chkE S N fb sc a a'
    | _ => false
  | fb, sc, .cmp op a b, e => match e with
    | .Compare a' [op'] [b'] _ => decide (op = op') && chkE S N fb sc a a' && chkE S N fb sc b b' && notSet b'
    | _ => false
  | fb, sc, .chain o1 o2 a b c, e => match e with
    | .Compare a' [p1, p2] [b', c'] _ => decide (o1 = p1) && decide (o2 = p2) && chkE S N fb sc a a' && chkE S N fb sc b b' && chkE S N fb sc c c' && notSet c'
    | _ => false
  | fb, sc, .and a b, e => match e with
    | .BoolOp .And (a' :: b' :: rest) pos => chkE S N fb sc a a' && chkE S N fb sc b (boRest .And b' rest pos)
    | _ => false
  | fb, sc, .or a b, e => match e with
    | .BoolOp .Or (a' :: b' :: rest) pos => chkE S N fb sc a a' && chkE S N fb sc b (boRest .Or b' rest pos)
    | _ => false
  | fb, sc, .ite c a b, e => match e with
    | .IfExp c' a' b' _ => chkE S N fb sc c c' && chkE S N fb sc a a' && chkE S N fb sc b b'
    | _ => false
  | fb, sc, .tup es, e => match e with
    | .Tuple es' _ _ => chkEs S N fb sc es es'
    | _ => false
  | fb, sc, .lst _ es, e => match e with
    | .List es' _ => chkEs S N fb sc es es'
    | _ => false
  | fb, sc, .idx a b, e => match e with
    | .Subscript a' b' _ => chkE S N fb sc a a' && chkE S N fb sc b b' && notSlice b'
    | _ => false
  | fb, sc, .slc a lo hi, e => match e with
    | .Subscript a' (.Slice lo' hi' none _) _ => chkE S N fb sc a a' && chkEs S N fb sc lo lo'.toList && chkEs S N fb sc hi hi'.toList
    | _ => false
  | fb, sc, .call j es, e => match e with
    | .Call (.Name x _) es' [] _ => fb.calm && gloB sc x && nmB S j x && chkEs S N fb sc es es'
    | _ => false
  | fb, sc, .cvar i es, e => match e with
    | .Call (.Name x _) es' [] _ => fb.calm && decide (N[i]? = some x) && visB sc x && nameOk x && !es'.isEmpty && chkEs S N fb sc es es'
    | _ => false
  | fb, sc, .bi _ b es, e => match e with
    | .Call (.Name x _) es' [] _ => biB S fb sc b x && !es'.isEmpty && chkEs S N fb sc es es'
    | _ => false
  | fb, sc, .isi a t, e => match e with
    | .Call (.Name x _) [a', .Name t' _] [] _ => (x == ("isinstance" : Str)) && freeB S sc x && (t == t') && freeB S sc t && isTys.contains t && chkE S N fb sc a a' && notStar a'
    | _ => false
  | fb, sc, .comp _ own elt tg it ifs, e => match e with
    | .ListComp elt' [⟨tg', it', ifs', 0⟩] scope _ =>
      (tgS tg).all (fun i => own.contains i) && chkI S N fb sc it tg' it' && blkC N sc scope (ownOf N own) && chkT N (fb.blk scope) (relS scope sc) tg tg' &&
        chkE S N (fb.blk scope) (relS scope sc) elt elt' && chkEs S N (fb.blk scope) (relS scope sc) ifs ifs' && decide (ifs'.length ≤ 1)
    | _ => false
  | fb, sc, .lam j a, e => match e with
    | .Call (.Name x _) [.Lambda params body scope _] [] _ => fb.lam && fb.calm && gloB sc x && (match S.Ds[j]? with
      | some (.err d) => d.name == x
      | _ => false) && noArgs params && lamSB sc scope && chkE S N Md.inner scope a body
    | _ => false
  | fb, sc, .app o a, e => match e with
    | .Call (.Attribute o' m apos) [a'] [] cpos => (m == ("append" : Str)) && (apos.endLine == cpos.line) && notCall o' && notStar a' && chkE S N fb sc o o' && chkE S N fb sc a a'
    | _ => false
  | fb, sc, .isE i c, e => match e with
    | .Call (.Name x _) [.Name y _, .Name z _] [] _ => !fb.calm && (x == ("isinstance" : Str)) && freeB S sc x && decide (N[i]? = some y) && visB sc y && nameOk y && (c == z) && gloB sc z && S.xs.contains c
    | _ => false
  | fb, sc, .eLim i, e => match e with
    | .Attribute (.Name y _) m _ => !fb.calm && (m == ("limit" : Str)) && decide (N[i]? = some y) && visB sc y && nameOk y
    | _ => false
  | _, _, .hole, _ => true
  | fb, sc, .comp2 _ own own1 elt tg it ifs tg1 it1 ifs1, e => match e with
    | .ListComp elt' [⟨tg', it', ifs', 0⟩, ⟨tg1', it1', ifs1', 0⟩] scope _ =>
      fb.calm && (tgS tg).all (fun i => own.contains i) && (tgS tg1).all (fun i => own1.contains i) && own1.all (fun i => own.contains i) && chkI S N fb sc it tg' it' && blkC N sc scope (ownOf N own) && chkT N (fb.blk scope) (relS scope sc) tg tg' &&
        chkI S N (fb.blk scope) (relS scope sc) it1 tg1' it1' && chkT N (fb.blk scope) (relS scope sc) tg1 tg1' &&
        chkE S N (fb.blk scope) (relS scope sc) elt elt' && chkEs S N (fb.blk scope) (relS scope sc) ifs ifs' && decide (ifs'.length ≤ 1) && chkEs S N (fb.blk scope) (relS scope sc) ifs1 ifs1' && decide (ifs1'.length ≤ 1)
    | _ => false
  | fb, sc, .pop o as, e => match e with
    | .Call (.Attribute o' m apos) as' [] cpos => (m == ("pop" : Str)) && (apos.endLine == cpos.line) && notCall o' && decide (as'.length ≤ 1) && chkE S N fb sc o o' && chkEs S N fb sc as as'
    | _ => false
  | _, _, .dnew, e => match e with
    | .Dict [] [] _ => true
    | _ => false
  | fb, sc, .dget d k a, e => match e with
    | .Call (.Attribute o' m apos) [k', a'] [] cpos => (m == ("get" : Str)) && (apos.endLine == cpos.line) && notCall o' && notStar k' && notStar a' && chkE S N fb sc d o' && chkE S N fb sc k k' && chkE S N fb sc a a'
    | _ => false
  | fb, sc, .dsa d k a, e => match e with
    | .Call (.Attribute (.Call (.Attribute o' m apos) [k', .List [] _] [] cpos) m2 apos2) [a'] [] cpos2 => (m == ("setdefault" : Str)) && (apos.endLine == cpos.line) && (m2 == ("append" : Str)) && (apos2.endLine == cpos2.line) && notCall o' && notStar k' && notStar a' &&
        chkE S N fb sc d o' && chkE S N fb sc k k' && chkE S N fb sc a a'
    | _ => false
  | fb, sc, .lrg tu _ it, e => match e with
    | .Call (.Name x _) [r] [] _ => fb.calm && (x == (if tu then ("tuple" : Str) else "list")) && freeB S sc x && notStar r && chkR S N fb sc it r
    | _ => false
  | fb, sc, .rev _ a, e => match e with
    | .Subscript a' (.Slice none none (some (.UnaryOp .USub (.Constant (.int n) _ _) _)) _) _ => (n == 1) && chkE S N fb sc a a'
    | _ => false
  | fb, sc, .join o a, e => match e with
    | .Call (.Attribute o' m apos) [a'] [] cpos => (m == ("join" : Str)) && (apos.endLine == cpos.line) && notCall o' && notStar a' && chkE S N fb sc o o' && chkE S N fb sc a a'
    | _ => false
def chkEs (S : Sg) (N : List Str) : Md → Scope → IEs → List Expr → Bool
  | _, _, .nil, es => es.isEmpty
  | fb, sc, .cons a as, es => match es with
    | e :: es => chkE S N fb sc a e && notStar e && chkEs S N fb sc as es
    | [] => false
/-- a range that is handed to list or tuple -/
def chkR (S : Sg) (N : List Str) : Md → Scope → II → Expr → Bool
  | fb, sc, .rng1 a, e => match e with
    | .Call (.Name x _) [a'] [] _ => (x == ("range" : Str)) && freeB S sc x && chkE S N fb sc a a' && notStar a'
    | _ => false
  | fb, sc, .rng2 a b, e => match e with
    | .Call (.Name x _) [a', b'] [] _ => (x == ("range" : Str)) && freeB S sc x && chkE S N fb sc a a' && notStar a' && chkE S N fb sc b b' && notStar b'
    | _ => false
  | _, _, _, _ => false
/-- what a loop walks; tg: its target -/
def chkI (S : Sg) (N : List Str) : Md → Scope → II → Expr → Expr → Bool
  | fb, sc, .of a, _, e => chkE S N fb sc a e && notSet e
  | fb, sc, .rng1 a, _, e => match e with
    | .Call (.Name x _) [a'] [] _ => fb.calm && (x == ("range" : Str)) && freeB S sc x && chkE S N fb sc a a' && notStar a'
    | _ => false
  | fb, sc, .rng2 a b, _, e => match e with
    | .Call (.Name x _) [a', b'] [] _ => fb.calm && (x == ("range" : Str)) && freeB S sc x && chkE S N fb sc a a' && notStar a' && chkE S N fb sc b b' && notStar b'
    | _ => false
  | fb, sc, .rng3 a b c, _, e => match e with
    | .Call (.Name x _) [a', b', c'] [] _ => fb.calm && (x == ("range" : Str)) && freeB S sc x && chkE S N fb sc a a' && notStar a' && chkE S N fb sc b b' && notStar b' && chkE S N fb sc c c' && notStar c'
    | _ => false
  | fb, sc, .zip2 a b, tg, e => match tg, e with
    | .Tuple _ _ _, .Call (.Name x _) [a', b'] [] _ => fb.calm && (x == ("zip" : Str)) && freeB S sc x && chkE S N fb sc a a' && notStar a' && chkE S N fb sc b b' && notStar b'
    | _, _ => false
  | fb, sc, .enum a, tg, e => match tg, e with
    | .Tuple _ _ _, .Call (.Name x _) [a'] [] _ => fb.calm && (x == ("enumerate" : Str)) && freeB S sc x && chkE S N fb sc a a' && notStar a'
    | _, _ => false
end
/-- name = [..] goes with the comprehension's own frame -/
def lcSet (sc : Scope) (y : Str) (py : Pos) (e : Expr) : Bool := match e with
  | .ListComp _ _ scope pos => decide (sc.names.lookup y = some .local) && (py.line == pos.line) && !(scope.names.any fun (n, k) => n == y && (k == .local || k == .cell))
  | _ => false
/-- the text of a raise -/
def chkRaise (S : Sg) (sc : Scope) (c msg : Str) : Expr → Bool
  | .Call (.Name x _) [.Constant (.str m) _ _] [] _ => (x == c) && gloB sc x && S.exs.contains c && (m == msg)
  | _ => false
/-- the pair's stores are made in their order: the tuple is made and taken apart -/
def swNone (sc : Scope) : Expr → Expr → Bool
  | .Tuple ts _ _, .Tuple vs _ _ =>
    let line := (ts.head?.map (·.pos.line)).getD 0
    let names := ts.filterMap fun
      | .Name id pos => if sc.names.lookup id == some .local && pos.line == line then some id else none
      | _ => none
    (!(ts.length == 2 || ts.length == 3) || vs.length != ts.length) || (vs.any (fun | .Starred .. => true | _ => false) || ((names.length != ts.length || names.eraseDups.length != names.length) || vs.all (foldedForSure 8)))
  | _, _ => false
/-- .. or each name gets its value, the last first -/
def swSome (sc : Scope) (ts vs : List Expr) : Option (List Str) :=
  let line := (ts.head?.map (·.pos.line)).getD 0
  let names := ts.filterMap fun
    | .Name id pos => if sc.names.lookup id == some .local && pos.line == line then some id else none
    | _ => none
  if (!(ts.length == 2 || ts.length == 3) || vs.length != ts.length) = true then none
  else if (vs.any (fun | .Starred .. => true | _ => false)) = true then none
  else if (names.length != ts.length || names.eraseDups.length != names.length) = true then none
  else if vs.all (foldedForSure 8) = true then none
  else if vs.all (constantsAlone 8) = true then none
  else some names
def chkPs (S : Sg) (N : List Str) (md : Md) (sc : Scope) : IPs → List Expr → Bool
  | .nil, es => es.isEmpty
  | .name i ps, es => match es with
    | .Name x _ :: es => decide (N[i]? = some x) && locB md sc x && chkPs S N md sc ps es
    | _ => false
  | .sub o i ps, es => match es with
    | .Subscript o' i' _ :: es => chkE S N md sc o o' && chkE S N md sc i i' && notSlice i' && chkPs S N md sc ps es
    | _ => false
mutual
def chkS (S : Sg) (N : List Str) (md : Md) (sc : Scope) : IS → Stmt → Bool
  | .set t e, st => match st with
    | .Assign [t'] e' _ => chkT N md sc t t' && chkE S N md sc e e' && (match t' with
      | .Name y py => isLC e' || notComp e'
      | .Tuple .. => notComp e' && (notTup e' || swNone sc t' e')
      | _ => false)
    | _ => false
  | .seti o i e, st => match st with
    | .Assign [.Subscript o' i' _] e' _ => chkE S N md sc o o' && chkE S N md sc i i' && chkE S N md sc e e' && notSlice i'
    | _ => false
  | .par i j a b, st => match st with
    | .Assign [.Tuple [.Name x px, .Name y py] _ _] (.Tuple [a', b'] _ _) _ => md.calm && decide (N[i]? = some x) && decide (N[j]? = some y) && decide (i ≠ j) && decide (sc.names.lookup x = some .local) && decide (sc.names.lookup y = some .local) &&
        (px.line == py.line) && !(([a', b'] : List Expr).all (foldedForSure 8)) && !(([a', b'] : List Expr).all (constantsAlone 8)) && chkE S N md sc a a' && chkE S N md sc b b' && notStar a' && notStar b'
    | _ => false
  | .parN is es, st => match st with
    | .Assign [.Tuple ts _ _] (.Tuple vs _ _) _ => md.calm && (match swSome sc ts vs with
      | some names => decide (is.map (fun i => N[i]?) = names.map some) && names.all (fun x => decide (sc.names.lookup x = some .local))
      | none => false) && chkEs S N md sc es vs
    | _ => false
  | .aug i op e, st => match st with
    | .AugAssign (.Name x _) op' e' _ => decide (N[i]? = some x) && locB md sc x && decide (op = op') && augOk op && chkE S N md sc e e'
    | _ => false
  | .exp e, st => match st with
    | .Expr e' _ => chkE S N md sc e e' && notComp e'
    | _ => false
  | .ite c a b, st => match st with
    | .If c' a' b' _ => chkE S N md sc c c' && chkSs S N md sc a a' && chkSs S N md sc b b'
    | _ => false
  | .ret e, st => match st with
    | .Return (some e') _ => chkE S N md sc e e'
    | _ => false
  | .retN, st => match st with
    | .Return none _ => true
    | _ => false
  | .for_ t it b, st => match st with
    | .For t' it' b' [] _ => md.calm && chkT N md sc t t' && chkI S N md sc it t' it' && chkSs S N md sc b b'
    | _ => false
  | .while_ _ c b, st => match st with
    | .While c' b' [] _ => chkE S N md sc c c' && chkSs S N md sc b b'
    | _ => false
  | .raise c msg, st => match st with
    | .Raise (some e) none _ => md.calm && chkRaise S sc c msg e
    | _ => false
  | .raiseL c a, st => match st with
    | .Raise (some (.Call (.Name x _) [a'] [] _)) none _ => md.calm && (x == c) && gloB sc x && S.lims.contains c && chkE S N md sc a a' && notStar a'
    | _ => false
  | .hole, _ => true
  | .put ps es, st => match st with
    | .Assign [.Tuple ts k p] (.Tuple vs k2 p2) _ => md.calm && chkPs S N md sc ps ts && chkEs S N md sc es vs && decide (ts.length = vs.length) && swNone sc (.Tuple ts k p) (.Tuple vs k2 p2)
    | _ => false
  | .pass, st => match st with
    | .Pass _ => true
    | _ => false
  | .brk, st => match st with
    | .Break _ => true
    | _ => false
  | .cont, st => match st with
    | .Continue _ => true
    | _ => false
def chkSs (S : Sg) (N : List Str) (md : Md) (sc : Scope) : ISs → List Stmt → Bool
  | .nil, ss => ss.isEmpty
  | .cons a as, ss => match ss with
    | s :: ss => chkS S N md sc a s && chkSs S N md sc as ss
    | [] => false
end
/-! ### defs -/
/-- the names of its parameters, nothing else in their list -/
def argNames : Arguments → Option (List Str)
  | ⟨[], as, none, [], [], none, []⟩ => if as.length ≤ 9 then some (as.map (·.arg)) else none
  | _ => none
def scopeB (N : List Str) (np : Nat) (sc : Scope) : Bool :=
  decide (sc.kind = .function) && !sc.isCoroutine && !sc.isGenerator && decide N.Nodup && decide ((N.take np).length = np) &&
    (N.take np).all (fun x => decide (sc.names.lookup x = some .local) || decide (sc.names.lookup x = some .cell)) && sc.names.all (fun y => !decide (y.2 = .free))
theorem scope_of {N : List Str} {np : Nat} {sc : Scope} (h : scopeB N np sc = true) : FnScope N (N.take np) sc ∧ (N.take np).length = np := by
  unfold scopeB at h
  simp only [Bool.and_eq_true, decide_eq_true_eq, Bool.not_eq_true', List.all_eq_true, Bool.or_eq_true, decide_eq_false_iff_not] at h
  obtain ⟨⟨⟨⟨⟨⟨h1, h2⟩, h3⟩, h4⟩, h5⟩, h6⟩, h7⟩ := h
  exact ⟨⟨h1, h2, h3, h4, by rw [h5], h6, h7⟩, h5⟩
/-- a plain def; lam: are there lambdas in it -/
def chkDef (S : Sg) (lam : Bool) (d : DefS) (params : Arguments) (body : List Stmt) (sc : Scope) : Bool :=
  scopeB d.N d.np sc && decide (argNames params = some (d.N.take d.np)) && chkSs S d.N ⟨fun _ => true, lam, none⟩ sc d.body body
/-- def x(a): try: a() / except q as e: suite; return rest -/
def chkErr (S : Sg) (d : DefX) (params : Arguments) (body : List Stmt) (sc : Scope) : Bool := match body with
  | [.Try [.Expr (.Call (.Name a _) [] [] _) _] [.ExceptHandler (some (.Name q _)) (some e) (b0 :: suite) _] [] [] _, .Return (some (.Constant (.str r) _ _)) _] =>
    scopeB d.N 1 sc && decide (argNames params = some [a]) && decide (d.N[0]? = some a) && visB sc a && nameOk a && (q == d.q) && (q == S.q) && gloB sc q && decide (d.N[d.ei]? = some e) && decide (sc.names.lookup e = some .local) && decide (1 ≤ d.ei) && (r == d.rest) &&
      chkSs S d.N ⟨fun _ => true, false, some d.ei⟩ sc d.suite (b0 :: suite)
  | _ => false
end Mini

set_option maxHeartbeats 4000000
/-! Mini, part Z: zip and enumerate of lists and tuples in any mix. -/
namespace MiniZ
open PySem PySem.Spec PyProof.Rows L2

/-- a list (true) or a tuple (false) -/
def SqX (K : PySem.W.Frag) (k : Bool) (H : Hp) (a : Addr) (vs : List V) : Prop := match k with
  | true => SqL K H a vs
  | false => SqT K H a vs
def IsX (k : Bool) (h : Heap) (a : Addr) (its : Array Value) : Prop := match k with
  | true => h.IsList a its
  | false => h.IsTuple a its
def ItX (k : Bool) (h : Heap) (it a : Addr) (i : Nat) : Prop := match k with
  | true => h.IsListIter it a i
  | false => h.IsTupleIter it a i
def objX (k : Bool) (a : Addr) : Obj := match k with
  | true => { cls := .type "list_iterator", data := .fields #[.ref a, .int 0 0] }
  | false => { cls := .type "tuple_iterator", data := .fields #[.ref a, .int 0 0] }
theorem IsX.at {k : Bool} {h h' : Heap} {a : Addr} {its : Array Value} (x : IsX k h a its) (e : ∀ o, h.get? a = some o → h'.get? a = some o) : IsX k h' a its := by
  cases k with
  | true => exact Heap.IsList.at x e
  | false => exact Heap.IsTuple.at x e
theorem IsX.lt {k : Bool} {h : Heap} {a : Addr} {its : Array Value} (x : IsX k h a its) : a < h.objs.size := by
  cases k with
  | true => obtain ⟨_, e, _⟩ := x; exact Heap.lt_size e
  | false => obtain ⟨_, e, _⟩ := x; exact Heap.lt_size e
theorem ItX.at {k : Bool} {h h' : Heap} {it a : Addr} {i : Nat} (x : ItX k h it a i) (e : ∀ o, h.get? it = some o → h'.get? it = some o) : ItX k h' it a i := by
  cases k with
  | true => exact Heap.IsListIter.at x e
  | false => exact Heap.IsTupleIter.at x e
theorem ItX.get {k : Bool} {h : Heap} {it a : Addr} {i : Nat} (x : ItX k h it a i) : ∃ o, h.get? it = some o ∧ ∀ v, o.data ≠ .cell v := by
  cases k with
  | true => obtain ⟨o, e, _, d⟩ := x; exact ⟨o, e, fun v q => by rw [d] at q; cases q⟩
  | false => obtain ⟨o, e, _, d⟩ := x; exact ⟨o, e, fun v q => by rw [d] at q; cases q⟩
theorem ItX.new {k : Bool} {h : Heap} {it a : Addr} (e : h.get? it = some (objX k a)) : ItX k h it a 0 := by
  cases k with
  | true => exact ⟨_, e, rfl, rfl⟩
  | false => exact ⟨_, e, rfl, rfl⟩
theorem begins (k : Bool) (a : Addr) (its : Array Value) : Begins (.ref a) (objX k a) fun h => IsX k h a its := by
  cases k with
  | true => exact begins_list a its
  | false => exact begins_tuple a its
theorem draws {prog : Program} {w : World} {A : Around} (hh : A.handled = none) (k : Bool) (it a : Addr) (hne : a ≠ it) (its : Array Value) :
    Draws prog w A it [it, a] its.size (fun i v => its[i]? = some v) (fun i h => ItX k h it a i ∧ IsX k h a its) := by
  cases k with
  | true => exact Draws.list hh it a hne its
  | false => exact Draws.tuple hh it a hne its
section
variable {X : Cx} {pins : List (Addr × Obj)} {σ : L2.St} {H : Hp} {s : Shared} {a : Addr} {k : Bool}
theorem sq_at {vs : List V} (I : Inv X pins σ H s) (h : SqX X.K k H a vs) : ∃ its : List Value, Vals vs its ∧ IsX k s.heap a its.toArray := by
  cases k with
  | true =>
    obtain ⟨its, rv, p, _⟩ := I.list h
    exact ⟨its, rv, p.isList⟩
  | false =>
    obtain ⟨its, rv, p, _⟩ := I.tuple h
    exact ⟨its, rv, p⟩
theorem sq_inj {vs ws : List V} (I : Inv X pins σ H s) (h : SqX X.K k H a vs) (h2 : SqX X.K k H a ws) : vs = ws := by
  cases k with
  | true => exact I.list_inj h h2
  | false => exact I.tuple_inj h h2
end
/-! ### zip -/
def ItzX (K : PySem.W.Frag) (k1 k2 : Bool) (a b : Addr) : It :=
  ⟨fun i H => ∃ (xs ys : List V) (x y : V), SqX K k1 H a xs ∧ SqX K k2 H b ys ∧ xs[i]? = some x ∧ ys[i]? = some y,
    fun i H v H' => ∃ T x y, v = .ref T ∧ H T = none ∧ H' = upd H T (.tup [x, y]) ∧ (∀ xs, SqX K k1 H a xs → xs[i]? = some x) ∧ ∀ ys, SqX K k2 H b ys → ys[i]? = some y,
    fun i H => ∃ xs ys : List V, SqX K k1 H a xs ∧ SqX K k2 H b ys ∧ i ≤ xs.length ∧ i ≤ ys.length ∧ (xs.length = i ∨ ys.length = i)⟩
structure Ap (z TI TO i1 i2 a b : Addr) : Prop where
  sep : ZipSep2 z TI TO i1 i2 [i1, a] [i2, b]
  n1 : a ≠ i1
  n2 : b ≠ i2
theorem turn_zipX {P : Program} {w : World} {K : PySem.W.Frag} {elts : List Expr} {kk : Nat} {tpos : Pos} {k1 k2 : Bool} {a b z TI TO i1 i2 : Addr} (D : Ap z TI TO i1 i2 a b) :
    Turn P w K (.Tuple elts kk tpos) (ItzX K k1 k2 a b) [z, TI, TO, i1, i2] z (fun i h => IsZip h z TI TO .none ∧ IsTupOf2 h TI (.ref i1) (.ref i2) ∧ (∃ x y, IsTupOf2 h TO x y) ∧ ItX k1 h i1 a i ∧ ItX k2 h i2 b i) where
  mem := by simp
  obj := fun i h st c hc => by
    obtain ⟨hz, hTI, ⟨x, y, hTO⟩, t1, t2⟩ := st
    have e' : c = z ∨ c = TI ∨ c = TO ∨ c = i1 ∨ c = i2 := by simpa using hc
    rcases e' with rfl | rfl | rfl | rfl | rfl
    · exact ⟨_, hz, fun v q => nomatch q⟩
    · exact ⟨_, hTI, fun v q => nomatch q⟩
    · exact ⟨_, hTO, fun v q => nomatch q⟩
    · exact t1.get
    · exact t2.get
  keep := fun i h h' st kp => by
    obtain ⟨hz, hTI, ⟨x, y, hTO⟩, t1, t2⟩ := st
    exact ⟨kp z (by simp) _ hz, kp TI (by simp) _ hTI, ⟨x, y, kp TO (by simp) _ hTO⟩, t1.at fun o q => kp i1 (by simp) o q, t2.at fun o q => kp i2 (by simp) o q⟩
  item := by
    intro X hP hw hK hc i pins s σ H E I hf st hg
    subst hP hw hK
    obtain ⟨hz, hTI, ⟨x0, y0, hTO⟩, t1, t2⟩ := st
    obtain ⟨xs, ys, x, y, hqx, hqy, hx, hy⟩ := hg
    obtain ⟨its, rv, p⟩ := sq_at I hqx
    obtain ⟨its2, rv2, p2⟩ := sq_at I hqy
    obtain ⟨u, hu, ru⟩ := rv.get hx
    obtain ⟨u2, hu2, ru2⟩ := rv2.get hy
    have hzl : z < s.heap.objs.size := Heap.lt_size hz
    have l1 : i < its.toArray.size := by rw [List.size_toArray]; exact (List.getElem?_eq_some_iff.mp hu).1
    have l2 : i < its2.toArray.size := by rw [List.size_toArray]; exact (List.getElem?_eq_some_iff.mp hu2).1
    refine wpAny_pyNext_zipD2_item D.sep (draws (A := X.A.in1) (I.ok.hd hc) k1 i1 a D.n1 its.toArray) (draws (A := X.A.in1) (I.ok.hd hc) k2 i2 b D.n2 its2.toArray) hz hTI hTO ⟨t1, p⟩ ⟨t2, p2⟩ l1 l2
      fun w1 w2 h' tk e1 e2 z' TO' ⟨t1', _⟩ ⟨t2', _⟩ hT hsz hk => ?_
    have ew : w1 = u := by
      have e1 : its.toArray[i]? = some w1 := e1
      rw [List.getElem?_toArray, hu] at e1
      cases e1; rfl
    have ew2 : w2 = u2 := by
      have e2 : its2.toArray[i]? = some w2 := e2
      rw [List.getElem?_toArray, hu2] at e2
      cases e2; rfl
    subst ew ew2
    refine ⟨_, rfl, wpAny_letOwnedTupleGo_zip (s := { s with heap := h', toks := tk }) z' fun h'' z'' sb => ?_⟩
    have hT2 : h''.get? s.heap.objs.size = some { cls := .type "tuple", data := .seq #[w1, w2] } := (sb.2 _ (Nat.ne_of_gt hzl)).trans hT
    have new : ObjOk X.prog X.w (upd H s.heap.objs.size (.tup [x, y])) h'' s.heap.objs.size (.tup [x, y]) :=
      ⟨by show 2 ≤ sizeLine; decide, [w1, w2], .cons ru (.cons ru2 .nil), ⟨_, hT2, rfl, _, rfl⟩⟩
    have kp : ∀ c o, c ∉ [z, TI, TO, i1, i2] → s.heap.get? c = some o → h''.get? c = some o := fun c o hb q => by
      simp only [List.mem_cons, List.not_mem_nil, or_false, not_or] at hb
      exact (sb.2 c hb.1).trans (hk c o hb.1 hb.2.2.1 hb.2.2.2.1 hb.2.2.2.2 q)
    have I1 : Inv X pins σ (upd H s.heap.objs.size (.tup [x, y])) { s with heap := h'', toks := tk } := I.turnedNew kp hf (Nat.le_refl _) new
    refine ⟨.ref s.heap.objs.size, _, I1, rfl, ⟨_, x, y, rfl, I.hok.fresh (Nat.le_refl _), rfl, fun l hl => by rw [sq_inj I hl hqx]; exact hx, fun l hl => by rw [sq_inj I hl hqy]; exact hy⟩, ⟨z'', ?_, ⟨w1, w2, ?_⟩, ?_, ?_⟩, fun c hcm => ?_⟩
    · exact (sb.2 _ D.sep.TIz).trans (hk _ _ D.sep.TIz D.sep.TITO D.sep.TIi1 D.sep.TIi2 hTI)
    · exact (sb.2 _ D.sep.TOz).trans TO'
    · exact t1'.at fun o q => (sb.2 _ D.sep.zi1.symm).trans q
    · exact t2'.at fun o q => (sb.2 _ D.sep.zi2.symm).trans q
    · have hlt : c < s.heap.objs.size := by
        have e' : c = z ∨ c = TI ∨ c = TO ∨ c = i1 ∨ c = i2 := by simpa using hcm
        rcases e' with rfl | rfl | rfl | rfl | rfl
        · exact hzl
        · exact Heap.lt_size hTI
        · exact Heap.lt_size hTO
        · obtain ⟨_, g, _⟩ := t1.get; exact Heap.lt_size g
        · obtain ⟨_, g, _⟩ := t2.get; exact Heap.lt_size g
      rw [upd_ne (Nat.ne_of_lt hlt)]
      exact (hf c hcm).1
  done := by
    intro X hP hw hK hc i pins s σ H E I hf st hg
    subst hP hw hK
    obtain ⟨hz, hTI, ⟨x0, y0, hTO⟩, t1, t2⟩ := st
    obtain ⟨xs, ys, hqx, hqy, m1, m2, hend⟩ := hg
    obtain ⟨its, rv, p⟩ := sq_at I hqx
    obtain ⟨its2, rv2, p2⟩ := sq_at I hqy
    have e1 := rv.length
    have e2 := rv2.length
    refine wpAny_pyNext_zipD2_end D.sep (draws (A := X.A.in1) (I.ok.hd hc) k1 i1 a D.n1 its.toArray) (draws (A := X.A.in1) (I.ok.hd hc) k2 i2 b D.n2 its2.toArray) hz hTI hTO ⟨t1, p⟩ ⟨t2, p2⟩ (by simp; omega) (by simp; omega) (by simp; omega)
      fun h' tk hk => ⟨rfl, I.turnedL (ch := [z, TI, TO, i1, i2]) (fun c o hb q => ?_) hf⟩
    simp only [List.mem_cons, List.not_mem_nil, or_false, not_or] at hb
    exact hk c o hb.1 hb.2.2.1 hb.2.2.2.1 hb.2.2.2.2 q
  self := fun A i s Q E st h => wpAny_pyIter_zip st.1 h
def iZipX (K : PySem.W.Frag) (ta : TA) : TI := fun σ H R => ta σ H fun vs H1 => ∃ k1 k2 a b xs ys, vs = [.ref a, .ref b] ∧ SqX K k1 H1 a xs ∧ SqX K k2 H1 b ys ∧ R (ItzX K k1 k2 a b) H1
theorem pi_zipX {X : Cx} {e e2 : Expr} {ta : TA} {p pos tpos : Pos} {elts : List Expr} {kk : Nat} (hg : Gl X "zip") (hm : X.mg "zip" = none) (ha : PA X [e, e2] ta)
    (hs : starEach [e, e2] X.env = (false, eval e X.env) :: starEach [e2] X.env) (hpl : (backTo pos (starEach [e2] X.env)).any (·.1) = false) :
    PI X (.Tuple elts kk tpos) (.Call (.Name "zip" p) [e, e2] [] pos) (iZipX X.K ta) := by
  refine ⟨fun pins s σ H R I h => Call_ (ld_blt I hg hm PyProof.Rows.boot_zip (PyProof.Rows.callWith_type1 (thn (ha.run pos pins s σ H _ I h) fun us s1 ⟨vs, H1, I1, r1, q1⟩ => ?_) hs hpl))⟩
  obtain ⟨k1, k2, a, b, xs, ys, rfl, hqx, hqy, q⟩ := q1
  cases r1 with
  | cons r rr =>
  cases rr with
  | cons r' rr =>
  cases rr
  cases r
  cases r'
  obtain ⟨its, rv, p1⟩ := sq_at I1 hqx
  obtain ⟨its2, rv2, p2⟩ := sq_at I1 hqy
  have la := p1.lt
  have lb := p2.lt
  refine zip_begins2 (begins k1 a its.toArray) (begins k2 b its2.toArray) p1 p2 fun h' hz hTI hTO g1 g2 hsz hk => wpAny_pyIter_zip hz ?_
  have I2 : Inv X pins σ H1 { s1 with heap := h' } := I1.kept (t' := s1.toks) hk
  have D : Ap (s1.heap.objs.size + 4) (s1.heap.objs.size + 2) (s1.heap.objs.size + 3) s1.heap.objs.size (s1.heap.objs.size + 1) a b := by
    have D0 := PySem.W.ktu_apart s1.heap.objs.size a b la lb
    have nm : ∀ {x y z : Addr}, x ≠ y → x ≠ z → x ∉ [y, z] := fun h1 h2 h => by
      simp only [List.mem_cons, List.not_mem_nil, or_false] at h
      exact h.elim h1 h2
    exact ⟨⟨D0.TIz, D0.TOz, D0.TITO, D0.TIi1, List.mem_cons_self, nm D0.i1z.symm D0.l1z.symm, nm D0.TOi1 D0.l1TO.symm, D0.TIi2, List.mem_cons_self, nm D0.i2z.symm D0.l2z.symm, nm D0.TOi2 D0.l2TO.symm, nm D0.i12 D0.l2i1.symm, nm D0.i12.symm D0.l1i2.symm⟩, D0.l1i1, D0.l2i2⟩
  refine ⟨s1.heap.objs.size + 4, [s1.heap.objs.size + 4, s1.heap.objs.size + 2, s1.heap.objs.size + 3, s1.heap.objs.size, s1.heap.objs.size + 1], _, _, H1, rfl, I2, turn_zipX D, ⟨hz, hTI, ⟨_, _, hTO⟩, ItX.new g1, ItX.new g2⟩, fun c hcm => ?_, q⟩
  have hle : s1.heap.objs.size ≤ c := by
    simp only [List.mem_cons, List.not_mem_nil, or_false] at hcm
    rcases hcm with z | z | z | z | z <;> (rw [z]; first | exact Nat.le_add_right _ _ | exact Nat.le_refl _)
  exact I1.fpOk hle (I1.hok.fresh hle)
/-! ### enumerate -/
def IteX (K : PySem.W.Frag) (k : Bool) (a : Addr) : It :=
  ⟨fun i H => ∃ (xs : List V) (x : V), SqX K k H a xs ∧ xs[i]? = some x, fun i H v H' => ∃ T x, v = .ref T ∧ H T = none ∧ H' = upd H T (.tup [.int (i : Nat), x]) ∧ ∀ xs, SqX K k H a xs → xs[i]? = some x, fun i H => ∃ xs : List V, SqX K k H a xs ∧ xs.length = i⟩
theorem turn_enumX {P : Program} {w : World} {K : PySem.W.Frag} {elts : List Expr} {kk : Nat} {tpos : Pos} {k : Bool} (a e it : Addr) (hae : a ≠ e) (hai : a ≠ it) :
    Turn P w K (.Tuple elts kk tpos) (IteX K k a) [e, it] e (fun i h => (∃ old, IsEnum h e it ((i : Nat) : Int) old) ∧ ItX k h it a i ∧ e ≠ it) where
  mem := by simp
  obj := fun i h st b hb => by
    obtain ⟨⟨old, he⟩, ti, _⟩ := st
    have e' : b = e ∨ b = it := by simpa using hb
    rcases e' with rfl | rfl
    · exact ⟨_, he, fun v q => nomatch q⟩
    · exact ti.get
  keep := fun i h h' st kp => let ⟨⟨old, he⟩, hi, hne⟩ := st; ⟨⟨old, kp e (by simp) _ he⟩, hi.at fun o q => kp it (by simp) o q, hne⟩
  item := by
    intro X hP hw hK hc i pins s σ H E I hf st hg
    subst hP hw hK
    obtain ⟨⟨old, he⟩, hit, hne⟩ := st
    obtain ⟨xs, x, hq, hx⟩ := hg
    obtain ⟨its, rv, p⟩ := sq_at I hq
    obtain ⟨u, hu, ru⟩ := rv.get hx
    have hel : e < s.heap.objs.size := Heap.lt_size he
    have hil : it < s.heap.objs.size := by obtain ⟨_, q, _⟩ := hit.get; exact Heap.lt_size q
    have l1 : i < its.toArray.size := by rw [List.size_toArray]; exact (List.getElem?_eq_some_iff.mp hu).1
    refine wpAny_pyNext_enum_itemD (draws (A := X.A.in1) (I.ok.hd hc) k it a hai its.toArray) he ⟨hit, p⟩ l1 hne (by simp [hne, Ne.symm hae]) fun w1 h' tk e1 ho ⟨hit', _⟩ hT hsz hk => ?_
    have ew : w1 = u := by
      have e1 : its.toArray[i]? = some w1 := e1
      rw [List.getElem?_toArray, hu] at e1
      cases e1; rfl
    subst ew
    refine ⟨_, rfl, wpAny_letOwnedTupleGo_enum (s := { s with heap := h', toks := tk + 1 }) ho fun h'' he' sb => ?_⟩
    have hT2 : h''.get? s.heap.objs.size = some { cls := .type "tuple", data := .seq #[.int i tk, w1] } := (sb.2 _ (Nat.ne_of_gt hel)).trans hT
    have new : ObjOk X.prog X.w (upd H s.heap.objs.size (.tup [.int (i : Nat), x])) h'' s.heap.objs.size (.tup [.int (i : Nat), x]) :=
      ⟨by show 2 ≤ sizeLine; decide, [.int i tk, w1], .cons ⟨_, rfl⟩ (.cons ru .nil), ⟨_, hT2, rfl, _, rfl⟩⟩
    have kp : ∀ c o, c ∉ [e, it] → s.heap.get? c = some o → h''.get? c = some o := fun c o hb q => by
      simp only [List.mem_cons, List.not_mem_nil, or_false, not_or] at hb
      exact (sb.2 c hb.1).trans (hk c o hb.1 hb.2 q)
    have I1 : Inv X pins σ (upd H s.heap.objs.size (.tup [.int (i : Nat), x])) { s with heap := h'', toks := tk + 1 } := I.turnedNew kp hf (Nat.le_refl _) new
    refine ⟨.ref s.heap.objs.size, _, I1, rfl, ⟨_, x, rfl, I.hok.fresh (Nat.le_refl _), rfl, fun ys hy => by rw [sq_inj I hy hq]; exact hx⟩, ⟨⟨w1, ?_⟩, hit'.at fun o q => (sb.2 it (Ne.symm hne)).trans q, hne⟩, fun b hb => ?_⟩
    · have e1 : ((i + 1 : Nat) : Int) = (i : Int) + 1 := by omega
      rw [e1]; exact he'
    · have hb' : b < s.heap.objs.size := by
        have e' : b = e ∨ b = it := by simpa using hb
        rcases e' with rfl | rfl
        · exact hel
        · exact hil
      rw [upd_ne (Nat.ne_of_lt hb')]
      exact (hf b hb).1
  done := by
    intro X hP hw hK hc i pins s σ H E I hf st hg
    subst hP hw hK
    obtain ⟨⟨old, he⟩, hit, hne⟩ := st
    obtain ⟨xs, hq, hx⟩ := hg
    obtain ⟨its, rv, p⟩ := sq_at I hq
    have hl := rv.length
    have e1 : its.toArray.size = i := by simp; omega
    obtain ⟨f0, f1, f2, f3, f4, f5⟩ := hf it (by simp)
    exact wpAny_pyNext_enum_endD (draws (A := X.A.in1) (I.ok.hd hc) k it a hai its.toArray) he (by rw [e1]; exact ⟨hit, p⟩) fun h' eb => ⟨rfl, I.turned (t' := s.toks) (fun b o hb q => eb b o hb q) f0 f1 f3 f4 f5⟩
  self := fun A i s Q E st h => let ⟨⟨_, he⟩, _⟩ := st; wpAny_pyIter_enum he h
theorem meets_en {v : Value} {o : Obj} {HH : Heap → Prop} (B : Begins v o HH) :
    Meets (Builtin.«enumerate.__new__» ⟨[.type "enumerate", v], []⟩) (fun _ R s => HH s.heap ∧
      R (.ok (.ret (.ref (s.heap.push o).objs.size))) { s with heap := (s.heap.push o).push { cls := .type "enumerate", data := .fields #[.none, .bool false, .ref s.heap.objs.size, rawInt 0, .none, .none] } }) :=
  .of_wp fun prog w A R s h => by
    obtain ⟨hp, g, d, tk, os⟩ := s
    obtain ⟨h1, h⟩ := h
    have hsub := sub_enumerate
    have q1 : ∀ {A' : Around} {E : Value → Shared → Prop} {Q : Value → Shared → Prop}, Q (.ref hp.objs.size) ⟨hp.push o, g, d, tk, os⟩ → wpAny (model prog w) A' (pyIter v) Q E ⟨hp, g, d, tk, os⟩ :=
      fun q => B.iter prog w _ _ ⟨hp, g, d, tk, os⟩ _ h1 q
    have fin : ∀ {P : Prop}, P → P := id
    wp_walk using q1
    refine fin (wpAny_stack_any fun st0 => fin (wpAny_pure ?_))
    split
    · rename_i c0 _ _ _ _ _
      cases (c0 == Value.type "enumerate") <;> (wp_walk using q1; exact ⟨_, rfl, h⟩)
    · wp_walk using q1; exact ⟨_, rfl, h⟩
theorem call_en {prog : Program} {w : World} {A : Around} {E : Value → Shared → Prop} {s : Shared} {v : Value} {o : Obj} {HH : Heap → Prop} {Q : Value → Shared → Prop} (B : Begins v o HH) (h1 : HH s.heap)
    (h : ∀ h', IsEnum h' (s.heap.objs.size + 1) s.heap.objs.size 0 .none → h'.get? s.heap.objs.size = some o → (∀ b o, s.heap.get? b = some o → h'.get? b = some o) → Q (.ref (s.heap.objs.size + 1)) { s with heap := h' }) :
    wpAny (model prog w) A (call (.type "enumerate") [v]) Q E s := by
  refine callType_new F.called_enumerate (by decide) (F.typeCall_enumerate_1 _) (F.newCall_enumerate_1 _) (fun obj => F.args_object_init_2 obj _) F.entry_enumerate_new (meets_en B) ⟨h1, ?_⟩
  have hz : (s.heap.push o).objs.size = s.heap.objs.size + 1 := Heap.size_push ..
  have he := Heap.get?_push_size (s.heap.push o) (o := { cls := .type "enumerate", data := .fields #[.none, .bool false, .ref s.heap.objs.size, rawInt 0, .none, .none] }) rfl
  show _ ∧ _
  rw [hz] at he ⊢
  exact ⟨⟨_, he, rfl⟩, h _ he (Heap.get?_push_of_some _ (Heap.get?_push_size _ B.free)) fun b o x => Heap.get?_push_of_some _ (Heap.get?_push_of_some _ x)⟩
def iEnumX (K : PySem.W.Frag) (ta : TA) : TI := fun σ H R => ta σ H fun vs H1 => ∃ k a xs, vs = [.ref a] ∧ SqX K k H1 a xs ∧ R (IteX K k a) H1
theorem pi_enumX {X : Cx} {e : Expr} {ta : TA} {p pos tpos : Pos} {elts : List Expr} {kk : Nat} (hg : Gl X "enumerate") (hm : X.mg "enumerate" = none) (ha : PA X [e] ta) (hs : starEach [e] X.env = [(false, eval e X.env)]) :
    PI X (.Tuple elts kk tpos) (.Call (.Name "enumerate" p) [e] [] pos) (iEnumX X.K ta) := by
  refine ⟨fun pins s σ H R I h => Call_ (ld_blt I hg hm boot_enumerate (PyProof.Rows.callWith_type1 (thn (ha.run pos pins s σ H _ I h) fun us s1 ⟨vs, H1, I1, r1, q1⟩ => ?_) hs rfl))⟩
  obtain ⟨k, a, xs, rfl, hq, q⟩ := q1
  cases r1 with
  | cons r rr =>
  cases rr
  cases r
  obtain ⟨its, rv, p'⟩ := sq_at I1 hq
  have la := p'.lt
  refine call_en (begins k a its.toArray) p' fun h' he hit hk => wpAny_pyIter_enum he ?_
  have I2 : Inv X pins σ H1 { s1 with heap := h' } := I1.kept (t' := s1.toks) hk
  refine ⟨s1.heap.objs.size + 1, [s1.heap.objs.size + 1, s1.heap.objs.size], _, _, H1, rfl, I2, turn_enumX a (s1.heap.objs.size + 1) s1.heap.objs.size (Nat.ne_of_lt (Nat.lt_of_lt_of_le la (Nat.le_add_right _ _))) (Nat.ne_of_lt la), ⟨⟨.none, he⟩, ItX.new hit, Nat.succ_ne_self _⟩, fun b hb => ?_, q⟩
  have hle : s1.heap.objs.size ≤ b := by
    simp only [List.mem_cons, List.not_mem_nil, or_false] at hb
    rcases hb with z | z <;> (rw [z]; first | exact Nat.le_add_right _ _ | exact Nat.le_refl _)
  exact I1.fpOk hle (I1.hok.fresh hle)
end MiniZ

set_option maxHeartbeats 4000000
/-! Mini, part Hot: lists walked while an exception is handled. -/
namespace MiniHot
open PySem PySem.Spec PyProof.Rows L2 HotX L2H
section
variable {prog : Program} {w : World} {A : Around} {E : Value → Shared → Prop} {s : Shared}
theorem next_list_end_hot {it l x1 : Addr} {i : Nat} {items} {Q : Option Value → Shared → Prop} (hot : HotAt A x1 s.heap) (hne : x1 ≠ it)
    (hit : s.heap.IsListIter it l i) (hl : s.heap.IsList l items) (hx : items[i]? = none)
    (hQ : ∀ h', Heap.ExtBut it s.heap h' → Q none { s with heap := h' }) : wpAny (model prog w) A (pyNext (.ref it)) Q E s := by
  obtain ⟨o, ho, hc, hd⟩ := id hit
  obtain ⟨ol, hol, _, nl, hdl⟩ := hl
  obtain ⟨hh, o1, vs1, h1, d1, c1⟩ := hot
  unfold pyNext
  refine wpAny_bind (wpAny_attempt (wpAny_callSpecial?_slot (name := Str.ofString "__next__") hit.typeIs slot_listiter_next
    (wpAny_call_entry slot_listiter_next hit.typeIs entry_listiter_next ?_ (args_listiter_next _))))
  show wpAny _ _ (field (.ref it) 0 >>= _) _ _ s
  refine wpAny_bind (wpAny_field ho hd (x := .ref l) rfl ?_)
  show wpAny _ _ (if (Value.ref l == Value.none) = true then _ else _) _ _ s
  rw [if_neg (show ¬ ((Value.ref l == Value.none) = true) from Bool.false_ne_true)]
  show wpAny _ _ (field (.ref it) 1 >>= _) _ _ s
  refine wpAny_bind (wpAny_field ho hd (x := .int i 0) rfl ?_)
  show wpAny _ _ (seqItems? (.ref l) >>= _) _ _ s
  refine wpAny_bind (wpAny_seqItems hol hdl ?_)
  simp only [Int.toNat_natCast, hx]
  refine wpAny_bind (wpAny_rule (wpAny_bind (wpAny_setField ho hd (by simp) ?_)))
  have h1' : (s.heap.update it (Obj.mapFields (·.setIfInBounds 0 Value.none))).get? x1 = some o1 := by
    rw [Heap.get?_update_other _ _ (Ne.symm hne)]; exact h1
  show wpAny _ _ (newExc (.type "StopIteration") [] >>= _) _ _ _
  refine wpAny_bind ?_
  simp only [newExc, newTuple]
  refine wpAny_bind (wpAny_newObj_type ?_ (by size_fits))
  refine wpAny_bind (m := firstArgMember _ _) (wpAny_of_eq (a := Value.none) (by first | rfl | (simp only [firstArgMember]; rfl)) ?_)
  refine wpAny_newObj_type ?_ (by size_fits)
  refine raiseNew_hot ⟨hh, o1, vs1, Heap.get?_push_of_some _ (Heap.get?_push_of_some _ h1'), d1, c1⟩ (Nat.ne_of_lt (Heap.lt_size (Heap.get?_push_of_some _ h1'))) (Heap.get?_push_size _ rfl) rfl (by first | (simp; done) | (simp; omega) | (simp only [Array.size_append]; simp; omega)) ?_
  refine wpAny_bind (wpAny_isInstance (T := "StopIteration") (b := true) ⟨_, Heap.get?_update_self _ (Heap.get?_push_size _ rfl) rfl, rfl⟩ isSubtype_stop ?_)
  refine wpAny_pure (hQ _ fun b o hb e => ?_)
  have e2 : (s.heap.update it (Obj.mapFields (·.setIfInBounds 0 Value.none))).get? b = some o := by
    rw [Heap.get?_update_other _ _ (Ne.symm hb)]; exact e
  rw [Heap.get?_update_other _ _ (Nat.ne_of_gt (Heap.lt_size (Heap.get?_push_of_some _ e2)))]
  exact Heap.get?_push_of_some _ (Heap.get?_push_of_some _ e2)
theorem next_tup_end_hot {it t x1 : Addr} {i : Nat} {items : Array Value} {Q : Option Value → Shared → Prop} (hot : HotAt A x1 s.heap) (hne : x1 ≠ it)
    (hit : s.heap.IsTupleIter it t i) (ht : s.heap.IsTuple t items) (hx : items[i]? = none)
    (hQ : ∀ h', Heap.ExtBut it s.heap h' → Q none { s with heap := h' }) : wpAny (model prog w) A (pyNext (.ref it)) Q E s := by
  obtain ⟨o, ho, hc, hd⟩ := id hit
  obtain ⟨ol, hol, _, nl, hdl⟩ := ht
  obtain ⟨hh, o1, vs1, h1, d1, c1⟩ := hot
  unfold pyNext
  refine wpAny_bind (wpAny_attempt (wpAny_callSpecial?_slot (name := Str.ofString "__next__") hit.typeIs F.slot_tuple_iterator_next
    (wpAny_call_entry F.slot_tuple_iterator_next hit.typeIs F.entry_tuple_iterator_next ?_ (F.args_tuple_iterator_next_1 _))))
  show wpAny _ _ (field (.ref it) 0 >>= _) _ _ s
  refine wpAny_bind (wpAny_field ho hd (x := .ref t) rfl ?_)
  show wpAny _ _ (if (Value.ref t == Value.none) = true then _ else _) _ _ s
  rw [if_neg (show ¬ ((Value.ref t == Value.none) = true) from Bool.false_ne_true)]
  show wpAny _ _ (field (.ref it) 1 >>= _) _ _ s
  refine wpAny_bind (wpAny_field ho hd (x := .int i 0) rfl ?_)
  show wpAny _ _ (seqItems? (.ref t) >>= _) _ _ s
  refine wpAny_bind (wpAny_seqItems hol hdl ?_)
  simp only [Int.toNat_natCast, hx]
  refine wpAny_bind (wpAny_rule (wpAny_bind (wpAny_setField ho hd (by simp) ?_)))
  have h1' : (s.heap.update it (Obj.mapFields (·.setIfInBounds 0 Value.none))).get? x1 = some o1 := by
    rw [Heap.get?_update_other _ _ (Ne.symm hne)]; exact h1
  show wpAny _ _ (newExc (.type "StopIteration") [] >>= _) _ _ _
  refine wpAny_bind ?_
  simp only [newExc, newTuple]
  refine wpAny_bind (wpAny_newObj_type ?_ (by size_fits))
  refine wpAny_bind (m := firstArgMember _ _) (wpAny_of_eq (a := Value.none) (by first | rfl | (simp only [firstArgMember]; rfl)) ?_)
  refine wpAny_newObj_type ?_ (by size_fits)
  refine raiseNew_hot ⟨hh, o1, vs1, Heap.get?_push_of_some _ (Heap.get?_push_of_some _ h1'), d1, c1⟩ (Nat.ne_of_lt (Heap.lt_size (Heap.get?_push_of_some _ h1'))) (Heap.get?_push_size _ rfl) rfl (by first | (simp; done) | (simp; omega) | (simp only [Array.size_append]; simp; omega)) ?_
  refine wpAny_bind (wpAny_isInstance (T := "StopIteration") (b := true) ⟨_, Heap.get?_update_self _ (Heap.get?_push_size _ rfl) rfl, rfl⟩ isSubtype_stop ?_)
  refine wpAny_pure (hQ _ fun b o hb e => ?_)
  have e2 : (s.heap.update it (Obj.mapFields (·.setIfInBounds 0 Value.none))).get? b = some o := by
    rw [Heap.get?_update_other _ _ (Ne.symm hb)]; exact e
  rw [Heap.get?_update_other _ _ (Nat.ne_of_gt (Heap.lt_size (Heap.get?_push_of_some _ e2)))]
  exact Heap.get?_push_of_some _ (Heap.get?_push_of_some _ e2)
theorem unpackItems_tuple_hot {t x1 : Addr} {items : Array Value} {Q : List Value → Shared → Prop} (hot : HotAt A x1 s.heap) (ht : IsTup s.heap t items)
    (hQ : ∀ h', Heap.ExtBut s.heap.objs.size s.heap h' → Q items.toList { s with heap := h' }) : wpAny (model prog w) A (unpackItems (.ref t) items.size none) Q E s := by
  have hlt : t ≠ s.heap.objs.size := by obtain ⟨o, ho, _⟩ := ht; exact Nat.ne_of_lt (Heap.lt_size ho)
  obtain ⟨hh, o1, vs1, h1, d1, c1⟩ := hot
  have hx1 : x1 ≠ s.heap.objs.size := Nat.ne_of_lt (Heap.lt_size h1)
  unfold unpackItems
  refine wpAny_bind ?_
  · unfold notIterableAtAll
    refine wpAny_bind (wpAny_specialOf ht.typeIs slot_tuple_iter.lookup ?_)
    refine wpAny_pure ?_
    simp only [Bool.false_eq_true, if_false]
    refine wpAny_bind (wpAny_holding (iter_tuple ht ?_))
    refine wpAny_bind (wpAny_holding (draw_tuple hlt items.size 0 _ _ ⟨_, Heap.get?_push_size _ rfl, rfl, rfl⟩ (ht.push _) (by omega) fun h₁ hit₁ hs₁ => ?_))
    have hall : List.take items.size (List.drop 0 items.toList) = items.toList := by
      rw [List.drop_zero]; exact List.take_of_length_le (by simp)
    rw [hall]
    rw [if_neg (by simp)]
    have ht₁ : IsTup h₁ t items := (ht.push _).extBut hs₁.extBut hlt
    have hx₁ : h₁.get? x1 = some o1 := hs₁.extBut x1 o1 hx1 (Heap.get?_push_of_some _ h1)
    refine wpAny_bind (wpAny_holding (next_tup_end_hot ⟨hh, o1, vs1, hx₁, d1, c1⟩ hx1 hit₁ ht₁ (by simp) fun h₂ he₂ => ?_))
    simp only [Option.isSome_none, Bool.false_eq_true, if_false]
    refine wpAny_pure (hQ h₂ fun b o hb e => he₂ b o hb (hs₁.extBut b o hb (Heap.get?_push_of_some _ e)))
theorem items_list_hot {l x1 : Addr} {items : Array Value} {Q : List Value → Shared → Prop} (hot : HotAt A x1 s.heap) (hl : s.heap.IsList l items)
    (hQ : ∀ h', Heap.ExtBut s.heap.objs.size s.heap h' → Q items.toList { s with heap := h' }) : wpAny (model prog w) A (unpackItems (.ref l) items.size none) Q E s := by
  obtain ⟨hh, o1, vs1, h1, d1, c1⟩ := hot
  have ne : l ≠ s.heap.objs.size := by
    obtain ⟨o, ho, _⟩ := hl
    exact Nat.ne_of_lt (Heap.lt_size ho)
  have nx : x1 ≠ s.heap.objs.size := Nat.ne_of_lt (Heap.lt_size h1)
  unfold unpackItems
  refine wpAny_bind ?_
  · unfold notIterableAtAll
    refine wpAny_bind (wpAny_specialOf hl.typeIs slot_list_iter.lookup (wpAny_pure ?_))
    simp only [Bool.false_eq_true, if_false]
    refine wpAny_bind (wpAny_holding (wpAny_pyIter_list hl (wpAny_bind (wpAny_holding (PySem.W.kun_draw ne items.size 0 _ _ ⟨_, Heap.get?_push_size _ rfl, rfl, rfl⟩ (hl.push _) (by omega) fun h₁ it₁ b₁ => ?_)))))
    have all : List.take items.size (List.drop 0 items.toList) = items.toList := by
      rw [List.drop_zero]; exact List.take_of_length_le (by simp)
    rw [all, if_neg (by simp)]
    have l₁ : h₁.IsList l items := (hl.push _).extBut b₁.extBut ne
    have x₁ : h₁.get? x1 = some o1 := b₁.extBut x1 o1 nx (Heap.get?_push_of_some _ h1)
    refine wpAny_bind (wpAny_holding (next_list_end_hot ⟨hh, o1, vs1, x₁, d1, c1⟩ nx it₁ l₁ (by simp) fun h₂ e₂ => ?_))
    simp only [Option.isSome_none, Bool.false_eq_true, if_false]
    exact wpAny_pure (hQ h₂ fun b o hb e => e₂ b o hb (b₁.extBut b o hb (Heap.get?_push_of_some _ e)))
theorem assign_Tuple_tuple_hot {env : Env} {elts : List Expr} {x0} {pos : Pos} {t x1 : Addr} {items : Array Value} {Q : Unit → Shared → Prop} (hot : HotAt A x1 s.heap) (ht : IsTup s.heap t items)
    (hn : (assignEach elts env).length = items.size) (hstar : (assignEach elts env).findIdx? (·.1) = none)
    (h : ∀ h', Heap.ExtBut s.heap.objs.size s.heap h' → wpAny (model prog w) A (assignInOrder ((assignEach elts env).map (·.2)) items.toList) Q E { s with heap := h' }) :
    wpAny (model prog w) A (assign (.Tuple elts x0 pos) env (.ref t)) Q E s := by
  rw [PyProof.Rows.assign_Tuple]
  refine wpAny_bind (wpAny_standAt ?_)
  unfold unpack
  rw [hn, hstar]
  exact wpAny_bind (wpAny_holding (unpackItems_tuple_hot hot ht h))
end
section
variable {X : Cx} {pos : Pos}
theorem HotC.at2 {pins : List (Addr × Obj)} {σ : L2.St} {H : Hp} {s : Shared} (c : HotC X) (I : Inv X pins σ H s) : ∃ x1, HotAt X.A x1 s.heap ∧ ∀ b, FpOk X pins H b → x1 ≠ b := by
  obtain ⟨p, ⟨hh, v1, e1, c1⟩, hp⟩ := c
  exact ⟨p.1, ⟨hh, p.2, v1, (I.pin p (List.mem_append_left _ hp)).1, e1, c1⟩, fun b hb => hb.2.2.2.2.2 p (List.mem_append_left _ hp)⟩
theorem pg_tupH {es : List Expr} {k : Nat} {t : TGs} {n : Nat} (hc : HotC X) (h : PGs X es t)
    (hn : (assignEach es X.env).length = n := by rfl) (hst : (assignEach es X.env).findIdx? (·.1) = none := by rfl) : PG X (.Tuple es k pos) (gTup X.K n t) := by
  refine ⟨fun pins s σ H v u Q I r hw => ?_⟩
  obtain ⟨a, xs, e1, hq, hl, hw⟩ := hw
  subst e1
  cases r
  obtain ⟨its, rv, ht, hz⟩ := I.tuple hq
  obtain ⟨x1, hot⟩ := hc.at I
  refine assign_Tuple_tuple_hot hot ht (by simp [hn, ← hl, rv.length]) hst fun h' hx => ?_
  have I1 : Inv X pins σ H { s with heap := h' } := I.kept (t' := s.toks) fun b o e => hx b o (Nat.ne_of_lt (Heap.lt_size e)) e
  exact h.run pins _ σ H xs _ Q I1 (by simpa using rv) hw
theorem pg_lstH {es : List Expr} {k : Nat} {t : TGs} {n : Nat} (hc : HotC X) (h : PGs X es t)
    (hn : (assignEach es X.env).length = n := by rfl) (hst : (assignEach es X.env).findIdx? (·.1) = none := by rfl) : PG X (.Tuple es k pos) (gLst X.K n t) := by
  refine ⟨fun pins s σ H v u Q I r hw => ?_⟩
  obtain ⟨a, xs, rfl, hq, hl, hw⟩ := hw
  cases r
  obtain ⟨its, rv, pl, hz⟩ := I.list hq
  obtain ⟨x1, hot⟩ := hc.at I
  have hsz : (assignEach es X.env).length = its.toArray.size := by simp [hn, ← hl, rv.length]
  rw [PyProof.Rows.assign_Tuple]
  refine wpAny_bind (wpAny_standAt ?_)
  unfold unpack
  rw [hsz, hst]
  refine wpAny_bind (wpAny_holding (items_list_hot hot pl.isList fun h' hx => ?_))
  have J : Inv X pins σ H { s with heap := h' } := I.kept (t' := s.toks) fun b o e => hx b o (Nat.ne_of_lt (Heap.lt_size e)) e
  exact h.run pins _ σ H xs _ Q J (by simpa using rv) hw
end
theorem turn_tupleH {P : Program} {w : World} {K : PySem.W.Frag} {tg : Expr} (a it : Addr) : TurnH P w K tg (Itt K a) [it] it (fun i h => h.IsTupleIter it a i) where
  mem := List.mem_singleton.mpr rfl
  obj := fun i h st b hb => by
    rw [List.mem_singleton.mp hb]
    obtain ⟨o, e, c, d⟩ := st
    exact ⟨o, e, fun v z => by rw [d] at z; cases z⟩
  keep := fun i h h' st k => st.at fun o e => k it (List.mem_singleton.mpr rfl) o e
  item := by
    intro X hP hw hK hc i pins s σ H E I hf st hg
    subst hP hw hK
    obtain ⟨xs, x, hq, hx⟩ := hg
    obtain ⟨its, rv, p, hz⟩ := I.tuple hq
    obtain ⟨u, hu, ru⟩ := rv.get hx
    obtain ⟨f0, f1, f2, f3, f4, f5⟩ := hf it (List.mem_singleton.mpr rfl)
    refine wpAny_pyNext_tuple_item st (show s.heap.IsTuple a its.toArray from p) (x := u) (by simpa using hu) fun h' st' sb => ?_
    have J : Inv X pins σ H { s with heap := h' } := I.turned (t' := s.toks) (fun b o hb e => (sb.2 b hb).trans e) f0 f1 f3 f4 f5
    obtain ⟨o, e, c, d⟩ := id st'
    exact ⟨u, rfl, go_of (s := { s with heap := h' }) e c d (by decide) ⟨x, H, J, ru, ⟨rfl, fun ys hy => by rw [I.tuple_inj hy hq]; exact hx⟩, st', fun b hb => (hf b hb).1⟩⟩
  done := by
    intro X hP hw hK hc i pins s σ H E I hf st hg
    subst hP hw hK
    obtain ⟨xs, hq, hx⟩ := hg
    obtain ⟨its, rv, p, hz⟩ := I.tuple hq
    obtain ⟨x1, hot, hb1⟩ := HotC.at2 hc I
    have ne := hb1 it (hf it (List.mem_singleton.mpr rfl))
    obtain ⟨f0, f1, f2, f3, f4, f5⟩ := hf it (List.mem_singleton.mpr rfl)
    have hl := rv.length
    exact next_tup_end_hot hot ne st (show s.heap.IsTuple a its.toArray from p) (by simp; omega) fun h' eb => ⟨rfl, I.turned (t' := s.toks) (fun b o hb e => eb b o hb e) f0 f1 f3 f4 f5⟩
  self := fun _ _ _ _ _ st h => wpAny_pyIter_tupleiter st h
theorem turn_listH {P : Program} {w : World} {K : PySem.W.Frag} {tg : Expr} (a it : Addr) : TurnH P w K tg (Itl K a) [it] it (fun i h => h.IsListIter it a i) where
  mem := by simp
  obj := fun i h st b hb => by
    have e : b = it := by simpa using hb
    subst e
    obtain ⟨o, e, c, d⟩ := st
    exact ⟨o, e, fun v z => by rw [d] at z; cases z⟩
  keep := fun i h h' st k => st.at fun o e => k it (by simp) o e
  item := by
    intro X hP hw hK hc i pins s σ H E I hf st hg
    subst hP hw hK
    obtain ⟨xs, x, hq, hx⟩ := hg
    obtain ⟨its, rv, p, hz⟩ := I.list hq
    obtain ⟨u, hu, ru⟩ := rv.get hx
    obtain ⟨f0, f1, f2, f3, f4, f5⟩ := hf it (by simp)
    refine wpAny_pyNext_list_item st p.isList (x := u) (by simpa using hu) fun h' st' sb => ?_
    have I1 : Inv X pins σ H { s with heap := h' } := I.turned (t' := s.toks) (fun b o hb e => (sb.2 b hb).trans e) f0 f1 f3 f4 f5
    obtain ⟨o, e, c, d⟩ := id st'
    exact ⟨u, rfl, go_of (s := { s with heap := h' }) e c d (by decide) ⟨x, H, I1, ru, ⟨rfl, fun ys hy => by rw [I.list_inj hy hq]; exact hx⟩, st', fun b hb => (hf b hb).1⟩⟩
  done := by
    intro X hP hw hK hc i pins s σ H E I hf st hg
    subst hP hw hK
    obtain ⟨xs, hq, hx⟩ := hg
    obtain ⟨its, rv, p, hz⟩ := I.list hq
    obtain ⟨x1, hot, hb1⟩ := HotC.at2 hc I
    have hne := hb1 it (hf it (by simp))
    obtain ⟨f0, f1, f2, f3, f4, f5⟩ := hf it (by simp)
    have hl := rv.length
    exact next_list_end_hot hot hne st p.isList (by simp; omega) fun h' eb => ⟨rfl, I.turned (t' := s.toks) (fun b o hb e => eb b o hb e) f0 f1 f3 f4 f5⟩
  self := fun _ _ _ _ _ st h => wpAny_pyIter_listiter st h
section
variable {X : Cx} {tg : Expr}
theorem pi_listH {l : Expr} {tl : TE} (hl : PE X l tl) : PIH X tg l (iList X.K tl) := by
  refine ⟨fun pins s σ H R I h => ?_⟩
  refine thn (hl.run pins s σ H _ I h) fun v s1 ⟨x, H1, I1, r1, q1⟩ => ?_
  obtain ⟨a, e, ⟨xs, hq⟩, q⟩ := q1
  subst e
  cases r1
  obtain ⟨its, rv, p, hz⟩ := I1.list hq
  refine wpAny_pyIter_list p.isList ?_
  refine ⟨s1.heap.objs.size, [s1.heap.objs.size], _, _, H1, rfl, I1.kept (t' := s1.toks) fun b o e => Heap.get?_push_of_some _ e, turn_listH a _, ⟨_, Heap.get?_push_size _ rfl, rfl, rfl⟩, fun b hb => ?_, q⟩
  have e : b = s1.heap.objs.size := by simpa using hb
  subst e
  exact I1.fpOk (Nat.le_refl _) (I1.hok.fresh (Nat.le_refl _))
theorem pi_tupH {l : Expr} {tl : TE} (hl : PE X l tl) : PIH X tg l (iTup X.K tl) := by
  refine ⟨fun pins s σ H R I h => ?_⟩
  refine thn (hl.run pins s σ H _ I h) fun v s1 ⟨x, H1, I1, r1, a, e, ⟨xs, hq⟩, q⟩ => ?_
  subst e
  cases r1
  obtain ⟨its, rv, p, hz⟩ := I1.tuple hq
  refine wpAny_pyIter_tuple (show s1.heap.IsTuple a its.toArray from p) ?_
  refine ⟨s1.heap.objs.size, [s1.heap.objs.size], _, _, H1, rfl, I1.kept (t' := s1.toks) fun b o e => Heap.get?_push_of_some _ e, turn_tupleH a _, ⟨_, Heap.get?_push_size _ rfl, rfl, rfl⟩, fun b hb => ?_, q⟩
  rw [List.mem_singleton.mp hb]
  exact I1.fpOk (Nat.le_refl _) (I1.hok.fresh (Nat.le_refl _))
/-- the block's context, the handled exception kept in sight -/
abbrev blkH (X : Cx) (p : Addr × Obj) (s : Shared) (H : Hp) (scope : Scope) (cenv : Env) (fp : List Addr) : Cx := { X.blk s H scope cenv fp with pn := [p] }
theorem blkH_start {pins : List (Addr × Obj)} {σ : L2.St} {H : Hp} {s : Shared} {p : Addr × Obj} {scope : Scope} {own : List (Str × Nat)} {fp : List Addr} (I : Inv X pins σ H s) (hp : p ∈ X.pn) (ok : BlkOk X.N X.env.scope scope own) (hN : X.N.Nodup) (hfp : ∀ b ∈ fp, FpOk X pins H b ∧ b < s.heap.objs.size) :
    Inv (blkH X p s H scope (compEnvC scope (cellsFrom (s.heap.objs.size + 1) scope.names (cloFrom X.env.cells scope.names [])) s.heap.objs.size X.env) fp) [] (wipe σ (own.map (·.2))) H { s with heap := pushCells (s.heap.push { cls := .type "dict", data := .dict #[] }) scope.names } := by
  have J := block_start I ok hN hfp
  obtain ⟨e1, e2, e3, e4, e5⟩ := I.pin p (List.mem_append_left _ hp)
  have hlt := Heap.lt_size e1
  obtain ⟨a1, a2, a3, a4, a5, a6, a7, a8, a9, a10, a11⟩ := J
  refine ⟨?_, a2, a3, a4, a5, a6, a7, a8, fun q hq => ?_, a10, a11⟩
  · obtain ⟨b1, b2, b3, b4, b5, b6, b7, b8, b9, b10, b11, b12, b13, b14, b15, b16, b17, b18⟩ := a1
    exact ⟨b1, b2, b3, b4, b5, b6, b7, b8, b9, b10, b11, b12, b13, b14, b15, b16, b17, b18⟩
  · have eq : q = p := by simpa using (show q ∈ [p] ++ ([] : List (Addr × Obj)) from hq)
    rw [eq]
    exact ⟨pushCells_keeps _ _ _ _ (Heap.get?_push_of_some _ e1), e2, Nat.ne_of_lt hlt, fun m => (List.mem_cons.mp (I.stkSub _ m)).elim e3 e4, e5⟩
/-- the loop of the comprehension's block, the handled exception in sight: s3 is the state behind the making of the new list D -/
theorem lc_loop {pins : List (Addr × Obj)} {s3 s4 : Shared} {σ : L2.St} {H3 : Hp} {Q : VK} {elt tgt iter : Expr} {ifs : List Expr} {scope : Scope} {own : List Nat} {pos : Pos} {g : TG} {tt : TT} {te : TE} {R : Result → Shared → Prop} {p : Addr × Obj} {it D : Addr} {fp : List Addr} {tn : Nat → Heap → Prop} {J : It} {ce : Env} {W : Nat → Nat → Hp → Prop} {m0 : Nat}
    (hot : Hot1 X.A p) (I3 : Inv X pins σ H3 s3) (I4 : Inv (blkH X p s3 H3 scope ce fp) [] (wipe σ own) H3 s4) (T : TurnH X.prog X.w X.K tgt J fp it tn) (st4 : tn 0 s4.heap) (f3 : ∀ b ∈ fp, FpOk X pins H3 b) (hp3 : ∀ b ∈ fp, p.1 ≠ b) (cL : ce.locals = s3.heap.objs.size)
    (pg : PG (blkH X p s3 H3 scope ce fp) tgt g) (pt : PTs (blkH X p s3 H3 scope ce fp) ifs tt) (pe : PE (blkH X p s3 H3 scope ce fp) elt te) (w0 : W 0 m0 H3)
    (turn : ∀ i m H, W i m H → (J.stop i H ∧ Q (.ref D) H) ∨ (J.go i H ∧ ∃ Nx : Hp → Prop, (∀ H', Nx H' → ∃ m', m' < m ∧ W (i + 1) m' H') ∧ ∀ x H', J.yld i H x H' → g x (wipe σ own) H' fun σ2 H2 => wipe σ2 own = wipe σ own ∧ tt σ2 H2 fun b H3 =>
      if b = true then te σ2 H3 fun y H4 => ∃ acc, H4 D = some (.lst acc) ∧ acc.length < sizeLine ∧ Nx (upd H4 D (.lst (acc ++ [y]))) else Nx H3))
    (fin : ∀ s' m H', Inv X pins σ H' s' → Q (.ref D) H' → s'.heap.Ns s3.heap.objs.size m → FpOk X pins H' s3.heap.objs.size → R (.ok .next) s') :
    codeAny (model X.prog X.w) X.A (.compLoop (.ListComp elt [⟨tgt, iter, ifs, 0⟩] scope pos) 0 (.ref it) (.ref D) ce) R s4 := by
  have hc : HotC (blkH X p s3 H3 scope ce fp) := ⟨p, hot, List.mem_singleton.mpr rfl⟩
  -- the iterator's objects, in the block
  have stat : ∀ {σ' : L2.St} {H' : Hp} {s' : Shared}, Inv (blkH X p s3 H3 scope ce fp) [] σ' H' s' → (∀ b ∈ fp, H' b = none) → ∀ b ∈ fp, FpOk (blkH X p s3 H3 scope ce fp) [] H' b := fun {σ' H' s'} K hn b hb => by
    refine ⟨hn b hb, (K.ok.exf b hb).1, K.ok.exfs b hb, .inl hb, (K.ok.exf b hb).2, fun q hq => ?_⟩
    have eq : q = p := by simpa using (show q ∈ [p] ++ ([] : List (Addr × Obj)) from hq)
    rw [eq]
    exact hp3 b hb
  refine compLoop_any (fun n s' => ∃ i H', Inv (blkH X p s3 H3 scope ce fp) [] (wipe σ own) H' s' ∧ tn i s'.heap ∧ (∀ b ∈ fp, H' b = none) ∧ W i n H') ?_ m0 ⟨0, H3, I4, st4, fun b hb => (f3 b hb).1, w0⟩
  rintro n s5 ⟨i, H5, I5, st5, n5, w5⟩
  rcases turn i n H5 w5 with ⟨stop, qq⟩ | ⟨go, Nx, hNx, step⟩
  · refine thnF (T.done (blkH X p s3 H3 scope ce fp) rfl rfl rfl hc i [] s5 _ H5 (fun _ _ => False) I5 (stat I5 n5) st5 stop) fun r s6 ⟨hr, I6⟩ => ?_
    subst hr
    have I7 : Inv X pins σ H5 s6 := I3.call' (ch := fp) I6.os I6.base I6.hok I6.bare fun b hb => ⟨(f3 b hb).2.2.2.1, (f3 b hb).2.1, (f3 b hb).2.2.2.2.1, (f3 b hb).2.2.2.2.2⟩
    have nC : H5 s3.heap.objs.size = none := by
      rw [← cL]
      exact I6.free
    obtain ⟨m, hn, _⟩ := I6.loc
    exact fin s6 m H5 I7 qq (by rw [← cL]; exact hn) (I3.fpOk (Nat.le_refl _) nC)
  · refine thnF (T.item (blkH X p s3 H3 scope ce fp) rfl rfl rfl hc i [] s5 _ H5 (fun _ _ => False) I5 (stat I5 n5) st5 go) fun r s6 ⟨u, hr, h6⟩ => ?_
    subst hr
    refine thnF h6 fun _ s7 ⟨x, H7, I7, r7, y7, st7, n7⟩ => ?_
    refine thnF (pg.run _ s7 _ H7 x u _ (I7.pinned (stat I7 n7) (T.obj _ _ st7)) r7 (step x H7 y7)) fun _ s8 ⟨σ8, H8, I8, hw8, q8⟩ => ?_
    refine thnF (pt.run _ s8 σ8 H8 _ I8 q8) fun b s9 ⟨H9, I9, q9⟩ => ?_
    have again : ∀ {s' : Shared} {H' : Hp}, Inv (blkH X p s3 H3 scope ce fp) ([] ++ pinsAt fp s7.heap) σ8 H' s' → Nx H' → ∃ m, m < n ∧ ∃ i H', Inv (blkH X p s3 H3 scope ce fp) [] (wipe σ own) H' s' ∧ tn i s'.heap ∧ (∀ b ∈ fp, H' b = none) ∧ W i m H' := fun {s' H'} K nx => by
      obtain ⟨m', hm, w'⟩ := hNx H' nx
      have same : ∀ b ∈ fp, ∀ o, s7.heap.get? b = some o → s'.heap.get? b = some o ∧ H' b = none := fun b hb o e =>
        have z := K.pin (b, o) (List.mem_append_right _ (List.mem_append_right _ (mem_pinsAt hb e)))
        ⟨z.1, z.2.1⟩
      refine ⟨m', hm, i + 1, H', (K.unpinned (pins := [])).weak (by rw [← hw8, wipe_length]) (fun j v e => ?_), T.keep _ _ _ st7 fun b hb o e => (same b hb o e).1, fun b hb => ?_, w'⟩
      · rw [← hw8] at e
        exact (wipe_some e).1
      · obtain ⟨o, e, _⟩ := T.obj _ _ st7 b hb
        exact (same b hb o e).2
    cases b with
    | false =>
      simp only [Bool.false_eq_true, if_false] at q9 ⊢
      exact again I9 q9
    | true =>
      simp only [if_true] at q9 ⊢
      refine thnF (pe.run _ s9 σ8 H9 _ I9 q9) fun z s10 ⟨yv, H10, I10, r10, acc, hD10, hz10, nx⟩ => ?_
      exact app_ok (X := blkH X p s3 H3 scope ce fp) I10 hD10 hz10 r10 fun s11 I11 => again I11 nx
/-- a list comprehension within an except suite; what follows is told of the state behind it -/
theorem lc_hot {pins : List (Addr × Obj)} {s : Shared} {σ : L2.St} {H : Hp} {Q : VK} {elt tgt iter : Expr} {ifs : List Expr} {scope : Scope} {own : List (Str × Nat)} {pos pos' : Pos} {wi : TI} {g : TG} {tt : TT} {te : TE} {use : Option (Value → Sem Unit)} {Qf : Value → Shared → Prop} {p : Addr × Obj}
    (hot : Hot1 X.A p) (hp : p ∈ X.pn) (hN : X.N.Nodup) (I : Inv X pins σ H s) (hi : PIH X tgt iter wi) (ok : BlkOk X.N X.env.scope scope own)
    (parts : ∀ (s : Shared) (H : Hp) (C : Addr) (cl : List (Str × Addr)) (fp : List Addr), PG (blkH X p s H scope (compEnvC scope cl C X.env) fp) tgt g ∧ PTs (blkH X p s H scope (compEnvC scope cl C X.env) fp) ifs tt ∧ PE (blkH X p s H scope (compEnvC scope cl C X.env) fp) elt te)
    (hs : ∀ x, foldedSetIterable iter X.env x = pure x) (h : tLc wi g tt te (own.map (·.2)) σ H Q)
    (fin : ∀ D C s' m H', Inv X pins σ H' s' → Q (.ref D) H' → s'.heap.Ns C m → FpOk X pins H' C → compPost (model X.prog X.w) X.A X.xe use Qf (.ref D) C (.ok .next) s') :
    wpAny (model X.prog X.w) X.A (comprehension (.ListComp elt [⟨tgt, iter, ifs, 0⟩] scope pos) scope X.env pos' (newList []) false (eval iter X.env) use) Qf X.xe s := by
  have has : ∀ y ∈ scope.names, y.2 = .free → ∃ c, X.env.cells.lookup y.1 = some c := fun y hy e => (ok.free y hy e).elim (fun k => I.ok.has _ (.inl k)) fun k => I.ok.has _ (.inr k)
  refine wpAny_comprehension_free (use := use) rfl hs (closure_ok has) ok.kind (fun y hy e => by rw [ok.uniq y hy, e]) (thn (hi.run pins s σ H _ I h) fun xv s1 hx => thn hx fun itv s2 h2 => ?_)
  obtain ⟨it, fp, tn, J, H2, e0, I2, T, st2, f2, q⟩ := h2
  subst e0
  refine wpAny_newObj_type (newEnv_comp ?_) (by show 0 ≤ sizeLine; decide)
  have hDn : H2 s2.heap.objs.size = none := I2.hok.fresh (Nat.le_refl _)
  obtain ⟨W, ⟨m0, w0⟩, turn⟩ := q _ hDn
  have sz : ∀ b ∈ fp, b < s2.heap.objs.size := fun b hb => by
    obtain ⟨o, e, _⟩ := T.obj _ _ st2 b hb
    exact Heap.lt_size e
  generalize hs3 : ({ s2 with heap := s2.heap.push { cls := .type "list", data := .seq ([] : List Value).toArray } } : Shared) = s3
  have get3 : ∀ b o, s2.heap.get? b = some o → s3.heap.get? b = some o := fun b o e => by
    rw [← hs3]; exact Heap.get?_push_of_some _ e
  have I3 : Inv X pins σ (upd H2 s2.heap.objs.size (.lst [])) s3 := by
    rw [← hs3]
    exact I2.laid (t' := s2.toks) (fun b o e => Heap.get?_push_of_some _ e) (Nat.le_refl _) ⟨Nat.zero_le _, [], 0, .nil, Heap.get?_push_size _ rfl⟩
  have f3 : ∀ b ∈ fp, FpOk X pins (upd H2 s2.heap.objs.size (.lst [])) b ∧ b < s3.heap.objs.size := fun b hb => by
    obtain ⟨o, e, _⟩ := T.obj _ _ st2 b hb
    refine ⟨⟨?_, (f2 b hb).2⟩, Heap.lt_size (get3 b o e)⟩
    rw [upd_ne (Nat.ne_of_lt (sz b hb))]
    exact (f2 b hb).1
  have I4 := blkH_start I3 hp ok hN f3
  obtain ⟨pg, pt, pe⟩ := parts s3 (upd H2 s2.heap.objs.size (.lst [])) s3.heap.objs.size (cellsFrom (s3.heap.objs.size + 1) scope.names (cloFrom X.env.cells scope.names [])) fp
  have st3 : tn 0 s3.heap := T.keep _ _ _ st2 fun b _ o e => get3 b o e
  have st4 : tn 0 ({ s3 with heap := pushCells (s3.heap.push { cls := .type "dict", data := .dict #[] }) scope.names } : Shared).heap := T.keep _ _ _ st3 fun b _ o e => pushCells_keeps _ _ _ _ (Heap.get?_push_of_some _ e)
  have loop := lc_loop (Q := Q) (iter := iter) (pos := pos) (R := compPost (model X.prog X.w) X.A X.xe use Qf (.ref s2.heap.objs.size) s3.heap.objs.size) hot I3 I4 T st4 (fun b hb => (f3 b hb).1) (fun b hb => (f2 b hb).2.2.2.2.2 p (List.mem_append_left _ hp)) rfl pg pt pe w0 turn (fun s' m H' a b c d => fin _ _ s' m H' a b c d)
  exact codeAny_compStart_list loop (T.self X.A 0 _ _ _ st4 loop)
/-- as a value -/
theorem pe_lcH {elt tgt iter : Expr} {ifs : List Expr} {scope : Scope} {own : List (Str × Nat)} {pos : Pos} {wi : TI} {g : TG} {tt : TT} {te : TE} {p : Addr × Obj} (hot : Hot1 X.A p) (hp : p ∈ X.pn) (hN : X.N.Nodup) (hi : PIH X tgt iter wi) (ok : BlkOk X.N X.env.scope scope own)
    (parts : ∀ (s : Shared) (H : Hp) (C : Addr) (cl : List (Str × Addr)) (fp : List Addr), PG (blkH X p s H scope (compEnvC scope cl C X.env) fp) tgt g ∧ PTs (blkH X p s H scope (compEnvC scope cl C X.env) fp) ifs tt ∧ PE (blkH X p s H scope (compEnvC scope cl C X.env) fp) elt te)
    (hs : ∀ x, foldedSetIterable iter X.env x = pure x) : PE X (.ListComp elt [⟨tgt, iter, ifs, 0⟩] scope pos) (tLc wi g tt te (own.map (·.2))) := by
  refine ⟨fun pins s σ H Q I h => ?_⟩
  rw [eval_ListComp]
  refine lc_hot hot hp hN I hi ok parts hs h fun D C s' m H' I' q hn ⟨f0, f1, f2, f3, f4, f5⟩ => ⟨m, hn, fun h'' sb => ?_⟩
  exact ⟨.ref D, H', I'.turned (t' := s'.toks) (fun b o hb e => (sb.2 b hb).trans e) f0 f1 f3 f4 f5, rfl, q⟩
/-- name = [..] on one line, the name a local -/
theorem ps_setLcH {i : Nat} {y : Str} {py : Pos} {elt tgt iter : Expr} {ifs : List Expr} {scope : Scope} {own : List (Str × Nat)} {pos spos : Pos} {wi : TI} {g : TG} {tt : TT} {te : TE} {p : Addr × Obj} (hot : Hot1 X.A p) (hp : p ∈ X.pn) (hN : X.N.Nodup) (hy : X.N[i]? = some y) (hyl : X.env.scope.names.lookup y = some .local)
    (hsw : swapsWith (.ListComp elt [⟨tgt, iter, ifs, 0⟩] scope pos) (some (.Name y py)) spos.line X.env = pure true) (hi : PIH X tgt iter wi) (ok : BlkOk X.N X.env.scope scope own)
    (parts : ∀ (s : Shared) (H : Hp) (C : Addr) (cl : List (Str × Addr)) (fp : List Addr), PG (blkH X p s H scope (compEnvC scope cl C X.env) fp) tgt g ∧ PTs (blkH X p s H scope (compEnvC scope cl C X.env) fp) ifs tt ∧ PE (blkH X p s H scope (compEnvC scope cl C X.env) fp) elt te)
    (hs : ∀ x, foldedSetIterable iter X.env x = pure x) : PS X (.Assign [.Name y py] (.ListComp elt [⟨tgt, iter, ifs, 0⟩] scope pos) spos) (tAsg (tLc wi g tt te (own.map (·.2))) (gName i)) := by
  refine ⟨fun pins s σ H D I h => ?_⟩
  rw [exec_Assign_Name_used _ _ _ _ hsw]
  refine wpAny_bind (wpAny_standAt (wpAny_bind ?_))
  have h : tLc wi g tt te (own.map (·.2)) σ H (fun x H1 => gName i x σ H1 D.nx) := h
  refine wpAny_bind (thn (lc_hot (use := some (assign (.Name y py) X.env)) (pos' := firstIterPos [⟨tgt, iter, ifs, 0⟩] pos) (Qf := fun _ s' => SP X pins D .next s') hot hp hN I hi ok parts hs h fun L C s' m H' I' q hn ⟨f0, f1, f2, f3, f4, f5⟩ => ?_) fun _ s' hq => wpAny_pure (wpAny_pure hq))
  refine wpAny_assign_Name (store_ok2 (v := V.ref L) I' hN hy (.inl hyl) rfl (fun s2 I2 ⟨a, sb, ha⟩ => ?_) (.inr hyl))
  have ne : C ≠ a := ha.elim (fun z => by rw [z]; exact f1) fun z e => f4 y a z e.symm
  exact ⟨m, hn.sameBut sb ne, fun h3 sb3 => ⟨_, H', I2.turned (t' := s2.toks) (fun b o hb e => (sb3.2 b hb).trans e) f0 f1 f3 f4 f5, q⟩⟩
end
end MiniHot

set_option maxHeartbeats 4000000
/-! Mini, part Y: isinstance of a caught exception that has a dict. -/
namespace MiniY
open PySem PySem.Spec PyProof.Rows PySem.W L2
section
variable {prog : Program} {w : World} {A : Around} {E : Value → Shared → Prop} {s : Shared} {K : Frag} {x D : Addr} {ox : Obj} {od : Option Obj}
theorem find_own {name : Str} {a g : Value} (hc : (clsIn K D).isSome = true) (ha : findIn K (.ref D) name = some (some a)) (hg : specialIn K a "__get__" = some (some g)) (ht : takesIn K a = some true) :
    findObj K D od name = some (.bind g a) := by
  obtain ⟨cd, e⟩ := Option.isSome_iff_exists.mp hc
  unfold findObj
  rw [e, Option.bind_some, ha, Option.bind_some]
  simp [hg, ht]
theorem class_of {Q : Option Value → Shared → Prop} (C : ExcC K D) (X : K.In s.heap) (I : InstAt s.heap x ox D od) (h : Q (some (.ref D)) { s with toks := s.toks + 1 }) :
    wpAny (model prog w) A (getAttr? (.ref x) "__class__") Q E s := by
  have f0 : findObj K D od "__class__" = some (.bind (.builtin "getset_descriptor.__get__") (.builtin "object.__class__")) := find_own (by obtain ⟨cd, e, _⟩ := any_some C.hd; rw [e] <;> rfl) C.ha C.hn C.ht
  obtain ⟨hp, g, d, t, os⟩ := s
  have T0 := I.type (M := model prog w)
  have T1 := looks_findIn (M := model prog w) X C.hg
  have T2 := looks_findIn (M := model prog w) X C.hk
  have T3 := looks_find (M := model prog w) X I f0
  have isX : Looks (model prog w) hp (isInstance (.ref x) (.type "BaseException")) true := T0.andThen (looks_subIn X C.hs)
  have n2 : (Value.builtin "BaseException.__getattribute__" == Value.builtin "object.__getattribute__") = false := by decide +kernel
  have n1 : (onTheHeap (Value.ref D) && Value.builtin "BaseException.__getattribute__" == Value.builtin "object.__getattribute__") = false := (by rw [n2]; rfl)
  unfold getAttr? getAttrBy? getAttrBy
  refine wpAny_bind (wpAny_mkText (wpAny_bind (wpAny_attempt (wpAny_holding (wpAny_bind (T0.at (wpAny_bind (T1.at ?c0))))))))
  case c0 =>
  show wpAny _ A (if (onTheHeap (Value.ref D) && Value.builtin "BaseException.__getattribute__" == Value.builtin "object.__getattribute__") = true then _ else _) _ _ _
  rw [n1, if_neg Bool.false_ne_true]
  unfold getAttrByItsOwn hookBefore
  refine wpAny_bind ?c1
  rw [if_pos (show onTheHeap (Value.ref D) = true from rfl)]
  refine T2.at (wpAny_bind (wpAny_attempt (wpAny_holding ?c2)))
  unfold callGetattribute
  rw [show (false && onTheHeap (Value.builtin "BaseException.__getattribute__")) = false from rfl, if_neg Bool.false_ne_true]
  unfold boundAndCalled
  rw [PySem.F.excAttr_ValueError.ga.bind (.ref x)]
  refine wpAny_bind (wpAny_pure (show wpAny _ A (call (.builtin "BaseException.__getattribute__") [.ref x, .str "__class__" t]) _ _ _ from ?c3))
  refine wpAny_call (codeAny_call_builtin PySem.F.excAttr_ValueError.ga.plain PySem.F.entry_bexc_ga
    (@check_slot (model prog w) _ _ ⟨hp, g, d, t + 1, os⟩ "BaseException.__getattribute__" "BaseException" "__getattribute__" (.ref x) [.str "__class__" t] [] _ (by decide +kernel) (by decide +kernel) isX (PySem.F.args_bexc_ga (.ref x) (.str "__class__" t)) ?c4))
  unfold Builtin.«object.__getattribute__»
  refine wpAny_bind (wpAny_of_eq (a := ((Value.ref x : Value), [Value.str "__class__" t])) (by first | rfl | (simp only [slotArgs]; rfl)) (wpAny_bind (wpAny_pure (wpAny_bind (T0.at (wpAny_bind (T3.at ?c5)))))))
  show wpAny _ _ (holding [Value.builtin "object.__class__"] (call (.builtin "getset_descriptor.__get__") [.builtin "object.__class__", .ref x, .ref D]) >>= ret) _ _ ⟨hp, g, d, t + 1, os⟩
  refine wpAny_bind (wpAny_holding (wpAny_call (class_get (s := ⟨hp, g, d, t + 1, os⟩) (ox := ox) (od := od) X I C.hm (wpAny_pure ?c6))))
  show wpAny _ _ (handedOut (.ref D)) _ _ ⟨hp, g, d, t + 1, os⟩
  rw [handedOut_of (v := .ref D) rfl]
  first
    | exact wpAny_pure (wpAny_pure h)
    | exact wpAny_pure h
    | exact wpAny_pure (wpAny_bind (wpAny_pure (wpAny_pure h)))
theorem type_of {M : Model} {h : Heap} (C : ExcC K D) (X : K.In h) : Looks M h (isType (.ref D)) true := by
  obtain ⟨cd, e, _⟩ := any_some C.hd
  unfold clsIn at e
  split at e
  · rename_i o1 o2 o3 o4 ho
    intro A1 Q1 E1 s1 kp q1; unfold isType loadHead
    exact wpAny_bind (wpAny_loadPart (kp _ _ (X _ _ ho)) (wpAny_pure q1))
  · cases e
theorem kit_exc (C : ExcC K D) : KitX K (.ref x) (.ref D) (fun h => InstAt h x ox D od) :=
  let Z : KitX K (.ref x) (.ref D) (fun h => InstAt h x ox D none) := handS_kitx_exc C.hg C.hk C.hs C.hd C.ha C.hn C.ht C.hm
  ⟨fun _ _ _ I => I.type, fun M h X _ => type_of C X, fun h tp dd its n sl X htp => Z.ne h tp dd its n sl X htp, fun X I k => class_of C X I k⟩
end
end MiniY

set_option maxHeartbeats 4000000
/-! Mini, part E: expressions. -/
namespace Mini
open PySem PySem.Spec PyProof.Rows L2 LamX

/-- an exception class of the text -/
structure ExF (K : PySem.W.Frag) (mg : Str → Option Value) (c : Str) (C : Addr) : Prop where
  gl : mg c = some (.ref C)
  ex : PySem.W.excIn K C [.type "ValueError", .type "Exception", .type "BaseException", .type "object"] "ValueError.__new__" = true
  kp : PySem.W.keepIn K (.ref C) = true
  sb : PySem.W.subIn K (.ref C) (.type "BaseException") = some true
  ty : PySem.W.typeIn K (.ref C) = some (.type "type")
/-- what the module holds -/
structure MF (S : Sg) (G : En) (K : PySem.W.Frag) (mg : Str → Option Value) : Prop where
  fr : ∀ x ∈ S.fr, mg x = none
  mb : ∀ p ∈ S.mb, mg p.1 = some (.builtin p.2)
  gi : ∀ p ∈ S.gi, ∃ t, mg p.1 = some (.int p.2 t)
  exs : G.exs = S.xs
  ex : ∀ c ∈ S.exs, ExF K mg c (G.ca c)
  gl : ∀ c ∈ S.xs, mg c = some (.ref (G.ca c))
  exc : ∀ c ∈ S.xs, ExcC K (G.ca c)
  exq : ∀ c ∈ S.xs, PySem.W.exmOne K (.ref (G.ca c)) (.ref (G.ca S.q)) = some true
  mq : mg S.q = some (.ref (G.ca S.q))
  nol : ∀ c ∈ S.xs, PySem.W.findIn K (.ref (G.ca c)) "limit" = some none
  fld : ∀ c ∈ S.xs, G.fld c = "limit"
  kit : ∀ c ∈ S.xs, ∀ t ∈ S.xs, PySem.W.kitOne K (.ref (G.ca c)) (.ref (G.ca t)) = some (c == t)
  al : ∀ p ∈ S.al, (∃ d, S.Ds[p.2]? = some (.std d)) → mg p.1 = some (.ref (G.ad p.2))
  dfn : ∀ j, G.dfn j → ∃ d, S.Ds[j]? = some (.std d)
  fnd : ∀ (j : Nat) (d : DefS), S.Ds[j]? = some (.std d) → G.dfn j
  df : ∀ (j : Nat) (d : DefS), S.Ds[j]? = some (.std d) → mg d.name = some (.ref (G.ad j)) ∧ PySem.W.keepIn K (.ref (G.ad j)) = true
/-- a def's promise -/
def spD (K : PySem.W.Frag) (G : En) (f : List U → Mem → R U) (np : Nat) : Sp := fun vs H Q E =>
  ∃ us μ α β, HR K G μ α β H ∧ VRs K G α β H us vs ∧ us.length = np ∧ PostV K G β (fun cls d _ H' => E cls d H') (f us μ) α H Q
structure FF (S : Sg) (G : En) (P : Program) (w : World) (K : PySem.W.Frag) (mg : Str → Option Value) (base : Heap) (k : Nat) : Prop where
  fn : ∀ (j : Nat) (d : DefS), S.Ds[j]? = some (.std d) → ∃ fd, FnOk P w K mg base (L2N.CX P w) (3 * k) (G.ad j) fd (d.N.take d.np) (spD K G (callD S.Ds k j) d.np) ∧ Binds K fd (d.N.take d.np) []
  lim : ∀ c ∈ S.lims, MiniW.LimF P K mg c (G.ca c)
/-- the context of the exception that is handled -/
structure HotF (S : Sg) (G : En) (C : Orc) (X : Cx) (p : Addr × Obj) (c : Exn) : Prop where
  ea : G.ea = some p.1
  pn : p ∈ X.pn
  hot : L2H.Hot1 X.A p
  orc : C = noOrc (some c)
  cls : c.cls ∈ S.xs
  zc : ∃ d', Zc (.ref (G.ca c.cls)) d' p.2 ∧ (c.lim = none → d' = none) ∧ ∀ n, c.lim = some n → ∃ dd, d' = some dd ∧ G.el = some (dd, G.fld c.cls, n)
  fld : ∃ vs, p.2.data = .fields vs
def withE (G : En) (a : Addr) (el : Option (Addr × Str × Int)) : En := { G with ea := some a, el := el }
/-- the dict of the exception that is handled, with its limit -/
def elOf (G : En) (c : Exn) (dd : Option Addr) : Option (Addr × Str × Int) := match c.lim, dd with
  | some n, some d => some (d, G.fld c.cls, n)
  | _, _ => none
abbrev WF : WX := fun _ _ _ _ => False
/-! what statements make -/
def FS (K : PySem.W.Frag) (G : En) (β : List Addr) (D : Ends) (f : Fl) (α : List Addr) (H : Hp) : Prop := match f with
  | .next ρ => ∀ σ, SR K G α β H ρ σ → D.nx σ H
  | .ret u => ∀ v, VR K G α β H u v → D.rt v H
  | .brk ρ => ∀ σ, SR K G α β H ρ σ → D.bk σ H
  | .cont ρ => ∀ σ, SR K G α β H ρ σ → D.ct σ H
abbrev PostS (K : PySem.W.Frag) (G : En) (β : List Addr) (W : WX) (r : R Fl) (α : List Addr) (H : Hp) (D : Ends) : Prop := PostG K G β W r α H (fun f _ α' H' => FS K G β D f α' H')
def tS (K : PySem.W.Frag) (G : En) (W : WX) (d : Slots → Mem → R Fl) : TS := fun D σ H =>
  ∃ ρ μ α β, SR K G α β H ρ σ ∧ HR K G μ α β H ∧ PostS K G β W (d ρ μ) α H D
/-- the suite of a def that catches says what the small language says -/
def SuS (S : Sg) (G : En) (K : PySem.W.Frag) (mg : Str → Option Value) (base : Heap) (P : Program) (w : World) (d : DefX) (sc : Scope) (ad : Addr) (suite : List Stmt) : Prop :=
  ∀ (cdv : Value) (A : Around) (outer : List Env) (s : Shared) (H : Hp) (a : Addr) (oe : Obj) (cls : Value) (dd : Option Addr) (pn : List (Addr × Obj)) (c : Exn), A.units + 3 + 65 < cLine → L2N.Zn cls dd oe → (∃ vs, oe.data = .fields vs) →
    c.cls ∈ S.xs → cls = .ref (G.ca c.cls) → (c.lim = none → dd = none) → (∀ n, c.lim = some n → ∃ d', dd = some d') →
    PSs ((cxOf C8.CX0 P w K mg base d.N d.name sc ad cdv A outer s H C8.E0).nox.suite a ((a, oe) :: pn)) suite (tS K (withE G a (elOf G c dd)) WF (denSs (noOrc (some c)) d.suite))
/-- a def that catches -/
structure ErF (S : Sg) (G : En) (K : PySem.W.Frag) (mg : Str → Option Value) (base : Heap) (P : Program) (w : World) (j : Nat) (d : DefX) : Prop where
  gl : mg d.name = some (.ref (G.ad j))
  kp : PySem.W.keepIn K (.ref (G.ad j)) = true
  ei : 1 ≤ d.ei
  fd : ∃ (params : Arguments) (sc : Scope) (fd : FuncData) (a e : Str) (b0 : Stmt) (suite : List Stmt) (p1 p2 p3 p4 p5 p6 p7 p8 : Pos) (kk : Nat),
    FunD K d.name d.name params [.Try [.Expr (.Call (.Name a p1) [] [] p2) p3] [.ExceptHandler (some (.Name S.q p4)) (some e) (b0 :: suite) p5] [] [] p6, .Return (some (.Constant (.str d.rest) kk p7)) p8] sc [] [] (G.ad j) fd ∧
      Binds K fd [a] [] ∧ FnScope d.N [a] sc ∧ d.N[0]? = some a ∧ Vis sc a ∧ nameOk a = true ∧ gloB sc S.q = true ∧ d.N[d.ei]? = some e ∧ sc.names.lookup e = some .local ∧ SuS S G K mg base P w d sc (G.ad j) (b0 :: suite)
/-- what the making of lambdas asks -/
structure LmF (S : Sg) (G : En) (k : Nat) (X : Cx) : Prop where
  er : ∀ (j : Nat) (d : DefX), S.Ds[j]? = some (.err d) → ErF S G X.K X.mg X.base X.prog X.w j d
  room : Room (3 * k + 2) X.A
  ea : G.ea = none
  tab : ∃ c P, X.env.code = .ref c ∧ TabB X.base X.mg c P ∧ (P, X.env.qual ++ "<lambda>") ∈ G.T ∧ ∀ p ∈ G.T, p.1 = P → p.2 = X.env.qual ++ "<lambda>"
/-- where a piece of code runs -/
structure GX (S : Sg) (G : En) (k : Nat) (C : Orc) (N : List Str) (sc : Scope) (fb : Md) (W : WX) (X : Cx) : Prop where
  mf : MF S G X.K X.mg
  ff : FF S G X.prog X.w X.K X.mg X.base k
  hN : X.N = N
  nd : X.N.Nodup
  hs : X.env.scope = sc
  kd : sc.kind = .function
  calm : fb.calm = true → X.calm = true ∧ C = orc S.Ds k ∧ Room (3 * k) X.A
  hot : fb.calm = false → ∃ p c, HotF S G C X p c
  lm : fb.lam = true → LmF S G k X
  hfn : ∀ x, fb.cell x = true → X.fn x = true
  tk : L2N.Takes X W
  un : X.A.units + 65 < cLine
  po : PassesOwn (model X.prog X.w) X.A X.env X.xe

/-! ### readings -/
def tE (K : PySem.W.Frag) (G : En) (W : WX) (d : Slots → Mem → R U) : TE := fun σ H Q =>
  ∃ ρ μ α β, SR K G α β H ρ σ ∧ HR K G μ α β H ∧ PostV K G β W (d ρ μ) α H Q
def tT (K : PySem.W.Frag) (G : En) (W : WX) (d : Slots → Mem → R Bool) : TT := fun σ H Q =>
  ∃ ρ μ α β, SR K G α β H ρ σ ∧ HR K G μ α β H ∧ PostG K G β W (d ρ μ) α H (fun b _ _ H' => Q b H')
def tA (K : PySem.W.Frag) (G : En) (W : WX) (d : Slots → Mem → R (List U)) : TA := fun σ H Q =>
  ∃ ρ μ α β, SR K G α β H ρ σ ∧ HR K G μ α β H ∧ PostG K G β W (d ρ μ) α H (fun us _ α' H' => ∀ vs, VRs K G α' β H' us vs → Q vs H')
def ME (X : Cx) (G : En) (W : WX) (d : Slots → Mem → R U) (e : Expr) : Prop := PE X e (tE X.K G W d)
def MT (X : Cx) (G : En) (W : WX) (d : Slots → Mem → R U) (e : Expr) : Prop := PT X e (tT X.K G W (fun ρ μ => truR (d ρ μ)))
def MA (X : Cx) (G : En) (W : WX) (d : Slots → Mem → R (List U)) (es : List Expr) : Prop := PA X es (tA X.K G W d)

theorem pe_imp {X : Cx} {e : Expr} {t t' : TE} (h : PE X e t) (i : ∀ σ H Q, t' σ H Q → t σ H Q) : PE X e t' := ⟨fun pins s σ H Q I q => h.run pins s σ H Q I (i σ H Q q)⟩
theorem pt_imp {X : Cx} {e : Expr} {t t' : TT} (h : PT X e t) (i : ∀ σ H Q, t' σ H Q → t σ H Q) : PT X e t' := ⟨fun pins s σ H Q I q => h.run pins s σ H Q I (i σ H Q q)⟩
theorem pa_imp {X : Cx} {e : List Expr} {t t' : TA} (h : PA X e t) (i : ∀ σ H Q, t' σ H Q → t σ H Q) : PA X e t' := ⟨fun pos pins s σ H Q I q => h.run pos pins s σ H Q I (i σ H Q q)⟩

section
variable {S : Sg} {G : En} {k : Nat} {C : Orc} {N : List Str} {sc : Scope} {fb : Md} {W : WX} {X : Cx} {K : PySem.W.Frag}
/-- a value's truth -/
theorem truth_tru {μ : Mem} {α β : List Addr} {H : Hp} {u : U} {v : V} {b : Bool} (hr : HR K G μ α β H) (r : VR K G α β H u v) (h : truth μ u = some b) : TruV K v H b := by
  cases u with
  | non => cases r; cases h; rfl
  | bl _ => cases r; cases h; rfl
  | int _ => cases r; cases h; rfl
  | str _ => cases h
  | fn _ => cases h
  | exn => cases h
  | dref _ => cases h
  | dtag => cases h
  | tup xs =>
    obtain ⟨a, vs, rfl, h1, h2⟩ := r
    cases h
    refine .inr (.inl ⟨vs, h1.seq, ?_⟩)
    cases xs with
    | nil => cases h2; rfl
    | cons x xs => obtain ⟨_, _, rfl, _⟩ := h2; rfl
  | lst xs =>
    obtain ⟨a, vs, rfl, h1, h2⟩ := r
    cases h
    refine .inl ⟨vs, SqL.of h1.1, ?_⟩
    cases xs with
    | nil => cases h2; rfl
    | cons x xs => obtain ⟨_, _, rfl, _⟩ := h2; rfl
  | rol xs =>
    obtain ⟨a, vs, rfl, h1, h2⟩ := r
    cases h
    refine .inl ⟨vs, h1.seq, ?_⟩
    cases xs with
    | nil => cases h2; rfl
    | cons x xs => obtain ⟨_, _, rfl, _⟩ := h2; rfl
  | ref n =>
    obtain ⟨a, rfl, h1, _⟩ := r
    have h : (match getL μ n with | some xs => some (!xs.isEmpty) | none => none) = some b := h
    cases q : getL μ n with
    | none => rw [q] at h; cases h
    | some xs =>
      rw [q] at h
      cases h
      obtain ⟨a', vs, e1, e2, e3⟩ := hr.at_ n xs q
      rw [h1] at e1
      cases e1
      refine .inl ⟨vs, SqL.of e2, ?_⟩
      cases xs with
      | nil => cases e3; rfl
      | cons x xs => obtain ⟨_, _, rfl, _⟩ := e3; rfl
theorem truR_post {α β : List Addr} {H : Hp} {r : R U} {F : Bool → Mem → List Addr → Hp → Prop} (h : PostG K G β W (truR r) α H F) :
    PostG K G β W r α H (fun u μ' α' H' => ∃ b, truth μ' u = some b ∧ PostG K G β W (.ok b μ') α' H' F) := by
  refine PostG.mono (PostG.bind h) fun u μ' α' H' hr e q => ?_
  have q : PostG K G β W (match truth μ' u with | some b => .ok b μ' | none => .bad) α' H' F := q
  cases e2 : truth μ' u with
  | none => rw [e2] at q; exact q.elim
  | some b => rw [e2] at q; exact ⟨b, rfl, q⟩
/-- an expression of no special form as a test -/
theorem mt_gen {d : Slots → Mem → R U} {e : Expr} (h : ME X G W d e) (he : ∀ whole, isTrue e X.env whole = (do let v ← whole; standAt e.pos; holding [v] (truthy v))) : MT X G W d e := by
  refine pt_imp (pt_truth h he) fun σ H Q ⟨ρ, μ, α, β, hs, hr, q⟩ => ?_
  refine ⟨ρ, μ, α, β, hs, hr, PostG.mono (truR_post q) fun u μ' α' H' hr' e' ⟨b, hb, q⟩ v rv => ⟨b, truth_tru hr' rv hb, PostG.ok hr' q⟩⟩

/-! ### leaves -/
theorem m_lit {u : U} {v : V} {e : Expr} (h : PE X e (tC v)) (r : ∀ α β H, VR X.K G α β H u v) : ME X G W (fun _ μ => .ok u μ) e :=
  pe_imp h fun σ H Q ⟨ρ, μ, α, β, hs, hr, q⟩ => PostV.val q hr (r _ _ _)
theorem vis_of {x : Str} (h : visB sc x = true) (hs : X.env.scope = sc) : Vis X.env.scope x := by
  rw [hs]
  unfold visB at h
  cases q : sc.names.lookup x with
  | none => rw [q] at h; cases h
  | some k => cases k <;> first | exact .inl q | exact .inr (.inl q) | exact .inr (.inr q) | (rw [q] at h; cases h)
theorem ok_debug {x : Str} (h : nameOk x = true) : (x == ("__debug__" : Str)) = false := by
  unfold nameOk at h
  simp only [Bool.and_eq_true, Bool.not_eq_true'] at h
  exact h.1.1
theorem ok_cd {x : Str} (h : nameOk x = true) : (x == ("__classdict__" : Str)) = false := by
  unfold nameOk at h
  simp only [Bool.and_eq_true, Bool.not_eq_true'] at h
  exact h.1.2
theorem ok_name {x : Str} (h : nameOk x = true) : x ≠ "__name__" := by
  unfold nameOk at h
  simp only [Bool.and_eq_true, Bool.not_eq_true'] at h
  exact fun e => by rw [e] at h; simp at h
theorem glo_of {x : Str} (h : gloB sc x = true) (hs : X.env.scope = sc) : Gl X x ∧ nameOk x = true := by
  unfold gloB at h
  simp only [Bool.and_eq_true, decide_eq_true_eq] at h
  exact ⟨by show X.env.scope.names.lookup x = _; rw [hs]; exact h.1, h.2⟩
theorem m_var {i : Nat} {x : Str} {pos : Pos} (hN : X.N[i]? = some x) (hv : Vis X.env.scope x) (hn : nameOk x = true) :
    ME X G W (fun ρ μ => match ρ[i]? with | some (some u) => .ok u μ | _ => .bad) (.Name x pos) := by
  refine pe_imp (pe_var hN hv (ok_debug hn) (ok_cd hn)) fun σ H Q ⟨ρ, μ, α, β, hs, hr, q⟩ => ?_
  cases h : ρ[i]? with
  | none => simp only [h] at q; exact q.elim
  | some o =>
    cases o with
    | none => simp only [h] at q; exact q.elim
    | some u =>
      simp only [h] at q
      obtain ⟨v, h1, h2⟩ := hs.2 i u h
      exact ⟨v, h1, PostV.val q hr h2⟩
/-! ### operators -/
theorem vrs_rev {K : PySem.W.Frag} {G : En} {α β : List Addr} {H : Hp} : ∀ {us : List U} {vs : List V}, VRs K G α β H us vs → VRs K G α β H us.reverse vs.reverse
  | [], _, h => by cases h; rfl
  | u :: us, _, h => by
    obtain ⟨v, r, rfl, h1, h2⟩ := h
    rw [List.reverse_cons, List.reverse_cons]
    exact (vrs_rev h2).app ⟨v, [], rfl, h1, rfl⟩
theorem m_op2 {da db : Slots → Mem → R U} {f : U → U → Mem → R U} {e : Expr} {r : R2}
    (h : PE X e (tOp r (tE X.K G W da) (tE X.K G W db))) (hr : ∀ x y H Q, rM X.K G W f x y H Q → r x y H Q) :
    ME X G W (fun ρ μ => (da ρ μ).bind fun u μ1 => (db ρ μ1).bind fun v μ2 => f u v μ2) e := by
  refine pe_imp h fun σ H Q ⟨ρ, μ, α, β, hs, hm, q⟩ => ?_
  refine ⟨ρ, μ, α, β, hs, hm, PostG.mono (PostG.bind q) fun u μ1 α1 H1 hm1 e1 q1 x rx => ?_⟩
  refine ⟨ρ, μ1, α1, β, hs.mono e1, hm1, PostG.mono (PostG.bind q1) fun w μ2 α2 H2 hm2 e2 q2 y ry => ?_⟩
  exact hr _ _ _ _ ⟨u, w, μ2, α2, β, hm2, rx.mono e2, ry, q2⟩
theorem t_op2 {da db : Slots → Mem → R U} {op : CmpOp} {e : Expr}
    (h : PT X e (tTest (tOp (rM X.K G W (cmpR op)) (tE X.K G W da) (tE X.K G W db)))) :
    MT X G W (fun ρ μ => (da ρ μ).bind fun u μ1 => (db ρ μ1).bind fun v μ2 => cmpR op u v μ2) e := by
  refine pt_imp h fun σ H Q ⟨ρ, μ, α, β, hs, hm, q⟩ => ?_
  have q := truR_post q
  refine ⟨ρ, μ, α, β, hs, hm, PostG.mono (PostG.bind q) fun u μ1 α1 H1 hm1 e1 q1 x rx => ?_⟩
  refine ⟨ρ, μ1, α1, β, hs.mono e1, hm1, PostG.mono (PostG.bind q1) fun w μ2 α2 H2 hm2 e2 q2 y ry => ?_⟩
  refine ⟨u, w, μ2, α2, β, hm2, rx.mono e2, ry, ?_⟩
  unfold cmpR at q2 ⊢
  cases hk : cmpD op u w μ2 with
  | none => rw [hk] at q2; exact q2.elim
  | some c =>
    rw [hk] at q2
    intro H' α' hr' e' v rv
    cases rv
    obtain ⟨b, hb, q3⟩ := q2 H' α' hr' e'
    cases hb
    exact ⟨c, rfl, PostG.ok hr' q3⟩
theorem m_neg {da : Slots → Mem → R U} {e : Expr} {pos : Pos} (h : ME X G W da e) : ME X G W (fun ρ μ => (da ρ μ).bind negD) (.UnaryOp .USub e pos) := by
  refine pe_imp (pe_un (o_neg (G := G) (W := W)) h) fun σ H Q ⟨ρ, μ, α, β, hs, hm, q⟩ => ?_
  exact ⟨ρ, μ, α, β, hs, hm, PostG.mono (PostG.bind q) fun u μ1 α1 H1 hm1 e1 q1 x rx => ⟨u, μ1, α1, β, hm1, rx, q1⟩⟩
theorem t_not {da : Slots → Mem → R U} {e : Expr} {pos : Pos} (h : MT X G W da e) : MT X G W (fun ρ μ => (truR (da ρ μ)).bind fun k μ1 => .ok (.bl (!k)) μ1) (.UnaryOp .Not e pos) := by
  refine pt_imp (pt_not h) fun σ H Q ⟨ρ, μ, α, β, hs, hm, q⟩ => ?_
  refine ⟨ρ, μ, α, β, hs, hm, PostG.mono (PostG.bind (truR_post q)) fun b μ1 α1 H1 hm1 e1 q1 => ?_⟩
  obtain ⟨c, hc, q2⟩ := q1 H1 α1 hm1 (Ext.refl _ _)
  cases hc
  exact PostG.ok hm1 q2
theorem m_not {da : Slots → Mem → R U} {e : Expr} {pos : Pos} (h : ME X G W da e) : ME X G W (fun ρ μ => (truR (da ρ μ)).bind fun k μ1 => .ok (.bl (!k)) μ1) (.UnaryOp .Not e pos) := by
  refine pe_imp (pe_notT h) fun σ H Q ⟨ρ, μ, α, β, hs, hm, q⟩ => ?_
  refine ⟨ρ, μ, α, β, hs, hm, PostG.mono (truR_post (PostG.bind q)) fun u μ1 α1 H1 hm1 e1 q1 x rx => ?_⟩
  obtain ⟨b, hb, q2⟩ := q1
  exact ⟨b, truth_tru hm1 rx hb, PostV.val (PostG.ok hm1 q2) hm1 rfl⟩
theorem m_chain {da db dc : Slots → Mem → R U} {o1 o2 : CmpOp} {a b c : Expr} {pos : Pos} (hu : X.A.units + 65 < cLine) (ha : ME X G W da a) (hb : ME X G W db b) (hc : ME X G W dc c) (hm : lastMarks [o1, o2] [b, c] = false) :
    ME X G W (fun ρ μ => (da ρ μ).bind fun u μ1 => (db ρ μ1).bind fun v μ2 => match cmpD o1 u v μ2 with
      | some true => (dc ρ μ2).bind fun z μ3 => cmpR o2 v z μ3
      | some false => .ok (.bl false) μ2
      | none => .bad) (.Compare a [o1, o2] [b, c] pos) := by
  refine pe_imp (pe_chain (o_cmp (G := G) (W := W) hu o1) (o_cmp (G := G) (W := W) hu o2) ha hb hc hm) fun σ H Q ⟨ρ, μ, α, β, hs, hm, q⟩ => ?_
  refine ⟨ρ, μ, α, β, hs, hm, PostG.mono (PostG.bind q) fun u μ1 α1 H1 hm1 e1 q1 x rx => ?_⟩
  refine ⟨ρ, μ1, α1, β, hs.mono e1, hm1, PostG.mono (PostG.bind q1) fun w μ2 α2 H2 hm2 e2 q2 y ry => ?_⟩
  refine ⟨u, w, μ2, α2, β, hm2, rx.mono e2, ry, ?_⟩
  unfold cmpR
  cases hk : cmpD o1 u w μ2 with
  | none => simp only [hk] at q2; exact q2.elim
  | some k =>
    simp only [hk] at q2
    intro H' α' hr' e' v rv
    cases rv
    cases k with
    | false => exact ⟨false, rfl, iteF (PostV.val (PostG.rebase e' q2) hr' rfl)⟩
    | true =>
      refine ⟨true, rfl, iteT ⟨ρ, μ2, α', β, (hs.mono e1).mono (e2.trans e'), hr', PostG.mono (PostG.bind (PostG.rebase e' q2)) fun z μ3 α3 H3 hm3 e3 q3 zv rz => ?_⟩⟩
      exact ⟨w, z, μ3, α3, β, hm3, ry.mono (e'.trans e3), rz, q3⟩
theorem t_chain {da db dc : Slots → Mem → R U} {o1 o2 : CmpOp} {a b c : Expr} {pos : Pos} (hu : X.A.units + 65 < cLine) (ha : ME X G W da a) (hb : ME X G W db b) (hc : ME X G W dc c) (hm : lastMarks [o1, o2] [b, c] = false) :
    MT X G W (fun ρ μ => (da ρ μ).bind fun u μ1 => (db ρ μ1).bind fun v μ2 => match cmpD o1 u v μ2 with
      | some true => (dc ρ μ2).bind fun z μ3 => cmpR o2 v z μ3
      | some false => .ok (.bl false) μ2
      | none => .bad) (.Compare a [o1, o2] [b, c] pos) := by
  refine pt_imp (pt_chain (o_cmp (G := G) (W := W) hu o1) (o_cmp (G := G) (W := W) hu o2) ha hb hc hm) fun σ H Q ⟨ρ, μ, α, β, hs, hm, q⟩ => ?_
  have q := truR_post q
  refine ⟨ρ, μ, α, β, hs, hm, PostG.mono (PostG.bind q) fun u μ1 α1 H1 hm1 e1 q1 x rx => ?_⟩
  refine ⟨ρ, μ1, α1, β, hs.mono e1, hm1, PostG.mono (PostG.bind q1) fun w μ2 α2 H2 hm2 e2 q2 y ry => ?_⟩
  refine ⟨u, w, μ2, α2, β, hm2, rx.mono e2, ry, ?_⟩
  unfold cmpR
  cases hk : cmpD o1 u w μ2 with
  | none => simp only [hk] at q2; exact q2.elim
  | some k =>
    simp only [hk] at q2
    intro H' α' hr' e' v rv
    cases rv
    have q2 := PostG.rebase e' q2
    cases k with
    | false =>
      refine ⟨false, rfl, iteF ?_⟩
      obtain ⟨b, hb, q3⟩ := PostG.ok hr' q2
      cases hb
      exact ⟨false, rfl, PostG.ok hr' q3⟩
    | true =>
      refine ⟨true, rfl, iteT ⟨ρ, μ2, α', β, (hs.mono e1).mono (e2.trans e'), hr', PostG.mono (PostG.bind q2) fun z μ3 α3 H3 hm3 e3 q3 zv rz => ?_⟩⟩
      refine ⟨w, z, μ3, α3, β, hm3, ry.mono (e'.trans e3), rz, ?_⟩
      unfold cmpR at q3
      cases hk : cmpD o2 w z μ3 with
      | none => rw [hk] at q3; exact q3.elim
      | some c =>
        rw [hk] at q3
        dsimp only
        rw [hk]
        intro H5 α5 hr5 e5 v5 rv5
        cases rv5
        obtain ⟨b, hb, q5⟩ := q3 H5 α5 hr5 e5
        cases hb
        exact ⟨c, rfl, PostG.ok hr5 q5⟩
/-! ### and, or -/
theorem bo_rest {op : BoolOp} {b : Expr} {rest : List Expr} {pos : Pos} {t : TE} (h : PE X (boRest op b rest pos) t) : PE X (.BoolOp op (b :: rest) pos) t := by
  cases rest with
  | nil => exact pe_one h
  | cons c r => exact h
theorem m_and {da db : Slots → Mem → R U} {a b : Expr} {rest : List Expr} {pos : Pos} (ha : ME X G W da a) (hb : ME X G W db (boRest .And b rest pos)) :
    ME X G W (fun ρ μ => (da ρ μ).bind fun u μ1 => match u with
      | .bl true => db ρ μ1
      | .bl false => .ok (.bl false) μ1
      | _ => .bad) (.BoolOp .And (a :: b :: rest) pos) := by
  refine pe_imp (pe_and ha (bo_rest hb)) fun σ H Q ⟨ρ, μ, α, β, hs, hm, q⟩ => ?_
  refine ⟨ρ, μ, α, β, hs, hm, PostG.mono (PostG.bind q) fun u μ1 α1 H1 hm1 e1 q1 x rx => ?_⟩
  cases u with
  | bl k =>
    cases rx
    cases k with
    | true => exact ⟨true, rfl, iteT ⟨ρ, μ1, α1, β, hs.mono e1, hm1, q1⟩⟩
    | false => exact ⟨false, rfl, iteF (PostV.val q1 hm1 rfl)⟩
  | _ => exact q1.elim
theorem m_or {da db : Slots → Mem → R U} {a b : Expr} {rest : List Expr} {pos : Pos} (ha : ME X G W da a) (hb : ME X G W db (boRest .Or b rest pos)) :
    ME X G W (fun ρ μ => (da ρ μ).bind fun u μ1 => match u with
      | .bl true => .ok (.bl true) μ1
      | .bl false => db ρ μ1
      | _ => .bad) (.BoolOp .Or (a :: b :: rest) pos) := by
  refine pe_imp (pe_or ha (bo_rest hb)) fun σ H Q ⟨ρ, μ, α, β, hs, hm, q⟩ => ?_
  refine ⟨ρ, μ, α, β, hs, hm, PostG.mono (PostG.bind q) fun u μ1 α1 H1 hm1 e1 q1 x rx => ?_⟩
  cases u with
  | bl k =>
    cases rx
    cases k with
    | true => exact ⟨true, rfl, iteT (PostV.val q1 hm1 rfl)⟩
    | false => exact ⟨false, rfl, iteF ⟨ρ, μ1, α1, β, hs.mono e1, hm1, q1⟩⟩
  | _ => exact q1.elim
/-- as tests -/
theorem pw_rest1 {t : TT} {b : Expr} {rest : List Expr} {pos : Pos} (h : PT X (boRest .And b rest pos) t) (hw : rest ≠ [] → PW X (.BoolOp .And (b :: rest) pos) t) : PW X (.BoolOp .And (b :: rest) pos) t := by
  cases rest with
  | nil => exact pw_and1 h
  | cons c r => exact hw (fun z => by cases z)
theorem pw_rest2 {t : TT} {b : Expr} {rest : List Expr} {pos : Pos} (h : PT X (boRest .Or b rest pos) t) (hw : rest ≠ [] → PW X (.BoolOp .Or (b :: rest) pos) t) : PW X (.BoolOp .Or (b :: rest) pos) t := by
  cases rest with
  | nil => exact pw_or1 h
  | cons c r => exact hw (fun z => by cases z)
/-- a test that doesn't hang on its 'whole', where it is an and, an or -/
def MW (X : Cx) (G : En) (W : WX) (d : Slots → Mem → R U) (e : Expr) : Prop := ∀ op bs pos, e = .BoolOp op bs pos → PW X e (tT X.K G W (fun ρ μ => truR (d ρ μ)))
theorem pw_imp {e : Expr} {t t' : TT} (h : PW X e t) (i : ∀ σ H Q, t' σ H Q → t σ H Q) : PW X e t' := ⟨fun wh pins s σ H Q I q => h.run wh pins s σ H Q I (i σ H Q q)⟩
theorem w_and {da db : Slots → Mem → R U} {a b : Expr} {rest : List Expr} {pos : Pos} (ha : MT X G W da a) (hb : MT X G W db (boRest .And b rest pos)) (hw : MW X G W db (boRest .And b rest pos)) :
    PW X (.BoolOp .And (a :: b :: rest) pos) (tT X.K G W (fun ρ μ => truR ((da ρ μ).bind fun u μ1 => match u with
      | .bl true => db ρ μ1
      | .bl false => .ok (.bl false) μ1
      | _ => .bad))) := by
  have hb' : PW X (.BoolOp .And (b :: rest) pos) (tT X.K G W (fun ρ μ => truR (db ρ μ))) := by
    cases rest with
    | nil => exact pw_and1 hb
    | cons c r => exact hw _ _ _ rfl
  refine pw_imp (pw_and ha hb') fun σ H Q ⟨ρ, μ, α, β, hs, hm, q⟩ => ?_
  refine ⟨ρ, μ, α, β, hs, hm, ?_⟩
  dsimp only at q ⊢
  cases hr : da ρ μ with
  | bad => rw [hr] at q; exact q
  | exc c μ1 => rw [hr] at q; exact q
  | ok u μ1 =>
    rw [hr] at q
    cases u with
    | bl k =>
      cases k with
      | true => exact fun H1 α1 hm1 e1 => iteT ⟨ρ, μ1, α1, β, hs.mono e1, hm1, PostG.rebase e1 q⟩
      | false => exact fun H1 α1 hm1 e1 => iteF (q H1 α1 hm1 e1)
    | _ => exact q.elim
theorem w_or {da db : Slots → Mem → R U} {a b : Expr} {rest : List Expr} {pos : Pos} (ha : MT X G W da a) (hb : MT X G W db (boRest .Or b rest pos)) (hw : MW X G W db (boRest .Or b rest pos)) :
    PW X (.BoolOp .Or (a :: b :: rest) pos) (tT X.K G W (fun ρ μ => truR ((da ρ μ).bind fun u μ1 => match u with
      | .bl true => .ok (.bl true) μ1
      | .bl false => db ρ μ1
      | _ => .bad))) := by
  have hb' : PW X (.BoolOp .Or (b :: rest) pos) (tT X.K G W (fun ρ μ => truR (db ρ μ))) := by
    cases rest with
    | nil => exact pw_or1 hb
    | cons c r => exact hw _ _ _ rfl
  refine pw_imp (pw_or ha hb') fun σ H Q ⟨ρ, μ, α, β, hs, hm, q⟩ => ?_
  refine ⟨ρ, μ, α, β, hs, hm, ?_⟩
  dsimp only at q ⊢
  cases hr : da ρ μ with
  | bad => rw [hr] at q; exact q
  | exc c μ1 => rw [hr] at q; exact q
  | ok u μ1 =>
    rw [hr] at q
    cases u with
    | bl k =>
      cases k with
      | true => exact fun H1 α1 hm1 e1 => iteT (q H1 α1 hm1 e1)
      | false => exact fun H1 α1 hm1 e1 => iteF ⟨ρ, μ1, α1, β, hs.mono e1, hm1, PostG.rebase e1 q⟩
    | _ => exact q.elim
theorem m_ite {dc da db : Slots → Mem → R U} {c a b : Expr} {pos : Pos} (hc : MT X G W dc c) (ha : ME X G W da a) (hb : ME X G W db b) :
    ME X G W (fun ρ μ => (truR (dc ρ μ)).bind fun k μ1 => match k with
      | true => da ρ μ1
      | false => db ρ μ1) (.IfExp c a b pos) := by
  refine pe_imp (pe_ifExp hc ha hb) fun σ H Q ⟨ρ, μ, α, β, hs, hm, q⟩ => ?_
  refine ⟨ρ, μ, α, β, hs, hm, PostG.mono (PostG.bind q) fun k μ1 α1 H1 hm1 e1 q1 => ?_⟩
  cases k with
  | true => exact iteT ⟨ρ, μ1, α1, β, hs.mono e1, hm1, q1⟩
  | false => exact iteF ⟨ρ, μ1, α1, β, hs.mono e1, hm1, q1⟩

/-! ### argument lists, displays -/
theorem star_cons {e : Expr} {es : List Expr} {env : Env} (h : notStar e = true) : starEach (e :: es) env = (false, eval e env) :: starEach es env := by
  cases e <;> first | rfl | cases h
theorem star_plain {env : Env} {pos : Pos} : ∀ {es : List Expr}, es.all notStar = true → (backTo pos (starEach es env)).any (·.1) = false
  | [], _ => rfl
  | e :: es, h => by
    simp only [List.all_cons, Bool.and_eq_true] at h
    rw [star_cons h.1]
    have ih := star_plain (env := env) (pos := pos) h.2
    unfold backTo at ih ⊢
    simp only [List.map_cons, List.any_cons, Bool.false_or]
    exact ih
theorem star_all {env : Env} {pos : Pos} : ∀ {es : List Expr}, es.all notStar = true → (backTo pos (starEach es env)).all (fun x => !x.1) = true
  | [], _ => rfl
  | e :: es, h => by
    simp only [List.all_cons, Bool.and_eq_true] at h
    rw [star_cons h.1]
    have ih := star_all (env := env) (pos := pos) h.2
    unfold backTo at ih ⊢
    simp only [List.map_cons, List.all_cons, Bool.not_false, Bool.true_and]
    exact ih
theorem ma_nil : MA X G W (fun _ μ => .ok [] μ) [] := pa_imp pa_nil fun σ H Q ⟨ρ, μ, α, β, hs, hm, q⟩ => PostG.ok hm q [] rfl
theorem ma_cons {d : Slots → Mem → R U} {ds : Slots → Mem → R (List U)} {e : Expr} {es : List Expr} (hn : notStar e = true) (h : ME X G W d e) (hs : MA X G W ds es) :
    MA X G W (fun ρ μ => (d ρ μ).bind fun u μ1 => (ds ρ μ1).bind fun us μ2 => .ok (u :: us) μ2) (e :: es) := by
  refine pa_imp (pa_cons h hs (star_cons hn)) fun σ H Q ⟨ρ, μ, α, β, hs, hm, q⟩ => ?_
  refine ⟨ρ, μ, α, β, hs, hm, PostG.mono (PostG.bind q) fun u μ1 α1 H1 hm1 e1 q1 x rx => ?_⟩
  refine ⟨ρ, μ1, α1, β, hs.mono e1, hm1, PostG.mono (PostG.bind q1) fun us μ2 α2 H2 hm2 e2 q2 xs rxs => ?_⟩
  exact PostG.ok hm2 q2 _ ⟨x, xs, rfl, rx.mono e2, rxs⟩
theorem m_tup {ds : Slots → Mem → R (List U)} {es : List Expr} {x1 : Nat} {pos : Pos} (h : MA X G W ds es) :
    ME X G W (fun ρ μ => (ds ρ μ).bind fun us μ1 => if us.length ≤ bigL then .ok (.tup us) μ1 else .bad) (.Tuple es x1 pos) := by
  refine pe_imp (pe_tup h) fun σ H Q ⟨ρ, μ, α, β, hs, hm, q⟩ => ?_
  refine ⟨ρ, μ, α, β, hs, hm, PostG.mono (PostG.bind q) fun us μ1 α1 H1 hm1 e1 q1 xs rx => ?_⟩
  by_cases hz : us.length ≤ bigL
  · rw [if_pos hz] at q1
    exact ⟨by rw [← rx.len, sizeLine_eq]; exact hz, fun p hp => post_tup q1 hm1 rx hp⟩
  · rw [if_neg hz] at q1
    exact q1.elim
theorem m_lst {m : Bool} {ds : Slots → Mem → R (List U)} {es : List Expr} {pos : Pos} (h : MA X G W ds es) :
    ME X G W (fun ρ μ => (ds ρ μ).bind fun us μ1 => if us.length ≤ bigL then alloc m us μ1 else .bad) (.List es pos) := by
  refine pe_imp (pe_lst h) fun σ H Q ⟨ρ, μ, α, β, hs, hm, q⟩ => ?_
  refine ⟨ρ, μ, α, β, hs, hm, PostG.mono (PostG.bind q) fun us μ1 α1 H1 hm1 e1 q1 xs rx => ?_⟩
  by_cases hz : us.length ≤ bigL
  · rw [if_pos hz] at q1
    exact ⟨by rw [← rx.len, sizeLine_eq]; exact hz, fun p hp => post_alloc q1 hm1 rx hp⟩
  · rw [if_neg hz] at q1
    exact q1.elim

/-! ### places, slices -/
theorem plain_ix {b : Expr} (h : notSlice b = true) : PlainIx b := by
  cases b <;> first | (intro _ _; rfl) | cases h
theorem m_idx {da db : Slots → Mem → R U} {a b : Expr} {pos : Pos} (hn : notSlice b = true) (ha : ME X G W da a) (hb : ME X G W db b) :
    ME X G W (fun ρ μ => (da ρ μ).bind fun u μ1 => (db ρ μ1).bind fun v μ2 => idxD u v μ2) (.Subscript a b pos) :=
  m_op2 (pe_ix (o_idx (G := G) (W := W)) ha hb (plain_ix hn)) fun _ _ _ _ h => h
def tO (K : PySem.W.Frag) (G : En) (W : WX) (d : Slots → Mem → R (List U)) : TO := fun σ H Q =>
  ∃ ρ μ α β, SR K G α β H ρ σ ∧ HR K G μ α β H ∧ PostG K G β W (d ρ μ) α H (fun us _ _ H' => ∃ x, optI us = some x ∧ Q x H')
theorem po_imp {e : Option Expr} {t t' : TO} (h : PO X e t) (i : ∀ σ H Q, t' σ H Q → t σ H Q) : PO X e t' := ⟨fun pins s σ H Q I q => h.run pins s σ H Q I (i σ H Q q)⟩
theorem mo_nil : PO X none (tO X.K G W (fun _ μ => .ok [] μ)) := po_imp po_none fun σ H Q ⟨ρ, μ, α, β, hs, hm, q⟩ => by
  obtain ⟨x, e, q⟩ := PostG.ok hm q
  cases e
  exact q
theorem mo_one {d : Slots → Mem → R U} {e : Expr} (h : ME X G W d e) : PO X (some e) (tO X.K G W (fun ρ μ => (d ρ μ).bind fun u μ1 => (R.ok [] μ1).bind fun us μ2 => .ok (u :: us) μ2)) := by
  refine po_imp (po_some h) fun σ H Q ⟨ρ, μ, α, β, hs, hm, q⟩ => ?_
  refine ⟨ρ, μ, α, β, hs, hm, PostG.mono (PostG.bind q) fun u μ1 α1 H1 hm1 e1 q1 x rx => ?_⟩
  obtain ⟨y, e, q⟩ := PostG.ok hm1 q1
  cases u with
  | int i =>
    cases e
    cases rx
    exact ⟨i, rfl, q⟩
  | _ => cases e
theorem m_slc {da : Slots → Mem → R U} {dl dh : Slots → Mem → R (List U)} {a : Expr} {lo hi : Option Expr} {p2 pos : Pos} (ha : ME X G W da a) (hl : PO X lo (tO X.K G W dl)) (hh : PO X hi (tO X.K G W dh)) :
    ME X G W (fun ρ μ => (da ρ μ).bind fun u μ1 => (dl ρ μ1).bind fun l μ2 => match optI l with
      | none => .bad
      | some x => (dh ρ μ2).bind fun h μ3 => match optI h with
        | none => .bad
        | some y => slcD u x y μ3) (.Subscript a (.Slice lo hi none p2) pos) := by
  refine pe_imp (pe_slice (o_slc (G := G) (W := W)) ha hl hh) fun σ H Q ⟨ρ, μ, α, β, hs, hm, q⟩ => ?_
  refine ⟨ρ, μ, α, β, hs, hm, PostG.mono (PostG.bind q) fun u μ1 α1 H1 hm1 e1 q1 x rx => ?_⟩
  refine ⟨ρ, μ1, α1, β, hs.mono e1, hm1, PostG.mono (PostG.bind q1) fun l μ2 α2 H2 hm2 e2 q2 => ?_⟩
  cases hx : optI l with
  | none => simp only [hx] at q2; exact q2.elim
  | some lo =>
    simp only [hx] at q2
    refine ⟨lo, rfl, ρ, μ2, α2, β, (hs.mono e1).mono e2, hm2, PostG.mono (PostG.bind q2) fun h μ3 α3 H3 hm3 e3 q3 => ?_⟩
    cases hy : optI h with
    | none => simp only [hy] at q3; exact q3.elim
    | some hi =>
      simp only [hy] at q3
      exact ⟨hi, rfl, u, μ3, α3, β, hm3, rx.mono (e2.trans e3), q3⟩
/-! ### calls -/
theorem PostG.wish {A : Type} {W' : WX} {r : R A} {β α : List Addr} {H : Hp} {F : A → Mem → List Addr → Hp → Prop} (h : PostG K G β W r α H F) (hW : ∀ cls d H', (∀ σ, W cls d σ H') → ∀ σ, W' cls d σ H') : PostG K G β W' r α H F := by
  cases r with
  | ok a μ => exact h
  | exc c μ => exact fun cls d σ H' α' x hr e => hW cls d H' (fun σ => h cls d σ H' α' x hr e) σ
  | bad => exact h
/-- what a callee's promise asks -/
theorem sp_of {f : List U → Mem → R U} {np : Nat} {us : List U} {vs : List V} {μ : Mem} {α β : List Addr} {H : Hp} {Q : VK} (hm : HR K G μ α β H) (r : VRs K G α β H us vs) (hn : us.length = np) (q : PostV K G β W (f us μ) α H Q) :
    spD K G f np vs H Q (fun cls d H' => ∀ σ, W cls d σ H') := ⟨us, μ, α, β, hm, r, hn, PostG.wish q fun _ _ _ h _ => h⟩
theorem call_np {Ds : List Def} {j : Nat} {d : DefS} {us : List U} {μ : Mem} (hd : Ds[j]? = some (.std d)) : ∀ {k : Nat}, callD Ds k j us μ ≠ .bad → us.length = d.np
  | 0, h => absurd rfl h
  | k + 1, h => by
    by_cases hl : d.lv ≤ k
    · refine call_np (μ := μ) hd (k := k) fun e => h ?_
      unfold callD
      rw [hd]
      show (if d.lv ≤ k then callD Ds k j us μ else _) = _
      rw [if_pos hl, e]
    · by_cases e : us.length = d.np
      · exact e
      · refine absurd ?_ h
        unfold callD
        rw [hd]
        show (if d.lv ≤ k then callD Ds k j us μ else runD d _ us μ) = .bad
        rw [if_neg hl]
        unfold runD
        rw [if_neg e]
theorem post_bad {A : Type} {r : R A} {β α : List Addr} {H : Hp} {F : A → Mem → List Addr → Hp → Prop} (h : PostG K G β W r α H F) : r ≠ .bad := fun e => by rw [e] at h; exact h

theorem df_of {S : Sg} {j : Nat} {x : Str} (h : nmB S j x = true) : ∃ d, S.Ds[j]? = some (.std d) ∧ (d.name = x ∨ (x, j) ∈ S.al) := by
  unfold nmB at h
  cases q : S.Ds[j]? with
  | none => rw [q] at h; cases h
  | some o =>
    cases o with
    | std d =>
      rw [q] at h
      simp only [Bool.or_eq_true, beq_iff_eq] at h
      exact ⟨d, rfl, h.imp id fun z => by simpa using z⟩
    | err d => rw [q] at h; cases h
theorem MF.named {K : PySem.W.Frag} {mg : Str → Option Value} (m : MF S G K mg) {j : Nat} {x : Str} {d : DefS} (hd : S.Ds[j]? = some (.std d)) (h : d.name = x ∨ (x, j) ∈ S.al) : mg x = some (.ref (G.ad j)) := by
  rcases h with h | h
  · rw [← h]
    exact (m.df j d hd).1
  · exact m.al (x, j) h ⟨d, hd⟩
theorem pass_of (g : GX S G k C N sc fb W X) : Passes (L2N.CX X.prog X.w) X (fun cls d H' => ∀ σ, W cls d σ H') := L2N.passes_call g.tk fun _ _ σ _ h => h σ
theorem m_call {ds : Slots → Mem → R (List U)} {j : Nat} {x : Str} {e : Expr} {es : List Expr} {p pos : Pos} (g : GX S G k C N sc fb W X) (hr : Room (3 * k) X.A) (hg : Gl X x ∧ nameOk x = true) {d : DefS} (hd : S.Ds[j]? = some (.std d)) (hx : d.name = x ∨ (x, j) ∈ S.al) (hns : (e :: es).all notStar = true) (h : MA X G W ds (e :: es)) :
    ME X G W (fun ρ μ => (ds ρ μ).bind fun us μ1 => callD S.Ds k j us μ1) (.Call (.Name x p) (e :: es) [] pos) := by
  obtain ⟨fd, F, B⟩ := g.ff.fn j d hd
  obtain ⟨_, hk⟩ := g.mf.df j d hd
  have hm := g.mf.named hd hx
  simp only [List.all_cons, Bool.and_eq_true] at hns
  refine pe_imp (pe_call F hr hg.1 hm hk B .nil (pass_of g) h (ok_debug hg.2) (star_cons hns.1) (star_plain hns.2)) fun σ H Q ⟨ρ, μ, α, β, hs, hm, q⟩ => ?_
  refine ⟨ρ, μ, α, β, hs, hm, PostG.mono (PostG.bind q) fun us μ1 α1 H1 hm1 e1 q1 xs rx => ?_⟩
  show spD X.K G (callD S.Ds k j) d.np (xs ++ []) H1 Q (fun cls d H' => ∀ σ, W cls d σ H')
  rw [List.append_nil]
  exact sp_of hm1 rx (call_np hd (post_bad q1)) q1
theorem m_call0 {j : Nat} {x : Str} {p pos : Pos} (g : GX S G k C N sc fb W X) (hr : Room (3 * k) X.A) (hg : Gl X x ∧ nameOk x = true) {d : DefS} (hd : S.Ds[j]? = some (.std d)) (hx : d.name = x ∨ (x, j) ∈ S.al) :
    ME X G W (fun _ μ => callD S.Ds k j [] μ) (.Call (.Name x p) [] [] pos) := by
  obtain ⟨fd, F, B⟩ := g.ff.fn j d hd
  obtain ⟨_, hk⟩ := g.mf.df j d hd
  have hm := g.mf.named hd hx
  refine pe_imp (pe_call0 F hr hg.1 hm hk B .nil (pass_of g) (ok_debug hg.2)) fun σ H Q ⟨ρ, μ, α, β, hs, hm, q⟩ => ?_
  exact sp_of hm (us := []) (vs := []) rfl (call_np hd (post_bad q)) q
/-- a local name that holds a def -/
theorem m_cvar {ds : Slots → Mem → R (List U)} {i : Nat} {x : Str} {e : Expr} {es : List Expr} {p pos : Pos} (g : GX S G k C N sc fb W X) (hr : Room (3 * k) X.A) (hN : X.N[i]? = some x) (hv : Vis X.env.scope x) (hn : nameOk x = true) (hns : (e :: es).all notStar = true) (h : MA X G W ds (e :: es)) :
    ME X G W (fun ρ μ => match ρ[i]? with
      | some (some (.fn j)) => (ds ρ μ).bind fun us μ1 => callD S.Ds k j us μ1
      | _ => .bad) (.Call (.Name x p) (e :: es) [] pos) := by
  simp only [List.all_cons, Bool.and_eq_true] at hns
  refine ⟨fun pins s σ H Q I ⟨ρ, μ, α, β, hs, hm, q⟩ => ?_⟩
  cases hi : ρ[i]? with
  | none => simp only [hi] at q; exact q.elim
  | some o =>
    cases o with
    | none => simp only [hi] at q; exact q.elim
    | some u =>
      cases u with
      | fn j =>
        simp only [hi] at q
        obtain ⟨v, hv1, hv2⟩ := hs.2 i _ hi
        obtain ⟨rfl, hj⟩ := hv2
        obtain ⟨d, hd⟩ := g.mf.dfn j hj
        obtain ⟨fd, F, B⟩ := g.ff.fn j d hd
        obtain ⟨_, hk⟩ := g.mf.df j d hd
        refine wpAny_Call_Name_kw (thn ((pe_var (pos := p) hN hv (ok_debug hn) (ok_cd hn)).run pins s σ H (fun v H1 => v = .ref (G.ad j) ∧ H1 = H) I ⟨_, hv1, rfl, rfl⟩) fun u s1 ⟨v, H1, I1, r1, q1⟩ => ?_)
        obtain ⟨rfl, rfl⟩ := q1
        cases r1
        have hA := h.run pos pins s1 σ _ (fun vs H2 => spD X.K G (callD S.Ds k j) d.np vs H2 Q (fun cls d H' => ∀ σ, W cls d σ H')) I1 ⟨ρ, μ, α, β, hs, hm, PostG.mono (PostG.bind q) fun us μ1 α1 H1 hm1 e1 q1 xs rx => sp_of hm1 rx (call_np hd (post_bad q1)) q1⟩
        refine PySem.W.callWith_K (h₀ := X.base) I.ok.mod.kin hk (thn hA fun us s2 ⟨vs, H2, I2, r, q⟩ => ⟨I2.kIn, ?_⟩) (star_cons hns.1) (star_plain hns.2)
        have q : spD X.K G (callD S.Ds k j) d.np (vs ++ []) H2 Q (fun cls d H' => ∀ σ, W cls d σ H') := by
          rw [List.append_nil]; exact q
        exact run_fn F hr B .nil (pass_of g) I2 r q
      | _ => simp only [hi] at q; exact q.elim

/-! ### built-in functions -/
theorem getOr_post {A : Type} {o : Option A} {f : A → R U} {α β : List Addr} {H : Hp} {Q : VK} (q : PostV K G β W (getOr o f) α H Q) : ∃ a, o = some a ∧ PostV K G β W (f a) α H Q := by
  cases o with
  | none => exact q.elim
  | some a => exact ⟨a, rfl, q⟩
theorem int1_eq {us : List U} {i : Int} (h : int1 us = some i) : us = [.int i] := by
  unfold int1 at h
  split at h
  · cases h; rfl
  · cases h
theorem int2_eq {us : List U} {p : Int × Int} (h : int2 us = some p) : us = [.int p.1, .int p.2] := by
  unfold int2 at h
  split at h
  · cases h; rfl
  · cases h
theorem one1_eq {us : List U} {x : U} (h : one1 us = some x) : us = [x] := by
  unfold one1 at h
  split at h
  · cases h; rfl
  · cases h
theorem seq1_at {μ : Mem} {α β : List Addr} {H : Hp} {us xs : List U} {vs : List V} (hm : HR K G μ α β H) (r : VRs K G α β H us vs) (h : seq1 μ us = some xs) :
    ∃ u a ws, us = [u] ∧ vs = [.ref a] ∧ seqOf μ u = some xs ∧ VR K G α β H u (.ref a) ∧ (SqL K H a ws ∨ SqT K H a ws) ∧ VRs K G α β H xs ws := by
  unfold seq1 at h
  cases hu : one1 us with
  | none => rw [hu] at h; cases h
  | some u =>
    rw [hu] at h
    have h : seqOf μ u = some xs := h
    have e := one1_eq hu
    subst e
    obtain ⟨v, _, rfl, r1, rfl⟩ := r
    obtain ⟨a, ws, rfl, h1, h2⟩ := seqOf_at hm r1 h
    exact ⟨u, a, ws, rfl, rfl, h, r1, h1, h2⟩
theorem vr_int1 {α β : List Addr} {H : Hp} {i : Int} {vs : List V} (r : VRs K G α β H [.int i] vs) : vs = [.int i] := by
  obtain ⟨v, _, rfl, r1, rfl⟩ := r
  cases r1
  rfl
theorem vr_int2 {α β : List Addr} {H : Hp} {i j : Int} {vs : List V} (r : VRs K G α β H [.int i, .int j] vs) : vs = [.int i, .int j] := by
  obtain ⟨v, _, rfl, r1, w', _, rfl, r2, rfl⟩ := r
  cases r1
  cases r2
  rfl
theorem c_len {m : Bool} : CallR X (.builtin "len") (rMs X.K G W (biD m "len")) := by
  intro pins s σ H xs us Q I r h
  obtain ⟨ys, μ, α, β, hm, rx, q⟩ := h
  obtain ⟨zs, hz, q2⟩ := getOr_post (o := seq1 μ ys) (f := fun xs => .ok (.int xs.length) μ) q
  obtain ⟨u, a, ws, rfl, rfl, _, _, h1, h2⟩ := seq1_at hm rx hz
  exact call_len_seq pins s σ H _ us Q I r ⟨a, ws, rfl, h1, PostV.val q2 hm (by rw [h2.len]; rfl)⟩
theorem c_abs {m : Bool} : CallR X (.builtin "abs") (rMs X.K G W (biD m "abs")) := by
  intro pins s σ H xs us Q I r h
  obtain ⟨ys, μ, α, β, hm, rx, q⟩ := h
  obtain ⟨i, hz, q⟩ := getOr_post (o := int1 ys) (f := fun i => .ok (.int (if i < 0 then -i else i)) μ) q
  rw [int1_eq hz] at rx
  have e := vr_int1 rx
  subst e
  exact call_abs pins s σ H _ us Q I r ⟨i, rfl, PostV.val q hm rfl⟩
theorem c_int {m : Bool} : CallR X (.type "int") (rMs X.K G W (biD m "int")) := by
  intro pins s σ H xs us Q I r h
  obtain ⟨ys, μ, α, β, hm, rx, q⟩ := h
  obtain ⟨i, hz, q⟩ := getOr_post (o := int1 ys) (f := fun i => .ok (.int i) μ) q
  rw [int1_eq hz] at rx
  have e := vr_int1 rx
  subst e
  exact call_int1 pins s σ H _ us Q I r (.inl ⟨i, rfl, PostV.val q hm rfl⟩)
theorem c_gcd {m : Bool} : CallR X (.builtin "math.gcd") (rMs X.K G W (biD m "gcd")) := by
  intro pins s σ H xs us Q I r h
  obtain ⟨ys, μ, α, β, hm, rx, q⟩ := h
  obtain ⟨p, hz, q⟩ := getOr_post (o := int2 ys) (f := fun p => .ok (.int (Nat.gcd p.1.natAbs p.2.natAbs : Nat)) μ) q
  rw [int2_eq hz] at rx
  have e := vr_int2 rx
  subst e
  exact cr_gcd pins s σ H _ us Q I r ⟨p.1, p.2, rfl, PostV.val q hm rfl⟩
theorem c_list {m : Bool} : CallR X (.type "list") (rMs X.K G W (biD m "list")) := by
  intro pins s σ H xs us Q I r h
  obtain ⟨ys, μ, α, β, hm, rx, q⟩ := h
  obtain ⟨zs, hz, q2⟩ := getOr_post (o := seq1 μ ys) (f := fun xs => alloc m xs μ) q
  obtain ⟨u, a, ws, rfl, rfl, _, _, h1, h2⟩ := seq1_at hm rx hz
  exact call_list_of pins s σ H _ us Q I r ⟨a, ws, rfl, h1, fun p hp => post_alloc q2 hm h2 hp⟩
theorem c_tuple {m : Bool} : CallR X (.type "tuple") (rMs X.K G W (biD m "tuple")) := by
  intro pins s σ H xs us Q I r h
  obtain ⟨ys, μ, α, β, hm, rx, q⟩ := h
  obtain ⟨zs, hz, q2⟩ := getOr_post (o := seq1 μ ys) (f := fun xs => .ok (.tup xs) μ) q
  obtain ⟨u, a, ws, rfl, rfl, h0, r0, h1, h2⟩ := seq1_at hm rx hz
  cases u with
  | tup ts =>
    cases h0
    obtain ⟨a', vs, e, h3, h4⟩ := id r0
    cases e
    exact call_tuple_of pins s σ H _ us Q I r ⟨a, vs, rfl, .inr ⟨h3.seq, PostV.val q2 hm r0⟩⟩
  | lst ts =>
    cases h0
    obtain ⟨a', vs, e, h3, h4⟩ := id r0
    cases e
    exact call_tuple_of pins s σ H _ us Q I r ⟨a, vs, rfl, .inl ⟨SqL.of h3.1, fun p hp => post_tup q2 hm h4 hp⟩⟩
  | rol ts =>
    cases h0
    obtain ⟨a', vs, e, h3, h4⟩ := id r0
    cases e
    exact call_tuple_of pins s σ H _ us Q I r ⟨a, vs, rfl, .inl ⟨h3.seq, fun p hp => post_tup q2 hm h4 hp⟩⟩
  | ref n =>
    obtain ⟨a', vs, e, h3, h4⟩ := lstOf_at hm r0 (show lstOf μ (.ref n) = some zs from h0)
    cases e
    exact call_tuple_of pins s σ H _ us Q I r ⟨a, vs, rfl, .inl ⟨SqL.of h3, fun p hp => post_tup q2 hm h4 hp⟩⟩
  | _ => cases h0
theorem lsq1_at {μ : Mem} {α β : List Addr} {H : Hp} {us xs : List U} {vs : List V} (hm : HR K G μ α β H) (r : VRs K G α β H us vs) (h : lsq1 μ us = some xs) : ∃ a ws, vs = [.ref a] ∧ SqL K H a ws ∧ VRs K G α β H xs ws := by
  unfold lsq1 at h
  cases hu : one1 us with
  | none => rw [hu] at h; cases h
  | some u =>
    rw [hu] at h
    have h : lsq μ u = some xs := h
    have e := one1_eq hu
    subst e
    obtain ⟨v, _, rfl, r1, rfl⟩ := r
    cases u with
    | lst ys =>
      cases h
      obtain ⟨a, ws, rfl, h1, h2⟩ := r1
      exact ⟨a, ws, rfl, SqL.of h1.1, h2⟩
    | rol ys =>
      cases h
      obtain ⟨a, ws, rfl, h1, h2⟩ := r1
      exact ⟨a, ws, rfl, h1.seq, h2⟩
    | ref n =>
      obtain ⟨a, rfl, h1, _⟩ := r1
      obtain ⟨a', ws, e1, e2, e3⟩ := hm.at_ n xs h
      rw [h1] at e1
      cases e1
      exact ⟨a, ws, rfl, SqL.of e2, e3⟩
    | _ => cases h
theorem ints_vs {α β : List Addr} {H : Hp} : ∀ {us : List U} {ys : List Int} {vs : List V}, intsOf us = some ys → VRs K G α β H us vs → vs = ys.map V.int
  | [], ys, vs, e, r => by cases e; cases r; rfl
  | u :: us, ys, vs, e, r => by
    obtain ⟨v, vr, rfl, r1, r2⟩ := r
    cases u with
    | int x =>
      have e : (intsOf us).map (x :: ·) = some ys := e
      cases q : intsOf us with
      | none => rw [q] at e; cases e
      | some zs =>
        rw [q] at e
        cases e
        cases r1
        rw [ints_vs q r2]
        rfl
    | _ => cases e
theorem bools_vs {α β : List Addr} {H : Hp} : ∀ {us : List U} {ys : List Bool} {vs : List V}, boolsOf us = some ys → VRs K G α β H us vs → vs = ys.map V.bl
  | [], ys, vs, e, r => by cases e; cases r; rfl
  | u :: us, ys, vs, e, r => by
    obtain ⟨v, vr, rfl, r1, r2⟩ := r
    cases u with
    | bl x =>
      have e : (boolsOf us).map (x :: ·) = some ys := e
      cases q : boolsOf us with
      | none => rw [q] at e; cases e
      | some zs =>
        rw [q] at e
        cases e
        cases r1
        rw [bools_vs q r2]
        rfl
    | _ => cases e
theorem bind2 {A B : Type} {o : Option A} {f : A → Option B} {b : B} (h : o.bind f = some b) : ∃ a, o = some a ∧ f a = some b := by
  cases o with
  | none => cases h
  | some a => exact ⟨a, rfl, h⟩
theorem c_sum {m : Bool} (hc : X.calm = true) : CallR X (.builtin "sum") (rMs X.K G W (biD m "sum")) := by
  intro pins s σ H xs us Q I r h
  obtain ⟨ys, μ, α, β, hm, rx, q⟩ := h
  obtain ⟨ns, hz, q⟩ := getOr_post (o := (lsq1 μ ys).bind intsOf) (f := fun ns => .ok (.int ns.sum) μ) q
  obtain ⟨zs, h1, h2⟩ := bind2 hz
  obtain ⟨a, ws, rfl, h3, h4⟩ := lsq1_at hm rx h1
  rw [ints_vs h2 h4] at h3
  exact cr_sum hc pins s σ H _ us Q I r ⟨a, ns, rfl, h3, PostV.val q hm rfl⟩
theorem c_all {m : Bool} (hc : X.calm = true) : CallR X (.builtin "all") (rMs X.K G W (biD m "all")) := by
  intro pins s σ H xs us Q I r h
  obtain ⟨ys, μ, α, β, hm, rx, q⟩ := h
  obtain ⟨ns, hz, q⟩ := getOr_post (o := (lsq1 μ ys).bind boolsOf) (f := fun bs => .ok (.bl (bs.all id)) μ) q
  obtain ⟨zs, h1, h2⟩ := bind2 hz
  obtain ⟨a, ws, rfl, h3, h4⟩ := lsq1_at hm rx h1
  rw [bools_vs h2 h4] at h3
  exact cr_all hc pins s σ H _ us Q I r ⟨a, ns, rfl, h3, PostV.val q hm rfl⟩
/-- the truth of bools and ints -/
theorem truth_bi {prog : Program} {w : World} {A : Around} {bs : List Bool} {its : List Value} (hl : its.length = bs.length) (e : ∀ (i : Nat) (v : Value) (b : Bool), its[i]? = some v → bs[i]? = some b → v = Value.bool b ∨ ∃ n t, v = Value.int n t ∧ b = (n != 0)) :
    TruthOf prog w A (fun i v => its.toArray[i]? = some v) (fun i => bs.getD i false) := fun i v s Q E hv hq => by
  have hv' : its[i]? = some v := by simpa using hv
  have hi : i < bs.length := by rw [← hl]; exact (List.getElem?_eq_some_iff.mp hv').1
  have hb : bs[i]? = some bs[i] := List.getElem?_eq_getElem hi
  have hg : bs.getD i false = bs[i] := by rw [List.getD_eq_getElem?_getD, hb] <;> rfl
  have hq' : Q (bs.getD i false) s := hq
  rw [hg] at hq'
  rcases e i v _ hv' hb with rfl | ⟨n, t, rfl, z⟩
  · exact wpAny_truthy_bool hq'
  · rw [z] at hq'
    exact PySem.P.truthy_int hq'
theorem truths_vs {α β : List Addr} {H : Hp} : ∀ {us : List U} {bs : List Bool} {vs : List V} {ws : List Value}, truthsOf us = some bs → VRs K G α β H us vs → Vals vs ws →
    ws.length = bs.length ∧ ∀ (i : Nat) (v : Value) (b : Bool), ws[i]? = some v → bs[i]? = some b → v = Value.bool b ∨ ∃ n t, v = Value.int n t ∧ b = (n != 0)
  | [], bs, vs, ws, e, r, rv => by
    cases e
    cases r
    cases rv
    exact ⟨rfl, fun i v b h => by simp at h⟩
  | u :: us, bs, vs, ws, e, r, rv => by
    obtain ⟨v, vr, rfl, r1, r2⟩ := r
    cases rv with
    | cons rx rr =>
    cases u with
    | bl x =>
      have e : (truthsOf us).map (x :: ·) = some bs := e
      cases q : truthsOf us with
      | none => rw [q] at e; cases e
      | some zs =>
        rw [q] at e
        cases e
        cases r1
        cases rx
        obtain ⟨h1, h2⟩ := truths_vs q r2 rr
        refine ⟨by simp [h1], fun i v b hv hb => ?_⟩
        cases i with
        | zero =>
          simp at hv hb
          subst hv hb
          exact .inl rfl
        | succ i => exact h2 i v b (by simpa using hv) (by simpa using hb)
    | int x =>
      have e : (truthsOf us).map ((x != 0) :: ·) = some bs := e
      cases q : truthsOf us with
      | none => rw [q] at e; cases e
      | some zs =>
        rw [q] at e
        cases e
        cases r1
        obtain ⟨tk, rfl⟩ := rx
        obtain ⟨h1, h2⟩ := truths_vs q r2 rr
        refine ⟨by simp [h1], fun i v b hv hb => ?_⟩
        cases i with
        | zero =>
          simp at hv hb
          subst hv hb
          exact .inr ⟨x, tk, rfl, rfl⟩
        | succ i => exact h2 i v b (by simpa using hv) (by simpa using hb)
    | _ => cases e
theorem c_any {m : Bool} (hc : X.calm = true) : CallR X (.builtin "any") (rMs X.K G W (biD m "any")) := by
  intro pins s σ H xs us Q I r h
  obtain ⟨ys, μ, α, β, hm, rx, q⟩ := h
  obtain ⟨bs, hz, q2⟩ := getOr_post (o := (seq1 μ ys).bind truthsOf) (f := fun bs => .ok (.bl (bs.any id)) μ) q
  obtain ⟨zs, h1, h2⟩ := bind2 hz
  clear q
  obtain ⟨u, a, ws, rfl, rfl, _, _, h3, h4⟩ := seq1_at hm rx h1
  have fin : ∀ (its : List Value), its.length = bs.length → ((List.range its.toArray.size).any fun i => bs.getD i false) = bs.any id := fun its e => by
    rw [List.size_toArray, e]
    exact any_range bs
  rw [Vals.ref1 r]
  rcases h3 with h3 | h3
  · obtain ⟨its, rv, hl, _⟩ := I.list h3
    obtain ⟨e1, e2⟩ := truths_vs h2 h4 rv
    refine call_any_walk (iter_any hl.isList fun s₂ es st hne => ?_)
    subst es
    refine ⟨_, _, _, _, _, _, _, rfl, Walks.list (A := X.A.in1) (I.ok.hd hc) _ a hne its.toArray, st, truth_bi e1 e2, fun h' tk hk => ?_⟩
    refine ⟨.bl _, H, I.kept fun b o eo => hk b o (fun hmem => ?_) (Heap.get?_push_of_some _ eo), ?_, PostV.val q2 hm rfl⟩
    · rcases List.mem_cons.mp hmem with e1 | hmem
      · exact absurd (e1 ▸ Heap.lt_size eo) (Nat.lt_irrefl _)
      · cases hmem
    · show Value.bool _ = Value.bool _
      rw [fin its e1]
  · obtain ⟨its, rv, hl, _⟩ := I.tuple h3
    obtain ⟨e1, e2⟩ := truths_vs h2 h4 rv
    obtain ⟨ot, hot, _⟩ := id hl
    have hlt : a < s.heap.objs.size := Heap.lt_size hot
    refine call_any_walk (wpAny_pyIter_tuple hl ?_)
    refine ⟨_, _, _, _, _, _, _, rfl, Walks.tuple (A := X.A.in1) (I.ok.hd hc) _ a (Nat.ne_of_lt hlt) its.toArray, ⟨⟨_, Heap.get?_push_size _ rfl, rfl, rfl⟩, Heap.IsTuple.push hl _⟩, truth_bi e1 e2, fun h' tk hk => ?_⟩
    refine ⟨.bl _, H, I.kept fun b o eo => hk b o (fun hmem => ?_) (Heap.get?_push_of_some _ eo), ?_, PostV.val q2 hm rfl⟩
    · rcases List.mem_cons.mp hmem with e1 | hmem
      · exact absurd (e1 ▸ Heap.lt_size eo) (Nat.lt_irrefl _)
      · cases hmem
    · show Value.bool _ = Value.bool _
      rw [fin its e1]
theorem str1_inv {us : List U} {s : Str} (h : str1 us = some s) : ∃ i, us = [.int i] ∧ i.natAbs.log2 < 1920 ∧ s = toString i := by
  unfold str1 at h
  split at h
  · rename_i i
    by_cases hz : i.natAbs.log2 < 1920
    · rw [if_pos hz] at h
      cases h
      exact ⟨i, rfl, hz, rfl⟩
    · rw [if_neg hz] at h
      cases h
  · cases h
theorem c_str {m : Bool} : CallR X (.type "str") (rMs X.K G W (biD m "str")) := by
  intro pins s σ H xs us Q I r h
  obtain ⟨ys, μ, α, β, hm, rx, q⟩ := h
  obtain ⟨z, hz, q⟩ := getOr_post (o := str1 ys) (f := fun s => .ok (.str s) μ) q
  obtain ⟨i, rfl, hl, rfl⟩ := str1_inv hz
  have e := vr_int1 rx
  subst e
  exact call_str_int pins s σ H _ us Q I r ⟨i, rfl, hl, PostV.val q hm rfl⟩
theorem nat1_inv {us : List U} {n : Nat} (h : nat1 us = some n) : ∃ i, us = [.int i] ∧ 0 ≤ i ∧ i < 2 ^ 64 ∧ n = i.toNat := by
  unfold nat1 at h
  split at h
  · rename_i i
    by_cases hz : (decide (0 ≤ i) && decide (i < 2 ^ 64)) = true
    · rw [if_pos hz] at h
      cases h
      simp only [Bool.and_eq_true, decide_eq_true_eq] at hz
      exact ⟨i, rfl, hz.1, hz.2, rfl⟩
    · rw [if_neg hz] at h
      cases h
  · cases h
theorem c_isqrt {m : Bool} : CallR X (.builtin "math.isqrt") (rMs X.K G W (biD m "isqrt")) := by
  intro pins s σ H xs us Q I r h
  obtain ⟨ys, μ, α, β, hm, rx, q⟩ := h
  obtain ⟨z, hz, q⟩ := getOr_post (o := nat1 ys) (f := fun n => .ok (.int (PySem.Float64.isqrt n : Nat)) μ) q
  obtain ⟨i, rfl, h0, h1, rfl⟩ := nat1_inv hz
  have e := vr_int1 rx
  subst e
  cases r with
  | cons ra rr =>
    cases rr
    obtain ⟨tk, rfl⟩ := ra
    exact PySem.W.mg_isqrt h0 h1 ⟨.int _, H, I.tok _, ⟨_, rfl⟩, PostV.val q hm rfl⟩
theorem maxI_of : ∀ {ns : List Int} {n m : Int}, maxI ns = some n → m ∈ ns → (∀ y, y ∈ ns → y ≤ m) → n = m
  | [], _, _, h, _, _ => by cases h
  | x :: xs, n, m, h, hm, hy => by
    unfold maxI at h
    cases q : maxI xs with
    | none =>
      rw [q] at h
      cases h
      cases xs with
      | nil => exact (List.mem_singleton.mp hm).symm
      | cons y ys => unfold maxI at q; cases q2 : maxI ys <;> rw [q2] at q <;> cases q
    | some k =>
      rw [q] at h
      cases h
      have hx := hy x List.mem_cons_self
      have hk : k ≤ m := by
        have km : ∀ {l : List Int} {k : Int}, maxI l = some k → k ∈ l := fun {l} => by
          induction l with
          | nil => intro k h; cases h
          | cons a l ih =>
            intro k h
            unfold maxI at h
            cases q : maxI l with
            | none => rw [q] at h; cases h; exact List.mem_cons_self
            | some j =>
              rw [q] at h
              cases h
              by_cases z : j ≤ a
              · rw [if_pos z]; exact List.mem_cons_self
              · rw [if_neg z]; exact List.mem_cons_of_mem _ (ih q)
        exact hy k (List.mem_cons_of_mem _ (km q))
      rcases List.mem_cons.mp hm with e | e
      · subst e
        rw [if_pos hk]
      · have := maxI_of q e (fun y hy' => hy y (List.mem_cons_of_mem _ hy'))
        subst this
        by_cases z : k ≤ x
        · rw [if_pos z]; omega
        · rw [if_neg z]
theorem minI_of : ∀ {ns : List Int} {n m : Int}, minI ns = some n → m ∈ ns → (∀ y, y ∈ ns → m ≤ y) → n = m
  | [], _, _, h, _, _ => by cases h
  | x :: xs, n, m, h, hm, hy => by
    unfold minI at h
    cases q : minI xs with
    | none =>
      rw [q] at h
      cases h
      cases xs with
      | nil => exact (List.mem_singleton.mp hm).symm
      | cons y ys => unfold minI at q; cases q2 : minI ys <;> rw [q2] at q <;> cases q
    | some k =>
      rw [q] at h
      cases h
      have hx := hy x List.mem_cons_self
      have hk : m ≤ k := by
        have km : ∀ {l : List Int} {k : Int}, minI l = some k → k ∈ l := fun {l} => by
          induction l with
          | nil => intro k h; cases h
          | cons a l ih =>
            intro k h
            unfold minI at h
            cases q : minI l with
            | none => rw [q] at h; cases h; exact List.mem_cons_self
            | some j =>
              rw [q] at h
              cases h
              by_cases z : a ≤ j
              · rw [if_pos z]; exact List.mem_cons_self
              · rw [if_neg z]; exact List.mem_cons_of_mem _ (ih q)
        exact hy k (List.mem_cons_of_mem _ (km q))
      rcases List.mem_cons.mp hm with e | e
      · subst e
        rw [if_pos hk]
      · have := minI_of q e (fun y hy' => hy y (List.mem_cons_of_mem _ hy'))
        subst this
        by_cases z : x ≤ k
        · rw [if_pos z]; omega
        · rw [if_neg z]
theorem c_max {m : Bool} (hc : X.calm = true) : CallR X (.builtin "max") (rMs X.K G W (biD m "max")) := by
  intro pins s σ H xs us Q I r h
  obtain ⟨ys, μ, α, β, hm, rx, q⟩ := h
  have q : PostV X.K G β W (match int2 ys with
    | some p => .ok (.int (if p.2 > p.1 then p.2 else p.1)) μ
    | none => getOr (((lsq1 μ ys).bind intsOf).bind maxI) fun n => .ok (.int n) μ) α H Q := q
  cases hi : int2 ys with
  | some p =>
    rw [hi] at q
    rw [int2_eq hi] at rx
    rw [vr_int2 rx] at r
    exact call_max2 hc pins s σ H _ us Q I r ⟨p.1, p.2, rfl, PostV.val q hm rfl⟩
  | none =>
    rw [hi] at q
    obtain ⟨n, hz, q⟩ := getOr_post (o := ((lsq1 μ ys).bind intsOf).bind maxI) (f := fun n => .ok (.int n) μ) q
    obtain ⟨ns, hz2, hn⟩ := bind2 hz
    obtain ⟨zs, h1, h2⟩ := bind2 hz2
    obtain ⟨a, ws, rfl, h3, h4⟩ := lsq1_at hm rx h1
    rw [ints_vs h2 h4] at h3
    refine cr_max hc pins s σ H _ us Q I r ⟨a, ns, rfl, h3, ?_, fun k hk hy => ?_⟩
    · cases ns with
      | nil => cases hn
      | cons _ _ => simp
    · rw [← maxI_of hn hk hy]
      exact PostV.val q hm rfl
theorem c_min {m : Bool} (hc : X.calm = true) : CallR X (.builtin "min") (rMs X.K G W (biD m "min")) := by
  intro pins s σ H xs us Q I r h
  obtain ⟨ys, μ, α, β, hm, rx, q⟩ := h
  have q : PostV X.K G β W (match int2 ys with
    | some p => .ok (.int (if p.2 < p.1 then p.2 else p.1)) μ
    | none => getOr (((lsq1 μ ys).bind intsOf).bind minI) fun n => .ok (.int n) μ) α H Q := q
  cases hi : int2 ys with
  | some p =>
    rw [hi] at q
    rw [int2_eq hi] at rx
    rw [vr_int2 rx] at r
    exact call_min2 hc pins s σ H _ us Q I r ⟨p.1, p.2, rfl, PostV.val q hm rfl⟩
  | none =>
    rw [hi] at q
    obtain ⟨n, hz, q⟩ := getOr_post (o := ((lsq1 μ ys).bind intsOf).bind minI) (f := fun n => .ok (.int n) μ) q
    obtain ⟨ns, hz2, hn⟩ := bind2 hz
    obtain ⟨zs, h1, h2⟩ := bind2 hz2
    obtain ⟨a, ws, rfl, h3, h4⟩ := lsq1_at hm rx h1
    rw [ints_vs h2 h4] at h3
    refine cr_min hc pins s σ H _ us Q I r ⟨a, ns, rfl, h3, ?_, fun k hk hy => ?_⟩
    · cases ns with
      | nil => cases hn
      | cons _ _ => simp
    · rw [← minI_of hn hk hy]
      exact PostV.val q hm rfl
theorem m_args {f : List U → Mem → R U} {ds : Slots → Mem → R (List U)} {e : Expr} (h : PE X e (tCB (rMs X.K G W f) (tA X.K G W ds))) : ME X G W (fun ρ μ => (ds ρ μ).bind fun us μ1 => f us μ1) e :=
  pe_imp h fun σ H Q ⟨ρ, μ, α, β, hs, hm, q⟩ => ⟨ρ, μ, α, β, hs, hm, PostG.mono (PostG.bind q) fun us μ1 α1 H1 hm1 e1 q1 xs rx => ⟨us, μ1, α1, β, hm1, rx, q1⟩⟩
theorem m_bi {m : Bool} {b : Str} {ds : Slots → Mem → R (List U)} {x : Str} {e : Expr} {es : List Expr} {p pos : Pos} (g : GX S G k C N sc fb W X) (hb : biB S fb sc b x = true) (hns : (e :: es).all notStar = true) (h : MA X G W ds (e :: es)) :
    ME X G W (fun ρ μ => (ds ρ μ).bind fun us μ1 => biD m b us μ1) (.Call (.Name x p) (e :: es) [] pos) := by
  simp only [List.all_cons, Bool.and_eq_true] at hns
  unfold biB at hb
  simp only [Bool.and_eq_true, Bool.or_eq_true, beq_iff_eq] at hb
  obtain ⟨⟨rfl, hg⟩, hb⟩ := hb
  have hg := glo_of hg g.hs
  have fr : S.fr.contains b = true → X.mg b = none := fun z => g.mf.fr b (by simpa using z)
  rcases hb with (⟨⟨h0, h1⟩, h2⟩ | ⟨h1, h2 | h2⟩) | h2
  · have hc := (g.calm h0).1
    simp only [biCalm, List.any_cons, List.any_nil, Bool.or_false, Bool.or_eq_true, beq_iff_eq] at h2
    rcases h2 with rfl | rfl | rfl | rfl | rfl
    · exact m_args (pe_callB (c_sum hc) hg.1 (fr h1) (by decide +kernel) h (ok_name hg.2) (ok_debug hg.2) (star_cons hns.1) (star_plain hns.2))
    · exact m_args (pe_callB (c_all hc) hg.1 (fr h1) (by decide +kernel) h (ok_name hg.2) (ok_debug hg.2) (star_cons hns.1) (star_plain hns.2))
    · exact m_args (pe_callB (c_any hc) hg.1 (fr h1) (by decide +kernel) h (ok_name hg.2) (ok_debug hg.2) (star_cons hns.1) (star_plain hns.2))
    · exact m_args (pe_callB (c_max hc) hg.1 (fr h1) (by decide +kernel) h (ok_name hg.2) (ok_debug hg.2) (star_cons hns.1) (star_plain hns.2))
    · exact m_args (pe_callB (c_min hc) hg.1 (fr h1) (by decide +kernel) h (ok_name hg.2) (ok_debug hg.2) (star_cons hns.1) (star_plain hns.2))
  · simp only [biFun, List.any_cons, List.any_nil, Bool.or_false, Bool.or_eq_true, beq_iff_eq] at h2
    rcases h2 with rfl | rfl
    · exact m_args (pe_callB c_len hg.1 (fr h1) (by decide +kernel) h (ok_name hg.2) (ok_debug hg.2) (star_cons hns.1) (star_plain hns.2))
    · exact m_args (pe_callB c_abs hg.1 (fr h1) (by decide +kernel) h (ok_name hg.2) (ok_debug hg.2) (star_cons hns.1) (star_plain hns.2))
  · simp only [biTy, List.any_cons, List.any_nil, Bool.or_false, Bool.or_eq_true, beq_iff_eq] at h2
    rcases h2 with rfl | rfl | rfl | rfl
    · exact m_args (pe_callTy c_int hg.1 (fr h1) (by decide +kernel) h (ok_name hg.2) (ok_debug hg.2) (star_cons hns.1) (star_plain hns.2))
    · exact m_args (pe_callTy c_list hg.1 (fr h1) (by decide +kernel) h (ok_name hg.2) (ok_debug hg.2) (star_cons hns.1) (star_plain hns.2))
    · exact m_args (pe_callTy c_tuple hg.1 (fr h1) (by decide +kernel) h (ok_name hg.2) (ok_debug hg.2) (star_cons hns.1) (star_plain hns.2))
    · exact m_args (pe_callTy c_str hg.1 (fr h1) (by decide +kernel) h (ok_name hg.2) (ok_debug hg.2) (star_cons hns.1) (star_plain hns.2))
  · simp only [biMod, List.any_cons, List.any_nil, Bool.or_false, Bool.or_eq_true, Bool.and_eq_true, beq_iff_eq] at h2
    rcases h2 with ⟨rfl, h3⟩ | ⟨rfl, h3⟩
    · exact m_args (pe_callBfun c_gcd hg.1 (g.mf.mb _ (by simpa using h3)) h (ok_debug hg.2) (star_cons hns.1) (star_plain hns.2))
    · exact m_args (pe_callBfun c_isqrt hg.1 (g.mf.mb _ (by simpa using h3)) h (ok_debug hg.2) (star_cons hns.1) (star_plain hns.2))
/-! ### isinstance -/
/-- the name of a value's type -/
def tyN : U → Option String
  | .non => some "NoneType"
  | .bl _ => some "bool"
  | .int _ => some "int"
  | .str _ => some "str"
  | .tup _ => some "tuple"
  | .lst _ => some "list"
  | .rol _ => some "list"
  | .ref _ => some "list"
  | .fn _ => none
  | .exn => none
  | .dref _ => none
  | .dtag => none
theorem ty_of {u : U} {x : V} {α β : List Addr} {H : Hp} {μ : Mem} {T : String} (hm : HR K G μ α β H) (r : VR K G α β H u x) (h : tyN u = some T) (hr : ∀ n, u = .ref n → n < μ.length) : TyX K H x (.type T) := by
  cases u with
  | non => cases r; cases h; exact .base .non
  | bl _ => cases r; cases h; exact .base (.bl _)
  | int _ => cases r; cases h; exact .base (.int _)
  | str _ => cases r; cases h; exact .base (.str _)
  | fn _ => cases h
  | exn => cases h
  | dref _ => cases h
  | dtag => cases h
  | tup _ =>
    cases h
    obtain ⟨a, vs, rfl, h1, _⟩ := r
    rcases h1 with ⟨h1 | ⟨o, h1⟩, _⟩ | ⟨o, its, n, h1, h2, _⟩
    · exact .base (.tup h1)
    · exact .fTuple h1
    · exact .kTuple h1 h2
  | lst _ =>
    cases h
    obtain ⟨a, vs, rfl, h1, _⟩ := r
    exact .base (.lst h1.1)
  | rol _ =>
    cases h
    obtain ⟨a, vs, rfl, h1, _⟩ := r
    rcases h1 with ⟨h1 | ⟨o, h1⟩, _⟩ | ⟨o, its, n, h1, h2, _⟩
    · exact .base (.lst h1)
    · exact .base (.frz h1)
    · exact .kList h1 h2
  | ref n =>
    cases h
    obtain ⟨a, rfl, h1, vs, h2⟩ := r
    exact .base (.lst h2)
def isTyp : List (Str × String) := [("int", "int"), ("bool", "bool"), ("str", "str"), ("tuple", "tuple"), ("list", "list")]
theorem isi_kit {t : Str} {u : U} {b : Bool} (h : isiD t u = some b) : ∃ T s, tyN u = some T ∧ (t, s) ∈ isTyp ∧ kitB T s = some b ∧ bootBuiltins t = some (.type s) := by
  unfold isiD at h
  by_cases h1 : t = "int"
  · subst h1
    refine (fun (z : ∃ T, tyN u = some T ∧ kitB T "int" = some b) => ⟨z.choose, "int", z.choose_spec.1, by decide, z.choose_spec.2, by decide +kernel⟩) ?_
    rw [if_pos rfl] at h
    cases u <;> first | (cases h; exact ⟨_, rfl, by decide +kernel⟩) | cases h
  rw [if_neg h1] at h
  by_cases h2 : t = "bool"
  · subst h2
    refine (fun (z : ∃ T, tyN u = some T ∧ kitB T "bool" = some b) => ⟨z.choose, "bool", z.choose_spec.1, by decide, z.choose_spec.2, by decide +kernel⟩) ?_
    rw [if_pos rfl] at h
    cases u <;> first | (cases h; exact ⟨_, rfl, by decide +kernel⟩) | cases h
  rw [if_neg h2] at h
  by_cases h3 : t = "str"
  · subst h3
    refine (fun (z : ∃ T, tyN u = some T ∧ kitB T "str" = some b) => ⟨z.choose, "str", z.choose_spec.1, by decide, z.choose_spec.2, by decide +kernel⟩) ?_
    rw [if_pos rfl] at h
    cases u <;> first | (cases h; exact ⟨_, rfl, by decide +kernel⟩) | cases h
  rw [if_neg h3] at h
  by_cases h4 : t = "tuple"
  · subst h4
    refine (fun (z : ∃ T, tyN u = some T ∧ kitB T "tuple" = some b) => ⟨z.choose, "tuple", z.choose_spec.1, by decide, z.choose_spec.2, by decide +kernel⟩) ?_
    rw [if_pos rfl] at h
    cases u <;> first | (cases h; exact ⟨_, rfl, by decide +kernel⟩) | cases h
  rw [if_neg h4] at h
  by_cases h5 : t = "list"
  · subst h5
    refine (fun (z : ∃ T, tyN u = some T ∧ kitB T "list" = some b) => ⟨z.choose, "list", z.choose_spec.1, by decide, z.choose_spec.2, by decide +kernel⟩) ?_
    rw [if_pos rfl] at h
    cases u <;> first | (cases h; exact ⟨_, rfl, by decide +kernel⟩) | cases h
  rw [if_neg h5] at h
  cases h
theorem m_isi {da : Slots → Mem → R U} {x t : Str} {a : Expr} {p p2 pos : Pos} (g : GX S G k C N sc fb W X) (hx : x = "isinstance") (hg : freeB S sc x = true) (ht : freeB S sc t = true) (hb : isTys.contains t = true) (hn : notStar a = true) (h : ME X G W da a) :
    ME X G W (fun ρ μ => (da ρ μ).bind fun u μ1 => match isiD t u with
      | some b => .ok (.bl b) μ1
      | none => .bad) (.Call (.Name x p) [a, .Name t p2] [] pos) := by
  subst hx
  unfold freeB at hg ht
  simp only [Bool.and_eq_true] at hg ht
  have g1 := glo_of hg.1 g.hs
  have g2 := glo_of ht.1 g.hs
  have f1 : X.mg "isinstance" = none := g.mf.fr _ (by simpa using hg.2)
  have f2 : X.mg t = none := g.mf.fr _ (by simpa using ht.2)
  obtain ⟨s, hs1, hs2⟩ : ∃ s, (t, s) ∈ isTyp ∧ bootBuiltins t = some (.type s) := by
    simp only [isTys, List.contains_eq_mem, List.mem_cons, List.mem_nil_iff, or_false, decide_eq_true_eq] at hb
    rcases hb with rfl | rfl | rfl | rfl | rfl
    · exact ⟨"int", by decide, by decide +kernel⟩
    · exact ⟨"bool", by decide, by decide +kernel⟩
    · exact ⟨"str", by decide, by decide +kernel⟩
    · exact ⟨"tuple", by decide, by decide +kernel⟩
    · exact ⟨"list", by decide, by decide +kernel⟩
  have hT : PE X (.Name t p2) (tC (.ty s)) := pe_bltn g2.1 f2 hs2 rfl (ok_name g2.2) (ok_debug g2.2)
  refine pe_imp (pe_callB call_isi g1.1 f1 PyProof.Rows.boot_isinstance (pa_cons h (pa_cons hT pa_nil) (star_cons hn)) (ok_name g1.2) (ok_debug g1.2) (star_cons hn) rfl) fun σ H Q ⟨ρ, μ, α, β, hs, hm, q⟩ => ?_
  refine ⟨ρ, μ, α, β, hs, hm, PostG.mono (PostG.bind q) fun u μ1 α1 H1 hm1 e1 q1 y ry => ?_⟩
  cases hi : isiD t u with
  | none => simp only [hi] at q1; exact q1.elim
  | some b =>
    simp only [hi] at q1
    obtain ⟨T, s', h1, h2, h3, h4⟩ := isi_kit hi
    have es : s' = s := by
      rw [hs2] at h4
      cases h4
      rfl
    subst es
    refine ⟨y, .ty s', .type T, .type s', b, rfl, .ty s', ty_of hm1 ry h1 (fun n e => ?_), kit_ty h3, PostV.val q1 hm1 rfl⟩
    subst e
    obtain ⟨a', _, h5, _⟩ := ry
    rw [← hm1.len]
    exact (List.getElem?_eq_some_iff.mp h5).1
/-! ### o.append(e) -/
theorem m_app {dO de : Slots → Mem → R U} {o e : Expr} {apos pos : Pos} (hl : (apos.endLine == pos.line) = true) (hc : notCall o = true) (hn : notStar e = true) (ho : ME X G W dO o) (he : ME X G W de e) :
    ME X G W (fun ρ μ => (dO ρ μ).bind fun u μ1 => match u with
      | .ref n => (de ρ μ1).bind fun v μ2 => match getL μ2 n with
        | some xs => if xs.length < bigL then .ok .non (μ2.set n (xs ++ [v])) else .bad
        | none => .bad
      | _ => .bad) (.Call (.Attribute o "append" apos) [e] [] pos) := by
  have hbase : attributeBase o "append" X.env (eval o X.env) = eval o X.env := by
    cases o <;> first | rfl | cases hc
  have hfew : ((backTo pos (starEach [e] X.env)).all (fun x => !x.1) && (backToKw pos (keywordEach [] X.env)).all (fun x => x.1.isSome)
      && decide ((e :: ([] : List Expr)).length + ([] : List Keyword).length + (if ([] : List Keyword).isEmpty then 0 else 1) < 30)) = true := by
    rw [star_all (by simp [hn])]
    rfl
  have mt : MtR X "list.append" rAppend := mt_append
  refine pe_imp (pe_bm PySem.F.plainAttrs_list PySem.F.slot_list_append PySem.F.type_list_append mt ho (pa_cons he pa_nil (star_cons hn)) hbase hfew hl (star_cons hn) rfl) fun σ H Q ⟨ρ, μ, α, β, hs, hm, q⟩ => ?_
  refine ⟨ρ, μ, α, β, hs, hm, PostG.mono (PostG.bind q) fun u μ1 α1 H1 hm1 e1 q1 x rx => ?_⟩
  cases u with
  | ref n =>
    obtain ⟨a, rfl, hn, vs, hv⟩ := rx
    refine ⟨.inl ⟨rfl, vs, SqL.of hv⟩, ρ, μ1, α1, β, hs.mono e1, hm1, PostG.mono (PostG.bind q1) fun v μ2 α2 H2 hm2 e2 q2 y ry => ?_⟩
    cases hx : getL μ2 n with
    | none => simp only [hx] at q2; exact q2.elim
    | some xs =>
      simp only [hx] at q2
      by_cases hz : xs.length < bigL
      · rw [if_pos hz] at q2
        obtain ⟨a', ws, g1, g2, g3⟩ := hm2.at_ n xs hx
        rw [pre_get e2.pre hn] at g1
        cases g1
        have ext := hm2.set (pre_get e2.pre hn) g2 (g3.app (show VRs X.K G α2 β H2 [v] [y] from ⟨y, [], rfl, ry, rfl⟩))
        exact ⟨a, ws, y, rfl, rfl, g2, by rw [← g3.len, sizeLine_eq]; exact hz, q2 _ _ ext.2 ext.1 _ rfl⟩
      · rw [if_neg hz] at q2
        exact q2.elim
  | _ => exact q1.elim
/-! ### xs[::-1] -/
theorem m_rev {m : Bool} {de : Slots → Mem → R U} {e : Expr} {k1 : Nat} {p1 p2 p3 pos : Pos} (he : ME X G W de e) :
    ME X G W (fun ρ μ => (de ρ μ).bind fun u μ1 => getOr (lsq1 μ1 [u]) fun xs => alloc m xs.reverse μ1) (.Subscript e (.Slice none none (some (.UnaryOp .USub (.Constant (.int 1) k1 p1) p2)) p3) pos) := by
  refine pe_imp (pe_revL he) fun σ H Q ⟨ρ, μ, α, β, hs, hm, q⟩ => ?_
  refine ⟨ρ, μ, α, β, hs, hm, PostG.mono (PostG.bind q) fun u μ1 α1 H1 hm1 e1 q1 x rx => ?_⟩
  obtain ⟨xs, hx, q2⟩ := getOr_post (f := fun xs : List U => alloc m xs.reverse μ1) q1
  obtain ⟨a, ws, e2, h1, h2⟩ := lsq1_at hm1 (show VRs X.K G α1 β H1 [u] [x] from ⟨x, [], rfl, rx, rfl⟩) hx
  have ex : x = .ref a := by injection e2
  subst ex
  exact ⟨a, ws, rfl, h1, fun p hp => post_alloc q2 hm1 (vrs_rev h2) hp⟩
/-! ### sep.join(rows) -/
theorem strs_vs {α β : List Addr} {H : Hp} : ∀ {us : List U} {ys : List Str} {vs : List V}, strsOf us = some ys → VRs K G α β H us vs → vs = ys.map V.str
  | [], ys, vs, e, r => by cases e; cases r; rfl
  | u :: us, ys, vs, e, r => by
    obtain ⟨v, vr, rfl, r1, r2⟩ := r
    cases u with
    | str x =>
      have e : (strsOf us).map (x :: ·) = some ys := e
      cases q : strsOf us with
      | none => rw [q] at e; cases e
      | some zs =>
        rw [q] at e
        cases e
        cases r1
        rw [strs_vs q r2]
        rfl
    | _ => cases e
theorem m_join {dO de : Slots → Mem → R U} {o e : Expr} {apos pos : Pos} (hl : (apos.endLine == pos.line) = true) (hc : notCall o = true) (hn : notStar e = true) (ho : ME X G W dO o) (he : ME X G W de e) :
    ME X G W (fun ρ μ => (dO ρ μ).bind fun u μ1 => match u with
      | .str a => (de ρ μ1).bind fun v μ2 => joinD a v μ2
      | _ => .bad) (.Call (.Attribute o "join" apos) [e] [] pos) := by
  have hbase : attributeBase o "join" X.env (eval o X.env) = eval o X.env := by
    cases o <;> first | rfl | cases hc
  refine pe_imp (pe_join ho he (star_cons hn) hbase hl) fun σ H Q ⟨ρ, μ, α, β, hs, hm, q⟩ => ?_
  refine ⟨ρ, μ, α, β, hs, hm, PostG.mono (PostG.bind q) fun u μ1 α1 H1 hm1 e1 q1 x rx => ?_⟩
  cases u with
  | str a =>
    cases rx
    refine ⟨⟨a, rfl⟩, ρ, μ1, α1, β, hs.mono e1, hm1, PostG.mono (PostG.bind q1) fun v μ2 α2 H2 hm2 e2 q2 y ry => ?_⟩
    obtain ⟨ys, hy, q3⟩ := getOr_post (f := fun ys => if (ys.map (·.length)).sum + ys.length * a.length ≤ bigL then .ok (.str (Txt.join a ys)) μ2 else .bad) q2
    by_cases hz : (ys.map (·.length)).sum + ys.length * a.length ≤ bigL
    · rw [if_pos hz] at q3
      cases hx : seqOf μ2 v with
      | none => rw [hx] at hy; cases hy
      | some xs =>
        rw [hx] at hy
        obtain ⟨p, ws, rfl, h1, h2⟩ := seqOf_at hm2 ry hx
        have ew := strs_vs hy h2
        subst ew
        exact ⟨a, p, ys, rfl, rfl, h1, hz, PostV.val q3 hm2 rfl⟩
    · rw [if_neg hz] at q3
      exact q3.elim
  | _ => exact q1.elim
/-! ### isinstance(e, X), e the exception that is handled -/
def rIsX (K : PySem.W.Frag) (D a : Addr) (d' : Option Addr) : List V → Hp → VK → Prop := fun xs H Q => (∀ dd, d' = some dd → ∃ fs, H dd = some (.xd fs)) ∧ rIsE K D a xs H Q
theorem call_exn {D : Addr} {d' : Option Addr} {p : Addr × Obj} (E : ExcC X.K D) (hp : p ∈ X.pn) (hz : Zc (.ref D) d' p.2) (hf : ∃ vs, p.2.data = .fields vs) : CallR X (.builtin "isinstance") (rIsX X.K D p.1 d') := by
  intro pins s σ H xs us Q I r h
  obtain ⟨hd, c, cv, b, rfl, hcv, e, q⟩ := h
  cases r with
  | cons rx rr =>
    cases rr with
    | cons rt rr =>
      cases rr
      cases rx
      have ec := hcv _ rt
      subst ec
      obtain ⟨a, oe⟩ := p
      obtain ⟨hget, _⟩ := I.pin (a, oe) (List.mem_append_left _ hp)
      obtain ⟨vs, hv⟩ := hf
      suffices hJ : ∃ od, PySem.W.InstAt s.heap a oe D od by
        obtain ⟨od, J⟩ := hJ
        exact PySem.W.kia_one (MiniY.kit_exc E) I.kIn J e (fun z => nomatch z) fun tk => ⟨.bl b, H, I.kept (t' := tk) fun _ _ z => z, rfl, q⟩
      cases d' with
      | none =>
        have J : PySem.W.InstAt s.heap a oe D none := by
          obtain ⟨oc, od, oda, osl⟩ := oe
          obtain ⟨h1, h2⟩ := hz
          dsimp only at h1 h2 hv
          subst h1 h2 hv
          exact ⟨hget, rfl, rfl, trivial⟩
        exact ⟨_, J⟩
      | some dd =>
        obtain ⟨fs, hx⟩ := hd dd rfl
        obtain ⟨mA, hns, _⟩ := (I.hok dd _ hx : ObjOk X.prog X.w H s.heap dd (.xd fs))
        obtain ⟨od, ho, _⟩ := lookIn_ns hns
        have J : PySem.W.InstAt s.heap a oe D (some od) := ⟨hget, hz.1, by unfold PySem.W.notCls; rw [hv] <;> rfl, by rw [hz.2]; exact ho⟩
        exact ⟨_, J⟩
theorem m_isE {i : Nat} {x y z : Str} {p p1 p2 pos : Pos} (g : GX S G k C N sc fb W X) (hc : fb.calm = false) (hx : x = "isinstance") (hf : freeB S sc x = true) (hN : N[i]? = some y) (hv : visB sc y = true) (hn : nameOk y = true) (hg : gloB sc z = true) (hz : S.xs.contains z = true) :
    ME X G W (fun ρ μ => match ρ[i]? with
      | some (some .exn) => match C.exn with
        | some ⟨k, _⟩ => .ok (.bl (k == z)) μ
        | _ => .bad
      | _ => .bad) (.Call (.Name x p) [.Name y p1, .Name z p2] [] pos) := by
  subst hx
  obtain ⟨pe, c, hh⟩ := g.hot hc
  unfold freeB at hf
  simp only [Bool.and_eq_true] at hf
  have g1 := glo_of hf.1 g.hs
  have f1 : X.mg "isinstance" = none := g.mf.fr _ (by simpa using hf.2)
  have g2 := glo_of hg g.hs
  have F := g.mf.gl z (by simpa using hz)
  have hV : PE X (.Name y p1) _ := pe_var (by rw [g.hN]; exact hN) (vis_of hv g.hs) (ok_debug hn) (ok_cd hn)
  have hT : PE X (.Name z p2) (tC (.ref (G.ca z))) := pe_glob g2.1 F rfl (ok_debug g2.2)
  obtain ⟨cn, cl⟩ := c
  obtain ⟨d', hzc, hz1, hz2⟩ := hh.zc
  have E := g.mf.exc cn hh.cls
  refine pe_imp (pe_callB (call_exn E hh.pn hzc hh.fld) g1.1 f1 PyProof.Rows.boot_isinstance (pa_cons hV (pa_cons hT pa_nil)) (ok_name g1.2) (ok_debug g1.2) rfl rfl) fun σ H Q ⟨ρ, μ, α, β, hs, hm, q⟩ => ?_
  rw [hh.orc] at q
  cases hi : ρ[i]? with
  | none => simp only [hi] at q; exact q.elim
  | some o =>
    cases o with
    | none => simp only [hi] at q; exact q.elim
    | some u =>
      cases u with
      | exn =>
        simp only [hi] at q
        obtain ⟨v, h1, a, h2, h3, h4⟩ := hs.2 i _ hi
        rw [hh.ea] at h2
        cases h2
        subst h3
        refine ⟨_, h1, fun dd ed => ?_, .ref (G.ca z), .ref (G.ca z), (cn == z), rfl, fun u hu => hu, g.mf.kit cn hh.cls z (by simpa using hz), PostV.val q hm rfl⟩
        cases cl with
        | none =>
          rw [hz1 rfl] at ed
          cases ed
        | some n =>
          obtain ⟨dd', e1, e2⟩ := hz2 n rfl
          rw [ed] at e1
          cases e1
          exact ⟨_, (h4 dd _ n e2).1⟩
      | _ => simp only [hi] at q; exact q.elim
end
end Mini

set_option maxHeartbeats 4000000
/-! Mini, part F: what loops walk, targets, comprehensions. -/
namespace Mini
open PySem PySem.Spec PyProof.Rows L2 LamX MiniZ

/-! ### what a loop walks -/
def NoPriv (α β : List Addr) (H : Hp) (β' : List Addr) : Prop := (∀ a ∈ β, a ∈ β') ∧ ∀ a o, H a = some o → a ∉ α → a ∉ β → a ∉ β'
structure JR (K : PySem.W.Frag) (G : En) (J : It) (src : Srcs) (xs : List U) (α β : List Addr) (H : Hp) : Prop where
  go : ∀ α' β' H' μ', ExtP α β H α' H' → NoPriv α β H β' → HR K G μ' α' β' H' → gd src μ' = true → ∀ i, i < xs.length → J.go i H'
  stop : ∀ α' β' H' μ', ExtP α β H α' H' → NoPriv α β H β' → HR K G μ' α' β' H' → gd src μ' = true → ∀ i, i = xs.length → J.stop i H'
  yld : ∀ α' β' H' μ', ExtP α β H α' H' → NoPriv α β H β' → HR K G μ' α' β' H' → gd src μ' = true → ∀ (i : Nat) u x H'', xs[i]? = some u → J.yld i H' x H'' → HR K G μ' α' β' H'' ∧ Ext α' H' α' H'' ∧ VR K G α' β' H'' u x
/-- a list or tuple that stays as it is while its sources do -/
def SQ (K : PySem.W.Frag) (G : En) (k : Bool) (a : Addr) (src : Srcs) (xs : List U) (α β : List Addr) (H : Hp) : Prop :=
  ∀ α' β' H' μ', ExtP α β H α' H' → NoPriv α β H β' → HR K G μ' α' β' H' → gd src μ' = true → ∃ vs, SqX K k H' a vs ∧ VRs K G α' β' H' xs vs
mutual
theorem eqU_eq : ∀ {a b : U}, eqU a b = true → a = b
  | .non, b, h => by cases b <;> first | rfl | cases h
  | .exn, b, h => by cases b <;> first | rfl | cases h
  | .dtag, b, h => by cases b <;> first | rfl | cases h
  | .dref a, b, h => by
    cases b with
    | dref b => rw [eq_of_beq (show (a == b) = true from h)]
    | _ => cases h
  | .bl a, b, h => by
    cases b with
    | bl b => rw [eq_of_beq (show (a == b) = true from h)]
    | _ => cases h
  | .int a, b, h => by
    cases b with
    | int b => rw [eq_of_beq (show (a == b) = true from h)]
    | _ => cases h
  | .str a, b, h => by
    cases b with
    | str b => rw [eq_of_beq (show (a == b) = true from h)]
    | _ => cases h
  | .ref a, b, h => by
    cases b with
    | ref b => rw [eq_of_beq (show (a == b) = true from h)]
    | _ => cases h
  | .fn a, b, h => by
    cases b with
    | fn b => rw [eq_of_beq (show (a == b) = true from h)]
    | _ => cases h
  | .tup a, b, h => by
    cases b with
    | tup b => rw [eqUs_eq (show eqUs a b = true from h)]
    | _ => cases h
  | .lst a, b, h => by
    cases b with
    | lst b => rw [eqUs_eq (show eqUs a b = true from h)]
    | _ => cases h
  | .rol a, b, h => by
    cases b with
    | rol b => rw [eqUs_eq (show eqUs a b = true from h)]
    | _ => cases h
theorem eqUs_eq : ∀ {a b : List U}, eqUs a b = true → a = b
  | [], [], _ => rfl
  | [], _ :: _, h => by simp [eqUs] at h
  | _ :: _, [], h => by simp [eqUs] at h
  | a :: as, b :: bs, h => by
    simp only [eqUs, Bool.and_eq_true] at h
    rw [eqU_eq h.1, eqUs_eq h.2]
end
section
variable {K : PySem.W.Frag} {G : En} {src : Srcs} {α β : List Addr} {H : Hp} {xs : List U} {vs : List V} {a : Addr}
theorem later {α' β' : List Addr} {H' : Hp} (e : ExtP α β H α' H') (n : NoPriv α β H β') (h : VRs K G α β H xs vs) : VRs K G α' β' H' xs vs :=
  VRs.monoP ⟨e.pre, fun a o q t1 n1 m => e.keep a o q t1 n1 fun z => m (n.1 a z), fun a o q t1 n1 m => e.froz a o q t1 n1 fun z => m (n.1 a z), e.lst, e.dk⟩ (VRs.priv n.2 h)
theorem sq_of {μ : Mem} {u : U} {v : V} (hm : HR K G μ α β H) (r : VR K G α β H u v) (h : seqOf μ u = some xs) : ∃ k a vs, v = .ref a ∧ SqX K k H a vs ∧ SQ K G k a (srcsOf u xs) xs α β H ∧ (k = true ∨ ∃ ys, u = .tup ys) ∧ (k = false ∨ ∀ ys, u ≠ .tup ys) := by
  cases u with
  | tup ys =>
    cases h
    obtain ⟨a, vs, rfl, h1, h2⟩ := r
    exact ⟨false, a, vs, rfl, h1.seq, fun α' β' H' μ' e n hr _ => ⟨vs, TupAt.seq (h1.imp (Fz.monoP e (fun _ z => by cases z)) id), later e n h2⟩, .inr ⟨_, rfl⟩, .inl rfl⟩
  | lst ys =>
    cases h
    obtain ⟨a, vs, rfl, h1, h2⟩ := r
    exact ⟨true, a, vs, rfl, SqL.of h1.1, fun α' β' H' μ' e n hr _ => ⟨vs, SqL.of (e.keep a _ h1.1 (fun _ z => by cases z) h1.2.1 h1.2.2), later e n h2⟩, .inl rfl, .inr fun _ z => by cases z⟩
  | rol ys =>
    cases h
    obtain ⟨a, vs, rfl, h1, h2⟩ := r
    exact ⟨true, a, vs, rfl, h1.seq, fun α' β' H' μ' e n hr _ => ⟨vs, LstAt.seq (h1.imp (Fz.monoP e (fun _ z => by cases z)) id), later e n h2⟩, .inl rfl, .inr fun _ z => by cases z⟩
  | ref n =>
    have h : getL μ n = some xs := h
    obtain ⟨a, rfl, ha, vs, hv⟩ := r
    refine ⟨true, a, vs, rfl, SqL.of hv, fun α' β' H' μ' e _ hr hg => ?_, .inl rfl, .inr fun _ z => by cases z⟩
    have hg : ([(n, xs)].all fun p => match getL μ' p.1 with | some ys => eqUs ys p.2 | none => false) = true := hg
    simp only [List.all_cons, List.all_nil, Bool.and_true] at hg
    cases q : getL μ' n with
    | none => rw [q] at hg; cases hg
    | some ys =>
      rw [q] at hg
      have ey := eqUs_eq hg
      subst ey
      obtain ⟨a', vs, e1, e2, e3⟩ := hr.at_ n ys q
      rw [pre_get e.pre ha] at e1
      cases e1
      exact ⟨vs, SqL.of e2, e3⟩
  | _ => cases h
theorem gd_app {s1 s2 : Srcs} {μ : Mem} : gd (s1 ++ s2) μ = (gd s1 μ && gd s2 μ) := by
  unfold gd
  rw [List.all_append]
theorem SQ.left {k : Bool} {s2 : Srcs} (h : SQ K G k a src xs α β H) : SQ K G k a (src ++ s2) xs α β H := fun α' β' H' μ' e n hr hg => h α' β' H' μ' e n hr (by
  rw [gd_app, Bool.and_eq_true] at hg
  exact hg.1)
theorem SQ.right {k : Bool} {s2 : Srcs} (h : SQ K G k a src xs α β H) : SQ K G k a (s2 ++ src) xs α β H := fun α' β' H' μ' e n hr hg => h α' β' H' μ' e n hr (by
  rw [gd_app, Bool.and_eq_true] at hg
  exact hg.2)
theorem jr_list (h : SQ K G true a src xs α β H) : JR K G (Itl K a) src xs α β H where
  go := fun α' β' H' μ' e n hr hg i hi => by
    obtain ⟨vs, h1, h2⟩ := h _ _ _ _ e n hr hg
    have hv : i < vs.length := by rw [← h2.len]; exact hi
    exact ⟨vs, vs[i], h1, by simp [hv]⟩
  stop := fun α' β' H' μ' e n hr hg i hi => by
    obtain ⟨vs, h1, h2⟩ := h _ _ _ _ e n hr hg
    exact ⟨vs, h1, by rw [← h2.len, hi]; exact Nat.le_refl _⟩
  yld := fun α' β' H' μ' e n hr hg i u x H'' hu y => by
    obtain ⟨vs, h1, h2⟩ := h _ _ _ _ e n hr hg
    obtain ⟨rfl, y⟩ := y
    obtain ⟨v, g1, g2⟩ := h2.get hu
    have h3 := y vs h1
    rw [g1] at h3
    cases h3
    exact ⟨hr, Ext.refl _ _, g2⟩
theorem jr_tup (h : SQ K G false a src xs α β H) : JR K G (Itt K a) src xs α β H where
  go := fun α' β' H' μ' e n hr hg i hi => by
    obtain ⟨vs, h1, h2⟩ := h _ _ _ _ e n hr hg
    have hv : i < vs.length := by rw [← h2.len]; exact hi
    exact ⟨vs, vs[i], h1, by simp [hv]⟩
  stop := fun α' β' H' μ' e n hr hg i hi => by
    obtain ⟨vs, h1, h2⟩ := h _ _ _ _ e n hr hg
    exact ⟨vs, h1, by rw [← h2.len, hi]; exact Nat.le_refl _⟩
  yld := fun α' β' H' μ' e n hr hg i u x H'' hu y => by
    obtain ⟨vs, h1, h2⟩ := h _ _ _ _ e n hr hg
    obtain ⟨rfl, y⟩ := y
    obtain ⟨v, g1, g2⟩ := h2.get hu
    have h3 := y vs h1
    rw [g1] at h3
    cases h3
    exact ⟨hr, Ext.refl _ _, g2⟩
theorem rngL_len {lo hi : Int} : (rngL lo hi).length = (hi - lo).toNat := by simp [rngL]
theorem rngC_len {lo c : Int} {n : Nat} : (rngC lo c n).length = n := by simp [rngC]
theorem rngC_get {lo c : Int} {n i : Nat} {u : U} (hu : (rngC lo c n)[i]? = some u) : u = .int (lo + (i : Nat) * c) := by
  have hu : ((List.range n).map fun k : Nat => U.int (lo + (k : Nat) * c))[i]? = some u := hu
  rw [List.getElem?_map] at hu
  cases q : (List.range n)[i]? with
  | none => rw [q] at hu; cases hu
  | some k =>
    rw [q] at hu
    cases hu
    obtain ⟨h1, h2⟩ := List.getElem?_eq_some_iff.mp q
    rw [List.getElem_range] at h2
    subst h2
    rfl
theorem jr_rng {lo hi : Int} : JR K G (Itr lo (hi - lo).toNat) src (rngL lo hi) α β H where
  go := fun α' β' H' μ' e _ _ _ i h => by
    rw [rngL_len] at h
    exact h
  stop := fun α' β' H' μ' e _ _ _ i h => by
    rw [rngL_len] at h
    show _ ≤ i
    omega
  yld := fun α' β' H' μ' e n hr _ i u x H'' hu y => by
    obtain ⟨rfl, rfl⟩ := y
    have hu : ((List.range (hi - lo).toNat).map fun k : Nat => U.int (lo + (k : Nat)))[i]? = some u := hu
    rw [List.getElem?_map] at hu
    cases q : (List.range (hi - lo).toNat)[i]? with
    | none => rw [q] at hu; cases hu
    | some k =>
      rw [q] at hu
      cases hu
      have e1 : k = i := by
        obtain ⟨h1, h2⟩ := List.getElem?_eq_some_iff.mp q
        rw [List.getElem_range] at h2
        exact h2.symm
      subst e1
      exact ⟨hr, Ext.refl _ _, rfl⟩
theorem jr_rngC {lo c : Int} {n : Nat} : JR K G (Itc lo c n) src (rngC lo c n) α β H where
  go := fun α' β' H' μ' e _ _ _ i h => by
    rw [rngC_len] at h
    exact h
  stop := fun α' β' H' μ' e _ _ _ i h => by
    rw [rngC_len] at h
    show _ ≤ i
    omega
  yld := fun α' β' H' μ' e _ hr _ i u x H'' hu y => by
    obtain ⟨rfl, rfl⟩ := y
    rw [rngC_get hu]
    exact ⟨hr, Ext.refl _ _, rfl⟩
theorem zip_len : ∀ (xs ys : List U), (zipU xs ys).length = min xs.length ys.length
  | [], ys => by cases ys <;> simp [zipU]
  | x :: xs, [] => by simp [zipU]
  | x :: xs, y :: ys => by
    simp only [zipU, List.length_cons]
    rw [zip_len xs ys]
    omega
theorem zip_get : ∀ {xs ys : List U} {i : Nat} {u : U}, (zipU xs ys)[i]? = some u → ∃ x y, xs[i]? = some x ∧ ys[i]? = some y ∧ u = .tup [x, y]
  | [], ys, i, u, h => by cases ys <;> simp [zipU] at h
  | x :: xs, [], i, u, h => by simp [zipU] at h
  | x :: xs, y :: ys, 0, u, h => by
    simp [zipU] at h
    exact ⟨x, y, rfl, rfl, h.symm⟩
  | x :: xs, y :: ys, i + 1, u, h => by
    simp only [zipU, List.getElem?_cons_succ] at h
    obtain ⟨a, b, h1, h2, h3⟩ := zip_get h
    exact ⟨a, b, by simpa using h1, by simpa using h2, h3⟩
/-- a new tuple of related things -/
theorem new_tup {μ : Mem} {us : List U} {ws : List V} {p : Addr} (hm : HR K G μ α β H) (hp : H p = none) (r : VRs K G α β H us ws) :
    HR K G μ α β (upd H p (.tup ws)) ∧ Ext α H α (upd H p (.tup ws)) ∧ VR K G α β (upd H p (.tup ws)) (.tup us) (.ref p) := by
  obtain ⟨f1, f2⟩ := hm.fresh hp
  exact ⟨hm.new hp, Ext.new hp, p, ws, rfl, .inl ⟨.inl upd_same, f1, f2⟩, r.mono (Ext.new hp)⟩
theorem jr_zip {k1 k2 : Bool} {b : Addr} {ys : List U} (h : SQ K G k1 a src xs α β H) (h2 : SQ K G k2 b src ys α β H) : JR K G (ItzX K k1 k2 a b) src (zipU xs ys) α β H where
  go := fun α' β' H' μ' e n hr hg i hi => by
    obtain ⟨vs, q1, r1⟩ := h _ _ _ _ e n hr hg
    obtain ⟨ws, q2, r2⟩ := h2 _ _ _ _ e n hr hg
    rw [zip_len] at hi
    have h3 : i < vs.length := by rw [← r1.len]; omega
    have h4 : i < ws.length := by rw [← r2.len]; omega
    exact ⟨vs, ws, vs[i], ws[i], q1, q2, by simp [h3], by simp [h4]⟩
  stop := fun α' β' H' μ' e n hr hg i hi => by
    obtain ⟨vs, q1, r1⟩ := h _ _ _ _ e n hr hg
    obtain ⟨ws, q2, r2⟩ := h2 _ _ _ _ e n hr hg
    rw [zip_len, r1.len, r2.len] at hi
    exact ⟨vs, ws, q1, q2, by omega, by omega, by omega⟩
  yld := fun α' β' H' μ' e n hr hg i u x H'' hu y => by
    obtain ⟨vs, q1, r1⟩ := h _ _ _ _ e n hr hg
    obtain ⟨ws, q2, r2⟩ := h2 _ _ _ _ e n hr hg
    obtain ⟨T, x1, x2, rfl, hT, rfl, y1, y2⟩ := y
    obtain ⟨u1, u2, e1, e2, rfl⟩ := zip_get hu
    obtain ⟨v1, f1, s1⟩ := r1.get e1
    obtain ⟨v2, f2, s2⟩ := r2.get e2
    have g1 := y1 vs q1
    have g2 := y2 ws q2
    rw [f1] at g1
    rw [f2] at g2
    cases g1
    cases g2
    exact new_tup hr hT ⟨_, _, rfl, s1, _, _, rfl, s2, rfl⟩
theorem enum_get : ∀ {xs : List U} {n i : Nat} {u : U}, (enumU n xs)[i]? = some u → ∃ x, xs[i]? = some x ∧ u = .tup [.int ((n + i : Nat) : Int), x]
  | [], n, i, u, h => by simp [enumU] at h
  | x :: xs, n, 0, u, h => by
    simp [enumU] at h
    exact ⟨x, rfl, h.symm⟩
  | x :: xs, n, i + 1, u, h => by
    simp only [enumU, List.getElem?_cons_succ] at h
    obtain ⟨a, h1, h3⟩ := enum_get h
    exact ⟨a, by simpa using h1, by rw [h3, show n + 1 + i = n + (i + 1) by omega]⟩
theorem enum_len : ∀ (n : Nat) (xs : List U), (enumU n xs).length = xs.length
  | _, [] => rfl
  | n, x :: xs => by simp only [enumU, List.length_cons]; rw [enum_len (n + 1) xs]
theorem jr_enum {k : Bool} (h : SQ K G k a src xs α β H) : JR K G (IteX K k a) src (enumU 0 xs) α β H where
  go := fun α' β' H' μ' e n hr hg i hi => by
    obtain ⟨vs, q1, r1⟩ := h _ _ _ _ e n hr hg
    rw [enum_len] at hi
    have hv : i < vs.length := by rw [← r1.len]; exact hi
    exact ⟨vs, vs[i], q1, by simp [hv]⟩
  stop := fun α' β' H' μ' e n hr hg i hi => by
    obtain ⟨vs, q1, r1⟩ := h _ _ _ _ e n hr hg
    rw [enum_len] at hi
    exact ⟨vs, q1, by rw [← r1.len]; exact hi.symm⟩
  yld := fun α' β' H' μ' e n hr hg i u x H'' hu y => by
    obtain ⟨vs, q1, r1⟩ := h _ _ _ _ e n hr hg
    obtain ⟨T, x1, rfl, hT, rfl, y1⟩ := y
    obtain ⟨u1, e1, rfl⟩ := enum_get hu
    obtain ⟨v1, f1, s1⟩ := r1.get e1
    have g1 := y1 vs q1
    rw [f1] at g1
    cases g1
    refine new_tup hr hT ⟨_, _, rfl, ?_, _, _, rfl, s1, rfl⟩
    rw [Nat.zero_add] <;> rfl
end

def tI (K : PySem.W.Frag) (G : En) (W : WX) (d : Slots → Mem → R (Srcs × List U)) : TI := fun σ H R =>
  ∃ ρ μ α β, SR K G α β H ρ σ ∧ HR K G μ α β H ∧ PostG K G β W (d ρ μ) α H (fun p _ α' H' => ∀ J, JR K G J p.1 p.2 α' β H' → R J H')
def MI (X : Cx) (G : En) (W : WX) (d : Slots → Mem → R (Srcs × List U)) (tg e : Expr) : Prop := PI X tg e (tI X.K G W d)
def MIH (X : Cx) (G : En) (W : WX) (d : Slots → Mem → R (Srcs × List U)) (tg e : Expr) : Prop := L2H.PIH X tg e (tI X.K G W d)
theorem pi_imp {X : Cx} {tg e : Expr} {t t' : TI} (h : PI X tg e t) (i : ∀ σ H Q, t' σ H Q → t σ H Q) : PI X tg e t' := ⟨fun pins s σ H Q I q => h.run pins s σ H Q I (i σ H Q q)⟩
section
variable {S : Sg} {G : En} {k : Nat} {C : Orc} {N : List Str} {sc : Scope} {fb : Md} {W : WX} {X : Cx} {K : PySem.W.Frag}
theorem GX.hotC (g : GX S G k C N sc fb W X) (h : fb.calm = false) : L2H.HotC X := by
  obtain ⟨p, c, hh⟩ := g.hot h
  exact ⟨p, hh.hot, hh.pn⟩
theorem i_of {d : Slots → Mem → R U} {tg e : Expr} (h : ME X G W d e) : MI X G W (fun ρ μ => (d ρ μ).bind fun u μ1 => match seqOf μ1 u with
    | some xs => .ok (srcsOf u xs, xs) μ1
    | none => .bad) tg e := by
  refine ⟨fun pins s σ H Q I ⟨ρ, μ, α, β, hs, hm, q⟩ => ?_⟩
  cases hd : d ρ μ with
  | bad => simp only [hd] at q; exact q.elim
  | exc c μ1 =>
    simp only [hd] at q
    exact (pi_list h).run pins s σ H Q I ⟨ρ, μ, α, β, hs, hm, by rw [hd]; exact q⟩
  | ok u μ1 =>
    simp only [hd] at q
    have q : PostG X.K G β W (match seqOf μ1 u with
      | some xs => R.ok (srcsOf u xs, xs) μ1
      | none => .bad) α H (fun p _ α' H' => ∀ J, JR X.K G J p.1 p.2 α' β H' → Q J H') := q
    cases hx : seqOf μ1 u with
    | none => rw [hx] at q; exact q.elim
    | some xs =>
      rw [hx] at q
      by_cases ht : ∃ ys, u = .tup ys
      · obtain ⟨ys, rfl⟩ := ht
        refine (pi_tup h).run pins s σ H Q I ⟨ρ, μ, α, β, hs, hm, ?_⟩
        rw [hd]
        intro H' α' hr' e' v rv
        obtain ⟨k, a, vs, rfl, h1, h2, _, h4⟩ := sq_of hr' rv hx
        rcases h4 with rfl | h4
        · exact ⟨a, rfl, ⟨vs, h1⟩, q H' α' hr' e' _ (jr_tup h2)⟩
        · exact absurd rfl (h4 ys)
      · refine (pi_list h).run pins s σ H Q I ⟨ρ, μ, α, β, hs, hm, ?_⟩
        rw [hd]
        intro H' α' hr' e' v rv
        obtain ⟨k, a, vs, rfl, h1, h2, h3, _⟩ := sq_of hr' rv hx
        rcases h3 with rfl | h3
        · exact ⟨a, rfl, ⟨vs, h1⟩, q H' α' hr' e' _ (jr_list h2)⟩
        · exact absurd h3 ht
theorem i_ofH {d : Slots → Mem → R U} {tg e : Expr} (h : ME X G W d e) : MIH X G W (fun ρ μ => (d ρ μ).bind fun u μ1 => match seqOf μ1 u with
    | some xs => .ok (srcsOf u xs, xs) μ1
    | none => .bad) tg e := by
  refine ⟨fun pins s σ H Q I ⟨ρ, μ, α, β, hs, hm, q⟩ => ?_⟩
  cases hd : d ρ μ with
  | bad => simp only [hd] at q; exact q.elim
  | exc c μ1 =>
    simp only [hd] at q
    exact (MiniHot.pi_listH h).run pins s σ H Q I ⟨ρ, μ, α, β, hs, hm, by rw [hd]; exact q⟩
  | ok u μ1 =>
    simp only [hd] at q
    have q : PostG X.K G β W (match seqOf μ1 u with
      | some xs => R.ok (srcsOf u xs, xs) μ1
      | none => .bad) α H (fun p _ α' H' => ∀ J, JR X.K G J p.1 p.2 α' β H' → Q J H') := q
    cases hx : seqOf μ1 u with
    | none => rw [hx] at q; exact q.elim
    | some xs =>
      rw [hx] at q
      by_cases ht : ∃ ys, u = .tup ys
      · obtain ⟨ys, rfl⟩ := ht
        refine (MiniHot.pi_tupH h).run pins s σ H Q I ⟨ρ, μ, α, β, hs, hm, ?_⟩
        rw [hd]
        intro H' α' hr' e' v rv
        obtain ⟨k, a, vs, rfl, h1, h2, _, h4⟩ := sq_of hr' rv hx
        rcases h4 with rfl | h4
        · exact ⟨a, rfl, ⟨vs, h1⟩, q H' α' hr' e' _ (jr_tup h2)⟩
        · exact absurd rfl (h4 ys)
      · refine (MiniHot.pi_listH h).run pins s σ H Q I ⟨ρ, μ, α, β, hs, hm, ?_⟩
        rw [hd]
        intro H' α' hr' e' v rv
        obtain ⟨k, a, vs, rfl, h1, h2, h3, _⟩ := sq_of hr' rv hx
        rcases h3 with rfl | h3
        · exact ⟨a, rfl, ⟨vs, h1⟩, q H' α' hr' e' _ (jr_list h2)⟩
        · exact absurd h3 ht
theorem rng_ok {i : Int} (h : rngOk i = true) : -(2 ^ 62) ≤ i ∧ i < 2 ^ 62 := by
  unfold rngOk at h
  simp only [Bool.and_eq_true, decide_eq_true_eq] at h
  exact h
theorem i_rng1 {d : Slots → Mem → R U} {tg e : Expr} {x : Str} {p pos : Pos} (g : GX S G k C N sc fb W X) (hx : x = "range") (hf : freeB S sc x = true) (hn : notStar e = true) (h : ME X G W d e) :
    MI X G W (fun ρ μ => (d ρ μ).bind fun u μ1 => match u with
    | .int i => if rngOk i then .ok ([], rngL 0 i) μ1 else .bad
    | _ => .bad) tg (.Call (.Name x p) [e] [] pos) := by
  subst hx
  unfold freeB at hf
  simp only [Bool.and_eq_true] at hf
  have g1 := glo_of hf.1 g.hs
  refine pi_imp (pi_range1 g1.1 (g.mf.fr _ (by simpa using hf.2)) (pa_cons h pa_nil (star_cons hn)) (star_cons hn)) fun σ H Q ⟨ρ, μ, α, β, hs, hm, q⟩ => ?_
  refine ⟨ρ, μ, α, β, hs, hm, PostG.mono (PostG.bind q) fun u μ1 α1 H1 hm1 e1 q1 y ry => ?_⟩
  cases u with
  | int i =>
    cases ry
    have q1 : PostG X.K G β W (if rngOk i = true then R.ok ([], rngL 0 i) μ1 else .bad) α1 H1 _ := q1
    by_cases hz : rngOk i = true
    · rw [if_pos hz] at q1
      obtain ⟨z1, z2⟩ := rng_ok hz
      have j : JR X.K G (Itr 0 (i - 0).toNat) [] (rngL 0 i) α1 β H1 := jr_rng
      rw [Int.sub_zero] at j
      exact ⟨i, rfl, z1, z2, PostG.ok hm1 q1 _ j⟩
    · rw [if_neg hz] at q1
      exact q1.elim
  | _ => exact q1.elim
theorem i_rng2 {da db : Slots → Mem → R U} {tg a b : Expr} {x : Str} {p pos : Pos} (g : GX S G k C N sc fb W X) (hx : x = "range") (hf : freeB S sc x = true) (hn : notStar a = true) (hn2 : notStar b = true) (ha : ME X G W da a) (hb : ME X G W db b) :
    MI X G W (fun ρ μ => (da ρ μ).bind fun u μ1 => (db ρ μ1).bind fun v μ2 => match u, v with
    | .int i, .int j => if rngOk i && rngOk j then .ok ([], rngL i j) μ2 else .bad
    | _, _ => .bad) tg (.Call (.Name x p) [a, b] [] pos) := by
  subst hx
  unfold freeB at hf
  simp only [Bool.and_eq_true] at hf
  have g1 := glo_of hf.1 g.hs
  refine pi_imp (pi_range2 g1.1 (g.mf.fr _ (by simpa using hf.2)) (pa_cons ha (pa_cons hb pa_nil (star_cons hn2)) (star_cons hn)) (by rw [star_cons hn, star_cons hn2] <;> rfl) (star_cons hn2)) fun σ H Q ⟨ρ, μ, α, β, hs, hm, q⟩ => ?_
  refine ⟨ρ, μ, α, β, hs, hm, PostG.mono (PostG.bind q) fun u μ1 α1 H1 hm1 e1 q1 y ry => ?_⟩
  refine ⟨ρ, μ1, α1, β, hs.mono e1, hm1, PostG.mono (PostG.bind q1) fun w μ2 α2 H2 hm2 e2 q2 z rz => ?_⟩
  cases u with
  | int i =>
    cases w with
    | int j =>
      cases ry
      cases rz
      have q2 : PostG X.K G β W (if (rngOk i && rngOk j) = true then R.ok ([], rngL i j) μ2 else .bad) α2 H2 _ := q2
      by_cases hz : (rngOk i && rngOk j) = true
      · rw [if_pos hz] at q2
        simp only [Bool.and_eq_true] at hz
        obtain ⟨z1, z2⟩ := rng_ok hz.1
        obtain ⟨z3, z4⟩ := rng_ok hz.2
        exact ⟨i, j, rfl, ⟨z1, z2, z3, z4⟩, PostG.ok hm2 q2 _ jr_rng⟩
      · rw [if_neg hz] at q2
        exact q2.elim
    | _ => exact q2.elim
  | _ => cases w <;> exact q2.elim
theorem i_rng3 {da db dc : Slots → Mem → R U} {tg a b c : Expr} {x : Str} {p pos : Pos} (g : GX S G k C N sc fb W X) (hx : x = "range") (hf : freeB S sc x = true) (hn : notStar a = true) (hn2 : notStar b = true) (hn3 : notStar c = true) (ha : ME X G W da a) (hb : ME X G W db b) (hc : ME X G W dc c) :
    MI X G W (fun ρ μ => (da ρ μ).bind fun u μ1 => (db ρ μ1).bind fun v μ2 => (dc ρ μ2).bind fun w μ3 => match u, v, w with
    | .int i, .int j, .int c => if rng3Ok i j c then .ok ([], rngC i c (rngN i j c)) μ3 else .bad
    | _, _, _ => .bad) tg (.Call (.Name x p) [a, b, c] [] pos) := by
  subst hx
  unfold freeB at hf
  simp only [Bool.and_eq_true] at hf
  have g1 := glo_of hf.1 g.hs
  refine pi_imp (pi_range3 g1.1 (g.mf.fr _ (by simpa using hf.2)) (pa_cons ha (pa_cons hb (pa_cons hc pa_nil (star_cons hn3)) (star_cons hn2)) (star_cons hn)) (star_cons hn) (star_plain (by simp [hn2, hn3]))) fun σ H Q ⟨ρ, μ, α, β, hs, hm, q⟩ => ?_
  refine ⟨ρ, μ, α, β, hs, hm, PostG.mono (PostG.bind q) fun u μ1 α1 H1 hm1 e1 q1 y ry => ?_⟩
  refine ⟨ρ, μ1, α1, β, hs.mono e1, hm1, PostG.mono (PostG.bind q1) fun w μ2 α2 H2 hm2 e2 q2 z rz => ?_⟩
  refine ⟨ρ, μ2, α2, β, (hs.mono e1).mono e2, hm2, PostG.mono (PostG.bind q2) fun w3 μ3 α3 H3 hm3 e3 q3 z3 rz3 => ?_⟩
  cases u with
  | int i =>
    cases w with
    | int j =>
      cases w3 with
      | int c =>
        cases ry
        cases rz
        cases rz3
        have q3 : PostG X.K G β W (if rng3Ok i j c = true then R.ok ([], rngC i c (rngN i j c)) μ3 else .bad) α3 H3 _ := q3
        by_cases hz : rng3Ok i j c = true
        · rw [if_pos hz] at q3
          unfold rng3Ok at hz
          simp only [Bool.and_eq_true, beq_iff_eq] at hz
          obtain ⟨⟨z1, z2⟩, rfl⟩ := hz
          obtain ⟨y1, y2⟩ := rng_ok z1
          obtain ⟨y3, y4⟩ := rng_ok z2
          exact ⟨i, j, -1, (i - j).toNat, rfl, RgC.neg y1 y2 y3 y4, PostG.ok hm3 q3 _ jr_rngC⟩
        · rw [if_neg hz] at q3
          exact q3.elim
      | _ => exact q3.elim
    | _ => cases w3 <;> exact q3.elim
  | _ => cases w <;> cases w3 <;> exact q3.elim
theorem i_zip2 {da db : Slots → Mem → R U} {elts : List Expr} {kk : Nat} {tpos : Pos} {a b : Expr} {x : Str} {p pos : Pos} (g : GX S G k C N sc fb W X) (hx : x = "zip") (hf : freeB S sc x = true) (hn : notStar a = true) (hn2 : notStar b = true) (ha : ME X G W da a) (hb : ME X G W db b) :
    MI X G W (fun ρ μ => (da ρ μ).bind fun u μ1 => (db ρ μ1).bind fun v μ2 => match seqOf μ2 u, seqOf μ2 v with
    | some xs, some ys => .ok (srcsOf u xs ++ srcsOf v ys, zipU xs ys) μ2
    | _, _ => .bad) (.Tuple elts kk tpos) (.Call (.Name x p) [a, b] [] pos) := by
  subst hx
  unfold freeB at hf
  simp only [Bool.and_eq_true] at hf
  have g1 := glo_of hf.1 g.hs
  refine pi_imp (pi_zipX g1.1 (g.mf.fr _ (by simpa using hf.2)) (pa_cons ha (pa_cons hb pa_nil (star_cons hn2)) (star_cons hn)) (star_cons hn) (star_plain (by simp [hn2]))) fun σ H Q ⟨ρ, μ, α, β, hs, hm, q⟩ => ?_
  refine ⟨ρ, μ, α, β, hs, hm, PostG.mono (PostG.bind q) fun u μ1 α1 H1 hm1 e1 q1 y ry => ?_⟩
  refine ⟨ρ, μ1, α1, β, hs.mono e1, hm1, PostG.mono (PostG.bind q1) fun w μ2 α2 H2 hm2 e2 q2 z rz => ?_⟩
  have ry := ry.mono e2
  cases hu : seqOf μ2 u with
  | none => rw [hu] at q2; exact q2.elim
  | some xs =>
    cases hw : seqOf μ2 w with
    | none => rw [hu, hw] at q2; exact q2.elim
    | some ys =>
      rw [hu, hw] at q2
      obtain ⟨k1, a1, vs, rfl, h1, h2, _⟩ := sq_of hm2 ry hu
      obtain ⟨k2, a2, ws, rfl, h3, h4, _⟩ := sq_of hm2 rz hw
      exact ⟨k1, k2, a1, a2, vs, ws, rfl, h1, h3, PostG.ok hm2 q2 _ (jr_zip h2.left h4.right)⟩
theorem i_enum {d : Slots → Mem → R U} {elts : List Expr} {kk : Nat} {tpos : Pos} {e : Expr} {x : Str} {p pos : Pos} (g : GX S G k C N sc fb W X) (hx : x = "enumerate") (hf : freeB S sc x = true) (hn : notStar e = true) (h : ME X G W d e) :
    MI X G W (fun ρ μ => (d ρ μ).bind fun u μ1 => match seqOf μ1 u with
    | some xs => .ok (srcsOf u xs, enumU 0 xs) μ1
    | none => .bad) (.Tuple elts kk tpos) (.Call (.Name x p) [e] [] pos) := by
  subst hx
  unfold freeB at hf
  simp only [Bool.and_eq_true] at hf
  have g1 := glo_of hf.1 g.hs
  refine pi_imp (pi_enumX g1.1 (g.mf.fr _ (by simpa using hf.2)) (pa_cons h pa_nil (star_cons hn)) (star_cons hn)) fun σ H Q ⟨ρ, μ, α, β, hs, hm, q⟩ => ?_
  refine ⟨ρ, μ, α, β, hs, hm, PostG.mono (PostG.bind q) fun u μ1 α1 H1 hm1 e1 q1 y ry => ?_⟩
  cases hu : seqOf μ1 u with
  | none => rw [hu] at q1; exact q1.elim
  | some xs =>
    rw [hu] at q1
    obtain ⟨k1, a1, vs, rfl, h1, h2, _⟩ := sq_of hm1 ry hu
    exact ⟨k1, a1, vs, rfl, h1, PostG.ok hm1 q1 _ (jr_enum h2)⟩
end
end Mini

set_option maxHeartbeats 4000000
/-! Mini, part G: targets, comprehensions, loops, statements. -/
namespace Mini
open PySem PySem.Spec PyProof.Rows L2 LamX

/-! ### targets -/
def tsLen : ITs → Nat
  | .nil => 0
  | .cons _ ts => tsLen ts + 1
theorem wipe_get (σ : L2.St) (j : Nat) : ∀ vs : List Nat, (wipe σ vs)[j]? = if j ∈ vs then (if j < σ.length then some none else none) else σ[j]?
  | [] => by simp [wipe]
  | v :: vs => by
    unfold wipe
    by_cases h : v = j
    · subst h
      rw [List.getElem?_set]
      simp [wipe_length]
    · rw [List.getElem?_set_ne h, wipe_get σ j vs]
      simp [List.mem_cons, Ne.symm h]
theorem wipe_set {σ : L2.St} {i : Nat} {x : Option V} {vs : List Nat} (h : i ∈ vs) : wipe (σ.set i x) vs = wipe σ vs := by
  apply List.ext_getElem?
  intro j
  rw [wipe_get, wipe_get, List.length_set]
  by_cases hj : j ∈ vs
  · simp [hj]
  · rw [if_neg hj, if_neg hj, List.getElem?_set_ne]
    intro e
    exact hj (e ▸ h)
def gM (K : PySem.W.Frag) (G : En) (t : IT) : TG := fun v σ H Q =>
  ∃ u ρ μ α β ρ', HR K G μ α β H ∧ SR K G α β H ρ σ ∧ VR K G α β H u v ∧ setT t u μ ρ = some ρ' ∧
    ∀ σ', SR K G α β H ρ' σ' → (∀ vs : List Nat, (∀ i ∈ tgS t, i ∈ vs) → wipe σ' vs = wipe σ vs) → Q σ' H
def gMs (K : PySem.W.Frag) (G : En) (t : ITs) : TGs := fun v σ H Q =>
  ∃ u ρ μ α β ρ', HR K G μ α β H ∧ SR K G α β H ρ σ ∧ VRs K G α β H u v ∧ setTs t u μ ρ = some ρ' ∧
    ∀ σ', SR K G α β H ρ' σ' → (∀ vs : List Nat, (∀ i ∈ tgSs t, i ∈ vs) → wipe σ' vs = wipe σ vs) → Q σ' H
theorem pg_imp {X : Cx} {e : Expr} {t t' : TG} (h : PG X e t) (i : ∀ v σ H Q, t' v σ H Q → t v σ H Q) : PG X e t' := ⟨fun pins s σ H v u Q I r q => h.run pins s σ H v u Q I r (i v σ H Q q)⟩
theorem pgs_imp {X : Cx} {e : List Expr} {t t' : TGs} (h : PGs X e t) (i : ∀ v σ H Q, t' v σ H Q → t v σ H Q) : PGs X e t' := ⟨fun pins s σ H v u Q I r q => h.run pins s σ H v u Q I r (i v σ H Q q)⟩
theorem setTs_len : ∀ {ts : ITs} {us : List U} {μ : Mem} {ρ ρ' : Slots}, setTs ts us μ ρ = some ρ' → us.length = tsLen ts
  | .nil, [], _, _, _, _ => rfl
  | .nil, _ :: _, _, _, _, h => by simp [setTs] at h
  | .cons t ts, [], _, _, _, h => by simp [setTs] at h
  | .cons t ts, u :: us, μ, ρ, ρ', h => by
    unfold setTs at h
    cases q : setT t u μ ρ with
    | none => rw [q] at h; cases h
    | some ρ1 =>
      rw [q] at h
      have h : setTs ts us μ ρ1 = some ρ' := h
      simp only [tsLen, List.length_cons]
      rw [setTs_len h]
theorem chkTs_len {N : List Str} {fb : Md} {sc : Scope} : ∀ {ts : ITs} {es : List Expr}, chkTs N fb sc ts es = true → tsLen ts = es.length ∧ es.all notStar = true
  | .nil, [], _ => ⟨rfl, rfl⟩
  | .nil, _ :: _, h => by simp [chkTs] at h
  | .cons t ts, [], h => by simp [chkTs] at h
  | .cons t ts, e :: es, h => by
    simp only [chkTs, Bool.and_eq_true] at h
    obtain ⟨h1, h2⟩ := chkTs_len h.2
    exact ⟨by simp only [tsLen, List.length_cons]; rw [h1], by simp [h.1.2, h2]⟩
theorem each_cons {e : Expr} {es : List Expr} {env : Env} (h : notStar e = true) : assignEach (e :: es) env = (false, assign e env) :: assignEach es env := by
  cases e <;> first | rfl | cases h
theorem each_len {env : Env} : ∀ {es : List Expr}, es.all notStar = true → (assignEach es env).length = es.length ∧ (assignEach es env).findIdx? (·.1) = none
  | [], _ => ⟨rfl, rfl⟩
  | e :: es, h => by
    simp only [List.all_cons, Bool.and_eq_true] at h
    rw [each_cons h.1]
    obtain ⟨h1, h2⟩ := each_len (env := env) h.2
    exact ⟨by simp [h1], by simp [List.findIdx?_cons, h2]⟩
section
variable {S : Sg} {G : En} {k : Nat} {C : Orc} {N : List Str} {sc : Scope} {fb : Md} {W : WX} {X : Cx} {K : PySem.W.Frag}
theorem loc_of {x : Str} (g : GX S G k C N sc fb W X) (h : locB fb sc x = true) : Loc X.env.scope x ∧ (X.fn x = true ∨ X.env.scope.names.lookup x = some .local) := by
  rw [g.hs]
  unfold locB at h
  cases q : sc.names.lookup x with
  | none => rw [q] at h; cases h
  | some k =>
    cases k with
    | «local» => exact ⟨.inl q, .inr rfl⟩
    | cell => rw [q] at h; exact ⟨.inr q, .inl (g.hfn x h)⟩
    | _ => rw [q] at h; cases h
mutual
theorem g_tgt (g : GX S G k C N sc fb W X) : ∀ (t : IT) (e : Expr), chkT N fb sc t e = true → PG X e (gM X.K G t)
  | .name i, e, h => by
    cases e with
    | Name x pos =>
      have h : (decide (N[i]? = some x) && locB fb sc x) = true := h
      simp only [Bool.and_eq_true, decide_eq_true_eq] at h
      obtain ⟨l1, l2⟩ := loc_of g h.2
      refine pg_imp (pg_name g.nd (by rw [g.hN]; exact h.1) l1 l2) fun v σ H Q ⟨u, ρ, μ, α, β, ρ', hr, hs, r, e, q⟩ => ?_
      cases e
      exact q _ (hs.set r i) fun vs hv => wipe_set (hv i (List.mem_singleton.mpr rfl))
    | _ => cases h
  | .tup ts, e, h => by
    cases e with
    | Tuple es kk pos =>
      have h : chkTs N fb sc ts es = true := h
      have ih := g_tgts g ts es h
      obtain ⟨l1, l2⟩ := chkTs_len h
      obtain ⟨l3, l4⟩ := each_len (env := X.env) l2
      refine ⟨fun pins s σ H v uv Q I rv ⟨u, ρ, μ, α, β, ρ', hr, hs, r, e, q⟩ => ?_⟩
      have e : (match seqOf μ u with | some xs => setTs ts xs μ ρ | none => none) = some ρ' := e
      cases hx : seqOf μ u with
      | none => rw [hx] at e; cases e
      | some xs =>
        rw [hx] at e
        have e : setTs ts xs μ ρ = some ρ' := e
        obtain ⟨a, vs, rfl, h1, h2⟩ := seqOf_at hr r hx
        have m1 : vs.length = es.length := by rw [← h2.len, setTs_len e, l1]
        have m2 : gMs X.K G ts vs σ H Q := ⟨xs, ρ, μ, α, β, ρ', hr, hs, h2, e, q⟩
        rcases h1 with h1 | h1
        · cases hc : fb.calm with
          | true => exact (pg_lst (g.calm hc).1 ih l3 l4).run pins s σ H _ uv Q I rv ⟨a, vs, rfl, h1, m1, m2⟩
          | false => exact (MiniHot.pg_lstH (g.hotC hc) ih l3 l4).run pins s σ H _ uv Q I rv ⟨a, vs, rfl, h1, m1, m2⟩
        · cases hc : fb.calm with
          | true => exact (pg_tup (g.calm hc).1 ih l3 l4).run pins s σ H _ uv Q I rv ⟨a, vs, rfl, h1, m1, m2⟩
          | false => exact (MiniHot.pg_tupH (g.hotC hc) ih l3 l4).run pins s σ H _ uv Q I rv ⟨a, vs, rfl, h1, m1, m2⟩
    | _ => cases h
theorem g_tgts (g : GX S G k C N sc fb W X) : ∀ (ts : ITs) (es : List Expr), chkTs N fb sc ts es = true → PGs X es (gMs X.K G ts)
  | .nil, [], _ => pgs_imp pgs_nil fun v σ H Q ⟨u, ρ, μ, α, β, ρ', hr, hs, r, e, q⟩ => by
    cases u with
    | nil => cases r; cases e; exact ⟨rfl, q _ hs fun _ _ => rfl⟩
    | cons a b => cases e
  | .nil, _ :: _, h => by simp [chkTs] at h
  | .cons t ts, [], h => by simp [chkTs] at h
  | .cons t ts, e :: es, h => by
    simp only [chkTs, Bool.and_eq_true] at h
    refine pgs_imp (pgs_cons (g_tgt g t e h.1.1) (g_tgts g ts es h.2) (by rw [each_cons h.1.2] <;> rfl)) fun v σ H Q ⟨u, ρ, μ, α, β, ρ', hr, hs, r, e, q⟩ => ?_
    cases u with
    | nil => simp [setTs] at e
    | cons a b =>
      obtain ⟨v1, vr, rfl, r1, r2⟩ := r
      unfold setTs at e
      cases q1 : setT t a μ ρ with
      | none => rw [q1] at e; cases e
      | some ρ1 =>
        rw [q1] at e
        have e : setTs ts b μ ρ1 = some ρ' := e
        refine ⟨v1, vr, rfl, a, ρ, μ, α, β, ρ1, hr, hs, r1, q1, fun σ1 hs1 hw1 => ?_⟩
        refine ⟨b, ρ1, μ, α, β, ρ', hr, hs1, r2, e, fun σ2 hs2 hw2 => q σ2 hs2 fun vs hv => ?_⟩
        rw [hw2 vs (fun i hi => hv i (by simp [tgSs, hi])), hw1 vs (fun i hi => hv i (by simp [tgSs, hi]))]
end

/-! ### comprehensions -/
theorem wipe_wipe (σ : L2.St) (vs : List Nat) : wipe (wipe σ vs) vs = wipe σ vs := by
  apply List.ext_getElem?
  intro j
  rw [wipe_get, wipe_length, wipe_get]
  by_cases hj : j ∈ vs
  · simp [hj]
  · simp [hj]
/-! a private place written -/
mutual
theorem VR.wpriv {α β : List Addr} {H : Hp} {p : Addr} {zs : List V} (hb : p ∈ β) : ∀ {u : U} {v : V}, (hl : ∃ ws, H p = some (.lst ws)) → VR K G α β H u v → VR K G α β (upd H p (.lst zs)) u v
  | .non, _, _, h => h
  | .bl _, _, _, h => h
  | .int _, _, _, h => h
  | .str _, _, _, h => h
  | .tup xs, _, hl, h => by
    obtain ⟨a, vs, rfl, h1, h2⟩ := h
    refine ⟨a, vs, rfl, h1.imp (fun ⟨r, n, m⟩ => ⟨?_, n, m⟩) id, VRs.wpriv hb hl h2⟩
    have ne : a ≠ p := fun e => m (e ▸ hb)
    exact r.imp (fun z => by rw [upd_ne ne]; exact z) fun ⟨o, z⟩ => ⟨o, by rw [upd_ne ne]; exact z⟩
  | .lst xs, _, hl, h => by
    obtain ⟨a, vs, rfl, ⟨h1, h3, h4⟩, h2⟩ := h
    have ne : a ≠ p := fun e => h4 (e ▸ hb)
    exact ⟨a, vs, rfl, ⟨by rw [upd_ne ne]; exact h1, h3, h4⟩, VRs.wpriv hb hl h2⟩
  | .rol xs, _, hl, h => by
    obtain ⟨a, vs, rfl, h1, h2⟩ := h
    refine ⟨a, vs, rfl, h1.imp (fun ⟨r, n, m⟩ => ⟨?_, n, m⟩) id, VRs.wpriv hb hl h2⟩
    have ne : a ≠ p := fun e => m (e ▸ hb)
    exact r.imp (fun z => by rw [upd_ne ne]; exact z) fun ⟨o, z⟩ => ⟨o, by rw [upd_ne ne]; exact z⟩
  | .ref n, _, hl, h => by
    obtain ⟨a, rfl, h1, vs, h2⟩ := h
    refine ⟨a, rfl, h1, ?_⟩
    by_cases e : a = p
    · exact ⟨zs, by rw [e, upd_same]⟩
    · exact ⟨vs, by rw [upd_ne e]; exact h2⟩
  | .dref n, _, hl, h => by
    obtain ⟨a, rfl, h1, vs, h2⟩ := h
    refine ⟨a, rfl, h1, ?_⟩
    by_cases e : a = p
    · obtain ⟨ws, h3⟩ := hl
      rw [e, h3] at h2
      cases h2
    · exact ⟨vs, by rw [upd_ne e]; exact h2⟩
  | .dtag, _, _, h => h.elim
  | .fn _, _, _, h => h
  | .exn, _, _, h => by
    obtain ⟨a, e1, e2, h⟩ := h
    refine ⟨a, e1, e2, fun dd f n q => ?_⟩
    obtain ⟨h1, h2, h3⟩ := h dd f n q
    exact ⟨by rw [upd_ne (fun z => h3 (by rw [z]; exact hb))]; exact h1, h2, h3⟩
theorem VRs.wpriv {α β : List Addr} {H : Hp} {p : Addr} {zs : List V} (hb : p ∈ β) : ∀ {us : List U} {vs : List V}, (hl : ∃ ws, H p = some (.lst ws)) → VRs K G α β H us vs → VRs K G α β (upd H p (.lst zs)) us vs
  | [], _, _, h => h
  | _ :: _, _, hl, h => by
    obtain ⟨v, r, rfl, h1, h2⟩ := h
    exact ⟨v, r, rfl, VR.wpriv hb hl h1, VRs.wpriv hb hl h2⟩
end
theorem HR.wpriv {μ : Mem} {α β : List Addr} {H : Hp} {p : Addr} {xs ys : List V} (h : HR K G μ α β H) (hb : p ∈ β) (hp : H p = some (.lst xs)) : HR K G μ α β (upd H p (.lst ys)) := by
  refine ⟨h.len, h.nd, h.dis, fun a ha => ?_, fun n zs hz => ?_, fun q hq => ?_⟩
  · by_cases e : a = p
    · exact .inl ⟨_, by rw [e, upd_same]⟩
    · exact (h.priv a ha).of (upd_ne e)
  · obtain ⟨a, e1, c⟩ := h.cell n zs hz
    have ne : a ≠ p := fun e => h.dis a (List.mem_of_getElem? e1) (e ▸ hb)
    exact ⟨a, e1, c.map (upd_ne ne) (fun _ _ z => VR.wpriv hb ⟨xs, hp⟩ z) fun _ _ z => VRs.wpriv hb ⟨xs, hp⟩ z⟩
  · obtain ⟨ps, h1, h2, h3⟩ := h.tabs q hq
    have n1 : q.1 ≠ p := fun z => by rw [z, hp] at h1; cases h1
    refine ⟨ps, by rw [upd_ne n1]; exact h1, h2, fun pos cv hc => ?_⟩
    obtain ⟨c, e1, e2⟩ := h3 pos cv hc
    refine ⟨c, e1, ?_⟩
    rw [upd_ne (fun z => by rw [z, hp] at e2; cases e2)]
    exact e2
theorem Ext.updN {α α' : List Addr} {H H' : Hp} {p : Addr} {vs : List V} (e : Ext α H α' H') (hp : H p = none) : Ext α H α' (upd H' p (.lst vs)) :=
  ⟨e.pre, fun a u h t n => by rw [upd_ne (ne_of_none h hp)]; exact e.keep a u h t n, e.froz, fun a ws h => by rw [upd_ne (ne_of_none h hp)]; exact e.lst a ws h, fun a ws h => by rw [upd_ne (ne_of_none h hp)]; exact e.dk a ws h⟩
/-! a private list becomes one of the memory -/
mutual
theorem VR.adopt {α β : List Addr} {H : Hp} {p : Addr} : ∀ {u : U} {v : V}, VR K G α (p :: β) H u v → VR K G (α ++ [p]) β H u v
  | .non, _, h => h
  | .bl _, _, h => h
  | .int _, _, h => h
  | .str _, _, h => h
  | .tup xs, _, h => by
    obtain ⟨a, vs, rfl, h1, h2⟩ := h
    refine ⟨a, vs, rfl, h1.imp (fun ⟨r, n, m⟩ => ⟨r, fun z => ?_, fun z => m (List.mem_cons_of_mem _ z)⟩) id, VRs.adopt h2⟩
    exact (List.mem_append.mp z).elim n fun z => m (by simp at z; simp [z])
  | .lst xs, _, h => by
    obtain ⟨a, vs, rfl, ⟨h1, h3, h4⟩, h2⟩ := h
    refine ⟨a, vs, rfl, ⟨h1, fun z => ?_, fun z => h4 (List.mem_cons_of_mem _ z)⟩, VRs.adopt h2⟩
    exact (List.mem_append.mp z).elim h3 fun z => h4 (by simp at z; simp [z])
  | .rol xs, _, h => by
    obtain ⟨a, vs, rfl, h1, h2⟩ := h
    refine ⟨a, vs, rfl, h1.imp (fun ⟨r, n, m⟩ => ⟨r, fun z => ?_, fun z => m (List.mem_cons_of_mem _ z)⟩) id, VRs.adopt h2⟩
    exact (List.mem_append.mp z).elim n fun z => m (by simp at z; simp [z])
  | .ref n, _, h => by
    obtain ⟨a, rfl, h1, h2⟩ := h
    exact ⟨a, rfl, pre_get (List.prefix_append _ _) h1, h2⟩
  | .dref n, _, h => by
    obtain ⟨a, rfl, h1, h2⟩ := h
    exact ⟨a, rfl, pre_get (List.prefix_append _ _) h1, h2⟩
  | .dtag, _, h => h.elim
  | .fn _, _, h => h
  | .exn, _, h => by
    obtain ⟨a, e1, e2, h⟩ := h
    refine ⟨a, e1, e2, fun dd f n q => ?_⟩
    obtain ⟨h1, h2, h3⟩ := h dd f n q
    refine ⟨h1, fun z => ?_, fun z => h3 (List.mem_cons_of_mem _ z)⟩
    exact (List.mem_append.mp z).elim h2 fun z => h3 (by simp at z; simp [z])
theorem VRs.adopt {α β : List Addr} {H : Hp} {p : Addr} : ∀ {us : List U} {vs : List V}, VRs K G α (p :: β) H us vs → VRs K G (α ++ [p]) β H us vs
  | [], _, h => h
  | _ :: _, _, h => by
    obtain ⟨v, r, rfl, h1, h2⟩ := h
    exact ⟨v, r, rfl, VR.adopt h1, VRs.adopt h2⟩
end
theorem HR.adopt {μ : Mem} {α β : List Addr} {H : Hp} {p : Addr} {xs : List U} {vs : List V} (h : HR K G μ α (p :: β) H) (hn : p ∉ β) (hp : H p = some (.lst vs)) (r : VRs K G α (p :: β) H xs vs) : HR K G (μ ++ [xs]) (α ++ [p]) β H := by
  have pa : p ∉ α := fun z => h.dis p z (List.mem_cons_self)
  refine ⟨by simp [h.len], List.nodup_append.mpr ⟨h.nd, by simp, fun a ha b hb z => ?_⟩, fun a ha => ?_, fun a ha => h.priv a (List.mem_cons_of_mem _ ha), fun n ys hy => ?_, h.tabs⟩
  · have hb' : b = p := by simpa using hb
    exact pa (by rw [← hb', ← z]; exact ha)
  · rcases List.mem_append.mp ha with z | z
    · exact fun w => h.dis a z (List.mem_cons_of_mem _ w)
    · have z' : a = p := by simpa using z
      rw [z']; exact hn
  · by_cases hl : n < μ.length
    · rw [List.getElem?_append_left hl] at hy
      obtain ⟨a, e1, c⟩ := h.cell n ys hy
      exact ⟨a, pre_get (List.prefix_append _ _) e1, c.map rfl (fun _ _ z => VR.adopt z) fun _ _ z => VRs.adopt z⟩
    · have hn' : n = μ.length := by
        have := (List.getElem?_eq_some_iff.mp hy).1
        simp at this
        omega
      subst hn'
      rw [List.getElem?_append_right (Nat.le_refl _)] at hy
      simp at hy
      subst hy
      refine ⟨p, ?_, .inl ⟨vs, hp, r.adopt⟩⟩
      rw [← h.len, List.getElem?_append_right (Nat.le_refl _)]
      simp
theorem post_adopt {m : Bool} {us : List U} {vs : List V} {μ : Mem} {α1 α β : List Addr} {H1 H : Hp} {p : Addr} {Q : VK} (q : PostV K G β W (alloc m us μ) α1 H1 Q) (h : HR K G μ α (p :: β) H) (e : Ext α1 H1 α H) (hn : p ∉ β) (h1 : H1 p = none)
    (hp : H p = some (.lst vs)) (r : VRs K G α (p :: β) H us vs) : Q (.ref p) H := by
  have pa : p ∉ α := fun z => h.dis p z (List.mem_cons_self)
  cases m with
  | false => exact q H α h.show_ e _ ⟨p, vs, rfl, ⟨hp, pa, hn⟩, r.show_⟩
  | true =>
    refine q H (α ++ [p]) (h.adopt hn hp r) ⟨e.pre.trans (List.prefix_append _ _), e.keep, fun a o ha t n z => ?_, e.lst, e.dk⟩ _ ⟨p, rfl, ?_, vs, hp⟩
    · rcases List.mem_append.mp z with z | z
      · exact e.froz a o ha t n z
      · exact ne_of_none ha h1 (by simpa using z)
    · rw [← h.len, List.getElem?_append_right (Nat.le_refl _)]
      simp
theorem lc_reading {m : Bool} {own : List Nat} {t : IT} {di : Slots → Mem → R (Srcs × List U)} {dt : Slots → Mem → R Bool} {de : Slots → Mem → R U} (hown : ∀ i ∈ tgS t, i ∈ own) :
    ∀ (σ : L2.St) (H : Hp) (Q : VK), tE X.K G W (fun ρ μ => (di ρ μ).bind fun p μ1 =>
      match compLoop (gd p.1) (stepD dt de) (fun u μ => setT t u μ (wipeU ρ own)) p.2 μ1 with
      | .ok us μ2 => if us.length ≤ bigL then alloc m us μ2 else .bad
      | _ => .bad) σ H Q → tLc (tI X.K G W di) (gM X.K G t) (tT X.K G WF dt) (tE X.K G WF de) ((ownOf N own).map (·.2)) σ H Q := by
  intro σ H Q ⟨ρ, μ, α, β, hs, hm, q⟩
  have eo : (ownOf N own).map (·.2) = own := by
    unfold ownOf
    rw [List.map_map]
    exact List.map_id _
  rw [eo]
  refine ⟨ρ, μ, α, β, hs, hm, PostG.mono (PostG.bind q) fun pr μ1 α1 H1 hm1 e1 q1 J hJ D hD => ?_⟩
  obtain ⟨src, xs⟩ := pr
  simp only at hJ
  cases hc : compLoop (gd src) (stepD dt de) (fun u μ => setT t u μ (wipeU ρ own)) xs μ1 with
  | bad => simp only [hc] at q1; exact q1.elim
  | exc c μ2 => simp only [hc] at q1; exact q1.elim
  | ok us μe =>
    simp only [hc] at q1
    have hz : us.length ≤ bigL := by
      rcases Nat.lt_or_ge bigL us.length with hz | hz
      · rw [if_neg (by omega)] at q1
        exact q1.elim
      · exact hz
    rw [if_pos hz] at q1
    obtain ⟨f1, f2⟩ := hm1.fresh hD
    have hs1 : SR X.K G α1 β H1 ρ σ := hs.mono e1
    have np : NoPriv α1 β H1 (D :: β) := ⟨fun _ z => List.mem_cons_of_mem _ z, fun a o ha _ n z => (List.mem_cons.mp z).elim (ne_of_none ha hD) n⟩
    refine ⟨fun i m H => m = xs.length - i ∧ i ≤ xs.length ∧ ∃ μ α ys acc us', HR X.K G μ α (D :: β) H ∧ Ext α1 H1 α H ∧ H D = some (.lst acc) ∧ VRs X.K G α (D :: β) H ys acc ∧
        compLoop (gd src) (stepD dt de) (fun u μ => setT t u μ (wipeU ρ own)) (xs.drop i) μ = .ok us' μe ∧ us = ys ++ us',
      ⟨xs.length, by simp, Nat.zero_le _, μ1, α1, [], [], us, hm1.hide hD, Ext.new hD, upd_same, rfl, by simpa using hc, rfl⟩, fun i m H hW => ?_⟩
    obtain ⟨rfl, hi, μ, α, ys, acc, us', hm2, e2, hacc, rys, hl, eus⟩ := hW
    have pa : ∀ {α : List Addr} {μ : Mem} {H : Hp}, HR X.K G μ α (D :: β) H → D ∉ α := fun h z => h.dis D z List.mem_cons_self
    have hgd : gd src μ = true := by
      cases hx : xs.drop i with
      | nil =>
        rw [hx] at hl
        unfold compLoop at hl
        by_cases hg : gd src μ = true
        · exact hg
        · rw [if_neg hg] at hl; cases hl
      | cons y ys =>
        rw [hx] at hl
        unfold compLoop at hl
        by_cases hg : gd src μ = true
        · exact hg
        · rw [if_neg hg] at hl; cases hl
    by_cases hlt : i < xs.length
    · refine .inr ⟨hJ.go α (D :: β) H μ e2.toP np hm2 hgd i hlt, fun H' => ∃ μ α ys acc us', HR X.K G μ α (D :: β) H' ∧ Ext α1 H1 α H' ∧ H' D = some (.lst acc) ∧ VRs X.K G α (D :: β) H' ys acc ∧
        compLoop (gd src) (stepD dt de) (fun u μ => setT t u μ (wipeU ρ own)) (xs.drop (i + 1)) μ = .ok us' μe ∧ us = ys ++ us', fun H' hN => ⟨xs.length - (i + 1), by omega, rfl, hlt, hN⟩, fun x H' hy => ?_⟩
      rw [List.drop_eq_getElem_cons hlt] at hl
      obtain ⟨hm3, e3, rx⟩ := hJ.yld α (D :: β) H μ e2.toP np hm2 hgd i xs[i] x H' (List.getElem?_eq_getElem hlt) hy
      have hD3 : H' D = some (.lst acc) := e3.keepN hacc (pa hm2) (fun _ z => by cases z)
      unfold compLoop at hl
      rw [if_pos hgd] at hl
      cases hset : setT t xs[i] μ (wipeU ρ own) with
      | none => rw [hset] at hl; cases hl
      | some ρ1 =>
        simp only [hset] at hl
        have hs3 : SR X.K G α (D :: β) H' (wipeU ρ own) (wipe σ own) := (((hs1.hide hD).mono e2).mono e3).wipe own
        refine ⟨xs[i], wipeU ρ own, μ, α, D :: β, ρ1, hm3, hs3, rx, hset, fun σ2 hs2 hw2 => ⟨by rw [hw2 own hown, wipe_wipe], ?_⟩⟩
        refine ⟨ρ1, μ, α, D :: β, hs2, hm3, ?_⟩
        unfold stepD at hl
        cases hdt : dt ρ1 μ with
        | bad => simp only [hdt] at hl; cases hl
        | exc c μ2 => simp only [hdt] at hl; cases hl
        | ok b μ2 =>
          simp only [hdt] at hl
          intro H4 α4 hm4 e4
          have hD4 : H4 D = some (.lst acc) := e4.keepN hD3 (pa hm3) (fun _ z => by cases z)
          have e24 : Ext α1 H1 α4 H4 := (e2.trans e3).trans e4
          cases b with
          | false =>
            refine iteF ⟨μ2, α4, ys, acc, us', hm4, e24, hD4, (rys.mono e3).mono e4, hl, eus⟩
          | true =>
            refine iteT ⟨ρ1, μ2, α4, D :: β, hs2.mono e4, hm4, ?_⟩
            cases hde : de ρ1 μ2 with
            | bad => simp only [hde] at hl; cases hl
            | exc c μ3 => simp only [hde] at hl; cases hl
            | ok u μ3 =>
              simp only [hde] at hl
              have hl : (match compLoop (gd src) (stepD dt de) (fun u μ => setT t u μ (wipeU ρ own)) (xs.drop (i + 1)) μ3 with
                | .ok us μ2 => R.ok (u :: us) μ2
                | _ => .bad) = .ok us' μe := hl
              cases hc2 : compLoop (gd src) (stepD dt de) (fun u μ => setT t u μ (wipeU ρ own)) (xs.drop (i + 1)) μ3 with
              | bad => rw [hc2] at hl; cases hl
              | exc c μ4 => rw [hc2] at hl; cases hl
              | ok us2 μ4 =>
                rw [hc2] at hl
                cases hl
                intro H5 α5 hm5 e5 v rv
                have hD5 : H5 D = some (.lst acc) := e5.keepN hD4 (pa hm4) (fun _ z => by cases z)
                have r5 : VRs X.K G α5 (D :: β) H5 ys acc := ((rys.mono e3).mono e4).mono e5
                refine ⟨acc, hD5, ?_, μ3, α5, ys ++ [u], acc ++ [v], us2, hm5.wpriv List.mem_cons_self hD5, (e24.trans e5).updN hD, upd_same, ?_, hc2, by rw [eus]; simp⟩
                · have l1 := r5.len
                  have l2 : us.length = ys.length + (us2.length + 1) := by rw [eus]; simp
                  rw [sizeLine_eq]
                  unfold bigL at hz
                  omega
                · exact (r5.app (show VRs X.K G α5 (D :: β) H5 [u] [v] from ⟨v, [], rfl, rv, rfl⟩)).wpriv List.mem_cons_self ⟨acc, hD5⟩
    · have hie : i = xs.length := by omega
      subst hie
      refine .inl ⟨hJ.stop α (D :: β) H μ e2.toP np hm2 hgd _ rfl, ?_⟩
      rw [List.drop_length] at hl
      unfold compLoop at hl
      rw [if_pos hgd] at hl
      cases hl
      rw [List.append_nil] at eus
      subst eus
      exact post_adopt q1 hm2 e2 f2 hD hacc rys
/-- a comprehension of two clauses -/
theorem lc2_reading {m : Bool} {own own1 : List Nat} {t t1 : IT} {di di1 : Slots → Mem → R (Srcs × List U)} {dt dt1 : Slots → Mem → R Bool} {de : Slots → Mem → R U} (hown : ∀ i ∈ tgS t, i ∈ own) (hown1 : ∀ i ∈ tgS t1, i ∈ own1) :
    ∀ (σ : L2.St) (H : Hp) (Q : VK), tE X.K G W (fun ρ μ => (di ρ μ).bind fun p μ1 =>
      match compLoopN (gd p.1) (step2D dt di1 dt1 de (fun ρ u μ => setT t1 u μ (wipeU ρ own1))) (fun u μ => setT t u μ (wipeU ρ own)) p.2 μ1 with
      | .ok us μ2 => if us.length ≤ bigL then alloc m us μ2 else .bad
      | _ => .bad) σ H Q → tLc2 (tI X.K G W di) (gM X.K G t) (tT X.K G WF dt) (tI X.K G WF di1) (gM X.K G t1) (tT X.K G WF dt1) (tE X.K G WF de) ((ownOf N own).map (·.2)) own1 σ H Q := by
  intro σ H Q ⟨ρ, μ, α, β, hs, hm, q⟩
  have eo : (ownOf N own).map (·.2) = own := by
    unfold ownOf
    rw [List.map_map]
    exact List.map_id _
  rw [eo]
  refine ⟨ρ, μ, α, β, hs, hm, PostG.mono (PostG.bind q) fun pr μ1 α1 H1 hm1 e1 q1 J hJ D hD => ?_⟩
  obtain ⟨src, xs⟩ := pr
  simp only at hJ
  generalize hst : (fun u μ => setT t u μ (wipeU ρ own)) = st at q1
  generalize hstep : (step2D dt di1 dt1 de (fun ρ u μ => setT t1 u μ (wipeU ρ own1))) = step at q1
  cases hc : compLoopN (gd src) step st xs μ1 with
  | bad => simp only [hc] at q1; exact q1.elim
  | exc c μ2 => simp only [hc] at q1; exact q1.elim
  | ok us μe =>
    simp only [hc] at q1
    have hz : us.length ≤ bigL := by
      rcases Nat.lt_or_ge bigL us.length with hz | hz
      · rw [if_neg (by omega)] at q1
        exact q1.elim
      · exact hz
    rw [if_pos hz] at q1
    obtain ⟨f1, f2⟩ := hm1.fresh hD
    have hs1 : SR X.K G α1 β H1 ρ σ := hs.mono e1
    have np : NoPriv α1 β H1 (D :: β) := ⟨fun _ z => List.mem_cons_of_mem _ z, fun a o ha _ n z => (List.mem_cons.mp z).elim (ne_of_none ha hD) n⟩
    have pa : ∀ {α : List Addr} {μ : Mem} {H : Hp}, HR X.K G μ α (D :: β) H → D ∉ α := fun h z => h.dis D z List.mem_cons_self
    let Inv0 := fun (i : Nat) (H : Hp) => ∃ μ α ys acc us', HR X.K G μ α (D :: β) H ∧ Ext α1 H1 α H ∧ H D = some (.lst acc) ∧ VRs X.K G α (D :: β) H ys acc ∧
        compLoopN (gd src) step st (xs.drop i) μ = .ok us' μe ∧ us = ys ++ us'
    refine ⟨fun i m H => m = xs.length - i ∧ i ≤ xs.length ∧ Inv0 i H,
      ⟨xs.length, by simp, Nat.zero_le _, μ1, α1, [], [], us, hm1.hide hD, Ext.new hD, upd_same, rfl, by simpa using hc, rfl⟩, fun i m H hW => ?_⟩
    obtain ⟨rfl, hi, μ, α, ys, acc, us', hm2, e2, hacc, rys, hl, eus⟩ := hW
    have hgd : gd src μ = true := by
      cases hx : xs.drop i with
      | nil =>
        rw [hx] at hl
        unfold compLoopN at hl
        by_cases hg : gd src μ = true
        · exact hg
        · rw [if_neg hg] at hl; cases hl
      | cons y ys =>
        rw [hx] at hl
        unfold compLoopN at hl
        by_cases hg : gd src μ = true
        · exact hg
        · rw [if_neg hg] at hl; cases hl
    by_cases hlt : i < xs.length
    · refine .inr ⟨hJ.go α (D :: β) H μ e2.toP np hm2 hgd i hlt, Inv0 (i + 1), fun H' hN => ⟨xs.length - (i + 1), by omega, rfl, hlt, hN⟩, fun x H' hy => ?_⟩
      rw [List.drop_eq_getElem_cons hlt] at hl
      obtain ⟨hm3, e3, rx⟩ := hJ.yld α (D :: β) H μ e2.toP np hm2 hgd i xs[i] x H' (List.getElem?_eq_getElem hlt) hy
      have hD3 : H' D = some (.lst acc) := e3.keepN hacc (pa hm2) (fun _ z => by cases z)
      unfold compLoopN at hl
      rw [if_pos hgd, ← hst] at hl
      cases hset : setT t xs[i] μ (wipeU ρ own) with
      | none => simp only [hset] at hl; cases hl
      | some ρ1 =>
        simp only [hset] at hl
        rw [hst] at hl
        have hs3 : SR X.K G α (D :: β) H' (wipeU ρ own) (wipe σ own) := (((hs1.hide hD).mono e2).mono e3).wipe own
        refine ⟨xs[i], wipeU ρ own, μ, α, D :: β, ρ1, hm3, hs3, rx, hset, fun σ2 hs2 hw2 => ⟨by rw [hw2 own hown, wipe_wipe], ?_⟩⟩
        refine ⟨ρ1, μ, α, D :: β, hs2, hm3, ?_⟩
        cases hst1 : step ρ1 μ with
        | bad => rw [hst1] at hl; cases hl
        | exc c μ2 => rw [hst1] at hl; cases hl
        | ok us1 μ5 =>
        simp only [hst1] at hl
        cases hc2 : compLoopN (gd src) step st (xs.drop (i + 1)) μ5 with
        | bad => rw [hc2] at hl; cases hl
        | exc c μ4 => rw [hc2] at hl; cases hl
        | ok us2 μ6 =>
        rw [hc2] at hl
        cases hl
        rw [← hstep] at hst1
        unfold step2D at hst1
        cases hdt : dt ρ1 μ with
        | bad => simp only [hdt] at hst1; cases hst1
        | exc c μ2 => simp only [hdt] at hst1; cases hst1
        | ok b μ2 =>
          simp only [hdt] at hst1
          intro H4 α4 hm4 e4
          have hD4 : H4 D = some (.lst acc) := e4.keepN hD3 (pa hm3) (fun _ z => by cases z)
          have e24 : Ext α1 H1 α4 H4 := (e2.trans e3).trans e4
          cases b with
          | false =>
            cases hst1
            refine iteF ⟨μ5, α4, ys, acc, us2, hm4, e24, hD4, (rys.mono e3).mono e4, hc2, eus⟩
          | true =>
            refine iteT ⟨ρ1, μ2, α4, D :: β, hs2.mono e4, hm4, ?_⟩
            cases hdi : di1 ρ1 μ2 with
            | bad => simp only [hdi] at hst1; cases hst1
            | exc c μ3 => simp only [hdi] at hst1; cases hst1
            | ok pr1 μ3 =>
            obtain ⟨src1, zs⟩ := pr1
            simp only [hdi] at hst1
            have hst1 : compLoop (gd src1) (stepD dt1 de) (fun u μ => setT t1 u μ (wipeU ρ1 own1)) zs μ3 = .ok us1 μ5 := hst1
            intro H5 α5 hm5 e5 J1 hJ1
            simp only at hJ1
            have hD5 : H5 D = some (.lst acc) := e5.keepN hD4 (pa hm4) (fun _ z => by cases z)
            have np1 : NoPriv α5 (D :: β) H5 (D :: β) := ⟨fun _ z => z, fun _ _ _ _ n => n⟩
            have hs5 : SR X.K G α5 (D :: β) H5 ρ1 σ2 := (hs2.mono e4).mono e5
            let Inv1 := fun (j : Nat) (H : Hp) => ∃ μ α ys1 acc us1', HR X.K G μ α (D :: β) H ∧ ExtP α5 (D :: β) H5 α H ∧ Ext α1 H1 α H ∧ H D = some (.lst acc) ∧ VRs X.K G α (D :: β) H (ys ++ ys1) acc ∧
              compLoop (gd src1) (stepD dt1 de) (fun u μ => setT t1 u μ (wipeU ρ1 own1)) (zs.drop j) μ = .ok us1' μ5 ∧ us1 = ys1 ++ us1'
            refine ⟨fun j k H => k = zs.length - j ∧ j ≤ zs.length ∧ Inv1 j H, ⟨zs.length, by simp, Nat.zero_le _, μ3, α5, [], acc, us1, hm5, (Ext.refl _ _).toP, e24.trans e5, hD5, by
              rw [List.append_nil]
              exact ((rys.mono e3).mono e4).mono e5, by simpa using hst1, rfl⟩, fun j k HH hW1 => ?_⟩
            obtain ⟨rfl, hj, μ7, α7, ys1, acc7, us7, hm7, e7, e17, hacc7, rys7, hl7, eus7⟩ := hW1
            have hgd1 : gd src1 μ7 = true := by
              cases hx : zs.drop j with
              | nil =>
                rw [hx] at hl7
                unfold compLoop at hl7
                by_cases hg : gd src1 μ7 = true
                · exact hg
                · rw [if_neg hg] at hl7; cases hl7
              | cons y ys =>
                rw [hx] at hl7
                unfold compLoop at hl7
                by_cases hg : gd src1 μ7 = true
                · exact hg
                · rw [if_neg hg] at hl7; cases hl7
            by_cases hlt1 : j < zs.length
            · refine .inr ⟨hJ1.go α7 (D :: β) HH μ7 e7 np1 hm7 hgd1 j hlt1, Inv1 (j + 1), fun H' hN => ⟨zs.length - (j + 1), by omega, rfl, hlt1, hN⟩, fun x1 H8 hy1 => ?_⟩
              rw [List.drop_eq_getElem_cons hlt1] at hl7
              obtain ⟨hm8, e8, rx1⟩ := hJ1.yld α7 (D :: β) HH μ7 e7 np1 hm7 hgd1 j zs[j] x1 H8 (List.getElem?_eq_getElem hlt1) hy1
              have hD8 : H8 D = some (.lst acc7) := e8.keepN hacc7 (pa hm7) (fun _ z => by cases z)
              unfold compLoop at hl7
              rw [if_pos hgd1] at hl7
              cases hset1 : setT t1 zs[j] μ7 (wipeU ρ1 own1) with
              | none => rw [hset1] at hl7; cases hl7
              | some ρ2 =>
                simp only [hset1] at hl7
                have hs8 : SR X.K G α7 (D :: β) H8 (wipeU ρ1 own1) (wipe σ2 own1) := ((SR.monoP e7 hs5).mono e8).wipe own1
                refine ⟨zs[j], wipeU ρ1 own1, μ7, α7, D :: β, ρ2, hm8, hs8, rx1, hset1, fun σ3 hs3' hw3 => ⟨by rw [hw3 own1 hown1, wipe_wipe], ?_⟩⟩
                refine ⟨ρ2, μ7, α7, D :: β, hs3', hm8, ?_⟩
                unfold stepD at hl7
                cases hdt1 : dt1 ρ2 μ7 with
                | bad => simp only [hdt1] at hl7; cases hl7
                | exc c μ8 => simp only [hdt1] at hl7; cases hl7
                | ok b1 μ8 =>
                  simp only [hdt1] at hl7
                  intro H9 α9 hm9 e9
                  have hD9 : H9 D = some (.lst acc7) := e9.keepN hD8 (pa hm8) (fun _ z => by cases z)
                  have e79 : ExtP α5 (D :: β) H5 α9 H9 := (e7.trans e8).trans e9
                  have e19 : Ext α1 H1 α9 H9 := (e17.trans e8).trans e9
                  cases b1 with
                  | false =>
                    exact iteF ⟨μ8, α9, ys1, acc7, us7, hm9, e79, e19, hD9, (rys7.mono e8).mono e9, hl7, eus7⟩
                  | true =>
                    refine iteT ⟨ρ2, μ8, α9, D :: β, hs3'.mono e9, hm9, ?_⟩
                    cases hde : de ρ2 μ8 with
                    | bad => simp only [hde] at hl7; cases hl7
                    | exc c μ9 => simp only [hde] at hl7; cases hl7
                    | ok u μ9 =>
                      simp only [hde] at hl7
                      have hl7 : (match compLoop (gd src1) (stepD dt1 de) (fun u μ => setT t1 u μ (wipeU ρ1 own1)) (zs.drop (j + 1)) μ9 with
                        | .ok us μ2 => R.ok (u :: us) μ2
                        | _ => .bad) = .ok us7 μ5 := hl7
                      cases hc9 : compLoop (gd src1) (stepD dt1 de) (fun u μ => setT t1 u μ (wipeU ρ1 own1)) (zs.drop (j + 1)) μ9 with
                      | bad => rw [hc9] at hl7; cases hl7
                      | exc c μ4 => rw [hc9] at hl7; cases hl7
                      | ok us9 μ10 =>
                        rw [hc9] at hl7
                        cases hl7
                        intro H10 α10 hm10 e10 v rv
                        have hD10 : H10 D = some (.lst acc7) := e10.keepN hD9 (pa hm9) (fun _ z => by cases z)
                        have r10 : VRs X.K G α10 (D :: β) H10 (ys ++ ys1) acc7 := ((rys7.mono e8).mono e9).mono e10
                        refine ⟨acc7, hD10, ?_, μ9, α10, ys1 ++ [u], acc7 ++ [v], us9, hm10.wpriv List.mem_cons_self hD10, (e79.trans e10).wpriv List.mem_cons_self hD10, (e19.trans e10).updN hD, upd_same, ?_, hc9, by rw [eus7]; simp⟩
                        · have l1 := r10.len
                          have l2 : us.length = ys.length + (us1.length + us2.length) := by rw [eus]; simp
                          have l3 : us1.length = ys1.length + (us9.length + 1) := by rw [eus7]; simp
                          rw [List.length_append] at l1
                          rw [sizeLine_eq]
                          unfold bigL at hz
                          omega
                        · rw [← List.append_assoc]
                          exact (r10.app (show VRs X.K G α10 (D :: β) H10 [u] [v] from ⟨v, [], rfl, rv, rfl⟩)).wpriv List.mem_cons_self ⟨acc7, hD10⟩
            · have hje : j = zs.length := by omega
              subst hje
              refine .inl ⟨hJ1.stop α7 (D :: β) HH μ7 e7 np1 hm7 hgd1 _ rfl, ?_⟩
              rw [List.drop_length] at hl7
              unfold compLoop at hl7
              rw [if_pos hgd1] at hl7
              cases hl7
              rw [List.append_nil] at eus7
              subst eus7
              exact ⟨μ5, α7, ys ++ us1, acc7, us2, hm7, e17, hacc7, rys7, hc2, by rw [eus]; simp⟩
    · have hie : i = xs.length := by omega
      subst hie
      refine .inl ⟨hJ.stop α (D :: β) H μ e2.toP np hm2 hgd _ rfl, ?_⟩
      rw [List.drop_length] at hl
      unfold compLoopN at hl
      rw [if_pos hgd] at hl
      cases hl
      rw [List.append_nil] at eus
      subst eus
      exact post_adopt q1 hm2 e2 f2 hD hacc rys
end
end Mini

set_option maxHeartbeats 4000000
/-! Mini, part H: comprehensions as values, loops, statements. -/
namespace Mini
open PySem PySem.Spec PyProof.Rows L2 LamX

theorem fold_set {e : Expr} {env : Env} (h : notSet e = true) (x : Value) : foldedSetIterable e env x = pure x := by
  cases e <;> first | rfl | cases h
section
variable {S : Sg} {G : En} {k : Nat} {C : Orc} {N : List Str} {sc : Scope} {fb : Md} {W : WX} {X : Cx} {K : PySem.W.Frag}
theorem takes0N {X : Cx} : L2N.Takes X (fun _ _ _ _ => False) := fun _ _ x => by
  obtain ⟨_, _, _, _, _, _, _, _, _, _, _, _, _, _, _, _, z⟩ := x
  exact z.elim
/-- a comprehension's block -/
theorem GX.blk (g : GX S G k C N sc fb W X) (hc : fb.calm = true) (s : Shared) (H : Hp) (scope : Scope) (hk : scope.kind = .function) (D : Addr) (cl : List (Str × Addr)) (fp : List Addr) :
    GX S G k C N (relS scope sc) (fb.blk scope) WF (X.blk s H scope (compEnvC scope cl D X.env) fp) where
  mf := g.mf
  ff := g.ff
  hN := g.hN
  nd := g.nd
  hs := by rw [← g.hs]; rfl
  kd := hk
  calm := g.calm
  hot := fun h => by
    have h : fb.calm = false := h
    rw [hc] at h
    cases h
  lm := fun h => ⟨(g.lm h).er, (g.lm h).room, (g.lm h).ea, (g.lm h).tab⟩
  hfn := fun x h => h
  tk := takes0N
  un := g.un
  po := PassesOwn.never
theorem GX.blkH (g : GX S G k C N sc fb W X) (hc : fb.calm = false) {p : Addr × Obj} {c : Exn} (hh : HotF S G C X p c) (s : Shared) (H : Hp) (scope : Scope) (hk : scope.kind = .function) (D : Addr) (cl : List (Str × Addr)) (fp : List Addr) :
    GX S G k C N (relS scope sc) (fb.blk scope) WF (MiniHot.blkH X p s H scope (compEnvC scope cl D X.env) fp) where
  mf := g.mf
  ff := g.ff
  hN := g.hN
  nd := g.nd
  hs := by rw [← g.hs]; rfl
  kd := hk
  calm := fun h => by
    have h : fb.calm = true := h
    rw [hc] at h
    cases h
  hot := fun _ => ⟨p, c, hh.ea, List.mem_singleton.mpr rfl, hh.hot, hh.orc, hh.cls, hh.zc, hh.fld⟩
  lm := fun h => ⟨(g.lm h).er, (g.lm h).room, (g.lm h).ea, (g.lm h).tab⟩
  hfn := fun x h => h
  tk := takes0N
  un := g.un
  po := PassesOwn.never
/-- tests of a comprehension: none, or one -/
theorem pts_of0 {X : Cx} : PTs X [] (tT X.K G W (fun _ μ => .ok true μ)) := by
  refine ⟨fun pins s σ H Q I ⟨ρ, μ, α, β, hs, hm, q⟩ => pts_nil.run pins s σ H Q I (PostG.ok hm q)⟩
theorem pts_of1 {X : Cx} {d : Slots → Mem → R U} {c : Expr} (h : MT X G W d c) : PTs X [c] (tT X.K G W (fun ρ μ => (truR (d ρ μ)).bind fun k μ1 => match k with
    | true => .ok true μ1
    | false => .ok false μ1)) := by
  refine ⟨fun pins s σ H Q I ⟨ρ, μ, α, β, hs, hm, q⟩ => (pts_one h).run pins s σ H Q I ⟨ρ, μ, α, β, hs, hm, PostG.mono (PostG.bind q) fun b μ1 α1 H1 hm1 e1 q1 => ?_⟩⟩
  cases b <;> exact PostG.ok hm1 q1
theorem own_map {N : List Str} {own : List Nat} : (ownOf N own).map (·.2) = own := by
  unfold ownOf
  rw [List.map_map]
  exact List.map_id _
section
variable {m : Bool} {own : List Nat} {t : IT} {di : Slots → Mem → R (Srcs × List U)} {dt : Slots → Mem → R Bool} {de : Slots → Mem → R U} {elt tg it : Expr} {ifs : List Expr} {scope : Scope} {pos : Pos}
abbrev compD (m : Bool) (own : List Nat) (t : IT) (di : Slots → Mem → R (Srcs × List U)) (dt : Slots → Mem → R Bool) (de : Slots → Mem → R U) : Slots → Mem → R U := fun ρ μ => (di ρ μ).bind fun p μ1 =>
  match compLoop (gd p.1) (stepD dt de) (fun u μ => setT t u μ (wipeU ρ own)) p.2 μ1 with
  | .ok us μ2 => if us.length ≤ bigL then alloc m us μ2 else .bad
  | _ => .bad
abbrev compD2 (m : Bool) (own own1 : List Nat) (t t1 : IT) (di : Slots → Mem → R (Srcs × List U)) (dt : Slots → Mem → R Bool) (di1 : Slots → Mem → R (Srcs × List U)) (dt1 : Slots → Mem → R Bool) (de : Slots → Mem → R U) : Slots → Mem → R U := fun ρ μ => (di ρ μ).bind fun p μ1 =>
  match compLoopN (gd p.1) (step2D dt di1 dt1 de (fun ρ u μ => setT t1 u μ (wipeU ρ own1))) (fun u μ => setT t u μ (wipeU ρ own)) p.2 μ1 with
  | .ok us μ2 => if us.length ≤ bigL then alloc m us μ2 else .bad
  | _ => .bad
/-- what the block's pieces say, wherever it stands -/
abbrev Parts (S : Sg) (G : En) (k : Nat) (C : Orc) (N : List Str) (sc : Scope) (fb : Md) (K : PySem.W.Frag) (scope : Scope) (t : IT) (dt : Slots → Mem → R Bool) (de : Slots → Mem → R U) (tg elt : Expr) (ifs : List Expr) : Prop :=
  ∀ Y : Cx, Y.K = K → GX S G k C N (relS scope sc) (fb.blk scope) WF Y → PG Y tg (gM K G t) ∧ PTs Y ifs (tT K G WF dt) ∧ PE Y elt (tE K G WF de)
theorem m_comp (g : GX S G k C N sc fb W X) (hi : fb.calm = true → MI X G W di tg it) (hiH : fb.calm = false → MIH X G W di tg it) (ok : blkC N sc scope (ownOf N own) = true) (hset : notSet it = true) (hown : ∀ i ∈ tgS t, i ∈ own)
    (parts : Parts S G k C N sc fb X.K scope t dt de tg elt ifs) : ME X G W (compD m own t di dt de) (.ListComp elt [⟨tg, it, ifs, 0⟩] scope pos) := by
  have ok' : BlkOk X.N X.env.scope scope (ownOf N own) := by rw [g.hN, g.hs]; exact blkOk_by ok
  have hk := (blkOk_by ok).kind
  cases hc : fb.calm with
  | true =>
    have q := fun s H D cl fp => parts (X.blk s H scope (compEnvC scope cl D X.env) fp) rfl (g.blk hc s H scope hk D cl fp)
    exact pe_imp (pe_lc (g.calm hc).1 g.nd (hi hc) ok' (fun s H D cl fp => (q s H D cl fp).1) (fun s H D cl fp => (q s H D cl fp).2.1) (fun s H D cl fp => (q s H D cl fp).2.2) (fold_set hset)) (lc_reading hown)
  | false =>
    obtain ⟨p, c, hh⟩ := g.hot hc
    exact pe_imp (MiniHot.pe_lcH hh.hot hh.pn g.nd (hiH hc) ok' (fun s H D cl fp => parts _ rfl (g.blkH hc hh s H scope hk D cl fp)) (fold_set hset)) (lc_reading hown)
/-- .. of two clauses -/
abbrev Parts2 (S : Sg) (G : En) (k : Nat) (C : Orc) (N : List Str) (sc : Scope) (fb : Md) (K : PySem.W.Frag) (scope : Scope) (t t1 : IT) (dt : Slots → Mem → R Bool) (di1 : Slots → Mem → R (Srcs × List U)) (dt1 : Slots → Mem → R Bool) (de : Slots → Mem → R U) (tg tg1 it1 elt : Expr) (ifs ifs1 : List Expr) : Prop :=
  ∀ Y : Cx, Y.K = K → GX S G k C N (relS scope sc) (fb.blk scope) WF Y → (PG Y tg (gM K G t) ∧ PTs Y ifs (tT K G WF dt)) ∧ (PI Y tg1 it1 (tI K G WF di1) ∧ PG Y tg1 (gM K G t1)) ∧ PTs Y ifs1 (tT K G WF dt1) ∧ PE Y elt (tE K G WF de)
theorem m_comp2 {own1 : List Nat} {t1 : IT} {di1 : Slots → Mem → R (Srcs × List U)} {dt1 : Slots → Mem → R Bool} {tg1 it1 : Expr} {ifs1 : List Expr} (g : GX S G k C N sc fb W X) (hc : fb.calm = true) (hi : MI X G W di tg it) (ok : blkC N sc scope (ownOf N own) = true) (hset : notSet it = true) (hset1 : notSet it1 = true)
    (hown : ∀ i ∈ tgS t, i ∈ own) (hown1 : ∀ i ∈ tgS t1, i ∈ own1) (hsub : ∀ i ∈ own1, i ∈ own) (parts : Parts2 S G k C N sc fb X.K scope t t1 dt di1 dt1 de tg tg1 it1 elt ifs ifs1) :
    ME X G W (compD2 m own own1 t t1 di dt di1 dt1 de) (.ListComp elt [⟨tg, it, ifs, 0⟩, ⟨tg1, it1, ifs1, 0⟩] scope pos) := by
  have ok' : BlkOk X.N X.env.scope scope (ownOf N own) := by rw [g.hN, g.hs]; exact blkOk_by ok
  have hk := (blkOk_by ok).kind
  have q := fun s H D cl fp => parts (X.blk s H scope (compEnvC scope cl D X.env) fp) rfl (g.blk hc s H scope hk D cl fp)
  exact pe_imp (pe_lc2 (g.calm hc).1 g.nd hi ok' (by rw [own_map]; exact hsub) (fun s H D cl fp => (q s H D cl fp).1.1) (fun s H D cl fp => (q s H D cl fp).1.2) (fun s H D cl fp => (q s H D cl fp).2.1.1) (fun s H D cl fp => (q s H D cl fp).2.1.2)
    (fun s H D cl fp => (q s H D cl fp).2.2.1) (fun s H D cl fp => (q s H D cl fp).2.2.2) (fold_set hset) (fun env => fold_set hset1)) (lc2_reading hown hown1)
end

/-! ### statements -/
def MS (X : Cx) (G : En) (W : WX) (d : Slots → Mem → R Fl) (st : Stmt) : Prop := PS X st (tS X.K G W d)
def MSs (X : Cx) (G : En) (W : WX) (d : Slots → Mem → R Fl) (st : List Stmt) : Prop := PSs X st (tS X.K G W d)
theorem ps_imp {X : Cx} {e : Stmt} {t t' : TS} (h : PS X e t) (i : ∀ D σ H, t' D σ H → t D σ H) : PS X e t' := ⟨fun pins s σ H D I q => h.run pins s σ H D I (i D σ H q)⟩
theorem pss_imp {X : Cx} {e : List Stmt} {t t' : TS} (h : PSs X e t) (i : ∀ D σ H, t' D σ H → t D σ H) : PSs X e t' := ⟨fun pins s σ H D I q => h.run pins s σ H D I (i D σ H q)⟩
theorem ms_nil : MSs X G W (fun ρ μ => .ok (.next ρ) μ) [] := pss_imp pss_nil fun D σ H ⟨ρ, μ, α, β, hs, hm, q⟩ => PostG.ok hm q σ hs
theorem ms_cons {d ds : Slots → Mem → R Fl} {st : Stmt} {rest : List Stmt} (h : MS X G W d st) (hs : MSs X G W ds rest) : MSs X G W (fun ρ μ => match d ρ μ with
    | .ok (.next ρ1) μ1 => ds ρ1 μ1
    | .ok (.ret u) μ1 => .ok (.ret u) μ1
    | .ok (.brk ρ1) μ1 => .ok (.brk ρ1) μ1
    | .ok (.cont ρ1) μ1 => .ok (.cont ρ1) μ1
    | .exc c μ1 => .exc c μ1
    | .bad => .bad) (st :: rest) := by
  refine pss_imp (pss_cons h hs) fun D σ H ⟨ρ, μ, α, β, hs, hm, q⟩ => ⟨ρ, μ, α, β, hs, hm, ?_⟩
  cases hd : d ρ μ with
  | bad => simp only [hd] at q; exact q.elim
  | exc c μ1 => simp only [hd] at q; exact q
  | ok f μ1 =>
    simp only [hd] at q
    cases f with
    | next ρ1 => exact fun H1 α1 hm1 e1 σ1 hs1 => ⟨ρ1, μ1, α1, β, hs1, hm1, PostG.rebase e1 q⟩
    | ret u => exact q
    | brk ρ1 => exact q
    | cont ρ1 => exact q
theorem m_ret {d : Slots → Mem → R U} {e : Expr} {pos : Pos} (h : ME X G W d e) : MS X G W (fun ρ μ => (d ρ μ).bind fun u μ1 => .ok (.ret u) μ1) (.Return (some e) pos) :=
  ps_imp (ps_ret h) fun D σ H ⟨ρ, μ, α, β, hs, hm, q⟩ => ⟨ρ, μ, α, β, hs, hm, PostG.mono (PostG.bind q) fun u μ1 α1 H1 hm1 e1 q1 => PostG.ok hm1 q1⟩
theorem m_retN {pos : Pos} : MS X G W (fun _ μ => .ok (.ret .non) μ) (.Return none pos) :=
  ps_imp ps_retN fun D σ H ⟨ρ, μ, α, β, hs, hm, q⟩ => PostG.ok hm q _ rfl
theorem swaps_none {e : Expr} {l : Nat} {env : Env} {t : Option Expr} (h : notComp e = true) : swapsWith e t l env = pure false := by
  cases e <;> first | rfl | cases h
theorem sole_none {t e : Expr} {l : Nat} {env : Env} (h : notComp e = true) : swapsWithSole [t] e l env = pure false := swaps_none (t := some t) h
theorem sole_sub {o i e : Expr} {p : Pos} {l : Nat} {env : Env} : swapsWithSole [.Subscript o i p] e l env = pure false := by
  show swapsWith e (some (.Subscript o i p)) l env = pure false
  cases e <;> rfl
theorem sole_lc {y : Str} {py : Pos} {e : Expr} {l : Nat} {env : Env} {sc : Scope} (hs : env.scope = sc) (h : isLC e = true) (hl : lcSet sc y py e = false) : swapsWithSole [.Name y py] e l env = pure false := by
  subst hs
  cases e with
  | ListComp elt gens scope pos =>
    have hl : (decide (env.scope.names.lookup y = some .local) && (py.line == pos.line) && !(scope.names.any fun (n, k) => n == y && (k == .local || k == .cell))) = false := hl
    show (pure (env.blockKind == .function && env.kindOf y == some .local && py.line == pos.line && !(scope.names.any fun (n, k) => n == y && (k == .local || k == .cell))) : Sem Bool) = pure false
    have e1 : (env.kindOf y == some .local) = decide (env.scope.names.lookup y = some .local) := by
      show (env.scope.names.lookup y == some .local) = _
      by_cases q : env.scope.names.lookup y = some .local
      · rw [q] <;> rfl
      · rw [decide_eq_false q]
        simpa using q
    rw [e1]
    cases (env.blockKind == .function)
    · rfl
    · rw [Bool.true_and, hl]
  | _ => cases h
theorem m_exp {d : Slots → Mem → R U} {e : Expr} {pos : Pos} (hn : notComp e = true) (h : ME X G W d e) : MS X G W (fun ρ μ => (d ρ μ).bind fun _ μ1 => .ok (.next ρ) μ1) (.Expr e pos) :=
  ps_imp (ps_expr h (swaps_none hn)) fun D σ H ⟨ρ, μ, α, β, hs, hm, q⟩ => ⟨ρ, μ, α, β, hs, hm, PostG.mono (PostG.bind q) fun u μ1 α1 H1 hm1 e1 q1 v _ => PostG.ok hm1 q1 σ (hs.mono e1)⟩
theorem m_if {dc : Slots → Mem → R U} {da db : Slots → Mem → R Fl} {c : Expr} {a b : List Stmt} {pos : Pos} (hc : MT X G W dc c) (ha : MSs X G W da a) (hb : MSs X G W db b) : MS X G W (fun ρ μ => (truR (dc ρ μ)).bind fun k μ1 => match k with
    | true => da ρ μ1
    | false => db ρ μ1) (.If c a b pos) := by
  refine ps_imp (ps_if hc ha hb) fun D σ H ⟨ρ, μ, α, β, hs, hm, q⟩ => ⟨ρ, μ, α, β, hs, hm, PostG.mono (PostG.bind q) fun k μ1 α1 H1 hm1 e1 q1 => ?_⟩
  cases k with
  | true => exact iteT ⟨ρ, μ1, α1, β, hs.mono e1, hm1, q1⟩
  | false => exact iteF ⟨ρ, μ1, α1, β, hs.mono e1, hm1, q1⟩
theorem m_pass {pos : Pos} : MS X G W (fun ρ μ => .ok (.next ρ) μ) (.Pass pos) := ps_imp ps_pass fun D σ H ⟨ρ, μ, α, β, hs, hm, q⟩ => PostG.ok hm q σ hs
theorem m_brk {pos : Pos} : MS X G W (fun ρ μ => .ok (.brk ρ) μ) (.Break pos) := ps_imp ps_break fun D σ H ⟨ρ, μ, α, β, hs, hm, q⟩ => PostG.ok hm q σ hs
theorem m_cont {pos : Pos} : MS X G W (fun ρ μ => .ok (.cont ρ) μ) (.Continue pos) := ps_imp ps_continue fun D σ H ⟨ρ, μ, α, β, hs, hm, q⟩ => PostG.ok hm q σ hs
/-- what follows a store -/
theorem set_read {t : IT} {d : Slots → Mem → R U} {D : Ends} {σ : L2.St} {H : Hp} (h : tS K G W (fun ρ μ => (d ρ μ).bind fun u μ1 => stored (setT t u μ1 ρ) μ1) D σ H) : tE K G W d σ H (fun x H1 => gM K G t x σ H1 D.nx) := by
  obtain ⟨ρ, μ, α, β, hs, hm, q⟩ := h
  refine ⟨ρ, μ, α, β, hs, hm, PostG.mono (PostG.bind q) fun u μ1 α1 H1 hm1 e1 q1 v rv => ?_⟩
  cases ht : setT t u μ1 ρ with
  | none => rw [ht] at q1; exact q1.elim
  | some ρ1 =>
    rw [ht] at q1
    exact ⟨u, ρ, μ1, α1, β, ρ1, hm1, hs.mono e1, rv, ht, fun σ' hs' _ => PostG.ok hm1 q1 σ' hs'⟩
theorem m_set {t : IT} {d : Slots → Mem → R U} {tg e : Expr} {pos : Pos} (he : ME X G W d e) (hg : PG X tg (gM X.K G t)) (hs : swapsWithSole [tg] e pos.line X.env = pure false) (hw : swappedStores [tg] e X.env = pure none) (hn : notStar tg = true) :
    MS X G W (fun ρ μ => (d ρ μ).bind fun u μ1 => stored (setT t u μ1 ρ) μ1) (.Assign [tg] e pos) :=
  ps_imp (ps_asg he hg hs hw (by rw [each_cons hn] <;> rfl)) fun D σ H h => set_read h
/-- a store at a place of a list -/
theorem setiD_ok {μ μ' : Mem} {α β : List Addr} {H : Hp} {u kk v : U} {z y w : V} (hm : HR K G μ α β H) (rz : VR K G α β H u z) (ry : VR K G α β H kk y) (rw' : VR K G α β H v w) (h : setiD u kk v μ = some μ') :
    ∃ a ws i j, z = .ref a ∧ y = .int i ∧ H a = some (.lst ws) ∧ ixN ws.length i = some j ∧ Ext α H α (upd H a (.lst (ws.set j w))) ∧ HR K G μ' α β (upd H a (.lst (ws.set j w))) := by
  unfold setiD at h
  cases u with
  | ref n =>
    cases kk with
    | int i =>
      have h : (match getL μ n with
        | some xs => match ixN xs.length i with
          | some j => some (μ.set n (xs.set j v))
          | none => none
        | none => none) = some μ' := h
      cases hx : getL μ n with
      | none => rw [hx] at h; cases h
      | some xs =>
        rw [hx] at h
        have h : (match ixN xs.length i with
          | some j => some (μ.set n (xs.set j v))
          | none => none) = some μ' := h
        cases hj : ixN xs.length i with
        | none => rw [hj] at h; cases h
        | some j =>
          rw [hj] at h
          cases h
          cases ry
          obtain ⟨a, rfl, ha, _⟩ := rz
          obtain ⟨a', ws, g1, g2, g3⟩ := hm.at_ n xs hx
          rw [ha] at g1
          cases g1
          have ext := hm.set ha g2 (VRs.set rw' j g3)
          exact ⟨a, ws, i, j, rfl, rfl, g2, by rw [← g3.len]; exact hj, ext.1, ext.2⟩
    | _ => cases h
  | _ => cases h
/-- o[i] = e -/
theorem m_seti {dO di de : Slots → Mem → R U} {o i e : Expr} {p pos : Pos} (ho : ME X G W dO o) (hi : ME X G W di i) (he : ME X G W de e) (hsl : notSlice i = true) :
    MS X G W (fun ρ μ => (de ρ μ).bind fun v μ1 => (dO ρ μ1).bind fun u μ2 => (di ρ μ2).bind fun k μ3 => match setiD u k v μ3 with
    | some μ4 => .ok (.next ρ) μ4
    | none => .bad) (.Assign [.Subscript o i p] e pos) := by
  refine ps_imp (ps_asg he (pg_sub ho hi set_list (by
    intro v
    cases i <;> first | rfl | cases hsl)) sole_sub rfl rfl) fun D σ H ⟨ρ, μ, α, β, hs, hm, q⟩ => ?_
  refine ⟨ρ, μ, α, β, hs, hm, PostG.mono (PostG.bind q) fun u μ1 α1 H1 hm1 e1 q1 v rv => ?_⟩
  refine ⟨ρ, μ1, α1, β, hs.mono e1, hm1, PostG.mono (PostG.bind q1) fun w μ2 α2 H2 hm2 e2 q2 z rz => ?_⟩
  refine ⟨ρ, μ2, α2, β, (hs.mono e1).mono e2, hm2, PostG.mono (PostG.bind q2) fun kk μ3 α3 H3 hm3 e3 q3 y ry => ?_⟩
  cases hx : setiD w kk u μ3 with
  | none => simp only [hx] at q3; exact q3.elim
  | some μ4 =>
    simp only [hx] at q3
    obtain ⟨a, ws, ii, j, rfl, rfl, g2, hj, ext, hm4⟩ := setiD_ok hm3 (rz.mono e3) ry (rv.mono (e2.trans e3)) hx
    exact ⟨a, ws, ii, j, rfl, rfl, g2, hj, q3 _ _ hm4 ext σ ((((hs.mono e1).mono e2).mono e3).mono ext)⟩
/-! ### stores of a parallel assignment, places among them -/
def gPs (K : PySem.W.Frag) (G : En) (W : WX) (d : List U → Slots → Mem → R Slots) : TGs := fun vs σ H Q =>
  ∃ us ρ μ α β, HR K G μ α β H ∧ SR K G α β H ρ σ ∧ VRs K G α β H us vs ∧ PostG K G β W (d us ρ μ) α H (fun ρ' _ α' H' => ∀ σ', SR K G α' β H' ρ' σ' → Q σ' H')
def MP (X : Cx) (G : En) (W : WX) (d : List U → Slots → Mem → R Slots) (es : List Expr) : Prop := PGs X es (gPs X.K G W d)
theorem mp_nil : MP X G W (fun us ρ μ => match us with
    | [] => .ok ρ μ
    | _ => .bad) [] := pgs_imp pgs_nil fun v σ H Q ⟨us, ρ, μ, α, β, hm, hs, r, q⟩ => by
  cases us with
  | nil => cases r; exact ⟨rfl, PostG.ok hm q _ hs⟩
  | cons a b => exact q.elim
theorem mp_name {d : List U → Slots → Mem → R Slots} {i : Nat} {x : Str} {p : Pos} {es : List Expr} (g : GX S G k C N sc fb W X) (hi : N[i]? = some x) (hx : locB fb sc x = true) (h : MP X G W d es) : MP X G W (fun us ρ μ => match us with
    | u :: us => d us (ρ.set i (some u)) μ
    | [] => .bad) (.Name x p :: es) := by
  obtain ⟨l1, l2⟩ := loc_of g hx
  refine pgs_imp (pgs_cons (pg_name g.nd (by rw [g.hN]; exact hi) l1 l2) h rfl) fun v σ H Q ⟨us, ρ, μ, α, β, hm, hs, r, q⟩ => ?_
  cases us with
  | nil => exact q.elim
  | cons a b =>
    obtain ⟨v1, vr, rfl, r1, r2⟩ := r
    exact ⟨v1, vr, rfl, b, ρ.set i (some a), μ, α, β, hm, hs.set r1 i, r2, q⟩
theorem mp_sub {d : List U → Slots → Mem → R Slots} {dO di : Slots → Mem → R U} {o i : Expr} {p : Pos} {es : List Expr} (ho : ME X G W dO o) (hi : ME X G W di i) (hsl : notSlice i = true) (h : MP X G W d es) : MP X G W (fun us ρ μ => match us with
    | u :: us => (dO ρ μ).bind fun v μ1 => (di ρ μ1).bind fun k μ2 => match setiD v k u μ2 with
      | some μ3 => d us ρ μ3
      | none => .bad
    | [] => .bad) (.Subscript o i p :: es) := by
  refine pgs_imp (pgs_cons (pg_sub ho hi set_list (by
    intro v
    cases i <;> first | rfl | cases hsl)) h rfl) fun v σ H Q ⟨us, ρ, μ, α, β, hm, hs, r, q⟩ => ?_
  cases us with
  | nil => exact q.elim
  | cons a b =>
    obtain ⟨v1, vr, rfl, r1, r2⟩ := r
    refine ⟨v1, vr, rfl, ρ, μ, α, β, hs, hm, PostG.mono (PostG.bind q) fun w μ2 α2 H2 hm2 e2 q2 z rz => ?_⟩
    refine ⟨ρ, μ2, α2, β, hs.mono e2, hm2, PostG.mono (PostG.bind q2) fun kk μ3 α3 H3 hm3 e3 q3 y ry => ?_⟩
    cases hx : setiD w kk a μ3 with
    | none => simp only [hx] at q3; exact q3.elim
    | some μ4 =>
      simp only [hx] at q3
      obtain ⟨ad, ws, ii, j, rfl, rfl, g2, hj, ext, hm4⟩ := setiD_ok hm3 (rz.mono e3) ry (r1.mono (e2.trans e3)) hx
      exact ⟨ad, ws, ii, j, rfl, rfl, g2, hj, b, ρ, μ4, α3, β, hm4, ((hs.mono e2).mono e3).mono ext, (r2.mono (e2.trans e3)).mono ext, PostG.rebase ext q3⟩
/-! ### loops -/
theorem m_for {t : IT} {di : Slots → Mem → R (Srcs × List U)} {db : Slots → Mem → R Fl} {tg it : Expr} {body : List Stmt} {pos : Pos} (g : GX S G k C N sc fb W X) (hc : fb.calm = true) (hi : MI X G W di tg it) (hset : notSet it = true) (hg : PG X tg (gM X.K G t)) (hb : MSs X G W db body) :
    MS X G W (fun ρ μ => (di ρ μ).bind fun p μ1 => forLoop (gd p.1) db (fun u μ ρ => setT t u μ ρ) p.2 ρ μ1) (.For tg it body [] pos) := by
  refine ps_imp (ps_for g.po (g.calm hc).1 hi hg hb (fold_set hset)) fun D σ H ⟨ρ0, μ, α, β, hs, hm, q⟩ => ?_
  refine ⟨ρ0, μ, α, β, hs, hm, PostG.mono (PostG.bind q) fun pr μ1 α1 H1 hm1 e1 q1 J hJ => ?_⟩
  obtain ⟨src, xs⟩ := pr
  simp only at hJ
  refine ⟨fun i m σ H => m = xs.length - i ∧ i ≤ xs.length ∧ ∃ ρ μ α, SR X.K G α β H ρ σ ∧ HR X.K G μ α β H ∧ Ext α1 H1 α H ∧ PostS X.K G β W (forLoop (gd src) db (fun u μ ρ => setT t u μ ρ) (xs.drop i) ρ μ) α H D,
    ⟨xs.length, by simp, Nat.zero_le _, ρ0, μ1, α1, hs.mono e1, hm1, Ext.refl _ _, by simpa using q1⟩, fun i m σ H hW => ?_⟩
  obtain ⟨rfl, hi, ρ, μ, α, hs2, hm2, e2, q2⟩ := hW
  have np : NoPriv α1 β H1 β := ⟨fun _ z => z, fun a o _ _ n => n⟩
  have hgd : gd src μ = true := by
    cases hx : xs.drop i with
    | nil =>
      rw [hx] at q2
      unfold forLoop at q2
      by_cases hg : gd src μ = true
      · exact hg
      · rw [if_neg hg] at q2; exact q2.elim
    | cons y ys =>
      rw [hx] at q2
      unfold forLoop at q2
      by_cases hg : gd src μ = true
      · exact hg
      · rw [if_neg hg] at q2; exact q2.elim
  by_cases hlt : i < xs.length
  · refine .inr ⟨hJ.go α β H μ e2.toP np hm2 hgd i hlt, fun σ' H' => ∃ ρ μ α, SR X.K G α β H' ρ σ' ∧ HR X.K G μ α β H' ∧ Ext α1 H1 α H' ∧ PostS X.K G β W (forLoop (gd src) db (fun u μ ρ => setT t u μ ρ) (xs.drop (i + 1)) ρ μ) α H' D,
      fun σ' H' hN => ⟨xs.length - (i + 1), by omega, rfl, hlt, hN⟩, fun x H' hy => ?_⟩
    rw [List.drop_eq_getElem_cons hlt] at q2
    obtain ⟨hm3, e3, rx⟩ := hJ.yld α β H μ e2.toP np hm2 hgd i xs[i] x H' (List.getElem?_eq_getElem hlt) hy
    unfold forLoop at q2
    rw [if_pos hgd] at q2
    cases hset : setT t xs[i] μ ρ with
    | none => simp only [hset] at q2; exact q2.elim
    | some ρ1 =>
      simp only [hset] at q2
      refine ⟨xs[i], ρ, μ, α, β, ρ1, hm3, hs2.mono e3, rx, hset, fun σ2 hs3 _ => ⟨ρ1, μ, α, β, hs3, hm3, ?_⟩⟩
      cases hd : db ρ1 μ with
      | bad => simp only [hd] at q2; exact q2.elim
      | exc c μ1 => simp only [hd] at q2; exact PostG.rebase e3 q2
      | ok f μ1 =>
        simp only [hd] at q2
        cases f with
        | next ρ2 => exact fun H4 α4 hm4 e4 σ4 hs4 => ⟨ρ2, μ1, α4, hs4, hm4, (e2.trans e3).trans e4, PostG.rebase (e3.trans e4) q2⟩
        | cont ρ2 => exact fun H4 α4 hm4 e4 σ4 hs4 => ⟨ρ2, μ1, α4, hs4, hm4, (e2.trans e3).trans e4, PostG.rebase (e3.trans e4) q2⟩
        | brk ρ2 => exact PostG.rebase e3 q2
        | ret u => exact PostG.rebase e3 q2
  · have hie : i = xs.length := by omega
    subst hie
    rw [List.drop_length] at q2
    unfold forLoop at q2
    rw [if_pos hgd] at q2
    exact .inl ⟨hJ.stop α β H μ e2.toP np hm2 hgd _ rfl, PostG.ok hm2 q2 σ hs2⟩
theorem m_while {n : Nat} {dc : Slots → Mem → R U} {db : Slots → Mem → R Fl} {c : Expr} {body : List Stmt} {pos : Pos} (g : GX S G k C N sc fb W X) (hc : MT X G W dc c) (hb : MSs X G W db body) :
    MS X G W (fun ρ μ => whileLoop (fun ρ μ => truR (dc ρ μ)) db n ρ μ) (.While c body [] pos) := by
  refine ps_imp (ps_while g.po hc hb) fun D σ H ⟨ρ, μ, α, β, hs, hm, q⟩ => ?_
  refine ⟨fun m σ H => ∃ ρ μ α, SR X.K G α β H ρ σ ∧ HR X.K G μ α β H ∧ PostS X.K G β W (whileLoop (fun ρ μ => truR (dc ρ μ)) db m ρ μ) α H D, ⟨n, ρ, μ, α, hs, hm, q⟩, fun m σ H hW => ?_⟩
  obtain ⟨ρ, μ, α, hs, hm, q⟩ := hW
  cases m with
  | zero => exact q.elim
  | succ m =>
    unfold whileLoop at q
    refine ⟨ρ, μ, α, β, hs, hm, ?_⟩
    cases ht : truR (dc ρ μ) with
    | bad => simp only [ht] at q; exact q.elim
    | exc c μ1 =>
      simp only [ht] at q
      dsimp only
      rw [ht]
      exact q
    | ok b μ1 =>
      simp only [ht] at q
      dsimp only
      rw [ht]
      cases b with
      | false => exact fun H1 α1 hm1 e1 => iteF (q H1 α1 hm1 e1 σ (hs.mono e1))
      | true =>
        refine fun H1 α1 hm1 e1 => iteT ⟨fun σ' H' => ∃ ρ μ α, SR X.K G α β H' ρ σ' ∧ HR X.K G μ α β H' ∧ PostS X.K G β W (whileLoop (fun ρ μ => truR (dc ρ μ)) db m ρ μ) α H' D,
          fun σ' H' hN => ⟨m, Nat.lt_succ_self m, hN⟩, ρ, μ1, α1, β, hs.mono e1, hm1, ?_⟩
        have q := PostG.rebase e1 q
        cases hd : db ρ μ1 with
        | bad => simp only [hd] at q; exact q.elim
        | exc c μ1 => simp only [hd] at q; exact q
        | ok f μ2 =>
          simp only [hd] at q
          cases f with
          | next ρ2 => exact fun H4 α4 hm4 e4 σ4 hs4 => ⟨ρ2, μ2, α4, hs4, hm4, PostG.rebase e4 q⟩
          | cont ρ2 => exact fun H4 α4 hm4 e4 σ4 hs4 => ⟨ρ2, μ2, α4, hs4, hm4, PostG.rebase e4 q⟩
          | brk ρ2 => exact q
          | ret u => exact q
end
end Mini

set_option maxHeartbeats 4000000
/-! Mini, part X: pop, dicts, lists of ranges, fields of exceptions. -/
namespace Mini
open PySem PySem.Spec PyProof.Rows L2 LamX
section
variable {S : Sg} {G : En} {k : Nat} {C : Orc} {N : List Str} {sc : Scope} {fb : Md} {W : WX} {X : Cx} {K : PySem.W.Frag}
theorem m_hole {e : Expr} : ME X G W (fun _ _ => .bad) e := ⟨fun pins s σ H Q I ⟨ρ, μ, α, β, hs, hm, q⟩ => q.elim⟩
theorem base_of {o : Expr} {m : Str} (hc : notCall o = true) : attributeBase o m X.env (eval o X.env) = eval o X.env := by
  cases o <;> first | rfl | cases hc
/-! ### o.pop(), o.pop(i) -/
theorem vrs_erase {α β : List Addr} {H : Hp} : ∀ (j : Nat) {us : List U} {vs : List V}, VRs K G α β H us vs → VRs K G α β H (us.eraseIdx j) (vs.eraseIdx j)
  | _, [], _, h => by cases h; rfl
  | 0, _ :: _, _, h => by
    obtain ⟨v, r, rfl, _, h2⟩ := h
    exact h2
  | j + 1, _ :: _, _, h => by
    obtain ⟨v, r, rfl, h1, h2⟩ := h
    exact ⟨v, _, rfl, h1, vrs_erase j h2⟩
theorem popD_ok {μ : Mem} {α β : List Addr} {H : Hp} {u : U} {us : List U} {x : V} {vs : List V} {Q : VK} (hm : HR K G μ α β H) (rx : VR K G α β H u x) (rv : VRs K G α β H us vs) (q : PostV K G β W (popD μ u us) α H Q) : rPop x vs H Q ∨ rPopAt x vs H Q := by
  cases u with
  | ref n =>
    obtain ⟨a, rfl, ha, _⟩ := rx
    unfold popD at q
    simp only at q
    cases hx : getL μ n with
    | none => rw [hx] at q; exact q.elim
    | some xs =>
      rw [hx] at q
      simp only at q
      obtain ⟨a', ws, g1, g2, g3⟩ := hm.at_ n xs hx
      rw [ha] at g1
      cases g1
      by_cases he : us.isEmpty = true
      · rw [if_pos he] at q
        have e0 : us = [] := List.isEmpty_iff.mp he
        subst e0
        cases rv
        cases hy : xs[xs.length - 1]? with
        | none => rw [hy] at q; exact q.elim
        | some y =>
          rw [hy] at q
          obtain ⟨v, h1, h2⟩ := g3.get hy
          have hd : VRs K G α β H xs.dropLast ws.dropLast := by
            rw [List.dropLast_eq_take, List.dropLast_eq_take, ← g3.len]
            exact g3.take _
          have ext := hm.set ha g2 hd
          exact .inl ⟨a, ws, v, rfl, rfl, g2, by rw [← g3.len]; exact h1, q _ _ ext.2 ext.1 _ (h2.mono ext.1)⟩
      · rw [if_neg he] at q
        cases hi : int1 us with
        | none => rw [hi] at q; exact q.elim
        | some i =>
          rw [hi] at q
          rw [int1_eq hi] at rv
          have ev := vr_int1 rv
          subst ev
          by_cases hz : xs.length ≤ bigL
          · have q : PostV K G β W (match ixN xs.length i with
              | some j => match xs[j]? with
                | some y => R.ok y (μ.set n (xs.eraseIdx j))
                | none => .bad
              | none => .bad) α H Q := by
              have q : PostV K G β W (if xs.length ≤ bigL then (match ixN xs.length i with
                | some j => match xs[j]? with
                  | some y => R.ok y (μ.set n (xs.eraseIdx j))
                  | none => .bad
                | none => .bad) else .bad) α H Q := q
              rw [if_pos hz] at q
              exact q
            cases hj : ixN xs.length i with
            | none => rw [hj] at q; exact q.elim
            | some j =>
              rw [hj] at q
              cases hy : xs[j]? with
              | none => simp only [hy] at q; exact q.elim
              | some y =>
                simp only [hy] at q
                obtain ⟨v, h1, h2⟩ := g3.get hy
                obtain ⟨s1, s2, s3, s4⟩ := ixN_seq hj
                have ext := hm.set ha g2 (vrs_erase j g3)
                unfold bigL at hz
                exact .inr ⟨a, ws, i, j, v, rfl, rfl, g2, by omega, by omega, by rw [← g3.len]; exact s1, h1, q _ _ ext.2 ext.1 _ (h2.mono ext.1)⟩
          · have q : PostV K G β W (if xs.length ≤ bigL then (match ixN xs.length i with
                | some j => match xs[j]? with
                  | some y => R.ok y (μ.set n (xs.eraseIdx j))
                  | none => .bad
                | none => .bad) else .bad) α H Q := q
            rw [if_neg hz] at q
            exact q.elim
  | _ => exact q.elim
theorem mt_pops : MtR X "list.pop" (fun x vs H Q => rPop x vs H Q ∨ rPopAt x vs H Q) := fun pins s σ H x vs v us Q I rx rv h => by
  rcases h with h | h
  · exact mt_pop pins s σ H x vs v us Q I rx rv h
  · exact mt_popAt pins s σ H x vs v us Q I rx rv h
theorem m_pop0 {dO : Slots → Mem → R U} {o : Expr} {apos pos : Pos} (hl : (apos.endLine == pos.line) = true) (hc : notCall o = true) (ho : ME X G W dO o) :
    ME X G W (fun ρ μ => (dO ρ μ).bind fun u μ1 => match u with
      | .ref n => (R.ok [] μ1).bind fun us μ2 => popD μ2 (.ref n) us
      | _ => .bad) (.Call (.Attribute o "pop" apos) [] [] pos) := by
  refine pe_imp (pe_bm0 PySem.F.plainAttrs_list PySem.F.slot_list_pop PySem.F.type_list_pop mt_pops ho (base_of hc) hl) fun σ H Q ⟨ρ, μ, α, β, hs', hm, q⟩ => ?_
  refine ⟨ρ, μ, α, β, hs', hm, PostG.mono (PostG.bind q) fun u μ1 α1 H1 hm1 e1 q1 x rx => ?_⟩
  cases u with
  | ref n =>
    obtain ⟨a, rfl, hn, vs, hv⟩ := id rx
    exact ⟨.inl ⟨rfl, vs, SqL.of hv⟩, popD_ok hm1 rx (us := []) (vs := []) rfl q1⟩
  | _ => exact q1.elim
theorem m_pop1 {dO : Slots → Mem → R U} {ds : Slots → Mem → R (List U)} {o e : Expr} {apos pos : Pos} (hl : (apos.endLine == pos.line) = true) (hc : notCall o = true) (hn : notStar e = true) (ho : ME X G W dO o) (hs : MA X G W ds [e]) :
    ME X G W (fun ρ μ => (dO ρ μ).bind fun u μ1 => match u with
      | .ref n => (ds ρ μ1).bind fun us μ2 => popD μ2 (.ref n) us
      | _ => .bad) (.Call (.Attribute o "pop" apos) [e] [] pos) := by
  have hfew : ((backTo pos (starEach [e] X.env)).all (fun x => !x.1) && (backToKw pos (keywordEach [] X.env)).all (fun x => x.1.isSome)
      && decide ((e :: ([] : List Expr)).length + ([] : List Keyword).length + (if ([] : List Keyword).isEmpty then 0 else 1) < 30)) = true := by
    rw [star_all (by simp [hn])] <;> rfl
  refine pe_imp (pe_bm PySem.F.plainAttrs_list PySem.F.slot_list_pop PySem.F.type_list_pop mt_pops ho hs (base_of hc) hfew hl (star_cons hn) rfl) fun σ H Q ⟨ρ, μ, α, β, hs', hm, q⟩ => ?_
  refine ⟨ρ, μ, α, β, hs', hm, PostG.mono (PostG.bind q) fun u μ1 α1 H1 hm1 e1 q1 x rx => ?_⟩
  cases u with
  | ref n =>
    obtain ⟨a, rfl, hn, vs, hv⟩ := id rx
    exact ⟨.inl ⟨rfl, vs, SqL.of hv⟩, ρ, μ1, α1, β, hs'.mono e1, hm1, PostG.mono (PostG.bind q1) fun us μ2 α2 H2 hm2 e2 q2 ys ry => popD_ok hm2 (rx.mono e2) ry q2⟩
  | _ => exact q1.elim
/-! ### dicts -/
theorem m_dnew {pos : Pos} : ME X G W (fun _ μ => .ok (.dref μ.length) (μ ++ [[.dtag]])) (.Dict [] [] pos) := by
  refine pe_imp pe_dnewK fun σ H Q ⟨ρ, μ, α, β, hs, hm, q⟩ p hp => ?_
  refine q _ (α ++ [p]) (hm.newCell hp (.inr ⟨[], [], rfl, upd_same, rfl⟩)) (Ext.newRef hp) _ ⟨p, rfl, ?_, [], upd_same⟩
  rw [← hm.len, List.getElem?_append_right (Nat.le_refl _)]
  simp
theorem key_v {α β : List Addr} {H : Hp} {u : U} {y : V} {kk : L2.Key} (r : VR K G α β H u y) (h : keyOf u = some kk) : y = kV kk := by
  cases u with
  | int i => cases r; cases h; rfl
  | str i => cases r; cases h; rfl
  | _ => cases h
theorem dval_v {α β : List Addr} {H : Hp} {kk : L2.Key} : ∀ {ps : List U} {kvs : List (L2.Key × V)}, DRs K G α β H ps kvs → (∀ u, dval ps kk = some u → ∃ v, valV kvs kk = some v ∧ VR K G α β H u v) ∧ (dval ps kk = none → valV kvs kk = none)
  | [], _, h => by
    cases h
    exact ⟨fun u e => (by cases e), fun _ => rfl⟩
  | _ :: r, _, h => by
    obtain ⟨u1, x, k1, v1, kr, rfl, rfl, h2, h3, h4⟩ := h.cons_inv
    obtain ⟨i1, i2⟩ := dval_v (kk := kk) h4
    by_cases e : k1 = kk
    · subst e
      have ev : dval (.tup [u1, x] :: r) k1 = some x := by
        show (if keyOf u1 = some k1 then some x else dval r k1) = _
        rw [if_pos h2]
      rw [ev]
      exact ⟨fun u eu => by
        cases eu
        exact ⟨v1, valV_pos (p := (k1, v1)) rfl, h3⟩, fun z => by cases z⟩
    · have ev : dval (.tup [u1, x] :: r) kk = dval r kk := by
        show (if keyOf u1 = some kk then some x else dval r kk) = _
        rw [if_neg (fun z => e (Option.some.inj (h2.symm.trans z)))]
      rw [ev, valV_neg (p := (k1, v1)) e]
      exact ⟨i1, i2⟩
theorem DRs.len {α β : List Addr} {H : Hp} : ∀ {ps : List U} {kvs : List (L2.Key × V)}, DRs K G α β H ps kvs → ps.length = kvs.length
  | [], _, h => by cases h; rfl
  | _ :: _, _, h => by
    obtain ⟨u1, x, k1, v1, kr, rfl, rfl, h2, h3, h4⟩ := h.cons_inv
    simp [DRs.len h4]
theorem DRs.app {α β : List Addr} {H : Hp} {qs : List U} {ls : List (L2.Key × V)} (g : DRs K G α β H qs ls) : ∀ {ps : List U} {kvs : List (L2.Key × V)}, DRs K G α β H ps kvs → DRs K G α β H (ps ++ qs) (kvs ++ ls)
  | [], _, h => by cases h; exact g
  | _ :: _, _, h => by
    obtain ⟨u1, x, k1, v1, kr, rfl, rfl, h2, h3, h4⟩ := h.cons_inv
    exact ⟨k1, v1, kr ++ ls, rfl, h2, h3, DRs.app g h4⟩
theorem m_dget {dd dk de : Slots → Mem → R U} {o a b : Expr} {apos pos : Pos} (g : GX S G k C N sc fb W X) (hl : (apos.endLine == pos.line) = true) (hc : notCall o = true) (hn1 : notStar a = true) (hn2 : notStar b = true) (ho : ME X G W dd o) (ha : ME X G W dk a) (hb : ME X G W de b) :
    ME X G W (fun ρ μ => (dd ρ μ).bind fun u μ1 => match u with
      | .dref n => (dk ρ μ1).bind fun v μ2 => (de ρ μ2).bind fun w μ3 => dgetD μ3 (.dref n) v w
      | _ => .bad) (.Call (.Attribute o "get" apos) [a, b] [] pos) := by
  have hu := g.un
  have m : M2 X o "get" apos a b pos := ⟨base_of hc, by rw [star_all (by simp [hn1, hn2])] <;> rfl, hl, by rw [star_cons hn1, star_cons hn2] <;> rfl⟩
  refine pe_imp (pe_dget2 (by omega) ho ha hb m) fun σ H Q ⟨ρ, μ, α, β, hs, hm, q⟩ => ?_
  refine ⟨ρ, μ, α, β, hs, hm, PostG.mono (PostG.bind q) fun u μ1 α1 H1 hm1 e1 q1 x rx => ?_⟩
  cases u with
  | dref n =>
    obtain ⟨ad, rfl, hn, kvs0, hv⟩ := id rx
    refine ⟨ad, rfl, .inl ⟨kvs0, .inl hv⟩, ρ, μ1, α1, β, hs.mono e1, hm1, PostG.mono (PostG.bind q1) fun v μ2 α2 H2 hm2 e2 q2 y ry => ?_⟩
    refine ⟨ρ, μ2, α2, β, (hs.mono e1).mono e2, hm2, PostG.mono (PostG.bind q2) fun w μ3 α3 H3 hm3 e3 q3 z rz => ?_⟩
    have q3 : PostV X.K G β W (match getD μ3 n, keyOf v with
      | some ps, some k => R.ok ((dval ps k).getD w) μ3
      | _, _ => .bad) α3 H3 Q := q3
    cases hx : getD μ3 n with
    | none => rw [hx] at q3; exact q3.elim
    | some ps =>
      cases hk : keyOf v with
      | none => rw [hx, hk] at q3; exact q3.elim
      | some kk =>
        rw [hx, hk] at q3
        simp only at q3
        obtain ⟨a', kvs, g1, g2, g3⟩ := hm3.dat n ps hx
        rw [pre_get (e2.trans e3).pre hn] at g1
        cases g1
        obtain ⟨i1, i2⟩ := dval_v (kk := kk) g3
        refine ⟨valV kvs kk, .inl ⟨kvs, kk, .inl g2, key_v ry hk, rfl⟩, ?_⟩
        cases hd : dval ps kk with
        | none =>
          rw [i2 hd]
          rw [hd] at q3
          exact PostV.val q3 hm3 rz
        | some u =>
          obtain ⟨v', h1, h2⟩ := i1 u hd
          rw [h1]
          rw [hd] at q3
          exact PostV.val q3 hm3 h2
  | _ => exact q1.elim
/-- d.setdefault(k, []) -/
theorem m_dsd {dd dk : Slots → Mem → R U} {o a : Expr} {apos pos lp : Pos} (g : GX S G k C N sc fb W X) (hl : (apos.endLine == pos.line) = true) (hc : notCall o = true) (hn1 : notStar a = true) (ho : ME X G W dd o) (ha : ME X G W dk a) :
    ME X G W (fun ρ μ => (dd ρ μ).bind fun u μ1 => match u with
      | .dref n => (dk ρ μ1).bind fun v μ2 => dsdD μ2 (.dref n) v
      | _ => .bad) (.Call (.Attribute o "setdefault" apos) [a, .List [] lp] [] pos) := by
  have hn2 : notStar (.List [] lp) = true := rfl
  have m : M2 X o "setdefault" apos a (.List [] lp) pos := ⟨base_of hc, by rw [star_all (by simp [hn1, hn2])] <;> rfl, hl, by rw [star_cons hn1, star_cons hn2] <;> rfl⟩
  refine pe_imp (pe_dsetd ho ha (pe_lst pa_nil) m) fun σ H Q ⟨ρ, μ, α, β, hs, hm, q⟩ => ?_
  refine ⟨ρ, μ, α, β, hs, hm, PostG.mono (PostG.bind q) fun u μ1 α1 H1 hm1 e1 q1 x rx => ?_⟩
  cases u with
  | dref n =>
    obtain ⟨ad, rfl, hn, kvs0, hv⟩ := id rx
    refine ⟨ad, rfl, .inl ⟨kvs0, .inl hv⟩, ρ, μ1, α1, β, hs.mono e1, hm1, PostG.mono (PostG.bind q1) fun v μ2 α2 H2 hm2 e2 q2 y ry => ?_⟩
    refine ⟨Nat.zero_le _, fun p hp => ?_⟩
    have q2 : PostV X.K G β W (match getD μ2 n, keyOf v with
      | some ps, some k' => if ps.length < bigL then (match dval ps k' with
        | some (.ref j) => R.ok (.ref j) μ2
        | some _ => .bad
        | none => .ok (.ref μ2.length) ((μ2 ++ [[]]).set n (U.dtag :: (ps ++ [U.tup [v, U.ref μ2.length]])))) else .bad
      | _, _ => .bad) α2 H2 Q := q2
    cases hx : getD μ2 n with
    | none => rw [hx] at q2; exact q2.elim
    | some ps =>
      cases hk : keyOf v with
      | none => rw [hx, hk] at q2; exact q2.elim
      | some kk =>
        rw [hx, hk] at q2
        simp only at q2
        obtain ⟨a', kvs, g1, g2, g3⟩ := hm2.dat n ps hx
        rw [pre_get e2.pre hn] at g1
        cases g1
        have hp2 : ad ≠ p := ne_of_none g2 hp
        obtain ⟨i1, i2⟩ := dval_v (kk := kk) g3
        have hz : ps.length < bigL := by
          by_cases hz : ps.length < bigL
          · exact hz
          · rw [if_neg hz] at q2
            exact q2.elim
        rw [if_pos hz] at q2
        have hlen : ps.length = kvs.length := g3.len
        have eN : Ext α2 H2 (α2 ++ [p]) (upd H2 p (.lst [])) := Ext.newRef hp
        have hmN : HR X.K G (μ2 ++ [[]]) (α2 ++ [p]) β (upd H2 p (.lst [])) := hm2.newRef hp (vs := []) rfl
        refine ⟨kvs, kk, by rw [upd_ne hp2]; exact g2, key_v ry hk, ?_, fun v' h1 => ?_, fun h0 => ?_⟩
        · rw [sizeLine_eq, ← hlen]
          exact hz
        · cases hd : dval ps kk with
          | none =>
            rw [i2 hd] at h1
            cases h1
          | some u =>
            obtain ⟨v2, h2, h3⟩ := i1 u hd
            rw [h1] at h2
            cases h2
            rw [hd] at q2
            cases u with
            | ref j =>
              exact q2 _ α2 (hm2.new hp) (Ext.new hp) _ (h3.mono (Ext.new hp))
            | _ => exact q2.elim
        · cases hd : dval ps kk with
          | some u =>
            obtain ⟨v2, h2, h3⟩ := i1 u hd
            rw [h0] at h2
            cases h2
          | none =>
            rw [hd] at q2
            simp only at q2
            have hn' : (α2 ++ [p])[n]? = some ad := pre_get eN.pre (pre_get e2.pre hn)
            have lp : (α2 ++ [p])[μ2.length]? = some p := by
              rw [← hm2.len, List.getElem?_append_right (Nat.le_refl _)]
              simp
            have st := hmN.setCell (xs := U.dtag :: (ps ++ [U.tup [v, U.ref μ2.length]])) (u := .dK (putK kvs kk (.ref p))) hn' (by rw [upd_ne hp2]; exact g2) (fun _ z => by cases z) (fun _ z => by cases z)
              (fun e => .inr ⟨_, _, rfl, upd_same, by
                rw [putK_new _ h0]
                have one : DRs X.K G (α2 ++ [p]) β (upd (upd H2 p (.lst [])) ad (.dK (putK kvs kk (.ref p)))) [U.tup [v, U.ref μ2.length]] [(kk, V.ref p)] :=
                  ⟨kk, .ref p, [], rfl, hk, ⟨p, rfl, lp, [], by rw [upd_ne (Ne.symm hp2), upd_same]⟩, rfl⟩
                rw [putK_new _ h0] at one
                have old : DRs X.K G (α2 ++ [p]) β (upd (upd H2 p (.lst [])) ad (.dK (putK kvs kk (.ref p)))) ps kvs := g3.map fun _ _ z => (VR.mono eN z).mono e
                rw [putK_new _ h0] at old
                exact DRs.app one old⟩) (fun _ z => by cases z) (fun _ _ => ⟨_, rfl⟩)
            exact q2 _ _ st.2 (eN.trans st.1) _ ⟨p, rfl, lp, [], by rw [upd_ne (Ne.symm hp2), upd_same]⟩
  | _ => exact q1.elim
theorem m_lapp {dO de : Slots → Mem → R U} {o e : Expr} {apos pos : Pos} (hl : (apos.endLine == pos.line) = true) (hb : attributeBase o "append" X.env (eval o X.env) = eval o X.env) (hn : notStar e = true) (hr : ∀ ρ μ u μ1, dO ρ μ = .ok u μ1 → ∃ n, u = .ref n) (ho : ME X G W dO o) (he : ME X G W de e) :
    ME X G W (fun ρ μ => (dO ρ μ).bind fun u μ1 => (de ρ μ1).bind fun v μ2 => appD μ2 u v) (.Call (.Attribute o "append" apos) [e] [] pos) := by
  have hfew : ((backTo pos (starEach [e] X.env)).all (fun x => !x.1) && (backToKw pos (keywordEach [] X.env)).all (fun x => x.1.isSome)
      && decide ((e :: ([] : List Expr)).length + ([] : List Keyword).length + (if ([] : List Keyword).isEmpty then 0 else 1) < 30)) = true := by
    rw [star_all (by simp [hn])] <;> rfl
  have mt : MtR X "list.append" rAppend := mt_append
  refine pe_imp (pe_bm PySem.F.plainAttrs_list PySem.F.slot_list_append PySem.F.type_list_append mt ho (pa_cons he pa_nil (star_cons hn)) hb hfew hl (star_cons hn) rfl) fun σ H Q ⟨ρ, μ, α, β, hs, hm, q⟩ => ?_
  cases hd : dO ρ μ with
  | bad => simp only [hd] at q; exact q.elim
  | exc c μ1 => simp only [hd] at q; exact ⟨ρ, μ, α, β, hs, hm, by rw [hd]; exact q⟩
  | ok u μ1 =>
    obtain ⟨n, rfl⟩ := hr _ _ _ _ hd
    refine ⟨ρ, μ, α, β, hs, hm, ?_⟩
    simp only [hd] at q
    rw [hd]
    intro H1 α1 hm1 e1 x rx
    have q1 := PostG.rebase e1 q
    obtain ⟨a, rfl, hn, vs, hv⟩ := rx
    refine ⟨.inl ⟨rfl, vs, SqL.of hv⟩, ρ, μ1, α1, β, hs.mono e1, hm1, PostG.mono (PostG.bind q1) fun v μ2 α2 H2 hm2 e2 q2 y ry => ?_⟩
    have q2 : PostV X.K G β W (match getL μ2 n with
      | some xs => if xs.length < bigL then R.ok .non (μ2.set n (xs ++ [v])) else .bad
      | none => .bad) α2 H2 Q := q2
    cases hx : getL μ2 n with
    | none => rw [hx] at q2; exact q2.elim
    | some xs =>
      rw [hx] at q2
      simp only at q2
      by_cases hz : xs.length < bigL
      · rw [if_pos hz] at q2
        obtain ⟨a', ws, g1, g2, g3⟩ := hm2.at_ n xs hx
        rw [pre_get e2.pre hn] at g1
        cases g1
        have ext := hm2.set (pre_get e2.pre hn) g2 (g3.app (show VRs X.K G α2 β H2 [v] [y] from ⟨y, [], rfl, ry, rfl⟩))
        exact ⟨a, ws, y, rfl, rfl, g2, by rw [← g3.len, sizeLine_eq]; exact hz, q2 _ _ ext.2 ext.1 _ rfl⟩
      · rw [if_neg hz] at q2
        exact q2.elim
theorem m_dsa {dd dk de : Slots → Mem → R U} {o a b : Expr} {apos pos apos2 pos2 lp : Pos} (g : GX S G k C N sc fb W X) (hl : (apos.endLine == pos.line) = true) (hl2 : (apos2.endLine == pos2.line) = true) (hc : notCall o = true) (hn1 : notStar a = true) (hn2 : notStar b = true) (ho : ME X G W dd o) (ha : ME X G W dk a) (hb : ME X G W de b) :
    ME X G W (fun ρ μ => (dd ρ μ).bind fun u μ1 => match u with
      | .dref n => (dk ρ μ1).bind fun v μ2 => (dsdD μ2 (.dref n) v).bind fun l μ3 => (de ρ μ3).bind fun w μ4 => appD μ4 l w
      | _ => .bad) (.Call (.Attribute (.Call (.Attribute o "setdefault" apos) [a, .List [] lp] [] pos) "append" apos2) [b] [] pos2) := by
  have h := m_lapp (apos := apos2) (pos := pos2) hl2 rfl hn2 (fun ρ μ u μ1 e => ?_) (m_dsd (lp := lp) g hl hc hn1 ho ha) hb
  · refine pe_imp h fun σ H Q ⟨ρ, μ, α, β, hs, hm, q⟩ => ⟨ρ, μ, α, β, hs, hm, ?_⟩
    cases hd : dd ρ μ with
    | bad => simp only [hd] at q; exact q.elim
    | exc c μ1 => simp only [hd] at q ⊢; exact q
    | ok u μ1 =>
      simp only [hd] at q ⊢
      cases u with
      | dref n =>
        have q : PostV X.K G β W ((dk ρ μ1).bind fun v μ2 => (dsdD μ2 (.dref n) v).bind fun l μ3 => (de ρ μ3).bind fun w μ4 => appD μ4 l w) α H Q := q
        show PostV X.K G β W (((dk ρ μ1).bind fun v μ2 => dsdD μ2 (.dref n) v).bind fun l μ3 => (de ρ μ3).bind fun w μ4 => appD μ4 l w) α H Q
        cases hk : dk ρ μ1 with
        | bad => rw [hk] at q; exact q.elim
        | exc c μ2 => rw [hk] at q; exact q
        | ok v μ2 => rw [hk] at q; exact q
      | _ => exact q.elim
  · cases hd : dd ρ μ with
    | bad => rw [hd] at e; cases e
    | exc c μ1 => rw [hd] at e; cases e
    | ok u1 μ2 =>
      rw [hd] at e
      cases u1 with
      | dref n =>
        have e : ((dk ρ μ2).bind fun v μ2 => dsdD μ2 (.dref n) v) = .ok u μ1 := e
        cases hk : dk ρ μ2 with
        | bad => rw [hk] at e; cases e
        | exc c μ3 => rw [hk] at e; cases e
        | ok v μ3 =>
          rw [hk] at e
          have e : dsdD μ3 (.dref n) v = .ok u μ1 := e
          unfold dsdD at e
          simp only at e
          split at e
          · split at e
            · split at e
              · cases e; exact ⟨_, rfl⟩
              · cases e
              · cases e; exact ⟨_, rfl⟩
            · cases e
          · cases e
      | _ => cases e
/-! ### list(range(..)), tuple(range(..)) -/
theorem vrs_map {α β : List Addr} {H : Hp} (f : Nat → U) (h : Nat → V) (e : ∀ n, VR K G α β H (f n) (h n)) : ∀ l : List Nat, VRs K G α β H (l.map f) (l.map h)
  | [] => rfl
  | n :: l => ⟨h n, l.map h, rfl, e n, vrs_map f h e l⟩
theorem vrs_rng {α β : List Addr} {H : Hp} {a b : Int} : VRs K G α β H (rngL a b) (rgV a b) := vrs_map (fun i : Nat => U.int (a + i)) (fun i : Nat => V.int (a + i)) (fun _ => rfl) _
theorem lrg_fin {tu m : Bool} {a b : Int} {μ : Mem} {α β : List Addr} {H : Hp} {Q : VK} (hm : HR K G μ α β H) (ha : rngOk a = true) (hb : rngOk b = true)
    (q : PostV K G β W (if (rngL a b).length ≤ bigL then (if tu then .ok (.tup (rngL a b)) μ else alloc m (rngL a b) μ) else .bad) α H Q) :
    RgOk a b ∧ (tu = false → ∀ p, H p = none → Q (.ref p) (upd H p (.lst (rgV a b)))) ∧ (tu = true → ∀ p, H p = none → Q (.ref p) (upd H p (.tup (rgV a b)))) := by
  by_cases hz : (rngL a b).length ≤ bigL
  · rw [if_pos hz] at q
    rw [rngL_len] at hz
    obtain ⟨a1, a2⟩ := rng_ok ha
    obtain ⟨b1, b2⟩ := rng_ok hb
    refine ⟨⟨a1, a2, b1, b2, by unfold bigL at hz; omega⟩, fun e p hp => ?_, fun e p hp => ?_⟩
    · subst e
      exact post_alloc q hm vrs_rng hp
    · subst e
      exact post_tup q hm vrs_rng hp
  · rw [if_neg hz] at q
    exact q.elim
theorem m_lrg1 {tu m : Bool} {da : Slots → Mem → R U} {a : Expr} {x y : Str} {p p2 pos pos2 : Pos} (g : GX S G k C N sc fb W X) (hc : fb.calm = true) (hx : x = (if tu then ("tuple" : Str) else "list")) (hfx : freeB S sc x = true) (hy : y = "range") (hfy : freeB S sc y = true) (hn : notStar a = true) (ha : ME X G W da a) :
    ME X G W (fun ρ μ => ((da ρ μ).bind fun u μ1 => match u with
      | .int i => if rngOk i then R.ok (([], rngL 0 i) : Srcs × List U) μ1 else .bad
      | _ => .bad).bind fun xs μ1 => if xs.2.length ≤ bigL then (if tu then .ok (.tup xs.2) μ1 else alloc m xs.2 μ1) else .bad) (.Call (.Name x p) [.Call (.Name y p2) [a] [] pos2] [] pos) := by
  subst hx hy
  unfold freeB at hfx hfy
  simp only [Bool.and_eq_true] at hfx hfy
  have g1 := glo_of hfx.1 g.hs
  have g2 := glo_of hfy.1 g.hs
  have hR := prg_1 (p := p2) (pos := pos2) g2.1 (g.mf.fr _ (by simpa using hfy.2)) ha (star_cons hn)
  have z0 : rngOk 0 = true := by decide
  cases tu with
  | false =>
    refine pe_imp (pe_listRg (g.calm hc).1 g1.1 (g.mf.fr _ (by simpa using hfx.2)) hR rfl) fun σ H Q ⟨ρ, μ, α, β, hs, hm, q⟩ => ?_
    refine ⟨ρ, μ, α, β, hs, hm, PostG.mono (PostG.bind (PostG.bind q)) fun u μ1 α1 H1 hm1 e1 q1 y ry => ?_⟩
    cases u with
    | int i =>
      cases ry
      by_cases hz : rngOk i = true
      · have q2 : PostG X.K G β W (if rngOk i = true then R.ok (([], rngL 0 i) : Srcs × List U) μ1 else .bad) α1 H1 _ := q1
        rw [if_pos hz] at q2
        obtain ⟨f1, f2, _⟩ := lrg_fin (tu := false) (m := m) hm1 z0 hz (PostG.ok hm1 q2)
        exact ⟨i, rfl, f1, f2 rfl⟩
      · simp only [hz] at q1
        exact q1.elim
    | _ => exact q1.elim
  | true =>
    refine pe_imp (pe_tupRg (g.calm hc).1 g1.1 (g.mf.fr _ (by simpa using hfx.2)) hR rfl) fun σ H Q ⟨ρ, μ, α, β, hs, hm, q⟩ => ?_
    refine ⟨ρ, μ, α, β, hs, hm, PostG.mono (PostG.bind (PostG.bind q)) fun u μ1 α1 H1 hm1 e1 q1 y ry => ?_⟩
    cases u with
    | int i =>
      cases ry
      by_cases hz : rngOk i = true
      · have q2 : PostG X.K G β W (if rngOk i = true then R.ok (([], rngL 0 i) : Srcs × List U) μ1 else .bad) α1 H1 _ := q1
        rw [if_pos hz] at q2
        obtain ⟨f1, _, f2⟩ := lrg_fin (tu := true) (m := m) hm1 z0 hz (PostG.ok hm1 q2)
        exact ⟨i, rfl, f1, f2 rfl⟩
      · simp only [hz] at q1
        exact q1.elim
    | _ => exact q1.elim
theorem m_lrg2 {tu m : Bool} {da db : Slots → Mem → R U} {a b : Expr} {x y : Str} {p p2 pos pos2 : Pos} (g : GX S G k C N sc fb W X) (hc : fb.calm = true) (hx : x = (if tu then ("tuple" : Str) else "list")) (hfx : freeB S sc x = true) (hy : y = "range") (hfy : freeB S sc y = true) (hn : notStar a = true) (hn2 : notStar b = true) (ha : ME X G W da a) (hb : ME X G W db b) :
    ME X G W (fun ρ μ => ((da ρ μ).bind fun u μ1 => (db ρ μ1).bind fun v μ2 => match u, v with
      | .int i, .int j => if rngOk i && rngOk j then R.ok (([], rngL i j) : Srcs × List U) μ2 else .bad
      | _, _ => .bad).bind fun xs μ1 => if xs.2.length ≤ bigL then (if tu then .ok (.tup xs.2) μ1 else alloc m xs.2 μ1) else .bad) (.Call (.Name x p) [.Call (.Name y p2) [a, b] [] pos2] [] pos) := by
  subst hx hy
  unfold freeB at hfx hfy
  simp only [Bool.and_eq_true] at hfx hfy
  have g1 := glo_of hfx.1 g.hs
  have g2 := glo_of hfy.1 g.hs
  have hR := prg_2 (p := p2) (pos := pos2) g2.1 (g.mf.fr _ (by simpa using hfy.2)) ha hb (by rw [star_cons hn] <;> rfl) (star_cons hn2) (star_plain (by simp [hn2]))
  have core : ∀ {σ : L2.St} {H : Hp} {Q : VK}, tE X.K G W (fun ρ μ => ((da ρ μ).bind fun u μ1 => (db ρ μ1).bind fun v μ2 => match u, v with
      | .int i, .int j => if rngOk i && rngOk j then R.ok (([], rngL i j) : Srcs × List U) μ2 else .bad
      | _, _ => .bad).bind fun xs μ1 => if xs.2.length ≤ bigL then (if tu then .ok (.tup xs.2) μ1 else alloc m xs.2 μ1) else .bad) σ H Q →
      tRg2 (tE X.K G W da) (tE X.K G W db) σ H fun i j H1 => RgOk i j ∧ (tu = false → ∀ p, H1 p = none → Q (.ref p) (upd H1 p (.lst (rgV i j)))) ∧ (tu = true → ∀ p, H1 p = none → Q (.ref p) (upd H1 p (.tup (rgV i j)))) := by
    intro σ H Q ⟨ρ, μ, α, β, hs, hm, q⟩
    refine ⟨ρ, μ, α, β, hs, hm, PostG.mono (PostG.bind (PostG.bind q)) fun u μ1 α1 H1 hm1 e1 q1 y ry => ?_⟩
    refine ⟨ρ, μ1, α1, β, hs.mono e1, hm1, PostG.mono (PostG.bind q1) fun w μ2 α2 H2 hm2 e2 q2 z rz => ?_⟩
    cases u with
    | int i =>
      cases w with
      | int j =>
        cases ry
        cases rz
        by_cases hz : (rngOk i && rngOk j) = true
        · simp only [hz, if_true] at q2
          simp only [Bool.and_eq_true] at hz
          exact ⟨i, j, rfl, rfl, lrg_fin hm2 hz.1 hz.2 (PostG.ok hm2 q2)⟩
        · simp only [hz] at q2
          exact q2.elim
      | _ => exact q2.elim
    | _ => cases w <;> exact q2.elim
  cases tu with
  | false =>
    refine pe_imp (pe_listRg (g.calm hc).1 g1.1 (g.mf.fr _ (by simpa using hfx.2)) hR rfl) fun σ H Q q => ?_
    obtain ⟨ρ, μ, α, β, hs, hm, q⟩ := core q
    exact ⟨ρ, μ, α, β, hs, hm, PostG.mono q fun u μ1 α1 H1 hm1 e1 q1 y ry => by
      obtain ⟨ρ, μ, α, β, hs, hm, q⟩ := q1 y ry
      exact ⟨ρ, μ, α, β, hs, hm, PostG.mono q fun u μ1 α1 H1 hm1 e1 q1 y ry => by
        obtain ⟨i, j, e1, e2, f1, f2, _⟩ := q1 y ry
        exact ⟨i, j, e1, e2, f1, f2 rfl⟩⟩⟩
  | true =>
    refine pe_imp (pe_tupRg (g.calm hc).1 g1.1 (g.mf.fr _ (by simpa using hfx.2)) hR rfl) fun σ H Q q => ?_
    obtain ⟨ρ, μ, α, β, hs, hm, q⟩ := core q
    exact ⟨ρ, μ, α, β, hs, hm, PostG.mono q fun u μ1 α1 H1 hm1 e1 q1 y ry => by
      obtain ⟨ρ, μ, α, β, hs, hm, q⟩ := q1 y ry
      exact ⟨ρ, μ, α, β, hs, hm, PostG.mono q fun u μ1 α1 H1 hm1 e1 q1 y ry => by
        obtain ⟨i, j, e1, e2, f1, _, f2⟩ := q1 y ry
        exact ⟨i, j, e1, e2, f1, f2 rfl⟩⟩⟩
/-! ### e.limit, e the exception that is handled -/
theorem m_eLim {i : Nat} {y : Str} {p1 pos : Pos} (g : GX S G k C N sc fb W X) (hc : fb.calm = false) (hN : N[i]? = some y) (hv : visB sc y = true) (hn : nameOk y = true) :
    ME X G W (fun ρ μ => match ρ[i]? with
      | some (some .exn) => match C.exn with
        | some ⟨_, some n⟩ => .ok (.int n) μ
        | _ => .bad
      | _ => .bad) (.Attribute (.Name y p1) "limit" pos) := by
  obtain ⟨⟨a, oe⟩, ⟨cn, cl⟩, hh⟩ := g.hot hc
  obtain ⟨d', hzc, hz1, hz2⟩ := hh.zc
  have E := g.mf.exc cn hh.cls
  have hV : PE X (.Name y p1) _ := pe_var (by rw [g.hN]; exact hN) (vis_of hv g.hs) (ok_debug hn) (ok_cd hn)
  refine ⟨fun pins s σ H Q I ⟨ρ, μ, α, β, hs, hm, q⟩ => ?_⟩
  rw [hh.orc] at q
  cases hi : ρ[i]? with
  | none => simp only [hi] at q; exact q.elim
  | some o =>
    cases o with
    | none => simp only [hi] at q; exact q.elim
    | some u =>
      cases u with
      | exn =>
        simp only [hi] at q
        cases cl with
        | none => exact q.elim
        | some n =>
          obtain ⟨v, h1, a2, h2, h3, h4⟩ := hs.2 i _ hi
          rw [hh.ea] at h2
          cases h2
          subst h3
          obtain ⟨dd, rfl, e2⟩ := hz2 n rfl
          obtain ⟨hx, _, _⟩ := h4 dd _ n e2
          refine attr_of rfl (thn (hV.run pins s σ H (fun v H1 => v = .ref a ∧ H1 = H) I ⟨_, h1, rfl, rfl⟩) fun u s1 ⟨v, H1, I1, rx, ev, eH⟩ => ?_)
          subst ev eH
          cases rx
          obtain ⟨hget, _⟩ := I1.pin (a, oe) (List.mem_append_left _ hh.pn)
          obtain ⟨vs, hd⟩ := hh.fld
          obtain ⟨mA, hns, hr⟩ := (I1.hok dd _ hx : ObjOk X.prog X.w H1 s1.heap dd (.xd _))
          obtain ⟨od, ho, hl⟩ := lookIn_ns hns
          rw [g.mf.fld cn hh.cls] at hr
          obtain ⟨u, hu, ru⟩ := RelO.some_of (v := V.int n) (o := mA "limit") (by have z := hr "limit"; exact z)
          have J : PySem.W.InstAt s1.heap a oe (G.ca cn) (some od) := ⟨hget, hzc.1, by unfold PySem.W.notCls; rw [hd] <;> rfl, by rw [hzc.2]; exact ho⟩
          exact PySem.HandSPX.exc_get I1.kIn J E.hg E.hk E.hs (PySem.W.findObj_own E.hd (g.mf.nol cn hh.cls) rfl (by rw [hl, hu])) (handed_of ru) ⟨.int n, H1, I1.tok _, ru, PostV.val q hm rfl⟩
      | _ => simp only [hi] at q; exact q.elim
end
end Mini

set_option maxHeartbeats 4000000
/-! Mini, part L: f(lambda: body), f a def that catches. -/
namespace Mini
open PySem PySem.Spec PyProof.Rows L2 LamX

/-! ### behind a def -/
section
variable {K : PySem.W.Frag} {G : En} {eo : Option Addr} {el : Option (Addr × Str × Int)} {α α' β : List Addr} {H : Hp} {μ : Mem}
theorem pre_none {n0 : Nat} (p : α <+: α') (hl : α.length = n0) {n : Nat} {a : Addr} (h : α'[n]? = some a) (hn : n < n0) : α[n]? = some a := by
  obtain ⟨t, rfl⟩ := p
  rw [List.getElem?_append_left (by omega)] at h
  exact h
mutual
theorem VR.below {n0 : Nat} (p : α <+: α') (hl : α.length = n0) : ∀ {u : U} {v : V}, Mini.below n0 u = true → VR K { G with ea := eo, el := el } α' β H u v → VR K G α β H u v
  | .non, _, _, h => h
  | .bl _, _, _, h => h
  | .int _, _, _, h => h
  | .str _, _, _, h => h
  | .tup xs, _, b, h => by
    obtain ⟨a, vs, rfl, h1, h2⟩ := h
    exact ⟨a, vs, rfl, h1.imp (fun ⟨r, n, m⟩ => ⟨r, fun z => n (p.subset z), m⟩) id, VRs.below p hl b h2⟩
  | .lst xs, _, b, h => by
    obtain ⟨a, vs, rfl, ⟨h1, h3, h4⟩, h2⟩ := h
    exact ⟨a, vs, rfl, ⟨h1, fun z => h3 (p.subset z), h4⟩, VRs.below p hl b h2⟩
  | .rol xs, _, b, h => by
    obtain ⟨a, vs, rfl, h1, h2⟩ := h
    exact ⟨a, vs, rfl, h1.imp (fun ⟨r, n, m⟩ => ⟨r, fun z => n (p.subset z), m⟩) id, VRs.below p hl b h2⟩
  | .ref n, _, b, h => by
    obtain ⟨a, rfl, h1, h2⟩ := h
    exact ⟨a, rfl, pre_none p hl h1 (by simpa [Mini.below] using b), h2⟩
  | .dref n, _, b, h => by
    obtain ⟨a, rfl, h1, h2⟩ := h
    exact ⟨a, rfl, pre_none p hl h1 (by simpa [Mini.below] using b), h2⟩
  | .dtag, _, _, h => h.elim
  | .fn _, _, _, h => h
  | .exn, _, b, _ => nomatch b
theorem VRs.below {n0 : Nat} (p : α <+: α') (hl : α.length = n0) : ∀ {us : List U} {vs : List V}, Mini.belows n0 us = true → VRs K { G with ea := eo, el := el } α' β H us vs → VRs K G α β H us vs
  | [], _, _, h => h
  | _ :: _, _, b, h => by
    simp only [Mini.belows, Bool.and_eq_true] at b
    obtain ⟨v, r, rfl, h1, h2⟩ := h
    exact ⟨v, r, rfl, VR.below p hl b.1 h1, VRs.below p hl b.2 h2⟩
end
theorem DRs.below {n0 : Nat} (p : α <+: α') (hl : α.length = n0) : ∀ {ps : List U} {kvs : List (L2.Key × V)}, Mini.belows n0 ps = true → DRs K { G with ea := eo, el := el } α' β H ps kvs → DRs K G α β H ps kvs
  | [], _, _, h => h
  | _ :: _, _, b, h => by
    obtain ⟨u1, x, k1, v1, kr, rfl, rfl, h2, h3, h4⟩ := h.cons_inv
    simp only [Mini.belows, Mini.below, Bool.and_eq_true] at b
    exact ⟨k1, v1, kr, rfl, h2, VR.below p hl b.1.2.1 h3, DRs.below p hl b.2 h4⟩
theorem HR.sweep {n0 : Nat} (h : HR K { G with ea := eo, el := el } μ α' β H) (p : α <+: α') (hl : α.length = n0) (sw : swept n0 μ = true) : HR K G (μ.take n0) α β H := by
  have hle : n0 ≤ μ.length := by
    rw [← h.len, ← hl]
    exact p.length_le
  refine ⟨by rw [List.length_take, hl]; omega, p.sublist.nodup h.nd, fun a ha => h.dis a (p.subset ha), h.priv, fun n xs hx => ?_, h.tabs⟩
  have hn : n < n0 := by
    have := (List.getElem?_eq_some_iff.mp hx).1
    rw [List.length_take] at this
    omega
  rw [List.getElem?_take_of_lt hn] at hx
  obtain ⟨a, e1, c⟩ := h.cell n xs hx
  unfold swept at sw
  have hm : xs ∈ μ.take n0 := List.mem_of_getElem? (by rw [List.getElem?_take_of_lt hn]; exact hx)
  have sw := List.all_eq_true.mp sw xs hm
  refine ⟨a, pre_none p hl e1 hn, ?_⟩
  rcases c with ⟨vs, e2, e3⟩ | ⟨ps, kvs, rfl, e2, e3⟩
  · exact .inl ⟨vs, e2, VRs.below p hl sw e3⟩
  · simp only [Mini.belows, Bool.and_eq_true] at sw
    exact .inr ⟨ps, kvs, rfl, e2, DRs.below p hl sw.2 e3⟩
mutual
theorem VR.frz {get : Nat → Option U} (hg : ∀ n v u2, get n = some u2 → VR K { G with ea := eo, el := el } α' β H (.ref n) v → VR K G α β H u2 v) (p : α <+: α') : ∀ {u u2 : U} {v : V}, Mini.frz get u = some u2 → VR K { G with ea := eo, el := el } α' β H u v → VR K G α β H u2 v
  | .non, _, _, e, h => by cases e; exact h
  | .bl _, _, _, e, h => by cases e; exact h
  | .int _, _, _, e, h => by cases e; exact h
  | .str _, _, _, e, h => by cases e; exact h
  | .tup xs, _, _, e, h => by
    obtain ⟨a, vs, rfl, h1, h2⟩ := h
    have e : (Mini.frzs get xs).map U.tup = _ := e
    cases q : Mini.frzs get xs with
    | none => rw [q] at e; cases e
    | some ys =>
      rw [q] at e
      cases e
      exact ⟨a, vs, rfl, h1.imp (fun ⟨r, n, m⟩ => ⟨r, fun z => n (p.subset z), m⟩) id, VRs.frz hg p q h2⟩
  | .lst xs, _, _, e, h => by
    obtain ⟨a, vs, rfl, ⟨h1, h3, h4⟩, h2⟩ := h
    have e : (Mini.frzs get xs).map U.lst = _ := e
    cases q : Mini.frzs get xs with
    | none => rw [q] at e; cases e
    | some ys =>
      rw [q] at e
      cases e
      exact ⟨a, vs, rfl, ⟨h1, fun z => h3 (p.subset z), h4⟩, VRs.frz hg p q h2⟩
  | .rol xs, _, _, e, h => by
    obtain ⟨a, vs, rfl, h1, h2⟩ := h
    have e : (Mini.frzs get xs).map U.rol = _ := e
    cases q : Mini.frzs get xs with
    | none => rw [q] at e; cases e
    | some ys =>
      rw [q] at e
      cases e
      exact ⟨a, vs, rfl, h1.imp (fun ⟨r, n, m⟩ => ⟨r, fun z => n (p.subset z), m⟩) id, VRs.frz hg p q h2⟩
  | .ref n, _, _, e, h => hg n _ _ e h
  | .fn _, _, _, e, h => by cases e; exact h
  | .exn, _, _, e, _ => nomatch e
  | .dref _, _, _, e, _ => nomatch e
  | .dtag, _, _, e, _ => nomatch e
theorem VRs.frz {get : Nat → Option U} (hg : ∀ n v u2, get n = some u2 → VR K { G with ea := eo, el := el } α' β H (.ref n) v → VR K G α β H u2 v) (p : α <+: α') : ∀ {us us2 : List U} {vs : List V}, Mini.frzs get us = some us2 → VRs K { G with ea := eo, el := el } α' β H us vs → VRs K G α β H us2 vs
  | [], _, _, e, h => by cases e; exact h
  | u :: us, _, _, e, h => by
    obtain ⟨v, r, rfl, h1, h2⟩ := h
    unfold Mini.frzs at e
    cases q1 : Mini.frz get u with
    | none => rw [q1] at e; cases e
    | some a =>
      cases q2 : Mini.frzs get us with
      | none => rw [q1, q2] at e; cases e
      | some b =>
        rw [q1, q2] at e
        cases e
        exact ⟨v, r, rfl, VR.frz hg p q1 h1, VRs.frz hg p q2 h2⟩
end
theorem getF_ok {n0 : Nat} (h : HR K { G with ea := eo, el := el } μ α' β H) (p : α <+: α') (hl : α.length = n0) : ∀ (k : Nat) n v u2, getF μ n0 k n = some u2 → VR K { G with ea := eo, el := el } α' β H (.ref n) v → VR K G α β H u2 v
  | 0, _, _, _, e, _ => by cases e
  | k + 1, n, v, u2, e, r => by
    unfold getF at e
    by_cases hn : n < n0
    · rw [if_pos hn] at e
      cases e
      obtain ⟨a, rfl, h1, h2⟩ := r
      exact ⟨a, rfl, pre_none p hl h1 hn, h2⟩
    · rw [if_neg hn] at e
      obtain ⟨a, rfl, h1, _⟩ := r
      cases q : getL μ n with
      | none => rw [q] at e; cases e
      | some xs =>
        rw [q] at e
        have e : (frzs (getF μ n0 k) xs).map U.lst = some u2 := e
        cases q2 : frzs (getF μ n0 k) xs with
        | none => rw [q2] at e; cases e
        | some ys =>
          rw [q2] at e
          cases e
          obtain ⟨a', vs, e1, e2, e3⟩ := h.at_ n xs q
          rw [h1] at e1
          cases e1
          refine ⟨a, vs, rfl, ⟨e2, fun z => ?_, h.dis a (List.mem_of_getElem? h1)⟩, VRs.frz (getF_ok h p hl k) p q2 e3⟩
          obtain ⟨i, hi⟩ := List.getElem?_of_mem z
          have hi2 := pre_get p hi
          obtain ⟨g1, g2⟩ := List.getElem?_eq_some_iff.mp hi2
          obtain ⟨g3, g4⟩ := List.getElem?_eq_some_iff.mp h1
          have : i = n := (List.getElem_inj h.nd).mp (g2.trans g4.symm)
          have := (List.getElem?_eq_some_iff.mp hi).1
          omega
end

/-- the lambda's body: exceptions leave it with no context of their own -/
abbrev lamN (X : Cx) (A : Around) (outer : List Env) (s : Shared) (H : Hp) (E : XK) (scope : Scope) (f c : Addr) : Cx :=
  (lamCx X A outer s H E scope f c).wish fun e s' => wpAny (model X.prog X.w) (A.deeper (lamEnv X scope s.heap.objs.size f c)) (leaving (lamEnv X scope s.heap.objs.size f c) e)
    (fun _ s2 => L2N.CX X.prog X.w outer H s E e s2) (fun e' s2 => L2N.CX X.prog X.w outer H s E e' s2) s'
section
variable {X : Cx} {pins : List (Addr × Obj)} {σ : L2.St} {H : Hp} {s : Shared}
theorem act_call {Ng : List Str} {qg : Str} {sg : Scope} {g f c : Addr} {cdg pm ctv : Value} {params : Arguments} {body : Expr} {scope : Scope} {k i : Nat} {a : Str} {pn : List (Addr × Obj)} {xe : Value → Shared → Prop} {W : WX} {E : XK} {tb : TE} {p1 p2 : Pos}
    (I : Inv X pins σ H s) (L : LamS X.env.scope scope) (hf : s.heap.get? f = some (PySem.W.kla_obj "<lambda>" (X.env.qual ++ "<lambda>") params body scope (cloFrom X.env.cells scope.names []) pm c ctv)) (hfn : H f = none) (hfr : f ∉ frs X.stack)
    (hbind : bindArgs (PySem.W.kla_fn "<lambda>" (X.env.qual ++ "<lambda>") params body scope (cloFrom X.env.cells scope.names []) pm (.ref c) ctv) ⟨[], []⟩ = pure [])
    (tk : L2N.Takes ((cxOf C8.CX0 X.prog X.w X.K X.mg X.base Ng qg sg g cdg X.A X.stack s H C8.E0).tr pn xe) W) (hW : ∀ cls d σ' H', E cls d H' → W cls d σ' H') (hr : Room (k + 1) (X.A.deeper (envOfC qg sg s.heap.objs.size g cdg)))
    (hbody : ∀ (A : Around) (outer : List Env) (s : Shared) (H : Hp), Room k (A.deeper (lamEnv X scope s.heap.objs.size f c)) → PE (lamN X A outer s H E scope f c) body tb)
    (hN : Ng[i]? = some a) (hv : Vis sg a) (hd : (a == ("__debug__" : Str)) = false) (hcd : (a == ("__classdict__" : Str)) = false) :
    PE ((cxOf C8.CX0 X.prog X.w X.K X.mg X.base Ng qg sg g cdg X.A X.stack s H C8.E0).tr pn xe) (.Call (.Name a p1) [] [] p2)
      (fun σZ HZ Q => σZ[i]? = some (some (.ref f)) ∧ HZ c = some (CodeO c (X.env.qual ++ "<lambda>")) ∧ tb σ HZ Q) := by
  refine ⟨fun pinsZ sZ σZ HZ Q IZ ⟨hs, hc, ht⟩ => ?_⟩
  refine wpAny_Call_Name_kw (thn ((pe_var (pos := p1) (i := i) hN hv hd hcd).run pinsZ sZ σZ HZ (fun v H1 => v = .ref f ∧ H1 = HZ) IZ ⟨.ref f, hs, rfl, rfl⟩) fun u s1 ⟨v, H1, I1, r1, ev, eH⟩ => ?_)
  subst ev eH
  cases r1
  have of1 : s1.heap.get? f = some _ := I1.base.keep f _ hf hfn hfr (fun z => nomatch (show f ∈ ([] : List Addr) from z))
  refine PySem.W.callWith_F0 ⟨_, _, _, _, of1⟩ ?_
  obtain ⟨⟨oc, vs, t, hoc, hdc, hvc⟩, _, _⟩ := I1.hok c _ hc
  have un : Un (frs X.stack) [] H H1 s.heap s1.heap := I1.base
  have rc : codeAny (model X.prog X.w) (X.A.deeper (envOfC qg sg s.heap.objs.size g cdg)) (.call (.ref f) ⟨[], []⟩) (CR (L2N.CX X.prog X.w) (envOfC qg sg s.heap.objs.size g cdg :: X.stack) X.prog X.w H1 s1 Q E) s1 := by
    refine PySem.W.kla_callFunE hr.depth of1 rfl L.co L.gen rfl ⟨c, oc, vs, t, rfl, hoc, hdc, hvc⟩ ?_
    rw [hbind]
    refine wpAny_pure (wpAny_newFunctionEnv (fun y hy => (L.own y hy).2) (fun y hy => absurd hy (by simp)) (fun h₁ hns hsb => ⟨I1.nolimit.fresh _ hsb, ?_⟩) L.kind)
    have kp : ∀ b o, s1.heap.get? b = some o → h₁.get? b = some o := fun b o e => hsb.extBut b o (Nat.ne_of_lt (Heap.lt_size e)) (Heap.get?_push_of_some _ e)
    have J := (lam_start2 (E := E) (f := f) (c' := c) (tk := s1.toks + ([] : List (Str × Value)).length) I L I1.env0 hr.hd un hns kp).wish fun e s' => wpAny (model X.prog X.w) ((X.A.deeper (envOfC qg sg s.heap.objs.size g cdg)).deeper (lamEnv X scope s1.heap.objs.size f c)) (leaving (lamEnv X scope s1.heap.objs.size f c) e)
      (fun _ s2 => L2N.CX X.prog X.w (envOfC qg sg s.heap.objs.size g cdg :: X.stack) H1 s1 E e s2) (fun e' s2 => L2N.CX X.prog X.w (envOfC qg sg s.heap.objs.size g cdg :: X.stack) H1 s1 E e' s2) s'
    refine PySem.W.kla_codeExpr (wpAny_mono ((hbody _ _ s1 H1 (hr.deeper _)).run [] _ _ H1 Q J ht) (fun v s' ⟨w', H', J', rv, q⟩ => ?_) fun e s' hq => hq)
    exact ⟨w', H', J'.os, J'.bare, J'.base, J'.hok, rv, q⟩
  have hx : Passes (L2N.CX X.prog X.w) ((cxOf C8.CX0 X.prog X.w X.K X.mg X.base Ng qg sg g cdg X.A X.stack s H C8.E0).tr pn xe) E := L2N.passes_call tk hW
  refine wpAny_call (codeAny_mono rc fun r s' hq => ?_)
  cases r with
  | error e => exact hx pinsZ σZ H1 s1 e s' I1 hq
  | ok fl =>
    cases fl with
    | ret u => exact I1.after hq
    | next => exact False.elim hq
    | brk => exact False.elim hq
    | cont => exact False.elim hq
end
section
variable {K : PySem.W.Frag} {G : En} {a : Addr} {el : Option (Addr × Str × Int)} {α α' β : List Addr} {H : Hp} {μ : Mem}
/-! with an exception in sight -/
mutual
theorem VR.withE (h0 : G.ea = none) : ∀ {u : U} {v : V}, VR K G α β H u v → VR K (withE G a el) α β H u v
  | .non, _, h => h
  | .bl _, _, h => h
  | .int _, _, h => h
  | .str _, _, h => h
  | .tup xs, _, h => by
    obtain ⟨b, vs, rfl, h1, h2⟩ := h
    exact ⟨b, vs, rfl, h1, VRs.withE h0 h2⟩
  | .lst xs, _, h => by
    obtain ⟨b, vs, rfl, h1, h2⟩ := h
    exact ⟨b, vs, rfl, h1, VRs.withE h0 h2⟩
  | .rol xs, _, h => by
    obtain ⟨b, vs, rfl, h1, h2⟩ := h
    exact ⟨b, vs, rfl, h1, VRs.withE h0 h2⟩
  | .ref _, _, h => h
  | .dref _, _, h => h
  | .dtag, _, h => h
  | .fn _, _, h => h
  | .exn, _, h => by
    obtain ⟨b, e, _⟩ := h
    rw [h0] at e
    cases e
theorem VRs.withE (h0 : G.ea = none) : ∀ {us : List U} {vs : List V}, VRs K G α β H us vs → VRs K (withE G a el) α β H us vs
  | [], _, h => h
  | _ :: _, _, h => by
    obtain ⟨v, r, rfl, h1, h2⟩ := h
    exact ⟨v, r, rfl, VR.withE h0 h1, VRs.withE h0 h2⟩
end
theorem DRs.mapE {G1 G2 : En} {α1 α2 : List Addr} (f : ∀ u v, VR K G1 α1 β H u v → VR K G2 α2 β H u v) : ∀ {ps : List U} {kvs : List (L2.Key × V)}, DRs K G1 α1 β H ps kvs → DRs K G2 α2 β H ps kvs
  | [], _, h => h
  | _ :: _, _, h => by
    obtain ⟨u1, x, k, v, kr, rfl, rfl, h2, h3, h4⟩ := h.cons_inv
    exact ⟨k, v, kr, rfl, h2, f _ _ h3, DRs.mapE f h4⟩
theorem CellR.mapE {G1 G2 : En} {α1 α2 : List Addr} {a : Addr} {xs : List U} (f : ∀ u v, VR K G1 α1 β H u v → VR K G2 α2 β H u v) (fs : ∀ us vs, VRs K G1 α1 β H us vs → VRs K G2 α2 β H us vs) (h : CellR K G1 α1 β H a xs) : CellR K G2 α2 β H a xs := by
  rcases h with ⟨vs, h, r⟩ | ⟨ps, kvs, h0, h, r⟩
  · exact .inl ⟨vs, h, fs _ _ r⟩
  · exact .inr ⟨ps, kvs, h0, h, r.mapE f⟩
theorem HR.withE (h0 : G.ea = none) (h : HR K G μ α β H) : HR K (withE G a el) μ α β H := ⟨h.len, h.nd, h.dis, h.priv, fun n xs hx => by
  obtain ⟨b, e1, c⟩ := h.cell n xs hx
  exact ⟨b, e1, c.mapE (fun _ _ z => VR.withE h0 z) fun _ _ z => VRs.withE h0 z⟩, h.tabs⟩
/-- what the suite returns, for the def's caller -/
theorem post_suite {r : R Fl} {W : WX} {Q : VK} {D : Ends} (hm : HR K G μ α β H) (hD : D.rt = Q) (h : PostV K G β W (sweep μ.length (retOnly r)) α H Q) : PostS K (withE G a el) β WF r α H D := by
  cases r with
  | bad => exact h
  | exc c μ' => exact h.elim
  | ok f μ' =>
    cases f with
    | ret u =>
      intro H' α' hr e v rv
      rw [hD]
      have h : PostV K G β W (if swept μ.length μ' = true then (match frz (getF μ' μ.length 9) u with
        | some v => .ok v (μ'.take μ.length)
        | none => .bad) else .bad) α H Q := h
      have hr : HR K { G with ea := some a, el := el } μ' α' β H' := hr
      by_cases sw : swept μ.length μ' = true
      · rw [if_pos sw] at h
        cases q : frz (getF μ' μ.length 9) u with
        | none => rw [q] at h; exact h.elim
        | some u2 =>
          rw [q] at h
          exact h H' α (hr.sweep e.pre hm.len sw) ⟨List.prefix_refl _, e.keep, fun _ _ _ _ n => n, e.lst, e.dk⟩ v (VR.frz (getF_ok hr e.pre hm.len 9) e.pre q rv)
      · rw [if_neg sw] at h
        exact h.elim
    | next ρ => exact h.elim
    | brk ρ => exact h.elim
    | cont ρ => exact h.elim
end
section
variable {S : Sg} {G : En} {k : Nat} {C : Orc} {N : List Str} {sc : Scope} {fb : Md} {W : WX} {X : Cx}
theorem noArgs_eq {p : Arguments} (h : noArgs p = true) : p = ⟨[], [], none, [], [], none, []⟩ := by
  unfold noArgs at h
  split at h
  · rfl
  · cases h
/-- no list, no dict -/
theorem not_mem {K : PySem.W.Frag} {G : En} {μ : Mem} {α β : List Addr} {H : Hp} (hm : HR K G μ α β H) {dd : Addr} {fs : List (Str × V)} (h : H dd = some (.xd fs)) : dd ∉ α ∧ dd ∉ β := by
  have no : ¬ LD H dd := fun z => by
    rcases z with ⟨vs, z⟩ | ⟨vs, z⟩ <;> (rw [h] at z; cases z)
  exact ⟨fun z => no (hm.trk z), fun z => no (hm.priv _ z)⟩
theorem start_err {n ei : Nat} {K : PySem.W.Frag} {G : En} {a : Addr} {μ : Mem} {α β : List Addr} {H : Hp} {σ : L2.St} {c : Exn} {cls : Value} {d : Option Addr} (hm : HR K G μ α β H) (x : XR G c cls d H) (hl : σ.length = n) :
    SR K (withE G a (elOf G c d)) α β H ((List.replicate n none).set ei (some .exn)) (σ.set ei (some (.ref a))) := by
  refine ⟨by simp [hl], fun i u hu => ?_⟩
  by_cases hi : ei = i
  · subst hi
    have hn : ei < n := by
      have := (List.getElem?_eq_some_iff.mp hu).1
      simpa using this
    rw [List.getElem?_set_self (by simpa using hn)] at hu
    cases hu
    refine ⟨.ref a, List.getElem?_set_self (by rw [hl]; exact hn), a, rfl, rfl, fun dd f m e => ?_⟩
    have e : elOf G c d = some (dd, f, m) := e
    obtain ⟨_, _, x3⟩ := x
    obtain ⟨cn, cl⟩ := c
    cases cl with
    | none => cases d <;> cases e
    | some k =>
      obtain ⟨dd', rfl, h⟩ := x3
      cases e
      obtain ⟨h1, h2⟩ := not_mem hm h
      exact ⟨h, h1, h2⟩
  · rw [List.getElem?_set_ne hi] at hu
    have hu := List.mem_of_getElem? hu
    rw [List.mem_replicate] at hu
    cases hu.2
theorem m_lam {d : DefX} {dE : Slots → Mem → R U} {j : Nat} {x : Str} {params : Arguments} {body : Expr} {scope : Scope} {p lpos pos : Pos} (g : GX S G k C N sc fb W X) (hl : fb.lam = true) (hc : fb.calm = true) (hg : Gl X x ∧ nameOk x = true) (hd : S.Ds[j]? = some (.err d)) (hx : d.name = x)
    (hp : noArgs params = true) (hs : lamSB sc scope = true) (hbody : ∀ (W' : WX) (Y : Cx), Y.K = X.K → GX S G k C N scope Md.inner W' Y → ME Y G W' dE body) :
    ME X G W (fun ρ μ => lamD S.Ds j (dE ρ μ)) (.Call (.Name x p) [.Lambda params body scope lpos] [] pos) := by
  have lm := g.lm hl
  have ER := lm.er j d hd
  obtain ⟨cc, P, hcode, TB, hmT, hu⟩ := lm.tab
  obtain ⟨pg, sg, fdg, a, e, b0, suite, q1, q2, q3, q4, q5, q6, q7, q8, kk, FD, B, FS0, hN0, hva, hna, hgq, hei, hel, SU⟩ := ER.fd
  obtain ⟨oc, od, dV, kV, doc, pm, an, cdv, ct, osl, rfl, lk, hcg, _, _⟩ := FD.ex
  have L : LamS X.env.scope scope := by
    rw [g.hs]
    exact lamS_by hs
  have gl := ER.gl
  subst hx
  have ep := noArgs_eq hp
  subst ep
  refine ⟨fun pins s σ H Q I ⟨ρ, μ, α, β, hs, hm, q⟩ => ?_⟩
  refine wpAny_Call_Name_kw (ld_glob I hg.1 gl ?_ (ok_debug hg.2))
  refine PySem.W.callWith_K (h₀ := X.base) I.ok.mod.kin ER.kp ?_ (by rfl) (by rfl)
  show wpAny _ _ (spliced ((false, eval (.Lambda ⟨[], [], none, [], [], none, []⟩ body scope lpos) X.env) :: backTo pos (starEach [] X.env))) _ _ s
  refine Calls.spliced_cons (lam_make2 I TB hcode hmT hu hm.tabs rfl (L.has I.ok) fun f c' pm' ctv H1 s' I1 eN T1 hf hfn hfr hco => ?_)
  refine Calls.spliced_nil ⟨I1.kIn, ?_⟩
  have ext : Ext α H α H1 := ⟨List.prefix_refl _, fun a o h t _ => eN a o h t, fun _ _ _ _ n => n, fun a vs h => ⟨vs, eN a _ h (fun _ z => by cases z)⟩, fun a vs h => ⟨vs, eN a _ h (fun _ z => by cases z)⟩⟩
  have hm1 : HR X.K G μ α β H1 := hm.ext1 ext (fun b hb => by
    obtain ⟨o, h, nt⟩ := (hm.trk hb).some
    rw [h]
    exact eN _ _ h nt) T1
  have qq := PostG.rebase ext q
  have rc : codeAny (model X.prog X.w) X.A (.call (.ref (G.ad j)) ⟨[.ref f], []⟩) (CR C8.CX0 X.stack X.prog X.w H1 s' Q C8.E0) s' := by
    refine run_ofS (N := d.N) (ps := [a]) (us := [.ref f]) (vs := [.ref f]) lk hcg FS0 lm.room I1.env0 (B s' [.ref f] I1.kIn rfl) (.cons rfl .nil) rfl fun hr' => ?_
    have hZ : Names (cxOf C8.CX0 X.prog X.w X.K X.mg X.base d.N d.name sg (G.ad j) cdv X.A X.stack s' H1 C8.E0).nox S.q (.ref (G.ca S.q)) := ⟨(by
      unfold gloB at hgq
      simp only [Bool.and_eq_true, decide_eq_true_eq] at hgq
      exact hgq.1), ok_debug (by
      unfold gloB at hgq
      simp only [Bool.and_eq_true] at hgq
      exact hgq.2), .inl g.mf.mq⟩
    have hTry := L2N.ps_try_as (X := (cxOf C8.CX0 X.prog X.w X.K X.mg X.base d.N d.name sg (G.ad j) cdv X.A X.stack s' H1 C8.E0).nox) (c := .ref (G.ca S.q)) (i := d.ei) (n := e) (np := q4) (pos := q6) (pos' := q5)
      (tb := fun W' D σZ HZ => ∃ Ech : XK, (∀ cls dd σ' H', Ech cls dd H' → W' cls dd σ' H') ∧ σZ[0]? = some (some (.ref f)) ∧ HZ c' = some (CodeO c' (X.env.qual ++ "<lambda>")) ∧ tE X.K G (fun cls dd _ H' => Ech cls dd H') dE σ HZ (fun _ H' => D.nx σZ H'))
      (ts := fun b cls dd D σ' H' => σ'.length = d.N.length → ∃ c : Exn, c.cls ∈ S.xs ∧ cls = .ref (G.ca c.cls) ∧ (c.lim = none → dd = none) ∧ (∀ n, c.lim = some n → ∃ d', dd = some d') ∧ tS X.K (withE G b (elOf G c dd)) WF (denSs (noOrc (some c)) d.suite) D σ' H')
      (body := [.Expr (.Call (.Name a q1) [] [] q2) q3]) (b₀ := b0) (suite := suite) (Wout := fun _ _ _ _ => False)
      rfl rfl FS0.nd hei hel hZ takes0N (fun W' pn xe tk' _ => ?_) (fun b oe cls dd pn hz hf => ?_)
    · refine ⟨_, (pss_cons hTry (pss_one (ps_ret pe_str))).nox, ?_⟩
      have qq : PostV X.K G β W (lamX d (dE ρ μ)) α H1 Q := by
        have z : lamD S.Ds j (dE ρ μ) = lamX d (dE ρ μ) := by
          unfold lamD
          rw [hd]
        rw [← z]
        exact qq
      refine ⟨fun cls dd H' => ∃ (c : Exn) (μ' : Mem) (α' : List Addr), XR G c cls dd H' ∧ HR X.K G μ' α' β H' ∧ PostV X.K G β W (sweep μ'.length (retOnly (denSs (noOrc (some c)) d.suite ((List.replicate d.N.length none).set d.ei (some .exn)) μ'))) α' H' Q, ?_, rfl, hco, ρ, μ, α, β, ?_, hm1, ?_⟩
      · rintro cls dd σ' H' ⟨c, μ', α', ⟨x1, x2, x3⟩, hr, po⟩
        have hcx : c.cls ∈ S.xs := by rw [← g.mf.exs]; exact x2
        refine ⟨true, by rw [x1]; exact g.mf.exq _ hcx, fun _ b hb hlen => ⟨c, hcx, x1, fun hlim => ?_, fun n hlim => ?_, _, μ', α', β, start_err hr ⟨x1, x2, x3⟩ (by rw [← hlen]; simp), hr.withE lm.ea, post_suite hr rfl po⟩, fun z => by cases z⟩
        · rw [hlim] at x3
          exact x3
        · rw [hlim] at x3
          exact x3.elim fun d' z => ⟨d', z.1⟩
      · exact hs.mono ext
      · cases hr : dE ρ μ with
        | bad => rw [hr] at qq; exact qq
        | ok u μ1 =>
          rw [hr] at qq
          exact fun H' α' hr e v _ => qq H' α' hr e _ rfl
        | exc c μ1 =>
          rw [hr] at qq
          exact fun cls dd σ' H' α' x hr e => ⟨c, μ1, α', x, hr, PostG.rebase e qq⟩
    · refine ⟨fun pinsZ sZ σZ HZ D IZ ⟨Ech, hW, h1, h2, h3⟩ => ?_⟩
      have hAct := act_call (E := Ech) (tb := tE X.K G (fun cls dd _ H' => Ech cls dd H') dE) (p1 := q1) (p2 := q2) (i := 0) (pn := pn) (xe := xe) I1 L hf hfn hfr rfl tk' hW hr' (fun A outer s2 H2 hr2 => hbody _ (lamN X A outer s2 H2 Ech scope f c') rfl
        { mf := g.mf, ff := g.ff, hN := g.hN, nd := g.nd, hs := rfl, kd := L.kind, calm := fun _ => ⟨rfl, (g.calm hc).2.1, hr2⟩, hot := fun h => (by cases h), lm := fun h => (by cases h), hfn := fun _ h => (by cases h),
          tk := L2N.takes_of rfl rfl rfl rfl, un := (by have := hr2.un; show (A.deeper (lamEnv X scope s2.heap.objs.size f c')).units + 65 < cLine; omega), po := passes_of rfl }) hN0 hva (ok_debug hna) (ok_cd hna)
      exact (pss_one (ps_expr (pos := q3) hAct)).run pinsZ sZ σZ HZ D IZ ⟨h1, h2, h3⟩
    · refine ⟨fun pinsZ sZ σZ HZ D IZ h => ?_⟩
      obtain ⟨c, h1, h2, h3, h5, h4⟩ := h IZ.len
      exact (SU cdv X.A X.stack s' H1 b oe cls dd pn c (by have := lm.room.un; omega) hz hf h1 h2 h3 h5).run pinsZ sZ σZ HZ D IZ h4
  refine wpAny_call (codeAny_mono rc fun r s2 hq => ?_)
  cases r with
  | error e => exact (show False from hq).elim
  | ok fl =>
    cases fl with
    | ret u => exact I1.after hq
    | next => exact False.elim hq
    | brk => exact False.elim hq
    | cont => exact False.elim hq
end
end Mini

set_option maxHeartbeats 4000000
/-! Mini, part I: the text does what the small language says: expressions. -/
namespace Mini
open PySem PySem.Spec PyProof.Rows L2 LamX

section
variable {S : Sg} {G : En} {k : Nat} {C : Orc} {N : List Str} {sc : Scope} {fb : Md} {W : WX} {X : Cx} {K : PySem.W.Frag}
theorem t_ite {dc da db : Slots → Mem → R U} {c a b : Expr} {pos : Pos} (hc : MT X G W dc c) (ha : MT X G W da a) (hb : MT X G W db b) :
    MT X G W (fun ρ μ => (truR (dc ρ μ)).bind fun k μ1 => match k with
      | true => da ρ μ1
      | false => db ρ μ1) (.IfExp c a b pos) := by
  refine ⟨fun pins s σ H Q I ⟨ρ, μ, α, β, hs, hm, q⟩ => ?_⟩
  show wpAny _ _ (isTrue c X.env (eval c X.env) >>= fun r => if r = true then isTrue a X.env (eval a X.env) else isTrue b X.env (eval b X.env)) _ _ _
  dsimp only at q
  refine wpAny_bind (thn (hc.run pins s σ H (fun k H1 => if k = true then tT X.K G W (fun ρ μ => truR (da ρ μ)) σ H1 Q else tT X.K G W (fun ρ μ => truR (db ρ μ)) σ H1 Q) I ⟨ρ, μ, α, β, hs, hm, ?_⟩) fun k s1 ⟨H1, I1, q1⟩ => ?_)
  · dsimp only
    cases hc2 : truR (dc ρ μ) with
    | bad => rw [hc2] at q; exact q
    | exc c μ1 => rw [hc2] at q; exact q
    | ok k μ1 =>
      rw [hc2] at q
      cases k with
      | true =>
        have q : PostG X.K G β W (truR (da ρ μ1)) α H (fun b _ _ H' => Q b H') := q
        exact fun H1 α1 hm1 e1 => iteT ⟨ρ, μ1, α1, β, hs.mono e1, hm1, PostG.rebase e1 q⟩
      | false =>
        have q : PostG X.K G β W (truR (db ρ μ1)) α H (fun b _ _ H' => Q b H') := q
        exact fun H1 α1 hm1 e1 => iteF ⟨ρ, μ1, α1, β, hs.mono e1, hm1, PostG.rebase e1 q⟩
  · cases k with
    | true => exact ha.run pins s1 σ H1 Q I1 (by simpa using q1)
    | false => exact hb.run pins s1 σ H1 Q I1 (by simpa using q1)
theorem isi_shape {a : IE} {t : Str} {f : Expr} {es : List Expr} {kws : List Keyword} {pos : Pos} (h : chkE S N fb sc (.isi a t) (.Call f es kws pos) = true) :
    ∃ x p a' t' p2, f = .Name x p ∧ es = [a', .Name t' p2] ∧ kws = [] ∧ chkE S N fb sc (.isi a t) (.Call (.Name x p) [a', .Name t' p2] [] pos) = true := by
  have h0 := h
  unfold chkE at h
  split at h
  · rename_i x p a' t' p2 pos' heq
    cases heq
    exact ⟨x, p, a', t', p2, rfl, rfl, rfl, h0⟩
  · cases h
theorem app_shape {o a : IE} {f : Expr} {es : List Expr} {kws : List Keyword} {pos : Pos} (h : chkE S N fb sc (.app o a) (.Call f es kws pos) = true) :
    ∃ o' m apos a', f = .Attribute o' m apos ∧ es = [a'] ∧ kws = [] ∧ chkE S N fb sc (.app o a) (.Call (.Attribute o' m apos) [a'] [] pos) = true := by
  have h0 := h
  unfold chkE at h
  split at h
  · rename_i o' m apos a' pos' heq
    cases heq
    exact ⟨o', m, apos, a', rfl, rfl, rfl, h0⟩
  · cases h
theorem rev_shape {m : Bool} {a : IE} {e' : Expr} (h : chkE S N fb sc (.rev m a) e' = true) :
    ∃ a' k1 p1 p2 p3 pos, e' = .Subscript a' (.Slice none none (some (.UnaryOp .USub (.Constant (.int 1) k1 p1) p2)) p3) pos ∧ chkE S N fb sc a a' = true := by
  unfold chkE at h
  split at h
  · rename_i a' n k1 p1 p2 p3 pos
    simp only [Bool.and_eq_true, beq_iff_eq] at h
    obtain ⟨rfl, h⟩ := h
    exact ⟨a', k1, p1, p2, p3, pos, rfl, h⟩
  · cases h
theorem join_shape {o a : IE} {f : Expr} {es : List Expr} {kws : List Keyword} {pos : Pos} (h : chkE S N fb sc (.join o a) (.Call f es kws pos) = true) :
    ∃ o' m apos a', f = .Attribute o' m apos ∧ es = [a'] ∧ kws = [] ∧ chkE S N fb sc (.join o a) (.Call (.Attribute o' m apos) [a'] [] pos) = true := by
  have h0 := h
  unfold chkE at h
  split at h
  · rename_i o' m apos a' pos' heq
    cases heq
    exact ⟨o', m, apos, a', rfl, rfl, rfl, h0⟩
  · cases h
theorem lam_shape {j : Nat} {a : IE} {e' : Expr} (h : chkE S N fb sc (.lam j a) e' = true) :
    ∃ x p params body scope lpos pos, e' = .Call (.Name x p) [.Lambda params body scope lpos] [] pos ∧ chkE S N fb sc (.lam j a) (.Call (.Name x p) [.Lambda params body scope lpos] [] pos) = true := by
  have h0 := h
  unfold chkE at h
  split at h
  · rename_i x p params body scope lpos pos
    exact ⟨x, p, params, body, scope, lpos, pos, rfl, h0⟩
  · cases h
theorem isE_shape {i : Nat} {c : Str} {e' : Expr} (h : chkE S N fb sc (.isE i c) e' = true) :
    ∃ x p y p1 z p2 pos, e' = .Call (.Name x p) [.Name y p1, .Name z p2] [] pos ∧ fb.calm = false ∧ x = "isinstance" ∧ freeB S sc x = true ∧ N[i]? = some y ∧ visB sc y = true ∧ nameOk y = true ∧ c = z ∧ gloB sc z = true ∧ S.xs.contains c = true := by
  unfold chkE at h
  split at h
  · rename_i x p y p1 z p2 pos
    simp only [Bool.and_eq_true, beq_iff_eq, decide_eq_true_eq, Bool.not_eq_true'] at h
    obtain ⟨⟨⟨⟨⟨⟨⟨⟨h1, h2⟩, h3⟩, h4⟩, h5⟩, h6⟩, h7⟩, h8⟩, h9⟩ := h
    exact ⟨x, p, y, p1, z, p2, pos, rfl, h1, h2, h3, h4, h5, h6, h7, h8, h9⟩
  · cases h
theorem comp2_shape {m : Bool} {own own1 : List Nat} {elt : IE} {tg tg1 : IT} {it it1 : II} {ifs ifs1 : IEs} {e' : Expr} (h : chkE S N fb sc (.comp2 m own own1 elt tg it ifs tg1 it1 ifs1) e' = true) :
    ∃ elt' tg' it' ifs' tg1' it1' ifs1' scope pos, e' = .ListComp elt' [⟨tg', it', ifs', 0⟩, ⟨tg1', it1', ifs1', 0⟩] scope pos ∧ fb.calm = true ∧ (∀ i ∈ tgS tg, i ∈ own) ∧ (∀ i ∈ tgS tg1, i ∈ own1) ∧ (∀ i ∈ own1, i ∈ own) ∧ chkI S N fb sc it tg' it' = true ∧ blkC N sc scope (ownOf N own) = true ∧
      chkT N (fb.blk scope) (relS scope sc) tg tg' = true ∧ chkI S N (fb.blk scope) (relS scope sc) it1 tg1' it1' = true ∧ chkT N (fb.blk scope) (relS scope sc) tg1 tg1' = true ∧ chkE S N (fb.blk scope) (relS scope sc) elt elt' = true ∧
      (chkEs S N (fb.blk scope) (relS scope sc) ifs ifs' = true ∧ ifs'.length ≤ 1) ∧ chkEs S N (fb.blk scope) (relS scope sc) ifs1 ifs1' = true ∧ ifs1'.length ≤ 1 := by
  unfold chkE at h
  split at h
  · rename_i elt' tg' it' ifs' tg1' it1' ifs1' scope pos
    simp only [Bool.and_eq_true, decide_eq_true_eq, List.all_eq_true, List.contains_eq_mem] at h
    obtain ⟨⟨⟨⟨⟨⟨⟨⟨⟨⟨⟨⟨⟨h0, h1⟩, h2⟩, h3⟩, h4⟩, h5⟩, h6⟩, h7⟩, h8⟩, h9⟩, h10⟩, h11⟩, h12⟩, h13⟩ := h
    exact ⟨elt', tg', it', ifs', tg1', it1', ifs1', scope, pos, rfl, h0, h1, h2, h3, h4, h5, h6, h7, h8, h9, ⟨h10, h11⟩, h12, h13⟩
  · cases h
theorem eLim_shape {i : Nat} {e' : Expr} (h : chkE S N fb sc (.eLim i) e' = true) :
    ∃ y p pos, e' = .Attribute (.Name y p) "limit" pos ∧ fb.calm = false ∧ N[i]? = some y ∧ visB sc y = true ∧ nameOk y = true := by
  unfold chkE at h
  split at h
  · rename_i y p m pos
    simp only [Bool.and_eq_true, beq_iff_eq, decide_eq_true_eq, Bool.not_eq_true'] at h
    obtain ⟨⟨⟨⟨h1, rfl⟩, h3⟩, h4⟩, h5⟩ := h
    exact ⟨y, p, pos, rfl, h1, h3, h4, h5⟩
  · cases h
theorem pop_shape {o : IE} {as : IEs} {e' : Expr} (h : chkE S N fb sc (.pop o as) e' = true) :
    ∃ o' apos as' pos, e' = .Call (.Attribute o' "pop" apos) as' [] pos ∧ (apos.endLine == pos.line) = true ∧ notCall o' = true ∧ as'.length ≤ 1 ∧ chkE S N fb sc o o' = true ∧ chkEs S N fb sc as as' = true := by
  unfold chkE at h
  split at h
  · rename_i o' m apos as' pos
    simp only [Bool.and_eq_true, beq_iff_eq, decide_eq_true_eq] at h
    obtain ⟨⟨⟨⟨⟨rfl, h1⟩, h2⟩, h3⟩, h4⟩, h5⟩ := h
    exact ⟨o', apos, as', pos, rfl, by simpa using h1, h2, h3, h4, h5⟩
  · cases h
theorem dget_shape {d k1 a : IE} {e' : Expr} (h : chkE S N fb sc (.dget d k1 a) e' = true) :
    ∃ o' apos k' a' pos, e' = .Call (.Attribute o' "get" apos) [k', a'] [] pos ∧ (apos.endLine == pos.line) = true ∧ notCall o' = true ∧ notStar k' = true ∧ notStar a' = true ∧ chkE S N fb sc d o' = true ∧ chkE S N fb sc k1 k' = true ∧ chkE S N fb sc a a' = true := by
  unfold chkE at h
  split at h
  · rename_i o' m apos k' a' pos
    simp only [Bool.and_eq_true, beq_iff_eq] at h
    obtain ⟨⟨⟨⟨⟨⟨⟨rfl, h1⟩, h2⟩, h3⟩, h4⟩, h5⟩, h6⟩, h7⟩ := h
    exact ⟨o', apos, k', a', pos, rfl, by simpa using h1, h2, h3, h4, h5, h6, h7⟩
  · cases h
theorem dsa_shape {d k1 a : IE} {e' : Expr} (h : chkE S N fb sc (.dsa d k1 a) e' = true) :
    ∃ o' apos k' lp pos apos2 a' pos2, e' = .Call (.Attribute (.Call (.Attribute o' "setdefault" apos) [k', .List [] lp] [] pos) "append" apos2) [a'] [] pos2 ∧ (apos.endLine == pos.line) = true ∧ (apos2.endLine == pos2.line) = true ∧ notCall o' = true ∧ notStar k' = true ∧ notStar a' = true ∧
      chkE S N fb sc d o' = true ∧ chkE S N fb sc k1 k' = true ∧ chkE S N fb sc a a' = true := by
  unfold chkE at h
  split at h
  · rename_i o' m apos k' lp pos m2 apos2 a' pos2
    simp only [Bool.and_eq_true, beq_iff_eq] at h
    obtain ⟨⟨⟨⟨⟨⟨⟨⟨⟨rfl, h1⟩, rfl⟩, h2⟩, h3⟩, h4⟩, h5⟩, h6⟩, h7⟩, h8⟩ := h
    exact ⟨o', apos, k', lp, pos, apos2, a', pos2, rfl, by simpa using h1, by simpa using h2, h3, h4, h5, h6, h7, h8⟩
  · cases h
theorem dnew_shape {e' : Expr} (h : chkE S N fb sc .dnew e' = true) : ∃ pos, e' = .Dict [] [] pos := by
  unfold chkE at h
  split at h
  · exact ⟨_, rfl⟩
  · cases h
theorem lrg_shape {tu m : Bool} {it : II} {e' : Expr} (h : chkE S N fb sc (.lrg tu m it) e' = true) :
    ∃ x p r pos, e' = .Call (.Name x p) [r] [] pos ∧ fb.calm = true ∧ x = (if tu then ("tuple" : Str) else "list") ∧ freeB S sc x = true ∧ chkR S N fb sc it r = true := by
  unfold chkE at h
  split at h
  · rename_i x p r pos
    simp only [Bool.and_eq_true, beq_iff_eq] at h
    obtain ⟨⟨⟨⟨h1, h2⟩, h3⟩, h4⟩, h5⟩ := h
    exact ⟨x, p, r, pos, rfl, h1, h2, h3, h5⟩
  · cases h
theorem er_of {S : Sg} {j : Nat} {x : Str} (h : (match S.Ds[j]? with | some (.err d) => d.name == x | _ => false) = true) : ∃ d, S.Ds[j]? = some (.err d) ∧ d.name = x := by
  cases q : S.Ds[j]? with
  | none => rw [q] at h; cases h
  | some o =>
    cases o with
    | std d => rw [q] at h; cases h
    | err d => rw [q] at h; exact ⟨d, rfl, by simpa using h⟩
theorem comp_shape {m : Bool} {own : List Nat} {elt : IE} {tg : IT} {it : II} {ifs : IEs} {e' : Expr} (h : chkE S N fb sc (.comp m own elt tg it ifs) e' = true) :
    ∃ elt' tg' it' ifs' scope pos, e' = .ListComp elt' [⟨tg', it', ifs', 0⟩] scope pos ∧ (tgS tg).all (fun i => own.contains i) = true ∧ chkI S N fb sc it tg' it' = true ∧ blkC N sc scope (ownOf N own) = true ∧
      chkT N (fb.blk scope) (relS scope sc) tg tg' = true ∧ chkE S N (fb.blk scope) (relS scope sc) elt elt' = true ∧
      chkEs S N (fb.blk scope) (relS scope sc) ifs ifs' = true ∧ ifs'.length ≤ 1 := by
  unfold chkE at h
  split at h
  · rename_i elt' tg' it' ifs' scope pos
    simp only [Bool.and_eq_true, decide_eq_true_eq] at h
    obtain ⟨⟨⟨⟨⟨⟨h0, h1⟩, h2⟩, h3⟩, h4⟩, h5⟩, h6⟩ := h
    exact ⟨elt', tg', it', ifs', scope, pos, rfl, h0, h1, h2, h3, h4, h5, h6⟩
  · cases h
theorem t_bad {e : Expr} : MT X G W (fun _ _ => .bad) e := ⟨fun pins s σ H Q I ⟨ρ, μ, α, β, hs, hm, q⟩ => q.elim⟩
def Snd (X : Cx) (G : En) (W : WX) (d : Slots → Mem → R U) (e : Expr) : Prop := ME X G W d e ∧ MT X G W d e ∧ MW X G W d e
theorem snd_bad {e : Expr} : Snd X G W (fun _ _ => .bad) e := ⟨m_hole, t_bad, fun _ _ _ _ => ⟨fun wh pins s σ H Q I ⟨ρ, μ, α, β, hs, hm, q⟩ => q.elim⟩⟩
theorem snd_gen {d : Slots → Mem → R U} {e : Expr} (h : ME X G W d e) (he : ∀ whole, isTrue e X.env whole = (do let v ← whole; standAt e.pos; holding [v] (truthy v))) (hw : ∀ op bs pos, e ≠ .BoolOp op bs pos) : Snd X G W d e :=
  ⟨h, mt_gen h he, fun op bs pos z => absurd z (hw op bs pos)⟩
theorem snd_of {d : Slots → Mem → R U} {e : Expr} (h : ME X G W d e) (t : MT X G W d e) (hw : ∀ op bs pos, e ≠ .BoolOp op bs pos) : Snd X G W d e := ⟨h, t, fun op bs pos z => absurd z (hw op bs pos)⟩
theorem behind_of {op : CmpOp} {b : Expr} (h : notSet b = true) : behindInMarks op b = false := by
  cases b <;> first | rfl | cases h
theorem marks_of {o1 o2 : CmpOp} {b c : Expr} (h : notSet c = true) : lastMarks [o1, o2] [b, c] = false := behind_of h
theorem all_cons {e : Expr} {es : List Expr} (h : notStar e = true) (hs : es.all notStar = true) : (e :: es).all notStar = true := by simp [h, hs]
theorem chkEs_ns {S : Sg} {N : List Str} {fb : Md} {sc : Scope} : ∀ {es : IEs} {es' : List Expr}, chkEs S N fb sc es es' = true → es'.all notStar = true
  | .nil, es', h => by
    simp only [chkEs, List.isEmpty_iff] at h
    subst h
    rfl
  | .cons e es, [], h => by simp [chkEs] at h
  | .cons e es, e' :: es', h => by
    simp only [chkEs, Bool.and_eq_true] at h
    exact all_cons h.1.2 (chkEs_ns h.2)
theorem chkI_ns {it : II} {tg e' : Expr} (h : chkI S N fb sc it tg e' = true) : notSet e' = true := by
  cases it with
  | of a =>
    have h : (chkE S N fb sc a e' && notSet e') = true := h
    simp only [Bool.and_eq_true] at h
    exact h.2
  | _ => unfold chkI at h; split at h <;> first | rfl | cases h
mutual
theorem sndE : ∀ (e : IE) {fb : Md} {sc : Scope} {W : WX} {X : Cx} (e' : Expr), GX S G k C N sc fb W X → chkE S N fb sc e e' = true → Snd X G W (denE (C) e) e'
  | .var i, fb, sc, W, X, e', g, h => by
    cases e' with
    | Name x pos =>
      have h : (decide (N[i]? = some x) && visB sc x && nameOk x) = true := h
      simp only [Bool.and_eq_true, decide_eq_true_eq] at h
      exact snd_gen (m_var (by rw [g.hN]; exact h.1.1) (vis_of h.1.2 g.hs) h.2) (fun _ => rfl) (fun _ _ _ z => by cases z)
    | _ => cases h
  | .int n, fb, sc, W, X, e', g, h => by
    cases e' with
    | Constant c j pos =>
      cases c with
      | int m =>
        have h : (n == m) = true := h
        have e : n = m := by simpa using h
        subst e
        exact snd_gen (m_lit pe_int fun _ _ _ => rfl) (fun _ => rfl) (fun _ _ _ z => by cases z)
      | _ => cases h
    | _ => cases h
  | .str n, fb, sc, W, X, e', g, h => by
    cases e' with
    | Constant c j pos =>
      cases c with
      | str m =>
        have h : (n == m) = true := h
        have e : n = m := by simpa using h
        subst e
        exact snd_gen (m_lit pe_str fun _ _ _ => rfl) (fun _ => rfl) (fun _ _ _ z => by cases z)
      | _ => cases h
    | _ => cases h
  | .bl n, fb, sc, W, X, e', g, h => by
    cases e' with
    | Constant c j pos =>
      cases c with
      | bool m =>
        have h : (n == m) = true := h
        have e : n = m := by simpa using h
        subst e
        exact snd_gen (m_lit pe_bl fun _ _ _ => rfl) (fun _ => rfl) (fun _ _ _ z => by cases z)
      | _ => cases h
    | _ => cases h
  | .non, fb, sc, W, X, e', g, h => by
    cases e' with
    | Constant c j pos =>
      cases c with
      | none => exact snd_gen (m_lit pe_non fun _ _ _ => rfl) (fun _ => rfl) (fun _ _ _ z => by cases z)
      | _ => cases h
    | _ => cases h
  | .gint x n, fb, sc, W, X, e', g, h => by
    cases e' with
    | Name y pos =>
      have h : ((x == y) && gloB sc x && S.gi.contains (x, n)) = true := h
      simp only [Bool.and_eq_true, beq_iff_eq] at h
      obtain ⟨⟨rfl, h1⟩, h2⟩ := h
      obtain ⟨t, ht⟩ := g.mf.gi (x, n) (by simpa using h2)
      have g1 := glo_of h1 g.hs
      exact snd_gen (m_lit (v := .int n) (pe_glob g1.1 ht ⟨t, rfl⟩ (ok_debug g1.2)) fun _ _ _ => rfl) (fun _ => rfl) (fun _ _ _ z => by cases z)
    | _ => cases h
  | .fnv j, fb, sc, W, X, e', g, h => by
    cases e' with
    | Name y pos =>
      have h : (gloB sc y && nmB S j y) = true := h
      simp only [Bool.and_eq_true] at h
      obtain ⟨d, hd, hx⟩ := df_of h.2
      have hm := g.mf.named hd hx
      have g1 := glo_of h.1 g.hs
      exact snd_gen (m_lit (v := .ref (G.ad j)) (pe_glob g1.1 hm rfl (ok_debug g1.2)) fun _ _ _ => ⟨rfl, g.mf.fnd j d hd⟩) (fun _ => rfl) (fun _ _ _ z => by cases z)
    | _ => cases h
  | .bin m op a b, fb, sc, W, X, e', g, h => by
    cases e' with
    | BinOp a' op' b' pos =>
      have h : (decide (op = op') && opOk op && chkE S N fb sc a a' && chkE S N fb sc b b') = true := h
      simp only [Bool.and_eq_true, decide_eq_true_eq] at h
      obtain ⟨⟨⟨rfl, h1⟩, h2⟩, h3⟩ := h
      exact snd_gen (m_op2 (pe_op (o_bin (m := m) h1) (sndE a a' g h2).1 (sndE b b' g h3).1) fun _ _ _ _ h => h) (fun _ => rfl) (fun _ _ _ z => by cases z)
    | _ => cases h
  | .neg a, fb, sc, W, X, e', g, h => by
    cases e' with
    | UnaryOp op a' pos =>
      cases op with
      | USub =>
        have h : chkE S N fb sc a a' = true := h
        exact snd_gen (m_neg (sndE a a' g h).1) (fun _ => rfl) (fun _ _ _ z => by cases z)
      | _ => cases h
    | _ => cases h
  | .not a, fb, sc, W, X, e', g, h => by
    cases e' with
    | UnaryOp op a' pos =>
      cases op with
      | Not =>
        have h : chkE S N fb sc a a' = true := h
        have ih := sndE a a' g h
        exact snd_of (m_not ih.1) (t_not ih.2.1) (fun _ _ _ z => by cases z)
      | _ => cases h
    | _ => cases h
  | .cmp op a b, fb, sc, W, X, e', g, h => by
    cases e' with
    | Compare a' ops bs pos =>
      match ops, bs, h with
      | [op'], [b'], h =>
        have h : (decide (op = op') && chkE S N fb sc a a' && chkE S N fb sc b b' && notSet b') = true := h
        simp only [Bool.and_eq_true, decide_eq_true_eq] at h
        obtain ⟨⟨⟨rfl, h1⟩, h2⟩, h3⟩ := h
        have hu : X.A.units + 65 < cLine := g.un
        exact snd_of (m_op2 (pe_cmpR (o_cmp hu op) (sndE a a' g h1).1 (sndE b b' g h2).1 (behind_of h3)) fun _ _ _ _ h => h)
          (t_op2 (pt_cmpR (o_cmp hu op) (sndE a a' g h1).1 (sndE b b' g h2).1 (behind_of h3))) (fun _ _ _ z => by cases z)
      | [], _, h => cases h
      | [_], [], h => cases h
      | [_], _ :: _ :: _, h => cases h
      | _ :: _ :: _, _, h => cases h
    | _ => cases h
  | .chain o1 o2 a b c, fb, sc, W, X, e', g, h => by
    cases e' with
    | Compare a' ops bs pos =>
      match ops, bs, h with
      | [p1, p2], [b', c'], h =>
        have h : (decide (o1 = p1) && decide (o2 = p2) && chkE S N fb sc a a' && chkE S N fb sc b b' && chkE S N fb sc c c' && notSet c') = true := h
        simp only [Bool.and_eq_true, decide_eq_true_eq] at h
        obtain ⟨⟨⟨⟨⟨rfl, rfl⟩, h1⟩, h2⟩, h3⟩, h4⟩ := h
        have hu : X.A.units + 65 < cLine := g.un
        exact snd_of (m_chain hu (sndE a a' g h1).1 (sndE b b' g h2).1 (sndE c c' g h3).1 (marks_of h4)) (t_chain hu (sndE a a' g h1).1 (sndE b b' g h2).1 (sndE c c' g h3).1 (marks_of h4)) (fun _ _ _ z => by cases z)
      | [], _, h => cases h
      | [_], _, h => cases h
      | [_, _], [], h => cases h
      | [_, _], [_], h => cases h
      | [_, _], _ :: _ :: _ :: _, h => cases h
      | _ :: _ :: _ :: _, _, h => cases h
    | _ => cases h
  | .and a b, fb, sc, W, X, e', g, h => by
    cases e' with
    | BoolOp op vs pos =>
      match op, vs, h with
      | .And, a' :: b' :: rest, h =>
        have h : (chkE S N fb sc a a' && chkE S N fb sc b (boRest .And b' rest pos)) = true := h
        simp only [Bool.and_eq_true] at h
        have ia := sndE a a' g h.1
        have ib := sndE b _ g h.2
        have w := w_and (pos := pos) ia.2.1 ib.2.1 ib.2.2
        exact ⟨m_and ia.1 ib.1, w.pt, fun _ _ _ _ => w⟩
      | .And, [], h => cases h
      | .And, [_], h => cases h
      | .Or, _, h => cases h
    | _ => cases h
  | .or a b, fb, sc, W, X, e', g, h => by
    cases e' with
    | BoolOp op vs pos =>
      match op, vs, h with
      | .Or, a' :: b' :: rest, h =>
        have h : (chkE S N fb sc a a' && chkE S N fb sc b (boRest .Or b' rest pos)) = true := h
        simp only [Bool.and_eq_true] at h
        have ia := sndE a a' g h.1
        have ib := sndE b _ g h.2
        have w := w_or (pos := pos) ia.2.1 ib.2.1 ib.2.2
        exact ⟨m_or ia.1 ib.1, w.pt, fun _ _ _ _ => w⟩
      | .Or, [], h => cases h
      | .Or, [_], h => cases h
      | .And, _, h => cases h
    | _ => cases h
  | .ite c a b, fb, sc, W, X, e', g, h => by
    cases e' with
    | IfExp c' a' b' pos =>
      have h : (chkE S N fb sc c c' && chkE S N fb sc a a' && chkE S N fb sc b b') = true := h
      simp only [Bool.and_eq_true] at h
      have ic := sndE c c' g h.1.1
      have ia := sndE a a' g h.1.2
      have ib := sndE b b' g h.2
      exact snd_of (m_ite ic.2.1 ia.1 ib.1) (t_ite ic.2.1 ia.2.1 ib.2.1) (fun _ _ _ z => by cases z)
    | _ => cases h
  | .tup es, fb, sc, W, X, e', g, h => by
    cases e' with
    | Tuple es' x1 pos => exact snd_gen (m_tup (sndEs es es' g h)) (fun _ => rfl) (fun _ _ _ z => by cases z)
    | _ => cases h
  | .lst m es, fb, sc, W, X, e', g, h => by
    cases e' with
    | List es' pos => exact snd_gen (m_lst (sndEs es es' g h)) (fun _ => rfl) (fun _ _ _ z => by cases z)
    | _ => cases h
  | .idx a b, fb, sc, W, X, e', g, h => by
    cases e' with
    | Subscript a' b' pos =>
      have h : (chkE S N fb sc (.idx a b) (.Subscript a' b' pos)) = true := h
      unfold chkE at h
      simp only [Bool.and_eq_true] at h
      exact snd_gen (m_idx h.2 (sndE a a' g h.1.1).1 (sndE b b' g h.1.2).1) (fun _ => rfl) (fun _ _ _ z => by cases z)
    | _ => cases h
  | .slc a lo hi, fb, sc, W, X, e', g, h => by
    cases e' with
    | Subscript a' sl pos =>
      cases sl with
      | Slice lo' hi' st p2 =>
        cases st with
        | none =>
          have h : (chkE S N fb sc a a' && chkEs S N fb sc lo lo'.toList && chkEs S N fb sc hi hi'.toList) = true := h
          simp only [Bool.and_eq_true] at h
          exact snd_gen (m_slc (sndE a a' g h.1.1).1 (sndO lo lo' g h.1.2) (sndO hi hi' g h.2)) (fun _ => rfl) (fun _ _ _ z => by cases z)
        | some _ => cases h
      | _ => cases h
    | _ => cases h
  | .call j es, fb, sc, W, X, e', g, h => by
    cases e' with
    | Call f es' kws pos =>
      cases f with
      | Name x p =>
        cases kws with
        | nil =>
          have h : (fb.calm && gloB sc x && nmB S j x && chkEs S N fb sc es es') = true := h
          simp only [Bool.and_eq_true] at h
          obtain ⟨d, hd, hx⟩ := df_of h.1.2
          have g1 := glo_of h.1.1.2 g.hs
          have ih := sndEs es es' g h.2
          have ns := chkEs_ns h.2
          obtain ⟨_, rfl, hr⟩ := g.calm h.1.1.1
          cases es' with
          | nil =>
            cases es with
            | nil => exact snd_gen (m_call0 g hr g1 hd hx) (fun _ => rfl) (fun _ _ _ z => by cases z)
            | cons _ _ => simp [chkEs] at h
          | cons e es' => exact snd_gen (m_call g hr g1 hd hx ns ih) (fun _ => rfl) (fun _ _ _ z => by cases z)
        | cons _ _ => cases h
      | _ => cases h
    | _ => cases h
  | .cvar i es, fb, sc, W, X, e', g, h => by
    cases e' with
    | Call f es' kws pos =>
      cases f with
      | Name x p =>
        cases kws with
        | nil =>
          have h : (fb.calm && decide (N[i]? = some x) && visB sc x && nameOk x && !es'.isEmpty && chkEs S N fb sc es es') = true := h
          simp only [Bool.and_eq_true, decide_eq_true_eq, Bool.not_eq_true'] at h
          have ih := sndEs es es' g h.2
          have ns := chkEs_ns h.2
          obtain ⟨_, rfl, hr⟩ := g.calm h.1.1.1.1.1
          cases es' with
          | nil => simp at h
          | cons e es' => exact snd_gen (m_cvar g hr (by rw [g.hN]; exact h.1.1.1.1.2) (vis_of h.1.1.1.2 g.hs) h.1.1.2 ns ih) (fun _ => rfl) (fun _ _ _ z => by cases z)
        | cons _ _ => cases h
      | _ => cases h
    | _ => cases h
  | .bi m b es, fb, sc, W, X, e', g, h => by
    cases e' with
    | Call f es' kws pos =>
      cases f with
      | Name x p =>
        cases kws with
        | nil =>
          have h : (biB S fb sc b x && !es'.isEmpty && chkEs S N fb sc es es') = true := h
          simp only [Bool.and_eq_true, Bool.not_eq_true'] at h
          have ih := sndEs es es' g h.2
          have ns := chkEs_ns h.2
          cases es' with
          | nil => simp at h
          | cons e es' => exact snd_gen (m_bi g h.1.1 ns ih) (fun _ => rfl) (fun _ _ _ z => by cases z)
        | cons _ _ => cases h
      | _ => cases h
    | _ => cases h
  | .isi a t, fb, sc, W, X, e', g, h => by
    cases e' with
    | Call f es' kws pos =>
      obtain ⟨x, p, a', t', p2, rfl, rfl, rfl, h⟩ := isi_shape h
      · have h : ((x == ("isinstance" : Str)) && freeB S sc x && (t == t') && freeB S sc t && isTys.contains t && chkE S N fb sc a a' && notStar a') = true := h
        simp only [Bool.and_eq_true, beq_iff_eq] at h
        obtain ⟨⟨⟨⟨⟨⟨h1, h2⟩, rfl⟩, h4⟩, h5⟩, h6⟩, h7⟩ := h
        exact snd_gen (m_isi g h1 h2 h4 h5 h7 (sndE a a' g h6).1) (fun _ => rfl) (fun _ _ _ z => by cases z)
    | _ => cases h
  | .comp m own elt tg it ifs, fb, sc, W, X, e', g, h => by
    obtain ⟨elt', tg', it', ifs', scope, pos, rfl, h0, h1, h2, h3, h4, h5, h6⟩ := comp_shape h
    obtain ⟨i1, i2, i3⟩ := sndI it tg' it' g h1
    refine snd_gen (m_comp g i1 i2 h2 i3 (fun i hi => by simpa using (List.all_eq_true.mp h0) i hi) (fun Y eK gY => ?_)) (fun _ => rfl) (fun _ _ _ z => by cases z)
    rw [← eK]
    exact ⟨g_tgt gY tg tg' h3, sndTs ifs ifs' gY h6 h5, (sndE elt elt' gY h4).1⟩
  | .lam j a, fb, sc, W, X, e', g, h => by
    obtain ⟨x, p, params, body, scope, lpos, pos, rfl, h⟩ := lam_shape h
    have h : (fb.lam && fb.calm && gloB sc x && (match S.Ds[j]? with
      | some (.err d) => d.name == x
      | _ => false) && noArgs params && lamSB sc scope && chkE S N Md.inner scope a body) = true := h
    simp only [Bool.and_eq_true] at h
    obtain ⟨⟨⟨⟨⟨⟨h1, h2⟩, h3⟩, h4⟩, h5⟩, h6⟩, h7⟩ := h
    obtain ⟨d, hd, hx⟩ := er_of h4
    have g1 := glo_of h3 g.hs
    obtain ⟨_, eC, hr⟩ := g.calm h2
    have m := m_lam g h1 h2 g1 hd hx h5 h6 (dE := denE C a) (lpos := lpos) (p := p) (pos := pos) (fun W' Y eK gY => (sndE a body gY h7).1)
    have eL : C.lam = lamD S.Ds := by rw [eC]
    refine snd_gen (by
      show ME X G W (fun ρ μ => C.lam j (denE C a ρ μ)) _
      rw [eL]
      exact m) (fun _ => rfl) (fun _ _ _ z => by cases z)
  | .app o a, fb, sc, W, X, e', g, h => by
    cases e' with
    | Call f es' kws pos =>
      obtain ⟨o', m, apos, a', rfl, rfl, rfl, h⟩ := app_shape h
      have h : ((m == ("append" : Str)) && (apos.endLine == pos.line) && notCall o' && notStar a' && chkE S N fb sc o o' && chkE S N fb sc a a') = true := h
      simp only [Bool.and_eq_true] at h
      obtain ⟨⟨⟨⟨⟨h1, h2⟩, h3⟩, h4⟩, h5⟩, h6⟩ := h
      have e : m = "append" := by simpa using h1
      subst e
      exact snd_gen (m_app h2 h3 h4 (sndE o o' g h5).1 (sndE a a' g h6).1) (fun _ => rfl) (fun _ _ _ z => by cases z)
    | _ => cases h
  | .isE i c, fb, sc, W, X, e', g, h => by
    obtain ⟨x, p, y, p1, z, p2, pos, rfl, h1, h2, h3, h4, h5, h6, rfl, h8, h9⟩ := isE_shape h
    exact snd_gen (m_isE g h1 h2 h3 h4 h5 h6 h8 h9) (fun _ => rfl) (fun _ _ _ z => by cases z)
  | .eLim i, fb, sc, W, X, e', g, h => by
    obtain ⟨y, p, pos, rfl, h1, h2, h3, h4⟩ := eLim_shape h
    exact snd_gen (m_eLim g h1 h2 h3 h4) (fun _ => rfl) (fun _ _ _ z => by cases z)
  | .hole, fb, sc, W, X, e', g, h => snd_bad
  | .comp2 m own own1 elt tg it ifs tg1 it1 ifs1, fb, sc, W, X, e', g, h => by
    obtain ⟨elt', tg', it', ifs', tg1', it1', ifs1', scope, pos, rfl, h0, h1, h2, h3, h4, h5, h6, h7, h8, h9, h10, h11⟩ := comp2_shape h
    obtain ⟨i1, _, i3⟩ := sndI it tg' it' g h4
    have n1 := chkI_ns h7
    refine snd_gen (m_comp2 g h0 (i1 h0) h5 i3 n1 h1 h2 h3 (fun Y eK gY => ?_)) (fun _ => rfl) (fun _ _ _ z => by cases z)
    rw [← eK]
    obtain ⟨j1, _, _⟩ := sndI it1 tg1' it1' gY h7
    exact ⟨⟨g_tgt gY tg tg' h6, sndTs ifs ifs' gY h10.2 h10.1⟩, ⟨j1 h0, g_tgt gY tg1 tg1' h8⟩, sndTs ifs1 ifs1' gY h11.2 h11.1, (sndE elt elt' gY h9).1⟩
  | .pop o as, fb, sc, W, X, e', g, h => by
    obtain ⟨o', apos, as', pos, rfl, h1, h2, h3, h4, h5⟩ := pop_shape h
    have ns := chkEs_ns h5
    have ih := sndEs as as' g h5
    match as', h3, h5, ns, ih with
    | [], _, h5, _, _ =>
      cases as with
      | nil => exact snd_gen (m_pop0 h1 h2 (sndE o o' g h4).1) (fun _ => rfl) (fun _ _ _ z => by cases z)
      | cons _ _ => simp [chkEs] at h5
    | [e], _, _, ns, ih => exact snd_gen (m_pop1 h1 h2 (by simpa using ns) (sndE o o' g h4).1 ih) (fun _ => rfl) (fun _ _ _ z => by cases z)
    | _ :: _ :: _, h3, _, _, _ => simp at h3
  | .dnew, fb, sc, W, X, e', g, h => by
    obtain ⟨pos, rfl⟩ := dnew_shape h
    exact snd_gen m_dnew (fun _ => rfl) (fun _ _ _ z => by cases z)
  | .dget d k1 a, fb, sc, W, X, e', g, h => by
    obtain ⟨o', apos, k', a', pos, rfl, h1, h2, h3, h4, h5, h6, h7⟩ := dget_shape h
    exact snd_gen (m_dget g h1 h2 h3 h4 (sndE d o' g h5).1 (sndE k1 k' g h6).1 (sndE a a' g h7).1) (fun _ => rfl) (fun _ _ _ z => by cases z)
  | .dsa d k1 a, fb, sc, W, X, e', g, h => by
    obtain ⟨o', apos, k', lp, pos, apos2, a', pos2, rfl, h1, h2, h3, h4, h5, h6, h7, h8⟩ := dsa_shape h
    exact snd_gen (m_dsa g h1 h2 h3 h4 h5 (sndE d o' g h6).1 (sndE k1 k' g h7).1 (sndE a a' g h8).1) (fun _ => rfl) (fun _ _ _ z => by cases z)
  | .lrg tu m (.rng1 a), fb, sc, W, X, e', g, h => by
    obtain ⟨x, p, r, pos, rfl, h1, h2, h3, h4⟩ := lrg_shape h
    unfold chkR at h4
    split at h4
    · rename_i y p2 a' pos2
      simp only [Bool.and_eq_true, beq_iff_eq] at h4
      obtain ⟨⟨⟨k1, k2⟩, k3⟩, k4⟩ := h4
      exact snd_gen (m_lrg1 (tu := tu) (m := m) g h1 h2 h3 k1 k2 k4 (sndE a a' g k3).1) (fun _ => rfl) (fun _ _ _ z => by cases z)
    · cases h4
  | .lrg tu m (.rng2 a b), fb, sc, W, X, e', g, h => by
    obtain ⟨x, p, r, pos, rfl, h1, h2, h3, h4⟩ := lrg_shape h
    unfold chkR at h4
    split at h4
    · rename_i y p2 a' b' pos2
      simp only [Bool.and_eq_true, beq_iff_eq] at h4
      obtain ⟨⟨⟨⟨⟨k1, k2⟩, k3⟩, k4⟩, k5⟩, k6⟩ := h4
      exact snd_gen (m_lrg2 (tu := tu) (m := m) g h1 h2 h3 k1 k2 k4 k6 (sndE a a' g k3).1 (sndE b b' g k5).1) (fun _ => rfl) (fun _ _ _ z => by cases z)
    · cases h4
  | .lrg tu m (.rng3 a b c), fb, sc, W, X, e', g, h => by
    obtain ⟨x, p, r, pos, rfl, h1, h2, h3, h4⟩ := lrg_shape h
    unfold chkR at h4
    cases h4
  | .lrg tu m (.of a), fb, sc, W, X, e', g, h => by
    obtain ⟨x, p, r, pos, rfl, h1, h2, h3, h4⟩ := lrg_shape h
    unfold chkR at h4
    cases h4
  | .lrg tu m (.zip2 a b), fb, sc, W, X, e', g, h => by
    obtain ⟨x, p, r, pos, rfl, h1, h2, h3, h4⟩ := lrg_shape h
    unfold chkR at h4
    cases h4
  | .lrg tu m (.enum a), fb, sc, W, X, e', g, h => by
    obtain ⟨x, p, r, pos, rfl, h1, h2, h3, h4⟩ := lrg_shape h
    unfold chkR at h4
    cases h4
  | .rev m a, fb, sc, W, X, e', g, h => by
    obtain ⟨a', k1, p1, p2, p3, pos, rfl, h⟩ := rev_shape h
    exact snd_gen (m_rev (sndE a a' g h).1) (fun _ => rfl) (fun _ _ _ z => by cases z)
  | .join o a, fb, sc, W, X, e', g, h => by
    cases e' with
    | Call f es' kws pos =>
      obtain ⟨o', m, apos, a', rfl, rfl, rfl, h⟩ := join_shape h
      have h : ((m == ("join" : Str)) && (apos.endLine == pos.line) && notCall o' && notStar a' && chkE S N fb sc o o' && chkE S N fb sc a a') = true := h
      simp only [Bool.and_eq_true] at h
      obtain ⟨⟨⟨⟨⟨h1, h2⟩, h3⟩, h4⟩, h5⟩, h6⟩ := h
      have e : m = "join" := by simpa using h1
      subst e
      exact snd_gen (m_join h2 h3 h4 (sndE o o' g h5).1 (sndE a a' g h6).1) (fun _ => rfl) (fun _ _ _ z => by cases z)
    | _ => cases h
theorem sndEs : ∀ (es : IEs) {fb : Md} {sc : Scope} {W : WX} {X : Cx} (es' : List Expr), GX S G k C N sc fb W X → chkEs S N fb sc es es' = true → MA X G W (denEs (C) es) es'
  | .nil, fb, sc, W, X, es', g, h => by
    simp only [chkEs, List.isEmpty_iff] at h
    subst h
    exact ma_nil
  | .cons e es, fb, sc, W, X, es', g, h => by
    cases es' with
    | nil => simp [chkEs] at h
    | cons e' es' =>
      simp only [chkEs, Bool.and_eq_true] at h
      exact ma_cons h.1.2 (sndE e e' g h.1.1).1 (sndEs es es' g h.2)
theorem sndTs : ∀ (es : IEs) {fb : Md} {sc : Scope} {W : WX} {X : Cx} (es' : List Expr), GX S G k C N sc fb W X → es'.length ≤ 1 → chkEs S N fb sc es es' = true → PTs X es' (tT X.K G W (denTs C es))
  | .nil, fb, sc, W, X, es', g, hl, h => by
    simp only [chkEs, List.isEmpty_iff] at h
    subst h
    exact pts_of0
  | .cons e es, fb, sc, W, X, es', g, hl, h => by
    cases es' with
    | nil => simp [chkEs] at h
    | cons e' r =>
      cases r with
      | cons _ _ => simp at hl
      | nil =>
        simp only [chkEs, Bool.and_eq_true] at h
        have m := (sndE e e' g h.1.1).2.1
        cases es with
        | nil => exact pts_of1 m
        | cons _ _ => simp [chkEs] at h
theorem sndO : ∀ (es : IEs) {fb : Md} {sc : Scope} {W : WX} {X : Cx} (e' : Option Expr), GX S G k C N sc fb W X → chkEs S N fb sc es e'.toList = true → PO X e' (tO X.K G W (denEs (C) es))
  | .nil, fb, sc, W, X, e', g, h => by
    cases e' with
    | none => exact mo_nil
    | some _ => simp [chkEs] at h
  | .cons e es, fb, sc, W, X, e', g, h => by
    cases e' with
    | none => simp [chkEs] at h
    | some e' =>
      cases es with
      | nil =>
        simp only [chkEs, Option.toList, Bool.and_eq_true] at h
        exact mo_one (sndE e e' g h.1.1).1
      | cons _ _ => simp [chkEs] at h
theorem sndI : ∀ (it : II) {fb : Md} {sc : Scope} {W : WX} {X : Cx} (tg e' : Expr), GX S G k C N sc fb W X → chkI S N fb sc it tg e' = true → (fb.calm = true → MI X G W (denI C it) tg e') ∧ (fb.calm = false → MIH X G W (denI C it) tg e') ∧ notSet e' = true
  | .of a, fb, sc, W, X, tg, e', g, h => by
    have h : (chkE S N fb sc a e' && notSet e') = true := h
    simp only [Bool.and_eq_true] at h
    exact ⟨fun _ => i_of (sndE a e' g h.1).1, fun _ => i_ofH (sndE a e' g h.1).1, h.2⟩
  | .rng1 a, fb, sc, W, X, tg, e', g, h => by
    unfold chkI at h
    split at h
    · rename_i x p a' pos
      simp only [Bool.and_eq_true, beq_iff_eq] at h
      obtain ⟨⟨⟨⟨h0, h1⟩, h2⟩, h3⟩, h4⟩ := h
      exact ⟨fun _ => i_rng1 g h1 h2 h4 (sndE a a' g h3).1, fun z => (by rw [z] at h0; cases h0), rfl⟩
    · cases h
  | .rng2 a b, fb, sc, W, X, tg, e', g, h => by
    unfold chkI at h
    split at h
    · rename_i x p a' b' pos
      simp only [Bool.and_eq_true, beq_iff_eq] at h
      obtain ⟨⟨⟨⟨⟨⟨h0, h1⟩, h2⟩, h3⟩, h4⟩, h5⟩, h6⟩ := h
      exact ⟨fun _ => i_rng2 g h1 h2 h4 h6 (sndE a a' g h3).1 (sndE b b' g h5).1, fun z => (by rw [z] at h0; cases h0), rfl⟩
    · cases h
  | .rng3 a b c, fb, sc, W, X, tg, e', g, h => by
    unfold chkI at h
    split at h
    · rename_i x p a' b' c' pos
      simp only [Bool.and_eq_true, beq_iff_eq] at h
      obtain ⟨⟨⟨⟨⟨⟨⟨⟨h0, h1⟩, h2⟩, h3⟩, h4⟩, h5⟩, h6⟩, h7⟩, h8⟩ := h
      exact ⟨fun _ => i_rng3 g h1 h2 h4 h6 h8 (sndE a a' g h3).1 (sndE b b' g h5).1 (sndE c c' g h7).1, fun z => (by rw [z] at h0; cases h0), rfl⟩
    · cases h
  | .zip2 a b, fb, sc, W, X, tg, e', g, h => by
    unfold chkI at h
    split at h
    · rename_i x p a' b' pos
      simp only [Bool.and_eq_true, beq_iff_eq] at h
      obtain ⟨⟨⟨⟨⟨⟨h0, h1⟩, h2⟩, h3⟩, h4⟩, h5⟩, h6⟩ := h
      exact ⟨fun _ => i_zip2 g h1 h2 h4 h6 (sndE a a' g h3).1 (sndE b b' g h5).1, fun z => (by rw [z] at h0; cases h0), rfl⟩
    · cases h
  | .enum a, fb, sc, W, X, tg, e', g, h => by
    unfold chkI at h
    split at h
    · rename_i x p a' pos
      simp only [Bool.and_eq_true, beq_iff_eq] at h
      obtain ⟨⟨⟨⟨h0, h1⟩, h2⟩, h3⟩, h4⟩ := h
      exact ⟨fun _ => i_enum g h1 h2 h4 (sndE a a' g h3).1, fun z => (by rw [z] at h0; cases h0), rfl⟩
    · cases h
end
end
end Mini

set_option maxHeartbeats 4000000
/-! Mini, part J: statements of the text. -/
namespace Mini
open PySem PySem.Spec PyProof.Rows L2 LamX

/-- several stores, the last first -/
def setsV (σ : L2.St) : List (Nat × V) → L2.St
  | [] => σ
  | (i, v) :: r => setsV (σ.set i (some v)) r
theorem stores_ok {X : Cx} (hN : X.N.Nodup) {pins : List (Addr × Obj)} {H : Hp} {Q : Unit → Shared → Prop} {E : Value → Shared → Prop} : ∀ (ys : List (Nat × Str)) (vs : List V) (us : List Value) {σ : L2.St} {s : Shared}, Inv X pins σ H s → (∀ p ∈ ys, X.N[p.1]? = some p.2 ∧ X.env.scope.names.lookup p.2 = some .local) →
    Vals vs us → ys.length = vs.length → (∀ s', Inv X pins (setsV σ ((ys.map (·.1)).zip vs)) H s' → Q () s') → wpAny (model X.prog X.w) X.A (assignInOrder (ys.map fun p => fun v => bindName X.env p.2 v) us) Q E s
  | [], vs, us, σ, s, I, _, r, hl, q => by
    cases vs with
    | nil => cases r; exact assignInOrder_nil (q s I)
    | cons _ _ => simp at hl
  | (i, x) :: ys, vs, us, σ, s, I, hp, r, hl, q => by
    cases vs with
    | nil => simp at hl
    | cons v vs =>
      cases r with
      | cons r1 rr =>
        obtain ⟨h1, h2⟩ := hp (i, x) List.mem_cons_self
        refine assignInOrder_cons (wpAny_bindName (store_ok I hN h1 (.inl h2) r1 (fun s2 I2 => ?_) (.inr h2)))
        exact stores_ok hN ys vs _ I2 (fun p hp' => hp p (List.mem_cons_of_mem _ hp')) rr (by simpa using hl) q
theorem vals_app : ∀ {a b : List V} {c d : List Value}, Vals a c → Vals b d → Vals (a ++ b) (c ++ d)
  | [], _, _, _, h, g => by cases h; exact g
  | _ :: _, _, _, _, h, g => by
    cases h with
    | cons r rr => exact .cons r (vals_app rr g)
theorem vals_rev : ∀ {a : List V} {c : List Value}, Vals a c → Vals a.reverse c.reverse
  | [], _, h => by cases h; exact .nil
  | _ :: _, _, h => by
    cases h with
    | cons r rr =>
      rw [List.reverse_cons, List.reverse_cons]
      exact vals_app (vals_rev rr) (.cons r .nil)
def tParN (is : List Nat) (ta : TA) : TS := fun D σ H => ta σ H fun vs H1 => vs.length = is.length ∧ vs.length ≤ sizeLine ∧ D.nx (setsV σ (is.reverse.zip vs.reverse)) H1
theorem ps_parN {X : Cx} {ys : List (Nat × Str)} {ts vs : List Expr} {ta : TA} {pos pt : Pos} {kt k2 : Nat} {pt2 : Pos} (hc : X.calm = true) (hN : X.N.Nodup) (hys : ∀ p ∈ ys, X.N[p.1]? = some p.2 ∧ X.env.scope.names.lookup p.2 = some .local) (ha : PA X vs ta)
    (hw : swappedStores [.Tuple ts kt pt] (.Tuple vs k2 pt2) X.env = pure (some (ys.map (·.2)))) :
    PS X (.Assign [.Tuple ts kt pt] (.Tuple vs k2 pt2) pos) (tParN (ys.map (·.1)) ta) := by
  refine ⟨fun pins s σ H D I h => ?_⟩
  rw [exec_Assign_arm]
  refine wpAny_bind (wpAny_standAt ?_)
  rw [show swapsWithSole [.Tuple ts kt pt] (.Tuple vs k2 pt2) pos.line X.env = pure false from rfl]
  refine wpAny_bind (wpAny_pure ?_)
  rw [if_neg (by decide)]
  refine wpAny_bind (Tuple_ (thn (ha.run _ pins s σ H _ I h) fun us s1 ⟨vs', H1, I1, r1, hl, hz, q1⟩ => ?_))
  have ul : us.length = vs'.length := r1.length.symm
  refine wpAny_newObj_type ?_ (by show us.toArray.size ≤ sizeLine; simp [ul]; exact hz)
  have I2 : Inv X pins σ H1 { s1 with heap := s1.heap.push { cls := .type "tuple", data := .seq us.toArray } } := I1.kept (t' := s1.toks) fun b o e => Heap.get?_push_of_some _ e
  rw [hw]
  refine wpAny_bind (wpAny_pure ?_)
  have el : (ys.map (·.2)).length = us.toArray.size := by
    rw [List.length_map] at hl
    simp [ul, hl]
  unfold assignStores
  dsimp only
  rw [el]
  have I3 : ∀ h', Heap.ExtBut (s1.heap.push { cls := .type "tuple", data := .seq us.toArray }).objs.size (s1.heap.push { cls := .type "tuple", data := .seq us.toArray }) h' → Inv X pins σ H1 { s1 with heap := h' } := fun h' hx' =>
    I2.kept (h' := h') (t' := s1.toks) fun b o e => hx' b o (Nat.ne_of_lt (Heap.lt_size e)) e
  have em : ((ys.map (·.2)).reverse.map fun n => bindName X.env n) = (ys.reverse.map fun p => fun v => bindName X.env p.2 v) := by
    rw [← List.map_reverse, List.map_map]
    rfl
  rw [em]
  have rv : Vals vs'.reverse us.reverse := vals_rev r1
  have z : ∀ h', Inv X pins σ H1 { s1 with heap := h' } → wpAny (model X.prog X.w) X.A (assignInOrder (ys.reverse.map fun p => fun v => bindName X.env p.2 v) us.reverse) (fun _ s' => SP X pins D .next s') X.xe { s1 with heap := h' } := fun h' J =>
    stores_ok hN ys.reverse vs'.reverse us.reverse J (fun p hp => hys p (List.mem_reverse.mp hp)) rv (by simp only [List.length_reverse]; rw [hl, List.length_map]) (fun s3 I4 => by
      rw [List.map_reverse] at I4
      exact ⟨_, H1, I4, q1⟩)
  refine wpAny_bind (wpAny_rule (wpAny_bind (unpackItems_tuple (items := us.toArray) (I.ok.hd hc) (IsTup.new s1.heap _) fun h' hx' => ?_)))
  refine wpAny_bind (wpAny_mono (z h' (I3 h' hx')) (fun _ s' q => ?_) fun _ _ q => q)
  exact wpAny_pure q
theorem sets_sr {K : PySem.W.Frag} {G : En} {α β : List Addr} {H : Hp} : ∀ (is : List Nat) (us : List U) (vs : List V) {ρ : Slots} {σ : L2.St}, SR K G α β H ρ σ → VRs K G α β H us vs → SR K G α β H (setsU ρ (is.zip us)) (setsV σ (is.zip vs))
  | [], _, _, _, _, h, _ => h
  | _ :: _, [], vs, _, _, h, r => by
    cases r
    exact h
  | i :: is, u :: us, vs, _, _, h, r => by
    obtain ⟨v, vr, rfl, r1, r2⟩ := r
    exact sets_sr is us vr (h.set r1 i) r2
section
variable {S : Sg} {G : En} {k : Nat} {C : Orc} {N : List Str} {sc : Scope} {fb : Md} {W : WX} {X : Cx} {K : PySem.W.Frag}
theorem m_setLc {m : Bool} {own : List Nat} {t : IT} {di : Slots → Mem → R (Srcs × List U)} {dt : Slots → Mem → R Bool} {de : Slots → Mem → R U} {elt tg it : Expr} {ifs : List Expr} {scope : Scope} {pos spos : Pos} {i : Nat} {y : Str} {py : Pos} (g : GX S G k C N sc fb W X)
    (hy : N[i]? = some y) (hl : lcSet sc y py (.ListComp elt [⟨tg, it, ifs, 0⟩] scope pos) = true) (hi : fb.calm = true → MI X G W di tg it) (hiH : fb.calm = false → MIH X G W di tg it) (ok : blkC N sc scope (ownOf N own) = true) (hset : notSet it = true) (hown : ∀ i ∈ tgS t, i ∈ own)
    (parts : Parts S G k C N sc fb X.K scope t dt de tg elt ifs) :
    MS X G W (fun ρ μ => (compD m own t di dt de ρ μ).bind fun u μ1 => stored (setT (.name i) u μ1 ρ) μ1) (.Assign [.Name y py] (.ListComp elt [⟨tg, it, ifs, 0⟩] scope pos) spos) := by
  have hl : (decide (sc.names.lookup y = some .local) && (py.line == pos.line) && !(scope.names.any fun (n, k) => n == y && (k == .local || k == .cell))) = true := hl
  simp only [Bool.and_eq_true, decide_eq_true_eq, Bool.not_eq_true'] at hl
  obtain ⟨⟨h1, h2⟩, h3⟩ := hl
  have hyl : X.env.scope.names.lookup y = some .local := by rw [g.hs]; exact h1
  have hk : X.env.scope.kind = .function := by rw [g.hs]; exact g.kd
  have hyN : X.N[i]? = some y := by rw [g.hN]; exact hy
  have ok' : BlkOk X.N X.env.scope scope (ownOf N own) := by rw [g.hN, g.hs]; exact blkOk_by ok
  have hkb := (blkOk_by ok).kind
  have core : PS X (.Assign [.Name y py] (.ListComp elt [⟨tg, it, ifs, 0⟩] scope pos) spos) (tAsg (tLc (tI X.K G W di) (gM X.K G t) (tT X.K G WF dt) (tE X.K G WF de) ((ownOf N own).map (·.2))) (gName i)) := by
    cases hc : fb.calm with
    | true =>
      have q := fun s H D cl fp => parts (X.blk s H scope (compEnvC scope cl D X.env) fp) rfl (g.blk hc s H scope hkb D cl fp)
      exact ps_setLc (g.calm hc).1 g.nd hyN hyl (sw_true hk hyl h2 h3) (hi hc) ok' (fun s H D cl fp => (q s H D cl fp).1) (fun s H D cl fp => (q s H D cl fp).2.1) (fun s H D cl fp => (q s H D cl fp).2.2) (fold_set hset)
    | false =>
      obtain ⟨p, c, hh⟩ := g.hot hc
      exact MiniHot.ps_setLcH hh.hot hh.pn g.nd hyN hyl (sw_true hk hyl h2 h3) (hiH hc) ok' (fun s H D cl fp => parts (MiniHot.blkH X p s H scope (compEnvC scope cl D X.env) fp) rfl (g.blkH hc hh s H scope hkb D cl fp)) (fold_set hset)
  refine ps_imp core fun D σ H h => ?_
  have h2 := set_read h
  refine lc_reading (m := m) hown σ H _ ?_
  obtain ⟨ρ, μ, α, β, hs, hm, q⟩ := h2
  refine ⟨ρ, μ, α, β, hs, hm, PostG.mono q fun u μ1 α1 H1 hm1 e1 q1 v rv => ?_⟩
  obtain ⟨u', ρ1, μ', α', β', ρ', hm', hs', rv', e', q'⟩ := q1 v rv
  cases e'
  exact q' _ (hs'.set rv' i) fun vs hv => wipe_set (hv i (List.mem_singleton.mpr rfl))
theorem m_setLc2 {m : Bool} {own own1 : List Nat} {t t1 : IT} {di di1 : Slots → Mem → R (Srcs × List U)} {dt dt1 : Slots → Mem → R Bool} {de : Slots → Mem → R U} {elt tg it tg1 it1 : Expr} {ifs ifs1 : List Expr} {scope : Scope} {pos spos : Pos} {i : Nat} {y : Str} {py : Pos} (g : GX S G k C N sc fb W X)
    (hy : N[i]? = some y) (hl : lcSet sc y py (.ListComp elt [⟨tg, it, ifs, 0⟩, ⟨tg1, it1, ifs1, 0⟩] scope pos) = true) (hc : fb.calm = true) (hi : MI X G W di tg it) (ok : blkC N sc scope (ownOf N own) = true) (hset : notSet it = true) (hset1 : notSet it1 = true) (hown : ∀ i ∈ tgS t, i ∈ own) (hown1 : ∀ i ∈ tgS t1, i ∈ own1) (hsub : ∀ i ∈ own1, i ∈ own)
    (parts : Parts2 S G k C N sc fb X.K scope t t1 dt di1 dt1 de tg tg1 it1 elt ifs ifs1) :
    MS X G W (fun ρ μ => (compD2 m own own1 t t1 di dt di1 dt1 de ρ μ).bind fun u μ1 => stored (setT (.name i) u μ1 ρ) μ1) (.Assign [.Name y py] (.ListComp elt [⟨tg, it, ifs, 0⟩, ⟨tg1, it1, ifs1, 0⟩] scope pos) spos) := by
  have hl : (decide (sc.names.lookup y = some .local) && (py.line == pos.line) && !(scope.names.any fun (n, k) => n == y && (k == .local || k == .cell))) = true := hl
  simp only [Bool.and_eq_true, decide_eq_true_eq, Bool.not_eq_true'] at hl
  obtain ⟨⟨h1, h2⟩, h3⟩ := hl
  have hyl : X.env.scope.names.lookup y = some .local := by rw [g.hs]; exact h1
  have hk : X.env.scope.kind = .function := by rw [g.hs]; exact g.kd
  have hyN : X.N[i]? = some y := by rw [g.hN]; exact hy
  have ok' : BlkOk X.N X.env.scope scope (ownOf N own) := by rw [g.hN, g.hs]; exact blkOk_by ok
  have hkb := (blkOk_by ok).kind
  have q := fun s H D cl fp => parts (X.blk s H scope (compEnvC scope cl D X.env) fp) rfl (g.blk hc s H scope hkb D cl fp)
  have core := ps_setLc2 (spos := spos) (g.calm hc).1 g.nd hyN hyl (sw_true hk hyl h2 h3) hi ok' (by rw [own_map]; exact hsub) (fun s H D cl fp => (q s H D cl fp).1.1) (fun s H D cl fp => (q s H D cl fp).1.2) (fun s H D cl fp => (q s H D cl fp).2.1.1) (fun s H D cl fp => (q s H D cl fp).2.1.2)
    (fun s H D cl fp => (q s H D cl fp).2.2.1) (fun s H D cl fp => (q s H D cl fp).2.2.2) (fold_set hset) (fun env => fold_set hset1)
  refine ps_imp core fun D σ H h => ?_
  have h2 := set_read h
  refine lc2_reading (m := m) hown hown1 σ H _ ?_
  obtain ⟨ρ, μ, α, β, hs, hm, q⟩ := h2
  refine ⟨ρ, μ, α, β, hs, hm, PostG.mono q fun u μ1 α1 H1 hm1 e1 q1 v rv => ?_⟩
  obtain ⟨u', ρ1, μ', α', β', ρ', hm', hs', rv', e', q'⟩ := q1 v rv
  cases e'
  exact q' _ (hs'.set rv' i) fun vs hv => wipe_set (hv i (List.mem_singleton.mpr rfl))
theorem swapped_two {x y : Str} {px py pt pt2 : Pos} {kt k2 : Nat} {a b : Expr} {env : Env} (hk : env.scope.kind = .function) (hx : env.scope.names.lookup x = some .local) (hy : env.scope.names.lookup y = some .local) (hl : (px.line == py.line) = true) (hxy : x ≠ y)
    (h1 : (([a, b] : List Expr).all (foldedForSure 8)) = false) (h2 : (([a, b] : List Expr).all (constantsAlone 8)) = false) (ha : notStar a = true) (hb : notStar b = true) :
    swappedStores [.Tuple [.Name x px, .Name y py] kt pt] (.Tuple [a, b] k2 pt2) env = pure (some [x, y]) := by
  have kx : env.kindOf x = some .local := hx
  have ky : env.kindOf y = some .local := hy
  have hb' : env.blockKind = .function := by unfold Env.blockKind; rw [hk]; rfl
  have hxy' : (y == x) = false := by simpa using fun e => hxy e.symm
  have hl' : (py.line == px.line) = true := by
    rw [beq_iff_eq] at hl ⊢
    exact hl.symm
  unfold swappedStores
  simp only [List.length_cons, List.length_nil, List.head?_cons, List.filterMap_cons, List.filterMap_nil, Expr.pos, Option.map_some, Option.getD_some, kx, ky, hb', hl', h1, h2, List.any_cons, List.any_nil, beq_self_eq_true, Bool.and_true, Bool.and_self, if_true]
  rw [if_neg (by decide), if_neg ?_, if_neg ?_, if_neg Bool.false_ne_true, if_neg Bool.false_ne_true]
  · have e : [x, y].eraseDups = [x, y] := by
      simp [List.eraseDups_cons, hxy']
    rw [e]
    simp
  · intro h
    simp only [Bool.or_eq_true] at h
    rcases h with h | h | h
    · split at h
      · exact absurd ha (by simp [notStar])
      · cases h
    · split at h
      · exact absurd hb (by simp [notStar])
      · cases h
    · cases h
theorem sw_none {ts vs : List Expr} {kt k2 : Nat} {pt p2 : Pos} {env : Env} (hk : env.scope.kind = .function) (h : swNone env.scope (.Tuple ts kt pt) (.Tuple vs k2 p2) = true) : swappedStores [.Tuple ts kt pt] (.Tuple vs k2 p2) env = pure none := by
  have hb : (env.blockKind != .function) = false := by
    have z : env.blockKind = .function := by unfold Env.blockKind; rw [hk]; rfl
    rw [z]; rfl
  unfold swappedStores
  dsimp only
  unfold swNone at h
  dsimp only at h
  rw [hb, Bool.or_false]
  split
  · rfl
  · rename_i n1
    split
    · rfl
    · rename_i n2
      split
      · rfl
      · rename_i n3
        split
        · rfl
        · rename_i n4
          exfalso
          rcases Bool.or_eq_true_iff.mp h with h | h
          · exact n1 h
          · rcases Bool.or_eq_true_iff.mp h with h | h
            · exact n2 h
            · rcases Bool.or_eq_true_iff.mp h with h | h
              · exact n3 h
              · exact n4 h
theorem sw_some {ts vs : List Expr} {kt k2 : Nat} {pt p2 : Pos} {env : Env} {names : List Str} (hk : env.scope.kind = .function) (h : swSome env.scope ts vs = some names) : swappedStores [.Tuple ts kt pt] (.Tuple vs k2 p2) env = pure (some names) := by
  have hb : (env.blockKind != .function) = false := by
    have z : env.blockKind = .function := by unfold Env.blockKind; rw [hk]; rfl
    rw [z]; rfl
  unfold swappedStores
  dsimp only
  unfold swSome at h
  dsimp only at h
  rw [hb, Bool.or_false]
  split at h
  · cases h
  · rename_i n1
    rw [if_neg n1]
    split at h
    · cases h
    · rename_i n2
      split at h
      · cases h
      · rename_i n3
        split at h
        · cases h
        · rename_i n4
          split at h
          · cases h
          · rename_i n5
            cases h
            split
            · rename_i m2
              exact absurd m2 n2
            · split
              · rename_i m3
                exact absurd m3 n3
              · first
                | rfl
                | (rw [if_neg n4, if_neg n5]; rfl)
theorem ms_bad {st : Stmt} : MS X G W (fun _ _ => .bad) st := ⟨fun pins s σ H D I ⟨ρ, μ, α, β, hs, hm, q⟩ => q.elim⟩
theorem m_put {ds : Slots → Mem → R (List U)} {dp : List U → Slots → Mem → R Slots} {ts vs : List Expr} {kt k2 : Nat} {pt p2 pos : Pos} (g : GX S G k C N sc fb W X) (hc : fb.calm = true) (hp : MP X G W dp ts) (ha : MA X G W ds vs) {n : Nat} (hl : n = ts.length) (hst : ts.all notStar = true) (hw : swNone sc (.Tuple ts kt pt) (.Tuple vs k2 p2) = true) :
    MS X G W (fun ρ μ => (ds ρ μ).bind fun us μ1 => if us.length = n ∧ us.length ≤ bigL then (dp us ρ μ1).bind fun ρ1 μ2 => .ok (.next ρ1) μ2 else .bad) (.Assign [.Tuple ts kt pt] (.Tuple vs k2 p2) pos) := by
  obtain ⟨l3, l4⟩ := each_len (env := X.env) hst
  refine ps_imp (ps_asg (pe_tup ha) (pg_tup (g.calm hc).1 hp l3 l4) (sole_none rfl) (sw_none (by rw [g.hs]; exact g.kd) (by rw [g.hs]; exact hw)) rfl) fun D σ H ⟨ρ, μ, α, β, hs, hm, q⟩ => ?_
  refine ⟨ρ, μ, α, β, hs, hm, PostG.mono (PostG.bind q) fun us μ1 α1 H1 hm1 e1 q1 xs rx => ?_⟩
  by_cases hz : us.length = n ∧ us.length ≤ bigL
  · rw [if_pos hz] at q1
    refine ⟨by rw [← rx.len, sizeLine_eq]; exact hz.2, fun p hp => ?_⟩
    have e2 : Ext α1 H1 α1 (upd H1 p (.tup xs)) := Ext.new hp
    refine ⟨p, xs, rfl, .inl (.inl upd_same), by rw [← rx.len, hz.1, hl], us, ρ, μ1, α1, β, hm1.new hp, (hs.mono e1).mono e2, rx.mono e2, PostG.rebase e2 (PostG.mono (PostG.bind q1) fun ρ1 μ2 α2 H2 hm2 e3 q2 σ' hs' => PostG.ok hm2 q2 σ' hs')⟩
  · rw [if_neg hz] at q1
    exact q1.elim
theorem m_parN {ds : Slots → Mem → R (List U)} {is : List Nat} {names : List Str} {ts vs : List Expr} {kt k2 : Nat} {pt p2 pos : Pos} (g : GX S G k C N sc fb W X) (hc : fb.calm = true) (hw : swSome sc ts vs = some names) (hi : is.map (fun i => N[i]?) = names.map some) (hl : ∀ x ∈ names, sc.names.lookup x = some .local) (ha : MA X G W ds vs) :
    MS X G W (fun ρ μ => (ds ρ μ).bind fun us μ1 => if us.length = is.length ∧ us.length ≤ bigL then .ok (.next (setsU ρ (is.reverse.zip us.reverse))) μ1 else .bad) (.Assign [.Tuple ts kt pt] (.Tuple vs k2 p2) pos) := by
  have hlen : is.length = names.length := by simpa using congrArg List.length hi
  have e1 : (is.zip names).map (·.1) = is := List.map_fst_zip (by omega)
  have e2 : (is.zip names).map (·.2) = names := List.map_snd_zip (by omega)
  have hk : X.env.scope.kind = .function := by rw [g.hs]; exact g.kd
  have hys : ∀ p ∈ is.zip names, X.N[p.1]? = some p.2 ∧ X.env.scope.names.lookup p.2 = some .local := fun p hp => by
    obtain ⟨n, hn⟩ := List.getElem?_of_mem hp
    obtain ⟨q1, q2⟩ := List.getElem?_zip_eq_some.mp hn
    have z := congrArg (fun l => l[n]?) hi
    simp only [List.getElem?_map, q1, q2, Option.map_some] at z
    rw [g.hN, g.hs]
    exact ⟨Option.some.inj z, hl _ (List.mem_of_getElem? q2)⟩
  have core := ps_parN (kt := kt) (k2 := k2) (pt := pt) (pt2 := p2) (pos := pos) (g.calm hc).1 g.nd hys ha (by rw [e2]; exact sw_some hk (by rw [g.hs]; exact hw))
  rw [e1] at core
  refine ps_imp core fun D σ H ⟨ρ, μ, α, β, hs, hm, q⟩ => ?_
  refine ⟨ρ, μ, α, β, hs, hm, PostG.mono (PostG.bind q) fun us μ1 α1 H1 hm1 e1 q1 vs' rv => ?_⟩
  by_cases hz : us.length = is.length ∧ us.length ≤ bigL
  · rw [if_pos hz] at q1
    refine ⟨by rw [← rv.len]; exact hz.1, by rw [← rv.len, sizeLine_eq]; exact hz.2, ?_⟩
    exact PostG.ok hm1 q1 _ (sets_sr _ _ _ (hs.mono e1) (vrs_rev rv))
  · rw [if_neg hz] at q1
    exact q1.elim
theorem m_par {da db : Slots → Mem → R U} {i j : Nat} {x y : Str} {px py pt pt2 : Pos} {kt k2 : Nat} {a b : Expr} {pos : Pos} (g : GX S G k C N sc fb W X) (hc : fb.calm = true) (hi : N[i]? = some x) (hj : N[j]? = some y) (hij : i ≠ j)
    (hx : sc.names.lookup x = some .local) (hy : sc.names.lookup y = some .local) (hl : (px.line == py.line) = true) (h1 : (([a, b] : List Expr).all (foldedForSure 8)) = false) (h2 : (([a, b] : List Expr).all (constantsAlone 8)) = false)
    (hna : notStar a = true) (hnb : notStar b = true) (ha : ME X G W da a) (hb : ME X G W db b) :
    MS X G W (fun ρ μ => (da ρ μ).bind fun u μ1 => (db ρ μ1).bind fun v μ2 => .ok (.next ((ρ.set i (some u)).set j (some v))) μ2) (.Assign [.Tuple [.Name x px, .Name y py] kt pt] (.Tuple [a, b] k2 pt2) pos) := by
  have hxy : x ≠ y := fun e => hij (nodup_ix (by rw [← g.hN]; exact g.nd) hi (by rw [e]; exact hj))
  have hk : X.env.scope.kind = .function := by rw [g.hs]; exact g.kd
  have hx' : X.env.scope.names.lookup x = some .local := by rw [g.hs]; exact hx
  have hy' : X.env.scope.names.lookup y = some .local := by rw [g.hs]; exact hy
  refine ps_imp (ps_par (g.calm hc).1 g.nd (by rw [g.hN]; exact hi) (by rw [g.hN]; exact hj) hij hx' hy' (pa_cons ha (pa_cons hb pa_nil (star_cons hnb)) (star_cons hna)) (swapped_two hk hx' hy' hl hxy h1 h2 hna hnb) rfl) fun D σ H ⟨ρ, μ, α, β, hs, hm, q⟩ => ?_
  refine ⟨ρ, μ, α, β, hs, hm, PostG.mono (PostG.bind q) fun u μ1 α1 H1 hm1 e1 q1 v rv => ?_⟩
  refine ⟨ρ, μ1, α1, β, hs.mono e1, hm1, PostG.mono (PostG.bind q1) fun w μ2 α2 H2 hm2 e2 q2 z rz => ?_⟩
  exact ⟨v, z, rfl, PostG.ok hm2 q2 _ ((((hs.mono e1).mono e2).set (rv.mono e2) i).set rz j)⟩
theorem m_aug {d : Slots → Mem → R U} {i : Nat} {x : Str} {op : Operator} {e : Expr} {p pos : Pos} (g : GX S G k C N sc fb W X) (hi : N[i]? = some x) (hx : locB fb sc x = true) (ho : augOk op = true) (he : ME X G W d e) :
    MS X G W (fun ρ μ => match ρ[i]? with
      | some (some u) => (d ρ μ).bind fun v μ1 => match u, v with
        | .int x, .int y => (binD false op (.int x) (.int y) μ1).bind fun z μ2 => .ok (.next (ρ.set i (some z))) μ2
        | _, _ => .bad
      | _ => .bad) (.AugAssign (.Name x p) op e pos) := by
  obtain ⟨l1, l2⟩ := loc_of g hx
  have main : ∀ (f : Int → Int → Int) (hf : ∀ i j μ, binD false op (.int i) (.int j) μ = .ok (.int (f i j)) μ) (ip : PIp X op (ipI f)), MS X G W (fun ρ μ => match ρ[i]? with
      | some (some u) => (d ρ μ).bind fun v μ1 => match u, v with
        | .int x, .int y => (binD false op (.int x) (.int y) μ1).bind fun z μ2 => .ok (.next (ρ.set i (some z))) μ2
        | _, _ => .bad
      | _ => .bad) (.AugAssign (.Name x p) op e pos) := by
    intro f hf ip
    refine ps_imp (ps_aug g.nd (by rw [g.hN]; exact hi) l1 he ip l2) fun D σ H ⟨ρ, μ, α, β, hs, hm, q⟩ => ?_
    cases hr : ρ[i]? with
    | none => simp only [hr] at q; exact q.elim
    | some o =>
      cases o with
      | none => simp only [hr] at q; exact q.elim
      | some u =>
        simp only [hr] at q
        obtain ⟨x1, e0, r1⟩ := hs.2 i u hr
        refine ⟨x1, e0, ρ, μ, α, β, hs, hm, PostG.mono (PostG.bind q) fun v μ1 α1 H1 hm1 e1 q1 y ry => ?_⟩
        cases u with
        | int a =>
          cases v with
          | int b =>
            cases r1
            cases ry
            have q1 : PostG X.K G β W ((binD false op (.int a) (.int b) μ1).bind fun z μ2 => .ok (Fl.next (ρ.set i (some z))) μ2) α1 H1 (fun f _ α' H' => FS X.K G β D f α' H') := q1
            rw [hf] at q1
            exact ⟨a, b, rfl, rfl, PostG.ok hm1 q1 _ ((hs.mono e1).set (u := .int (f a b)) rfl i)⟩
          | _ => exact q1.elim
        | _ => cases v <;> exact q1.elim
  cases op with
  | Add => exact main (fun i j => i + j) (fun _ _ _ => rfl) ip_add
  | Sub => exact main (fun i j => i - j) (fun _ _ _ => rfl) ip_sub
  | _ => cases ho
/-! ### raise -/
theorem m_raise {c msg : Str} {e : Expr} {pos : Pos} (g : GX S G k C N sc fb W X) (hc : fb.calm = true) (h : chkRaise S sc c msg e = true) : MS X G W (fun _ μ => .exc ⟨c, none⟩ μ) (.Raise (some e) none pos) := by
  unfold chkRaise at h
  split at h
  · rename_i x p m j p2 pos'
    simp only [Bool.and_eq_true, beq_iff_eq] at h
    obtain ⟨⟨⟨rfl, h1⟩, h2⟩, h3⟩ := h
    have g1 := glo_of h1 g.hs
    have F := g.mf.ex x (by simpa using h2)
    refine ps_imp (L2N.ps_raise (g.calm hc).1 g.tk (L2N.pmk_own PySem.F.excBase_ValueError F.ex F.gl F.kp (raises_own F.sb F.ty) g1.1 (ok_debug g1.2))) fun D σ H ⟨ρ, μ, α, β, hs, hm, q⟩ => ?_
    exact q _ none σ H α ⟨rfl, (by rw [g.mf.exs]; exact List.mem_append_left _ (by simpa using h2)), rfl⟩ hm (Ext.refl _ _)
  · cases h
/-- a class with a limit -/
theorem m_raiseL {c x : Str} {d : Slots → Mem → R U} {e : Expr} {p pos pos2 : Pos} (g : GX S G k C N sc fb W X) (hc : fb.calm = true) (hx : x = c) (hg : gloB sc x = true) (hl : S.lims.contains c = true) (he : ME X G W d e) (hn : notStar e = true) :
    MS X G W (fun ρ μ => (d ρ μ).bind fun u μ1 => match u with
    | .int n => .exc ⟨c, some n⟩ μ1
    | _ => .bad) (.Raise (some (.Call (.Name x p) [e] [] pos)) none pos2) := by
  subst hx
  have g1 := glo_of hg g.hs
  have hm : x ∈ S.lims := by simpa using hl
  have L := g.ff.lim x hm
  have hx : x ∈ S.xs := List.mem_append_right _ hm
  have dp := (g.calm hc).2.2.dp
  refine ps_imp (L2N.ps_raise (g.calm hc).1 g.tk (MiniW.pmk_lim L (by omega) g1.1 (pa_cons he pa_nil (star_cons hn)) (ok_debug g1.2) (star_cons hn) rfl)) fun D σ H ⟨ρ, μ, α, β, hs, hm, q⟩ => ?_
  refine ⟨ρ, μ, α, β, hs, hm, PostG.mono (PostG.bind q) fun u μ1 α1 H1 hm1 e1 q1 y ry => ?_⟩
  refine ⟨y, rfl, fun dx hdx => ?_⟩
  cases u with
  | int n =>
    cases ry
    exact q1 _ _ σ _ α1 ⟨rfl, (by rw [g.mf.exs]; exact hx), dx, rfl, (by rw [upd_same, g.mf.fld x hx] <;> rfl)⟩ (hm1.new hdx) (Ext.new hdx)
  | _ => exact q1.elim
/-! ### the statements of a body -/
theorem raiseL_shape {c : Str} {e : IE} {st : Stmt} (h : chkS S N fb sc (.raiseL c e) st = true) : ∃ x p a' pos pos2, st = .Raise (some (.Call (.Name x p) [a'] [] pos)) none pos2 ∧ fb.calm = true ∧ x = c ∧ gloB sc x = true ∧ S.lims.contains c = true ∧ chkE S N fb sc e a' = true ∧ notStar a' = true := by
  unfold chkS at h
  split at h
  · rename_i x p a' pos pos2
    simp only [Bool.and_eq_true, beq_iff_eq] at h
    obtain ⟨⟨⟨⟨⟨h1, h2⟩, h3⟩, h4⟩, h5⟩, h6⟩ := h
    exact ⟨x, p, a', pos, pos2, rfl, h1, h2, h3, h4, h5, h6⟩
  · cases h
theorem seti_shape {o i e : IE} {st : Stmt} (h : chkS S N fb sc (.seti o i e) st = true) : ∃ o' i' p e' pos, st = .Assign [.Subscript o' i' p] e' pos ∧ chkE S N fb sc o o' = true ∧ chkE S N fb sc i i' = true ∧ chkE S N fb sc e e' = true ∧ notSlice i' = true := by
  unfold chkS at h
  split at h
  · rename_i o' i' p e' pos
    simp only [Bool.and_eq_true] at h
    exact ⟨o', i', p, e', pos, rfl, h.1.1.1, h.1.1.2, h.1.2, h.2⟩
  · cases h
theorem set_shape {t : IT} {e : IE} {st : Stmt} (h : chkS S N fb sc (.set t e) st = true) : ∃ t' e' pos, st = .Assign [t'] e' pos ∧ chkT N fb sc t t' = true ∧ chkE S N fb sc e e' = true ∧ (match t' with
      | .Name y py => isLC e' || notComp e'
      | .Tuple .. => notComp e' && (notTup e' || swNone sc t' e')
      | _ => false) = true := by
  unfold chkS at h
  split at h
  · rename_i t' e' pos
    simp only [Bool.and_eq_true] at h
    exact ⟨t', e', pos, rfl, h.1.1, h.1.2, h.2⟩
  · cases h
theorem par_shape {i j : Nat} {a b : IE} {st : Stmt} (h : chkS S N fb sc (.par i j a b) st = true) : ∃ x px y py kt pt a' b' k2 pt2 pos, st = .Assign [.Tuple [.Name x px, .Name y py] kt pt] (.Tuple [a', b'] k2 pt2) pos ∧ fb.calm = true ∧
    N[i]? = some x ∧ N[j]? = some y ∧ i ≠ j ∧ sc.names.lookup x = some .local ∧ sc.names.lookup y = some .local ∧ (px.line == py.line) = true ∧ (([a', b'] : List Expr).all (foldedForSure 8)) = false ∧ (([a', b'] : List Expr).all (constantsAlone 8)) = false ∧
    chkE S N fb sc a a' = true ∧ chkE S N fb sc b b' = true ∧ notStar a' = true ∧ notStar b' = true := by
  unfold chkS at h
  split at h
  · rename_i x px y py kt pt a' b' k2 pt2 pos
    simp only [Bool.and_eq_true, decide_eq_true_eq, Bool.not_eq_true'] at h
    obtain ⟨⟨⟨⟨⟨⟨⟨⟨⟨⟨⟨⟨h0, h1⟩, h2⟩, h3⟩, h4⟩, h5⟩, h6⟩, h7⟩, h8⟩, h9⟩, h10⟩, h11⟩, h12⟩ := h
    exact ⟨x, px, y, py, kt, pt, a', b', k2, pt2, pos, rfl, h0, h1, h2, h3, h4, h5, h6, h7, h8, h9, h10, h11, h12⟩
  · cases h
theorem parN_shape {is : List Nat} {es : IEs} {st : Stmt} (h : chkS S N fb sc (.parN is es) st = true) : ∃ ts kt pt vs k2 p2 pos names, st = .Assign [.Tuple ts kt pt] (.Tuple vs k2 p2) pos ∧ fb.calm = true ∧ swSome sc ts vs = some names ∧ is.map (fun i => N[i]?) = names.map some ∧ (∀ x ∈ names, sc.names.lookup x = some .local) ∧ chkEs S N fb sc es vs = true := by
  unfold chkS at h
  split at h
  · rename_i ts kt pt vs k2 p2 pos
    simp only [Bool.and_eq_true] at h
    obtain ⟨⟨h1, h2⟩, h3⟩ := h
    cases q : swSome sc ts vs with
    | none => rw [q] at h2; cases h2
    | some names =>
      rw [q] at h2
      simp only [Bool.and_eq_true, decide_eq_true_eq, List.all_eq_true] at h2
      exact ⟨ts, kt, pt, vs, k2, p2, pos, names, rfl, h1, q, h2.1, h2.2, h3⟩
  · cases h
theorem aug_shape {i : Nat} {op : Operator} {e : IE} {st : Stmt} (h : chkS S N fb sc (.aug i op e) st = true) : ∃ x p e' pos, st = .AugAssign (.Name x p) op e' pos ∧ N[i]? = some x ∧ locB fb sc x = true ∧ augOk op = true ∧ chkE S N fb sc e e' = true := by
  unfold chkS at h
  split at h
  · rename_i x p op' e' pos
    simp only [Bool.and_eq_true, decide_eq_true_eq] at h
    obtain ⟨⟨⟨⟨h1, h2⟩, rfl⟩, h4⟩, h5⟩ := h
    exact ⟨x, p, e', pos, rfl, h1, h2, h4, h5⟩
  · cases h
theorem put_shape {ps : IPs} {es : IEs} {st : Stmt} (h : chkS S N fb sc (.put ps es) st = true) : ∃ ts kt pt vs k2 p2 pos, st = .Assign [.Tuple ts kt pt] (.Tuple vs k2 p2) pos ∧ fb.calm = true ∧ chkPs S N fb sc ps ts = true ∧ chkEs S N fb sc es vs = true ∧ swNone sc (.Tuple ts kt pt) (.Tuple vs k2 p2) = true := by
  unfold chkS at h
  split at h
  · rename_i ts kt pt vs k2 p2 pos
    simp only [Bool.and_eq_true] at h
    exact ⟨ts, kt, pt, vs, k2, p2, pos, rfl, h.1.1.1.1, h.1.1.1.2, h.1.1.2, h.2⟩
  · cases h
theorem psLen_len : ∀ {ps : IPs} {ts : List Expr}, chkPs S N fb sc ps ts = true → psLen ps = ts.length
  | .nil, ts, h => by
    simp only [chkPs, List.isEmpty_iff] at h
    subst h
    rfl
  | .name i ps, ts, h => by
    unfold chkPs at h
    split at h
    · simp only [Bool.and_eq_true] at h
      simp [psLen, psLen_len h.2]
    · cases h
  | .sub o i ps, ts, h => by
    unfold chkPs at h
    split at h
    · simp only [Bool.and_eq_true] at h
      simp [psLen, psLen_len h.2]
    · cases h
theorem chkPs_ns : ∀ {ps : IPs} {ts : List Expr}, chkPs S N fb sc ps ts = true → ts.all notStar = true
  | .nil, ts, h => by
    simp only [chkPs, List.isEmpty_iff] at h
    subst h
    rfl
  | .name i ps, ts, h => by
    unfold chkPs at h
    split at h
    · rename_i x p es'
      simp only [Bool.and_eq_true] at h
      exact all_cons rfl (chkPs_ns h.2)
    · cases h
  | .sub o i ps, ts, h => by
    unfold chkPs at h
    split at h
    · rename_i o' i' p es'
      simp only [Bool.and_eq_true] at h
      exact all_cons rfl (chkPs_ns h.2)
    · cases h
theorem sndPs (g : GX S G k C N sc fb W X) : ∀ {ps : IPs} {ts : List Expr}, chkPs S N fb sc ps ts = true → MP X G W (denPs C ps) ts
  | .nil, ts, h => by
    simp only [chkPs, List.isEmpty_iff] at h
    subst h
    have e : denPs C .nil = fun us ρ μ => match us with
      | [] => R.ok ρ μ
      | _ => .bad := by
      funext us ρ μ
      cases us <;> rfl
    rw [e]
    exact mp_nil
  | .name i ps, ts, h => by
    unfold chkPs at h
    split at h
    · rename_i x p es'
      simp only [Bool.and_eq_true, decide_eq_true_eq] at h
      have e : denPs C (.name i ps) = fun us ρ μ => match us with
        | u :: us => denPs C ps us (ρ.set i (some u)) μ
        | [] => .bad := by
        funext us ρ μ
        cases us <;> rfl
      rw [e]
      exact mp_name g h.1.1 h.1.2 (sndPs g h.2)
    · cases h
  | .sub o i ps, ts, h => by
    unfold chkPs at h
    split at h
    · rename_i o' i' p es'
      simp only [Bool.and_eq_true] at h
      have e : denPs C (.sub o i ps) = fun us ρ μ => match us with
        | u :: us => (denE C o ρ μ).bind fun v μ1 => (denE C i ρ μ1).bind fun k μ2 => match setiD v k u μ2 with
          | some μ3 => denPs C ps us ρ μ3
          | none => .bad
        | [] => .bad := by
        funext us ρ μ
        cases us <;> rfl
      rw [e]
      exact mp_sub (sndE o o' g h.1.1.1).1 (sndE i i' g h.1.1.2).1 h.1.2 (sndPs g h.2)
    · cases h
mutual
theorem sndS (g : GX S G k C N sc fb W X) : ∀ (s : IS) (st : Stmt), chkS S N fb sc s st = true → MS X G W (denS (C) s) st
  | .set t .hole, st, h => ms_bad
  | .set t e, st, h => by
    obtain ⟨t', e', pos, rfl, h1, h2, h3⟩ := set_shape h
    have hg := g_tgt g t t' h1
    have he := (sndE e e' g h2).1
    cases t' with
    | Name y py =>
      by_cases hn : notComp e' = true
      · exact m_set he hg (sole_none hn) (by
          cases e' <;> rfl) rfl
      · have h3 : (isLC e' || notComp e') = true := h3
        rw [Bool.not_eq_true] at hn
        rw [hn, Bool.or_false] at h3
        cases hlc : lcSet sc y py e' with
        | false => exact m_set he hg (sole_lc g.hs h3 hlc) (by
            cases e' <;> rfl) rfl
        | true =>
        replace h3 := hlc
        cases t with
        | tup ts => cases h1
        | name i =>
          have h1 : (decide (N[i]? = some y) && locB fb sc y) = true := h1
          simp only [Bool.and_eq_true, decide_eq_true_eq] at h1
          cases e with
          | comp m own elt tg it ifs =>
            obtain ⟨elt', tg', it', ifs', scope, cpos, rfl, k0, k1, k2, k3, k4, k5, k6⟩ := comp_shape h2
            obtain ⟨i1, i2, i3⟩ := sndI it tg' it' g k1
            refine m_setLc g h1.1 h3 i1 i2 k2 i3 (fun i hi => by simpa using (List.all_eq_true.mp k0) i hi) fun Y eK gY => ?_
            rw [← eK]
            exact ⟨g_tgt gY tg tg' k3, sndTs ifs ifs' gY k6 k5, (sndE elt elt' gY k4).1⟩
          | comp2 m own own1 elt tg it ifs tg1 it1 ifs1 =>
            obtain ⟨elt', tg', it', ifs', tg1', it1', ifs1', scope, cpos, rfl, k0, k1, k2, k3, k4, k5, k6, k7, k8, k9, k10, k11⟩ := comp2_shape h2
            obtain ⟨i1, _, i3⟩ := sndI it tg' it' g k4
            have n1 := chkI_ns k7
            refine m_setLc2 g h1.1 h3 k0 (i1 k0) k5 i3 n1 k1 k2 k3 fun Y eK gY => ?_
            rw [← eK]
            obtain ⟨j1, _, _⟩ := sndI it1 tg1' it1' gY k7
            exact ⟨⟨g_tgt gY tg tg' k6, sndTs ifs ifs' gY k10.2 k10.1⟩, ⟨j1 k0, g_tgt gY tg1 tg1' k8⟩, sndTs ifs1 ifs1' gY k11.2 k11.1, (sndE elt elt' gY k9).1⟩
          | hole => exact ms_bad
          | _ => cases e' <;> first | cases h3 | (cases h2; done) | (simp [chkE] at h2)
    | Tuple es kk tp =>
      have h3 : (notComp e' && (notTup e' || swNone sc (.Tuple es kk tp) e')) = true := h3
      simp only [Bool.and_eq_true, Bool.or_eq_true] at h3
      refine m_set he hg (sole_none h3.1) ?_ rfl
      rcases h3.2 with h4 | h4
      · cases e' <;> first | rfl | cases h4
      · cases e' with
        | Tuple vs k2 p2 => exact sw_none (by rw [g.hs]; exact g.kd) (by rw [g.hs]; exact h4)
        | _ => cases h4
    | _ => cases h3
  | .seti o i e, st, h => by
    obtain ⟨o', i', p, e', pos, rfl, h1, h2, h3, h4⟩ := seti_shape h
    exact m_seti (sndE o o' g h1).1 (sndE i i' g h2).1 (sndE e e' g h3).1 h4
  | .par i j a b, st, h => by
    obtain ⟨x, px, y, py, kt, pt, a', b', k2, pt2, pos, rfl, h0, h1, h2, h3, h4, h5, h6, h7, h8, h9, h10, h11, h12⟩ := par_shape h
    exact m_par g h0 h1 h2 h3 h4 h5 h6 h7 h8 h11 h12 (sndE a a' g h9).1 (sndE b b' g h10).1
  | .parN is es, st, h => by
    obtain ⟨ts, kt, pt, vs, k2, p2, pos, names, rfl, h1, h2, h3, h4, h5⟩ := parN_shape h
    exact m_parN g h1 h2 h3 h4 (sndEs es vs g h5)
  | .aug i op e, st, h => by
    obtain ⟨x, p, e', pos, rfl, h1, h2, h3, h4⟩ := aug_shape h
    exact m_aug g h1 h2 h3 (sndE e e' g h4).1
  | .exp e, st, h => by
    cases st with
    | Expr e' pos =>
      have h : (chkE S N fb sc e e' && notComp e') = true := h
      simp only [Bool.and_eq_true] at h
      exact m_exp h.2 (sndE e e' g h.1).1
    | _ => cases h
  | .ite c a b, st, h => by
    cases st with
    | If c' a' b' pos =>
      have h : (chkE S N fb sc c c' && chkSs S N fb sc a a' && chkSs S N fb sc b b') = true := h
      simp only [Bool.and_eq_true] at h
      exact m_if (sndE c c' g h.1.1).2.1 (sndSs g a a' h.1.2) (sndSs g b b' h.2)
    | _ => cases h
  | .ret e, st, h => by
    cases st with
    | Return v pos =>
      cases v with
      | some e' => exact m_ret (sndE e e' g h).1
      | none => cases h
    | _ => cases h
  | .retN, st, h => by
    cases st with
    | Return v pos =>
      cases v with
      | some e' => cases h
      | none => exact m_retN
    | _ => cases h
  | .for_ t it b, st, h => by
    cases st with
    | For t' it' b' els pos =>
      cases els with
      | nil =>
        have h : (fb.calm && chkT N fb sc t t' && chkI S N fb sc it t' it' && chkSs S N fb sc b b') = true := h
        simp only [Bool.and_eq_true] at h
        obtain ⟨⟨⟨h0, h1⟩, h2⟩, h3⟩ := h
        obtain ⟨i1, i2, i3⟩ := sndI it t' it' g h2
        exact m_for g h0 (i1 h0) i3 (g_tgt g t t' h1) (sndSs g b b' h3)
      | cons _ _ => cases h
    | _ => cases h
  | .while_ n c b, st, h => by
    cases st with
    | While c' b' els pos =>
      cases els with
      | nil =>
        have h : (chkE S N fb sc c c' && chkSs S N fb sc b b') = true := h
        simp only [Bool.and_eq_true] at h
        exact m_while g (sndE c c' g h.1).2.1 (sndSs g b b' h.2)
      | cons _ _ => cases h
    | _ => cases h
  | .raise c msg, st, h => by
    cases st with
    | Raise e cause pos =>
      cases e with
      | none => cases h
      | some e =>
        cases cause with
        | none =>
          have h : (fb.calm && chkRaise S sc c msg e) = true := h
          simp only [Bool.and_eq_true] at h
          exact m_raise g h.1 h.2
        | some _ => cases h
    | _ => cases h
  | .raiseL c e, st, h => by
    obtain ⟨x, p, a', pos, pos2, rfl, h1, h2, h3, h4, h5, h6⟩ := raiseL_shape h
    exact m_raiseL g h1 h2 h3 h4 (sndE e a' g h5).1 h6
  | .hole, st, h => ms_bad
  | .put ps es, st, h => by
    obtain ⟨ts, kt, pt, vs, k2, p2, pos, rfl, h1, h2, h3, h4⟩ := put_shape h
    exact m_put g h1 (sndPs g h2) (sndEs es vs g h3) (psLen_len h2) (chkPs_ns h2) h4
  | .pass, st, h => by
    cases st with
    | Pass pos => exact m_pass
    | _ => cases h
  | .brk, st, h => by
    cases st with
    | Break pos => exact m_brk
    | _ => cases h
  | .cont, st, h => by
    cases st with
    | Continue pos => exact m_cont
    | _ => cases h
theorem sndSs (g : GX S G k C N sc fb W X) : ∀ (ss : ISs) (st : List Stmt), chkSs S N fb sc ss st = true → MSs X G W (denSs (C) ss) st
  | .nil, st, h => by
    simp only [chkSs, List.isEmpty_iff] at h
    subst h
    exact ms_nil
  | .cons s ss, st, h => by
    cases st with
    | nil => simp [chkSs] at h
    | cons st sts =>
      simp only [chkSs, Bool.and_eq_true] at h
      exact ms_cons (sndS g s st h.1) (sndSs g ss sts h.2)
end
end
end Mini

set_option maxHeartbeats 4000000
/-! Mini, part K: defs. -/
namespace Mini
open PySem PySem.Spec PyProof.Rows L2 LamX

section
variable {S : Sg} {G : En} {k : Nat} {N : List Str} {W : WX} {X : Cx} {K : PySem.W.Frag}
/-- a body's end, for the callers -/
theorem post_ended {r : R Fl} {α β : List Addr} {H : Hp} {Q : VK} (h : PostV K G β W (ended r) α H Q) : PostS K G β W r α H { nx := fun _ H' => Q .non H', rt := Q } := by
  cases r with
  | bad => exact h
  | exc c μ => exact h
  | ok f μ =>
    cases f with
    | next ρ => exact fun H' α' hr e σ _ => h H' α' hr e _ rfl
    | ret u => exact fun H' α' hr e v rv => h H' α' hr e v rv
    | brk ρ => exact h.elim
    | cont ρ => exact h.elim
theorem post_sweep {r : R U} {μ : Mem} {α β : List Addr} {H : Hp} {Q : VK} (hm : HR K G μ α β H) (h : PostV K G β W (sweep μ.length r) α H Q) : PostV K G β W r α H Q := by
  cases r with
  | bad => exact h
  | exc c μ' =>
    intro cls d σ H' α' x hr e
    have h : PostV K G β W (if swept μ.length μ' = true then .exc c (μ'.take μ.length) else .bad) α H Q := h
    by_cases sw : swept μ.length μ' = true
    · rw [if_pos sw] at h
      exact h cls d σ H' α x (HR.sweep (eo := G.ea) (el := G.el) hr e.pre hm.len sw) ⟨List.prefix_refl _, e.keep, fun _ _ _ _ n => n, e.lst, e.dk⟩
    · rw [if_neg sw] at h
      exact h.elim
  | ok u μ' =>
    intro H' α' hr e v rv
    have h : PostV K G β W (if swept μ.length μ' = true then (match frz (getF μ' μ.length 9) u with
      | some v => .ok v (μ'.take μ.length)
      | none => .bad) else .bad) α H Q := h
    by_cases sw : swept μ.length μ' = true
    · rw [if_pos sw] at h
      cases q : frz (getF μ' μ.length 9) u with
      | none => rw [q] at h; exact h.elim
      | some u2 =>
        rw [q] at h
        exact h H' α (HR.sweep (eo := G.ea) (el := G.el) hr e.pre hm.len sw) ⟨List.prefix_refl _, e.keep, fun _ _ _ _ n => n, e.lst, e.dk⟩ v (VR.frz (eo := G.ea) (el := G.el) (getF_ok (eo := G.ea) (el := G.el) hr e.pre hm.len 9) e.pre q rv)
    · rw [if_neg sw] at h
      exact h.elim
/-! ### a def with a memory of its own -/
mutual
theorem VR.alone {α β : List Addr} {H : Hp} : ∀ {u : U} {v : V}, below 0 u = true → VR K G α β H u v → VR K G [] (α ++ β) H u v
  | .non, _, _, h => h
  | .bl _, _, _, h => h
  | .int _, _, _, h => h
  | .str _, _, _, h => h
  | .tup xs, _, b, h => by
    obtain ⟨a, vs, rfl, h1, h2⟩ := h
    exact ⟨a, vs, rfl, h1.imp (fun ⟨r, n, m⟩ => ⟨r, (fun z => by cases z), fun z => (List.mem_append.mp z).elim n m⟩) id, VRs.alone b h2⟩
  | .lst xs, _, b, h => by
    obtain ⟨a, vs, rfl, ⟨h1, n, m⟩, h2⟩ := h
    exact ⟨a, vs, rfl, ⟨h1, (fun z => by cases z), fun z => (List.mem_append.mp z).elim n m⟩, VRs.alone b h2⟩
  | .rol xs, _, b, h => by
    obtain ⟨a, vs, rfl, h1, h2⟩ := h
    exact ⟨a, vs, rfl, h1.imp (fun ⟨r, n, m⟩ => ⟨r, (fun z => by cases z), fun z => (List.mem_append.mp z).elim n m⟩) id, VRs.alone b h2⟩
  | .ref n, _, b, _ => by simp [below] at b
  | .dref n, _, b, _ => by simp [below] at b
  | .dtag, _, _, h => h.elim
  | .fn _, _, _, h => h
  | .exn, _, b, _ => nomatch b
theorem VRs.alone {α β : List Addr} {H : Hp} : ∀ {us : List U} {vs : List V}, belows 0 us = true → VRs K G α β H us vs → VRs K G [] (α ++ β) H us vs
  | [], _, _, h => h
  | _ :: _, _, b, h => by
    simp only [belows, Bool.and_eq_true] at b
    obtain ⟨v, r, rfl, h1, h2⟩ := h
    exact ⟨v, r, rfl, VR.alone b.1 h1, VRs.alone b.2 h2⟩
end
mutual
theorem VR.shared {α β : List Addr} {H : Hp} : ∀ {u : U} {v : V}, VR K G [] (α ++ β) H u v → VR K G α β H u v
  | .non, _, h => h
  | .bl _, _, h => h
  | .int _, _, h => h
  | .str _, _, h => h
  | .tup xs, _, h => by
    obtain ⟨a, vs, rfl, h1, h2⟩ := h
    exact ⟨a, vs, rfl, h1.imp (fun ⟨r, _, m⟩ => ⟨r, (fun z => m (List.mem_append_left _ z)), fun z => m (List.mem_append_right _ z)⟩) id, VRs.shared h2⟩
  | .lst xs, _, h => by
    obtain ⟨a, vs, rfl, ⟨h1, _, m⟩, h2⟩ := h
    exact ⟨a, vs, rfl, ⟨h1, (fun z => m (List.mem_append_left _ z)), fun z => m (List.mem_append_right _ z)⟩, VRs.shared h2⟩
  | .rol xs, _, h => by
    obtain ⟨a, vs, rfl, h1, h2⟩ := h
    exact ⟨a, vs, rfl, h1.imp (fun ⟨r, _, m⟩ => ⟨r, (fun z => m (List.mem_append_left _ z)), fun z => m (List.mem_append_right _ z)⟩) id, VRs.shared h2⟩
  | .ref n, _, h => by
    obtain ⟨a, rfl, h1, _⟩ := h
    cases h1
  | .dref n, _, h => by
    obtain ⟨a, rfl, h1, _⟩ := h
    cases h1
  | .dtag, _, h => h
  | .fn _, _, h => h
  | .exn, _, h => by
    obtain ⟨a, e1, e2, h⟩ := h
    exact ⟨a, e1, e2, fun dd f n q => let ⟨h1, _, h3⟩ := h dd f n q; ⟨h1, (fun z => h3 (List.mem_append_left _ z)), fun z => h3 (List.mem_append_right _ z)⟩⟩
theorem VRs.shared {α β : List Addr} {H : Hp} : ∀ {us : List U} {vs : List V}, VRs K G [] (α ++ β) H us vs → VRs K G α β H us vs
  | [], _, h => h
  | _ :: _, _, h => by
    obtain ⟨v, r, rfl, h1, h2⟩ := h
    exact ⟨v, r, rfl, VR.shared h1, VRs.shared h2⟩
end
theorem HR.alone {μ : Mem} {α β : List Addr} {H : Hp} (h : HR K G μ α β H) : HR K G [] [] (α ++ β) H :=
  ⟨rfl, List.nodup_nil, (fun _ z => by cases z), fun a ha => (List.mem_append.mp ha).elim (fun z => h.trk z) (h.priv a), (fun n xs hx => by cases n <;> cases hx), h.tabs⟩
theorem Ext.back {α α' : List Addr} {H H' : Hp} (e : Ext [] H α' H') : Ext α H α H' :=
  ⟨List.prefix_refl _, fun a o h t _ => e.keep a o h t (fun z => by cases z), fun _ _ _ _ n => n, e.lst, e.dk⟩
theorem HR.back {μ : Mem} {α α' β : List Addr} {H H' : Hp} (h : HR K G μ α β H) (e : Ext [] H α' H') (t : Tabs G.T H') : HR K G μ α β H' :=
  h.ext1 e.back (fun a ha => by
    obtain ⟨o, ho, nt⟩ := (h.trk ha).some
    rw [ho]
    exact e.keep a o ho nt (fun z => by cases z)) t
theorem post_loc {r : R U} {μ : Mem} {α β : List Addr} {H : Hp} {Q : VK} (hm : HR K G μ α β H) (h : PostV K G β W (locD μ r) α H Q) : PostV K G (α ++ β) W r [] H Q := by
  cases r with
  | bad => exact h
  | exc c μ' => exact fun cls d σ H' α' x hr e => h cls d σ H' α x (hm.back e hr.tabs) e.back
  | ok u μ' =>
    intro H' α' hr e v rv
    have h : PostV K G β W (match frz (getF μ' 0 9) u with
      | some v => .ok v μ
      | none => .bad) α H Q := h
    cases q : frz (getF μ' 0 9) u with
    | none => rw [q] at h; exact h.elim
    | some u2 =>
      rw [q] at h
      have rv2 : VR K G [] (α ++ β) H' u2 v := VR.frz (eo := G.ea) (el := G.el) (getF_ok (α := []) (eo := G.ea) (el := G.el) hr List.nil_prefix rfl 9) List.nil_prefix q rv
      exact h H' α (hm.back e hr.tabs) e.back v rv2.shared
theorem post_run {d : DefS} {C : Orc} {us : List U} {vs : List V} {μ : Mem} {α β : List Addr} {H : Hp} {Q : VK} (hm : HR K G μ α β H) (r : VRs K G α β H us vs) (h : PostV K G β W (runD d C us μ) α H Q) :
    ∃ μ1 α1 β1, HR K G μ1 α1 β1 H ∧ VRs K G α1 β1 H us vs ∧ PostS K G β1 W (denSs C d.body (startU d.N us) μ1) α1 H { nx := fun _ H' => Q .non H', rt := Q } := by
  unfold runD at h
  by_cases hn : us.length = d.np
  · rw [if_pos hn] at h
    by_cases hl : (d.loc && belows 0 us) = true
    · rw [if_pos hl] at h
      simp only [Bool.and_eq_true] at hl
      exact ⟨[], [], α ++ β, hm.alone, VRs.alone hl.2 r, post_ended (post_loc hm h)⟩
    · rw [if_neg hl] at h
      refine ⟨μ, α, β, hm, r, post_ended ?_⟩
      cases hg : d.gc with
      | true => rw [hg] at h; exact post_sweep hm h
      | false => rw [hg] at h; exact h
  · rw [if_neg hn] at h
    exact h.elim
theorem SR.start {us : List U} {vs : List V} {α β : List Addr} {H : Hp} (r : VRs K G α β H us vs) : SR K G α β H (startU N us) (L2.start N vs) := by
  have hl := r.len
  refine ⟨by simp [startU, L2.start, hl], fun i u hu => ?_⟩
  unfold startU at hu
  unfold L2.start
  by_cases hi : i < us.length
  · rw [List.getElem?_append_left (by simpa using hi), List.getElem?_map] at hu
    rw [List.getElem?_append_left (by simpa [← hl] using hi), List.getElem?_map]
    cases q : us[i]? with
    | none => rw [q] at hu; cases hu
    | some u' =>
      rw [q] at hu
      cases hu
      obtain ⟨v, h1, h2⟩ := r.get q
      exact ⟨v, by rw [h1]; rfl, h2⟩
  · rw [List.getElem?_append_right (by simpa using hi)] at hu
    have hu := List.mem_of_getElem? hu
    rw [List.mem_replicate] at hu
    cases hu.2

end
/-! ### what a text's defs are held to -/
/-- a plain def stands in the module as the checker has seen it -/
def DefOk (S : Sg) (G : En) (K : PySem.W.Frag) (mg : Str → Option Value) (base : Heap) (j : Nat) (d : DefS) : Prop :=
  ∃ (params : Arguments) (body : List Stmt) (sc : Scope) (lam : Bool) (fd : FuncData), FunD K d.name d.name params body sc [] [] (G.ad j) fd ∧ Binds K fd (d.N.take d.np) [] ∧ chkDef S lam d params body sc = true ∧
    (lam = true → ∃ c P, fd.code = .ref c ∧ TabB base mg c P ∧ (P, d.name ++ ".<locals>." ++ "<lambda>") ∈ G.T ∧ ∀ p ∈ G.T, p.1 = P → p.2 = d.name ++ ".<locals>." ++ "<lambda>")
/-- .. one that catches -/
def ErrOk (S : Sg) (G : En) (K : PySem.W.Frag) (mg : Str → Option Value) (base : Heap) (j : Nat) (d : DefX) : Prop :=
  mg d.name = some (.ref (G.ad j)) ∧ PySem.W.keepIn K (.ref (G.ad j)) = true ∧
  ∃ (params : Arguments) (body : List Stmt) (sc : Scope) (fd : FuncData), FunD K d.name d.name params body sc [] [] (G.ad j) fd ∧ Binds K fd (d.N.take 1) [] ∧ chkErr S d params body sc = true
structure TX (S : Sg) (G : En) (K : PySem.W.Frag) (mg : Str → Option Value) (base : Heap) : Prop where
  mf : MF S G K mg
  ea : G.ea = none
  std : ∀ (j : Nat) (d : DefS), S.Ds[j]? = some (.std d) → DefOk S G K mg base j d
  err : ∀ (j : Nat) (d : DefX), S.Ds[j]? = some (.err d) → ErrOk S G K mg base j d
section
variable {S : Sg} {G : En} {K : PySem.W.Frag} {mg : Str → Option Value} {base : Heap} {P : Program} {w : World}
theorem MF.withE {a : Addr} {el : Option (Addr × Str × Int)} (m : MF S G K mg) : MF S (withE G a el) K mg := { m with }
theorem sp_bad {G : En} {j np : Nat} {Ds : List Def} {vs : List V} {H : Hp} {Q : VK} {E : XK} (h : spD K G (callD Ds 0 j) np vs H Q E) : False := by
  obtain ⟨us, μ, α, β, _, _, _, q⟩ := h
  exact q
theorem sp_len {G : En} {np : Nat} {f : List U → Mem → R U} {vs : List V} {H : Hp} {Q : VK} {E : XK} (h : spD K G f np vs H Q E) : vs.length = np := by
  obtain ⟨us, μ, α, β, _, r, e, _⟩ := h
  rw [← r.len, e]
theorem ff0 {a : Option Addr} {el : Option (Addr × Str × Int)} (t : TX S G K mg base) (hlm : ∀ c ∈ S.lims, MiniW.LimF P K mg c (G.ca c)) : FF S { G with ea := a, el := el } P w K mg base 0 := ⟨fun j d hd => by
  obtain ⟨params, body, sc, lam, fd, F, B, ch, _⟩ := t.std j d hd
  exact ⟨fd, ⟨fun _ _ _ _ h => (sp_bad h).elim, fun _ _ _ _ _ _ _ _ _ _ _ _ _ h => (sp_bad h).elim⟩, B⟩, hlm⟩
/-- the suites -/
theorem su_ok (t : TX S G K mg base) (hlm : ∀ c ∈ S.lims, MiniW.LimF P K mg c (G.ca c)) {d : DefX} {sc : Scope} {ad : Addr} {suite : List Stmt} (hnd : d.N.Nodup) (hk : sc.kind = .function) (h : chkSs S d.N ⟨fun _ => true, false, some d.ei⟩ sc d.suite suite = true) : SuS S G K mg base P w d sc ad suite := by
  intro cdv A outer s H a oe cls dd pn c hu hz hf hc hcls hdd hds
  have g : GX S (withE G a (elOf G c dd)) 0 (noOrc (some c)) d.N sc ⟨fun _ => true, false, some d.ei⟩ WF ((cxOf C8.CX0 P w K mg base d.N d.name sc ad cdv A outer s H C8.E0).nox.suite a ((a, oe) :: pn)) :=
    { mf := t.mf.withE, ff := ff0 (a := some a) (el := elOf G c dd) t hlm, hN := rfl, nd := hnd, hs := rfl, kd := hk, calm := fun z => (by cases z),
      hot := fun _ => ⟨(a, oe), c, rfl, List.mem_cons_self, ⟨rfl, (by
        obtain ⟨vs, hv⟩ := hf
        exact ⟨vs, hv, hz.2.2 vs hv⟩)⟩, rfl, hc, ⟨dd, (by
        have z := hz.zc
        rw [hcls] at z
        exact z), hdd, fun n hn => (by
        obtain ⟨d', e⟩ := hds n hn
        subst e
        refine ⟨d', rfl, ?_⟩
        show elOf G c (some d') = _
        unfold elOf
        rw [hn] <;> rfl)⟩, hf⟩,
      lm := fun z => (by cases z), hfn := fun _ _ => rfl, tk := takes0N, un := hu, po := PassesOwn.never }
  exact sndSs g d.suite suite h
theorem err_ok (t : TX S G K mg base) (hlm : ∀ c ∈ S.lims, MiniW.LimF P K mg c (G.ca c)) {j : Nat} {d : DefX} (hd : S.Ds[j]? = some (.err d)) : ErF S G K mg base P w j d := by
  obtain ⟨gl, kp, params, body, sc, fd, F, B, ch⟩ := t.err j d hd
  unfold chkErr at ch
  split at ch
  · rename_i a p1 p2 p3 q p4 e b0 suite p5 p6 r kk p7 p8
    simp only [Bool.and_eq_true, decide_eq_true_eq, beq_iff_eq] at ch
    obtain ⟨⟨⟨⟨⟨⟨⟨⟨⟨⟨⟨⟨c1, c2⟩, c3⟩, c4⟩, c5⟩, c6⟩, c7⟩, c8⟩, c9⟩, c10⟩, c11⟩, c12⟩, c13⟩ := ch
    subst c7
    obtain ⟨s1, s2⟩ := scope_of c1
    have e1 : d.N.take 1 = [a] := by
      cases hN : d.N with
      | nil => rw [hN] at c3; cases c3
      | cons x r =>
        rw [hN] at c3
        have z : x = a := by simpa using c3
        rw [z]
        rfl
    rw [e1] at B s1
    have va : Vis sc a := by
      unfold visB at c4
      cases q : sc.names.lookup a with
      | none => rw [q] at c4; cases c4
      | some k => cases k <;> first | exact .inl q | exact .inr (.inl q) | exact .inr (.inr q) | (rw [q] at c4; cases c4)
    subst c12
    exact ⟨gl, kp, c11, params, sc, fd, a, e, b0, suite, p1, p2, p3, p4, p5, p6, p7, p8, kk, F, B, s1, c3, va, c5, c8, c9, c10, su_ok t hlm s1.nd s1.kind c13⟩
  · cases ch
/-- a def keeps its promise, where all others do so of a lesser depth -/
theorem def_ok (t : TX S G K mg base) {k : Nat} (ih : FF S G P w K mg base k) {j : Nat} {d : DefS} (hd : S.Ds[j]? = some (.std d)) (hlv : ¬ d.lv ≤ k) {params : Arguments} {body : List Stmt} {sc : Scope} {lam : Bool} {fd : FuncData} (F : FunD K d.name d.name params body sc [] [] (G.ad j) fd) (ch : chkDef S lam d params body sc = true)
    (hl : lam = true → ∃ c P, fd.code = .ref c ∧ TabB base mg c P ∧ (P, d.name ++ ".<locals>." ++ "<lambda>") ∈ G.T ∧ ∀ p ∈ G.T, p.1 = P → p.2 = d.name ++ ".<locals>." ++ "<lambda>") :
    FnOk P w K mg base (L2N.CX P w) (3 * (k + 1)) (G.ad j) fd (d.N.take d.np) (spD K G (callD S.Ds (k + 1) j) d.np) := by
  unfold chkDef at ch
  simp only [Bool.and_eq_true, decide_eq_true_eq] at ch
  obtain ⟨⟨c1, c2⟩, c3⟩ := ch
  obtain ⟨s1, s2⟩ := scope_of c1
  obtain ⟨oc, od, dV, kV, doc, pm, an, cdv, ct, osl, rfl, lk, hcd, _, _⟩ := F.ex
  show FnOk P w K mg base (L2N.CX P w) (3 * k + 2 + 1) _ _ _ _
  refine fn_of lk hcd s1 (fun vs H Q E h => by rw [sp_len h, s2]) fun A outer s H vs Q E hr h => ?_
  obtain ⟨us, μ, α, β, hm, r, hn, q⟩ := h
  have g : GX S G k (orc S.Ds k) d.N sc ⟨fun _ => true, lam, none⟩ (fun cls dd _ H' => E cls dd H') (cxOf (L2N.CX P w) P w K mg base d.N d.name sc (G.ad j) cdv A outer s H E) :=
    { mf := t.mf, ff := ih, hN := rfl, nd := s1.nd, hs := rfl, kd := s1.kind, calm := fun _ => ⟨rfl, rfl, hr.mono (by omega)⟩, hot := fun z => (by cases z),
      lm := fun z => ⟨fun j d hd => err_ok t ih.lim hd, hr, t.ea, (by
        obtain ⟨c, P', e1, e2, e3, e4⟩ := hl z
        exact ⟨c, P', e1, e2, e3, e4⟩)⟩,
      hfn := fun _ _ => rfl, tk := L2N.takes_of rfl rfl rfl rfl, un := (by have := hr.un; show (A.deeper (envOfC d.name sc s.heap.objs.size (G.ad j) cdv)).units + 65 < cLine; omega), po := passes_of rfl }
  refine ⟨_, sndSs g d.body body c3, ?_⟩
  have q2 : callD S.Ds (k + 1) j us μ = runD d (orc S.Ds k) us μ := by
    unfold callD
    rw [hd]
    exact if_neg hlv
  rw [q2] at q
  obtain ⟨μ1, α1, β1, hm1, r1, q3⟩ := post_run hm r q
  exact ⟨startU d.N us, μ1, α1, β1, SR.start r1, hm1, q3⟩
/-- every def keeps its promise -/
theorem ff_all (t : TX S G K mg base) (hlm : ∀ c ∈ S.lims, MiniW.LimF P K mg c (G.ca c)) : ∀ k, FF S G P w K mg base k
  | 0 => ff0 (a := G.ea) (el := G.el) t hlm
  | k + 1 => ⟨fun j d hd => by
    by_cases hlv : d.lv ≤ k
    · obtain ⟨fd, Fn, B⟩ := (ff_all t hlm k).fn j d hd
      have e : callD S.Ds (k + 1) j = callD S.Ds k j := by
        funext us μ
        show (match S.Ds[j]? with
          | some (.std d) => if d.lv ≤ k then callD S.Ds k j us μ else runD d ⟨callD S.Ds k, lamD S.Ds, none⟩ us μ
          | _ => .bad) = _
        rw [hd]
        exact if_pos hlv
      rw [e]
      exact ⟨fd, Fn.mono (by omega), B⟩
    obtain ⟨params, body, sc, lam, fd, F, B, ch, hl⟩ := t.std j d hd
    exact ⟨fd, def_ok t (ff_all t hlm k) hd hlv F ch hl, B⟩, hlm⟩
end
end Mini

set_option maxHeartbeats 4000000
/-! Mini, part N: the head. -/
namespace Mini
open PySem PySem.Spec PyProof.Rows L2 LamX

def Def.name : Def → Str
  | .std d => d.name
  | .err d => d.name
/-- a def of the small language, its text, whether it makes lambdas -/
structure Rw where
  d : Def
  st : Stmt
  lam : Bool
def Rw.ps (r : Rw) : List Str := match r.d with
  | .std d => d.N.take d.np
  | .err d => d.N.take 1
def Rw.bnd (r : Rw) : Prop := ∀ (kV doc pm : Value) (an : Option Addr) (cdv ct : Value) (us : List Value), us.length = r.ps.length →
  bindArgs (PySem.W.fnOf r.d.name r.d.name (defArgs r.st) (defBody r.st) (defScope r.st) .none kV doc pm an cdv ct) ⟨us, []⟩ = pure (r.ps.zip us)
def bndL : List Rw → Prop
  | [] => True
  | r :: rs => r.bnd ∧ bndL rs
theorem bndL_mem : ∀ {rs : List Rw} {r : Rw}, bndL rs → r ∈ rs → r.bnd
  | _ :: _, _, h, m => (List.mem_cons.mp m).elim (fun e => e ▸ h.1) fun m => bndL_mem h.2 m
def Rw.chk (S : Sg) (r : Rw) : Bool := match r.d with
  | .std d => chkDef S r.lam d (defArgs r.st) (defBody r.st) (defScope r.st)
  | .err d => !r.lam && chkErr S d (defArgs r.st) (defBody r.st) (defScope r.st)
def Rw.fn (r : Rw) : He.DefD := ⟨(r.d.name, none), r.d.name, r.d.name, defArgs r.st, defBody r.st, defScope r.st, [], []⟩
def fnL (rs : List Rw) : List He.DefD := rs.map Rw.fn
def tfL (rs : List Rw) : List He.Defn := (rs.filter (·.lam)).map fun r => (r.d.name, none)
def faL (S : Sg) (rs : List Rw) : List He.Fa :=
  (rs.map fun r => He.Fa.glo r.d.name) ++ (S.fr.map He.Fa.free ++ (S.gi.map (fun p => He.Fa.int p.1 p.2) ++ (S.xs.map He.Fa.glo ++ (S.exs.map He.Fa.exc ++ (S.xs.map (fun c => He.Fa.exm c S.q true) ++ [He.Fa.glo S.q])))))
/-! a class with a limit, read off the part -/
theorem oexB_ok {K : PySem.W.Frag} {C : Addr} (h : oexB K C = true) : ∃ nm q N bs bm sn sub ab col dd k0 k1 k2 k3 k5, K.lookup C = some (excClassObj nm q C N bs bm true sn sub ab col dd k0 k1 k2 k3 k5 "ValueError.__new__") ∧ HandSPX.refsVE bm = true := by
  unfold oexB at h
  split at h
  · rename_i t dd cd sl ho
    simp only [Bool.and_eq_true, beq_iff_eq] at h
    obtain ⟨rfl, h⟩ := h
    split at h
    · rename_i D bm a0 a1 a2 a3 n a5 hm hs
      simp only [Bool.and_eq_true, beq_iff_eq, Bool.not_eq_true'] at h
      obtain ⟨rfl, rfl, h1, h2, h3⟩ := h
      obtain ⟨nm, bs, mro, ns, qn, hd, sn, sub, ab, col, del⟩ := cd
      dsimp only at hm h1 h2
      subst hm h1 h2
      obtain ⟨l⟩ := sl
      dsimp only at hs
      subst hs
      exact ⟨_, _, _, _, _, _, _, _, _, _, _, _, _, _, _, ho, h3⟩
    · cases h
  · cases h
theorem iniB_ok {prog : Program} {F : Str} {K : PySem.W.Frag} {C : Addr} (hF : ((prog.main.file : Str) == F) = true) (hs : (prog.main.scope.names.lookup ("super" : Str)).isSome = false) (h : iniB F K C = true) :
    ∃ fI cc cda qual params body scope kV doc pm an ct, MiniW.IniF prog K C fI cc cda qual params body scope kV doc pm an ct := by
  unfold iniB at h
  split at h
  · rename_i fI hf
    simp only [Bool.and_eq_true, decide_eq_true_eq] at h
    obtain ⟨ht, h⟩ := h
    split at h
    · rename_i oc od nm qn pa bd sc gl cn cc kV doc pm an cda ct bn osl lk
      simp only [Bool.and_eq_true, beq_iff_eq] at h
      obtain ⟨rfl, rfl, rfl, rfl, h1, h2, h3, h4, h5, h6⟩ := h
      refine ⟨fI, cc, cda, qn, pa, bd, sc, kV, doc, pm, an, ct, ⟨hf, ht, ⟨oc, od, osl, lk⟩, h1, ?_, ?_, hs, h2, h3, h4⟩⟩
      · split at h5
        · rename_i ccl cdd vs ccs lc
          split at h5
          · rename_i f tf hv
            exact ⟨ccl, cdd, vs, ccs, f, tf, lc, hv, by
              rw [beq_iff_eq] at hF h5
              rw [beq_iff_eq, hF, h5]⟩
          · cases h5
        · cases h5
      · split at h6
        · rename_i cl cld D csl lc
          rw [beq_iff_eq] at h6
          subst h6
          exact ⟨cl, cld, csl, lc⟩
        · cases h6
    · cases h
  · cases h
theorem limB_ok {prog : Program} {F : Str} {K : PySem.W.Frag} {mg : Str → Option Value} {c : Str} {C : Addr} (hF : ((prog.main.file : Str) == F) = true) (hs : (prog.main.scope.names.lookup ("super" : Str)).isSome = false) (gl : mg c = some (.ref C)) (ms : mg "super" = none) (h : limB F K C = true) :
    MiniW.LimF prog K mg c C := by
  unfold limB at h
  simp only [Bool.and_eq_true, decide_eq_true_eq] at h
  obtain ⟨h1, h2, h3, h4, h5, h6, h7, h8, h9, h10, h11, h12, h13⟩ := h
  exact ⟨gl, ms, ⟨oexB_ok h1, He.eqO_ok h2, h3, h4, h5⟩, h6, He.eqO_ok h7, h8, h9, Option.isSome_iff_exists.mp h10, He.eqO_ok h11, He.eqO_ok h12, iniB_ok hF hs h13⟩
theorem excB_ok {K : PySem.W.Frag} {D : Addr} (h : excB K D = true) : ExcC K D := by
  unfold excB at h
  simp only [Bool.and_eq_true, decide_eq_true_eq] at h
  obtain ⟨h1, h2, h3, h4, h5, h6, h7, h8⟩ := h
  exact ⟨He.eqO_ok h1, He.eqO_ok h2, h3, h4, He.eqO_ok h5, He.eqO_ok h6, h7, h8⟩
def alN (S : Sg) : List (Str × Option Str) := S.al.map fun p => (p.1, (S.Ds[p.2]?).map Def.name)
def exL (S : Sg) (rs : List Rw) (F : Str) (K : PySem.W.Frag) : Bool := exG S.mb (alN S) S.xs S.lims (S.fr.contains "super") (tfL rs) F K
theorem saysY {n : Nat} {fa : List He.Fa} {fn : List He.DefD} {tf : List He.Defn} {ex : PySem.W.Frag → Bool} {w : World} {h : Heap} (e : obsY n fa fn tf ex h.get? = (He.valT fn [] w, true)) : He.SaysX fa fn [] tf ex w h (fgY n h.get?) := by
  obtain ⟨e1, e2⟩ := Prod.mk.inj e
  rw [Bool.and_eq_true] at e2
  have key : ∀ q ∈ tf, PySem.W.codeHdIn (fgY n h.get?) (He.cT (fgY n h.get?) q).1 (He.cT (fgY n h.get?) q).2 = true ∧ ∃ o, h.get? (He.cT (fgY n h.get?) q).2 = some o ∧ He.emptyTab o = true := fun q hq => by
    have z := List.all_eq_true.mp e2.2 q hq
    rw [Bool.and_eq_true] at z
    refine ⟨z.1, ?_⟩
    have z2 := z.2
    split at z2
    · rename_i o ho
      exact ⟨o, ho, z2⟩
    · cases z2
  refine ⟨e1, e2.1, fun q hq => (key q hq).1, fun q hq => ?_, fun q hq => ?_⟩
  · obtain ⟨_, o, h1, h2⟩ := key q hq
    exact He.frT_none h1 h2
  · obtain ⟨_, o, h1, h2⟩ := key q hq
    rw [h1, He.emptyTab_eq h2]
def hookY (n : Nat) (fa : List He.Fa) (fn : List He.DefD) (tf : List He.Defn) (ex : PySem.W.Frag → Bool) : PySem.W.Hook where
  α := He.AlX
  obs := fun s => obsY n fa fn tf ex s.heap.get?
  val := fun w => (He.valT fn [] w, true)
  says := fun w h => ∃ K : PySem.W.Frag, K.In h ∧ He.SaysX fa fn [] tf ex w h K
  of := fun _ _ e => ⟨_, He.frT_in, saysY e⟩
  keeps := fun _ _ _ z k => by
    obtain ⟨K, hK, c⟩ := z
    exact ⟨K, hK.keeps k, ⟨c.t, c.more, c.hd, c.out, fun q hq => k _ _ (c.empty q hq)⟩⟩
theorem obsY_eq {n : Nat} {fa : List He.Fa} {fn : List He.DefD} {tf : List He.Defn} {ex : PySem.W.Frag → Bool} {g : Addr → Option Obj} {s : Shared} (h : ∀ a, g a = s.heap.get? a) : obsY n fa fn tf ex g = (hookY n fa fn tf ex).obs s := by
  obtain rfl : g = s.heap.get? := funext h
  rfl
open HandSHeadRun PySem.W PySem.Calls in
theorem run3 {r : OpenRow} {q : Program} {M n : Nat} {loose : List PySem.Str} {fa : List He.Fa} {fn : List He.DefD} {tf : List He.Defn} {ex : PySem.W.Frag → Bool} {w : World} (a : RunA r q M loose w) (b : RunB r M n fa fn w) (c : RunC r M n tf ex w) :
    RunEqI r q (hookY n fa fn tf ex) (fun s => obsY n fa fn tf ex (getT s)) M loose w := map4 a b c
def enH (S : Sg) (rs : List Rw) (K : PySem.W.Frag) : En where
  ad := fun j => match S.Ds[j]? with
    | some d => He.ga K d.name
    | none => 0
  ca := He.ga K
  fld := fun _ => "limit"
  dfn := fun j => ∃ d, S.Ds[j]? = some (.std d)
  T := (tfL rs).map fun p => ((He.cT K p).2, p.1 ++ ".<locals>." ++ "<lambda>")
  ea := none
  el := none
  exs := S.xs
section
variable {S : Sg} {rs : List Rw} {F : Str} {K : PySem.W.Frag} {w : World} {h : Heap} {mg : Str → Option Value} {base : Heap}
theorem row_at (hD : S.Ds = rs.map (·.d)) {j : Nat} {d : Def} (hd : S.Ds[j]? = some d) : ∃ r ∈ rs, r.d = d := by
  rw [hD, List.getElem?_map] at hd
  cases q : rs[j]? with
  | none => rw [q] at hd; cases hd
  | some r =>
    rw [q] at hd
    cases hd
    exact ⟨r, List.mem_of_getElem? q, rfl⟩
theorem ad_at {j : Nat} {d : Def} (hd : S.Ds[j]? = some d) : (enH S rs K).ad j = He.ga K d.name := by
  show (match S.Ds[j]? with | some d => He.ga K d.name | none => 0) = _
  rw [hd]
theorem nodup_fst {A B : Type} {f : A → B} : ∀ {l : List A}, (l.map f).Nodup → ∀ {a b : A}, a ∈ l → b ∈ l → f a = f b → a = b
  | [], _, _, _, ha, _, _ => by cases ha
  | x :: l, h, a, b, ha, hb, e => by
    simp only [List.map_cons, List.nodup_cons] at h
    rcases List.mem_cons.mp ha with z | z <;> rcases List.mem_cons.mp hb with y | y
    · rw [z, y]
    · exact absurd (List.mem_map.mpr ⟨b, y, by rw [← e, z]⟩) h.1
    · exact absurd (List.mem_map.mpr ⟨a, z, by rw [e, y]⟩) h.1
    · exact nodup_fst h.2 z y e
theorem tx_of (hD : S.Ds = rs.map (·.d)) (hchk : rs.all (Rw.chk S) = true) (hb : bndL rs) (c : He.SaysX (faL S rs) (fnL rs) [] (tfL rs) (exL S rs F) w h K) (X : K.In h) (Gm : h.Ns mainGlobals mg)
    (hT : ∀ p ∈ (tfL rs).map (He.cT K), TabB base mg p.1 p.2) : TX S (enH S rs K) K mg base := by
  have cd : He.SaysD (faL S rs) (fnL rs) K := He.SaysT.d c.t
  have mem : ∀ f, f ∈ faL S rs → He.Fa.ok K f = true := fun f hf => He.SaysD.facts cd hf
  have fglo : ∀ r ∈ rs, mg r.d.name = some (.ref (He.ga K r.d.name)) := fun r hr => He.glo_ok X Gm (mem _ (by
    unfold faL
    exact List.mem_append_left _ (List.mem_map.mpr ⟨r, hr, rfl⟩)))
  have ffn : ∀ r ∈ rs, ∃ fd, FunD K r.d.name r.d.name (defArgs r.st) (defBody r.st) (defScope r.st) [] [] (He.ga K r.d.name) fd := fun r hr => He.SaysD.defs cd (d := r.fn) (List.mem_map.mpr ⟨r, hr, rfl⟩)
  have hck : ∀ r ∈ rs, r.chk S = true := fun r hr => List.all_eq_true.mp hchk r hr
  have more := c.more
  unfold exL exG at more
  simp only [Bool.and_eq_true, decide_eq_true_eq, List.all_eq_true] at more
  obtain ⟨m1, m0, m2, m3, m5, m4, _, _⟩ := more
  have fglc : ∀ x ∈ S.xs, mg x = some (.ref (He.ga K x)) := fun x hx => He.glo_ok X Gm (mem _ (by
    unfold faL
    exact List.mem_append_right _ (List.mem_append_right _ (List.mem_append_right _ (List.mem_append_left _ (List.mem_map.mpr ⟨x, hx, rfl⟩))))))
  have fexc : ∀ x ∈ S.exs, (He.Fa.exc x).ok K = true := fun x hx => mem _ (by
    unfold faL
    exact List.mem_append_right _ (List.mem_append_right _ (List.mem_append_right _ (List.mem_append_right _ (List.mem_append_left _ (List.mem_map.mpr ⟨x, hx, rfl⟩))))))
  have fexm : ∀ x ∈ S.xs, (He.Fa.exm x S.q true).ok K = true := fun x hx => mem _ (by
    unfold faL
    exact List.mem_append_right _ (List.mem_append_right _ (List.mem_append_right _ (List.mem_append_right _ (List.mem_append_right _ (List.mem_append_left _ (List.mem_map.mpr ⟨x, hx, rfl⟩)))))))
  have mf : MF S (enH S rs K) K mg :=
    { fr := fun x hx => He.free_ok X Gm (mem _ (by
        unfold faL
        exact List.mem_append_right _ (List.mem_append_left _ (List.mem_map.mpr ⟨x, hx, rfl⟩))))
      mb := fun p hp => PySem.W.mg_of X Gm (He.eqO_ok (m1 p hp))
      gi := fun p hp => He.int_ok X Gm (mem _ (by
        unfold faL
        exact List.mem_append_right _ (List.mem_append_right _ (List.mem_append_left _ (List.mem_map.mpr ⟨p, hp, rfl⟩)))))
      exs := rfl
      ex := fun x hx => by
        obtain ⟨a, b, d, e⟩ := He.exc_ok (fexc x hx)
        exact ⟨fglc x (List.mem_append_left _ hx), a, b, d, e⟩
      gl := fglc
      exc := fun x hx => excB_ok (m2 x hx)
      exq := fun x hx => He.exm_ok (fexm x hx)
      mq := He.glo_ok X Gm (mem _ (by
        unfold faL
        exact List.mem_append_right _ (List.mem_append_right _ (List.mem_append_right _ (List.mem_append_right _ (List.mem_append_right _ (List.mem_append_right _ (List.mem_singleton.mpr rfl))))))))
      nol := fun x hx => He.eqO_ok (m5 x hx)
      fld := fun _ _ => rfl
      kit := fun x hx t ht => m3 x hx t ht
      al := fun p hp ⟨d, hd⟩ => by
        have z := m0 (p.1, (S.Ds[p.2]?).map Def.name) (List.mem_map.mpr ⟨p, hp, rfl⟩)
        simp only [hd, Option.map_some] at z
        rw [ad_at hd]
        exact PySem.W.mg_of X Gm (He.eqO_ok z)
      dfn := fun j hj => hj
      fnd := fun j d hd => ⟨d, hd⟩
      df := fun j d hd => by
        obtain ⟨r, hr, e⟩ := row_at hD hd
        have g := fglo r hr
        obtain ⟨fd, F⟩ := ffn r hr
        rw [ad_at hd]
        rw [e] at g F
        exact ⟨g, F.kp⟩ }
  refine ⟨mf, rfl, fun j d hd => ?_, fun j d hd => ?_⟩
  · obtain ⟨r, hr, e⟩ := row_at hD hd
    obtain ⟨fd, F⟩ := ffn r hr
    have B := FunD.bindsN (ps := r.ps) F (bndL_mem hb hr)
    have ck := hck r hr
    obtain ⟨rd, st, lam⟩ := r
    have e : rd = .std d := e
    subst e
    refine ⟨defArgs st, defBody st, defScope st, lam, fd, by rw [ad_at hd]; exact F, B, ck, fun hl => ?_⟩
    have hl : lam = true := hl
    subst hl
    have hm : ((d.name, none) : He.Defn) ∈ tfL rs := List.mem_map.mpr ⟨_, List.mem_filter.mpr ⟨hr, rfl⟩, rfl⟩
    obtain ⟨oc, od, dV, kV, doc, pm, an, cdv, ct, osl, rfl, lk, hcd, _, _⟩ := F.ex
    obtain ⟨cc, ecc⟩ := He.codeIn_ref hcd
    have ec : He.codeOf K (d.name, none) = cc := He.codeOf_eq (p := (d.name, none)) lk ecc
    have tb := hT (He.cT K (d.name, none)) (List.mem_map.mpr ⟨_, hm, rfl⟩)
    refine ⟨(He.cT K (d.name, none)).1, (He.cT K (d.name, none)).2, ?_, tb, List.mem_map.mpr ⟨_, hm, rfl⟩, fun p hp ep => ?_⟩
    · show cdv = .ref (He.codeOf K (d.name, none))
      rw [ec, ecc]
    · obtain ⟨q, hq, rfl⟩ := List.mem_map.mp hp
      have z : q = (d.name, none) := nodup_fst m4 hq hm ep
      rw [z]
  · obtain ⟨r, hr, e⟩ := row_at hD hd
    obtain ⟨fd, F⟩ := ffn r hr
    have g := fglo r hr
    have B := FunD.bindsN (ps := r.ps) F (bndL_mem hb hr)
    have ck := hck r hr
    obtain ⟨rd, st, lam⟩ := r
    have e : rd = .err d := e
    subst e
    have ck : (!lam && chkErr S d (defArgs st) (defBody st) (defScope st)) = true := ck
    simp only [Bool.and_eq_true] at ck
    refine ⟨by rw [ad_at hd]; exact g, by rw [ad_at hd]; exact F.kp, defArgs st, defBody st, defScope st, fd, by rw [ad_at hd]; exact F, B, ck.2⟩
theorem lims_of {prog : Program} (hF : ((prog.main.file : Str) == F) = true) (hs : (prog.main.scope.names.lookup ("super" : Str)).isSome = false) (t : TX S (enH S rs K) K mg base) (c : He.SaysX (faL S rs) (fnL rs) [] (tfL rs) (exL S rs F) w h K) :
    ∀ x ∈ S.lims, MiniW.LimF prog K mg x ((enH S rs K).ca x) := fun x hx => by
  have more := c.more
  unfold exL exG at more
  simp only [Bool.and_eq_true, List.all_eq_true] at more
  obtain ⟨_, _, _, _, _, _, m6, m7⟩ := more
  have hfr : ("super" : Str) ∈ S.fr := by
    rw [Bool.or_eq_true] at m6
    rcases m6 with z | z
    · rw [List.isEmpty_iff] at z
      rw [z] at hx
      cases hx
    · simpa using z
  exact limB_ok hF hs (t.mf.gl x (List.mem_append_right _ hx)) (t.mf.fr _ hfr) (m7 x hx)
theorem vrs_ints {G : En} {α β : List Addr} {H : Hp} : ∀ ns : List Int, VRs K G α β H (ns.map U.int) (ns.map V.int)
  | [] => rfl
  | n :: ns => ⟨_, _, rfl, rfl, vrs_ints ns⟩
/-- THE LAW: what the small language says of every script -/
theorem law_at {l : PySem.W.OpenLaw} {n k j : Nat} {x : Str} {d : DefS} (hD : S.Ds = rs.map (·.d)) (hchk : rs.all (Rw.chk S) = true) (hb : bndL rs) (c : He.SaysX (faL S rs) (fnL rs) [] (tfL rs) (exL S rs F) w h K) (X : K.In h) (Gm : h.Ns mainGlobals mg)
    (hj : S.Ds[j]? = some (.std d)) (hps : d.N.take d.np = [x]) (hnp : d.np = 1) (hlv : ¬ d.lv ≤ k) (hF : ((l.prog.main.file : Str) == F) = true) (hs : (l.prog.main.scope.names.lookup ("super" : Str)).isSome = false)
    (plain : ∀ ns : List Int, ns.length ≤ n → (∀ z ∈ ns, Builtin.Int.intBits z ≤ 1048576) → ∃ μ, callD S.Ds (k + 1) j [.rol (ns.map U.int)] [] = .ok (.bl true) μ) : LawAtS l w K (L2N.CX l.prog w) (3 * (k + 1)) n x mg (He.ga K d.name) h := by
  obtain ⟨r, hr, e⟩ := row_at hD hj
  have cd : He.SaysD (faL S rs) (fnL rs) K := He.SaysT.d c.t
  obtain ⟨fd, F⟩ := He.SaysD.defs cd (d := r.fn) (List.mem_map.mpr ⟨r, hr, rfl⟩)
  have F : FunD K r.d.name r.d.name (defArgs r.st) (defBody r.st) (defScope r.st) [] [] (He.ga K r.d.name) fd := F
  have hrp : r.ps = [x] := by
    unfold Rw.ps
    rw [e]
    exact hps
  have hbr := bndL_mem hb hr
  refine ⟨fd, (tfL rs).map (He.cT K), spD K (enH S rs K) (callD S.Ds (k + 1) j) d.np, fun p hp => ?_, fun p hp => ?_, fun p hp => ?_, fun s u => ?_, fun H a ns hl hbits hH hS => ?_, fun base hK hN hTb => ?_⟩
  · obtain ⟨q, hq, rfl⟩ := List.mem_map.mp hp
    exact c.empty q hq
  · obtain ⟨q, hq, rfl⟩ := List.mem_map.mp hp
    exact c.out q hq
  · obtain ⟨q, hq, rfl⟩ := List.mem_map.mp hp
    exact PySem.W.codeHd_of_K X (c.hd q hq)
  · have z := FunD.bindsA (ps := r.ps) F hbr s [u] (by rw [hrp] <;> rfl)
    rw [hrp] at z
    exact z
  · obtain ⟨μ, hp⟩ := plain ns hl hbits
    have hr0 : HR K (enH S rs K) [] [] [] H :=
      { len := rfl, nd := List.nodup_nil, dis := (fun _ z => by cases z), priv := (fun _ z => by cases z), cell := fun n xs hx => (by cases n <;> cases hx), tabs := fun p hp => (by
        obtain ⟨q, hq, rfl⟩ := List.mem_map.mp hp
        exact TabS.nil (hH _ (List.mem_map.mpr ⟨q, hq, rfl⟩))) }
    refine ⟨[.rol (ns.map U.int)], [], [], [], hr0, ⟨.ref a, [], rfl, ⟨a, _, rfl, ?_, vrs_ints ns⟩, rfl⟩, hnp.symm, ?_⟩
    · exact hS.imp (fun z => ⟨z, (by simp), (by simp)⟩) id
    · rw [hp]
      exact fun H' α' _ _ v rv => rv
  · have t := tx_of (base := base) hD hchk hb c X Gm hTb
    obtain ⟨params, body, sc, lam, fd', F', B', ch, hl⟩ := t.std j d hj
    have e1 : (enH S rs K).ad j = He.ga K d.name := ad_at hj
    have eq : fd = fd' := by
      obtain ⟨oc, od, dV, kV, doc, pm, an, cdv, ct, osl, e1', lk, _⟩ := F.ex
      obtain ⟨oc', od', dV', kV', doc', pm', an', cdv', ct', osl', e2', lk', _⟩ := F'.ex
      rw [e1] at lk'
      rw [e] at lk
      have z := lk.symm.trans lk'
      cases z
      rfl
    subst eq
    have Fn := def_ok (P := l.prog) (w := w) t (ff_all t (lims_of hF hs t c) k) hj hlv F' ch hl
    rw [e1, hps] at Fn
    exact Fn
end
end Mini

set_option maxHeartbeats 0
namespace K56
open PySem PySem.Spec PyProof.Rows L2 LamX Mini
-- is_whole
def d0 : DefS := ⟨"is_whole", 3, ["value", "low", "high"], false, true, 1,
  (.cons (.ret (.and (.isi (.var 0) "int") (.and (.not (.isi (.var 0) "bool")) (.chain .LtE .LtE (.var 1) (.var 0) (.var 2))))) .nil)⟩
-- need_whole
def d1 : DefS := ⟨"need_whole", 3, ["value", "low", "high"], false, true, 2,
  (.cons (.ite (.not (.call 0 (.cons (.var 0) (.cons (.var 1) (.cons (.var 2) .nil))))) (.cons (.raise "InvalidNumber" "not an integer within the bounds") .nil) .nil) .nil)⟩
-- is_tuple_of
def d2 : DefS := ⟨"is_tuple_of", 3, ["value", "low", "high"], false, true, 1,
  (.cons (.ret (.and (.isi (.var 0) "tuple") (.chain .LtE .LtE (.var 1) (.bi false "len" (.cons (.var 0) .nil)) (.var 2)))) .nil)⟩
-- is_ascending
def d3 : DefS := ⟨"is_ascending", 1, ["values", "one", "other"], false, true, 1,
  (.cons (.ret (.bi false "all" (.cons (.comp false [1, 2] (.cmp .Lt (.var 1) (.var 2)) (.tup (.cons (.name 1) (.cons (.name 2) .nil))) (.zip2 (.var 0) (.slc (.var 0) (.cons (.int 1) .nil) .nil)) .nil) .nil))) .nil)⟩
-- is_portion
def d4 : DefS := ⟨"is_portion", 1, ["value"], false, true, 2,
  (.cons (.ite (.or (.not (.call 2 (.cons (.var 0) (.cons (.int 2) (.cons (.int 2) .nil))))) (.or (.not (.call 0 (.cons (.idx (.var 0) (.int 0)) (.cons (.neg (.gint "GREAT_portions" 1000000000000000000000000000000000000000000000000000000000000)) (.cons (.gint "GREAT_portions" 1000000000000000000000000000000000000000000000000000000000000) .nil))))) (.not (.call 0 (.cons (.idx (.var 0) (.int 1)) (.cons (.int 1) (.cons (.gint "GREAT_portions" 1000000000000000000000000000000000000000000000000000000000000) .nil))))))) (.cons (.ret (.bl false)) .nil) .nil)
  (.cons (.ret (.cmp .Eq (.bi false "gcd" (.cons (.idx (.var 0) (.int 0)) (.cons (.idx (.var 0) (.int 1)) .nil))) (.int 1))) .nil))⟩
-- lowest
def d5 : DefS := ⟨"lowest", 2, ["top", "bottom", "shared"], false, true, 1,
  (.cons (.set (.name 2) (.bi false "gcd" (.cons (.var 0) (.cons (.var 1) .nil))))
  (.cons (.set (.name 2) (.ite (.cmp .Gt (.var 1) (.int 0)) (.var 2) (.neg (.var 2))))
  (.cons (.ret (.tup (.cons (.bin false .FloorDiv (.var 0) (.var 2)) (.cons (.bin false .FloorDiv (.var 1) (.var 2)) .nil)))) .nil)))⟩
-- plus
def d6 : DefS := ⟨"plus", 2, ["one", "other"], false, true, 2,
  (.cons (.ret (.call 5 (.cons (.bin false .Add (.bin false .Mult (.idx (.var 0) (.int 0)) (.idx (.var 1) (.int 1))) (.bin false .Mult (.idx (.var 1) (.int 0)) (.idx (.var 0) (.int 1)))) (.cons (.bin false .Mult (.idx (.var 0) (.int 1)) (.idx (.var 1) (.int 1))) .nil)))) .nil)⟩
-- times
def d7 : DefS := ⟨"times", 3, ["table", "one", "other", "part", "mate"], false, true, 2,
  (.cons (.ret (.bi false "sum" (.cons (.comp false [3, 4] (.bin false .Mult (.var 3) (.var 4)) (.tup (.cons (.name 3) (.cons (.name 4) .nil))) (.zip2 (.var 2) (.call 12 (.cons (.var 0) (.cons (.var 1) .nil)))) .nil) .nil))) .nil)⟩
-- is_row_of
def d8 : DefS := ⟨"is_row_of", 2, ["value", "size", "part"], false, true, 2,
  (.cons (.ret (.and (.call 2 (.cons (.var 0) (.cons (.var 1) (.cons (.var 1) .nil)))) (.bi false "all" (.cons (.comp false [2] (.call 0 (.cons (.var 2) (.cons (.neg (.gint "PART_tables" 1000000)) (.cons (.gint "PART_tables" 1000000) .nil)))) (.name 2) (.of (.var 0)) .nil) .nil)))) .nil)⟩
-- minors
def d9 : DefS := ⟨"minors", 1, ["rows", "left", "found", "before", "head", "row", "at"], true, true, 1,
  (.cons (.set (.tup (.cons (.name 1) (.cons (.name 2) (.cons (.name 3) .nil)))) (.tup (.cons (.comp false [5] (.bi false "list" (.cons (.var 5) .nil)) (.name 5) (.of (.var 0)) .nil) (.cons (.lst true .nil) (.cons (.int 1) .nil)))))
  (.cons (.while_ 1000000 (.and (.cmp .Gt (.bi false "len" (.cons (.var 1) .nil)) (.int 0)) (.cmp .NotEq (.idx (.idx (.var 1) (.int 0)) (.int 0)) (.int 0))) (.cons (.set (.name 4) (.idx (.var 1) (.int 0))) (.cons (.exp (.app (.var 2) (.idx (.var 4) (.int 0)))) (.cons (.set (.name 1) (.comp false [5] (.comp false [6] (.bin false .FloorDiv (.bin false .Sub (.bin false .Mult (.idx (.var 5) (.var 6)) (.idx (.var 4) (.int 0))) (.bin false .Mult (.idx (.var 5) (.int 0)) (.idx (.var 4) (.var 6)))) (.var 3)) (.name 6) (.rng2 (.int 1) (.bi false "len" (.cons (.var 5) .nil))) .nil) (.name 5) (.of (.slc (.var 1) (.cons (.int 1) .nil) .nil)) .nil)) (.cons (.set (.name 3) (.idx (.var 4) (.int 0))) .nil)))))
  (.cons (.ret (.var 2)) .nil)))⟩
-- is_table
def d10 : DefS := ⟨"is_table", 1, ["value", "found", "minor", "row", "one", "other"], false, true, 3,
  (.cons (.ite (.or (.not (.call 2 (.cons (.var 0) (.cons (.int 1) (.cons (.gint "SIZE" 8) .nil))))) (.not (.bi false "all" (.cons (.comp false [3] (.call 8 (.cons (.var 3) (.cons (.bi false "len" (.cons (.var 0) .nil)) .nil))) (.name 3) (.of (.var 0)) .nil) .nil)))) (.cons (.ret (.bl false)) .nil) .nil)
  (.cons (.ite (.not (.bi false "all" (.cons (.comp false [4, 5] (.cmp .Eq (.idx (.idx (.var 0) (.var 4)) (.var 5)) (.idx (.idx (.var 0) (.var 5)) (.var 4))) (.tup (.cons (.name 4) (.cons (.name 5) .nil))) (.of (.call 11 (.cons (.bi false "len" (.cons (.var 0) .nil)) .nil))) .nil) .nil))) (.cons (.ret (.bl false)) .nil) .nil)
  (.cons (.set (.name 1) (.call 9 (.cons (.var 0) .nil)))
  (.cons (.ret (.and (.cmp .Eq (.bi false "len" (.cons (.var 1) .nil)) (.bi false "len" (.cons (.var 0) .nil))) (.bi false "all" (.cons (.comp false [2] (.cmp .Gt (.var 2) (.int 0)) (.name 2) (.of (.var 1)) .nil) .nil)))) .nil))))⟩
-- pairs_below
def d11 : DefS := ⟨"pairs_below", 1, ["size", "found", "one", "other"], false, true, 1,
  (.cons (.set (.name 1) (.lst false .nil))
  (.cons (.for_ (.name 2) (.rng1 (.var 0)) (.cons (.set (.name 1) (.bin false .Add (.var 1) (.comp false [3] (.tup (.cons (.var 2) (.cons (.var 3) .nil))) (.name 3) (.rng1 (.var 2)) .nil))) .nil))
  (.cons (.ret (.var 1)) .nil)))⟩
-- mates_of
def d12 : DefS := ⟨"mates_of", 2, ["table", "row", "own", "part", "other"], false, true, 1,
  (.cons (.ret (.comp false [2] (.bi false "sum" (.cons (.comp false [3, 4] (.bin false .Mult (.var 3) (.var 4)) (.tup (.cons (.name 3) (.cons (.name 4) .nil))) (.zip2 (.var 1) (.var 2)) .nil) .nil)) (.name 2) (.of (.var 0)) .nil)) .nil)⟩
-- determinant
def d13 : DefS := ⟨"determinant", 1, ["rows", "left", "sign", "before", "heads", "head", "row", "at"], true, true, 1,
  (.cons (.set (.tup (.cons (.name 1) (.cons (.name 2) (.cons (.name 3) .nil)))) (.tup (.cons (.comp true [6] (.bi false "list" (.cons (.var 6) .nil)) (.name 6) (.of (.var 0)) .nil) (.cons (.int 1) (.cons (.int 1) .nil)))))
  (.cons (.while_ 1000000 (.cmp .Gt (.bi false "len" (.cons (.var 1) .nil)) (.int 1)) (.cons (.set (.name 4) (.comp false [7, 6] (.var 7) (.tup (.cons (.name 7) (.cons (.name 6) .nil))) (.enum (.var 1)) (.cons (.cmp .NotEq (.idx (.var 6) (.int 0)) (.int 0)) .nil))) (.cons (.ite (.cmp .Eq (.var 4) (.lst false .nil)) (.cons (.ret (.int 0)) .nil) .nil) (.cons (.ite (.cmp .Gt (.idx (.var 4) (.int 0)) (.int 0)) (.cons (.put (.sub (.var 1) (.int 0) (.sub (.var 1) (.idx (.var 4) (.int 0)) (.name 2 .nil))) (.cons (.idx (.var 1) (.idx (.var 4) (.int 0))) (.cons (.idx (.var 1) (.int 0)) (.cons (.neg (.var 2)) .nil)))) .nil) .nil) (.cons (.set (.name 5) (.idx (.var 1) (.int 0))) (.cons (.set (.name 1) (.comp true [6] (.comp false [7] (.bin false .FloorDiv (.bin false .Sub (.bin false .Mult (.idx (.var 6) (.var 7)) (.idx (.var 5) (.int 0))) (.bin false .Mult (.idx (.var 6) (.int 0)) (.idx (.var 5) (.var 7)))) (.var 3)) (.name 7) (.rng2 (.int 1) (.bi false "len" (.cons (.var 6) .nil))) .nil) (.name 6) (.of (.slc (.var 1) (.cons (.int 1) .nil) .nil)) .nil)) (.cons (.set (.name 3) (.idx (.var 5) (.int 0))) .nil)))))))
  (.cons (.ret (.bin false .Mult (.var 2) (.idx (.idx (.var 1) (.int 0)) (.int 0)))) .nil)))⟩
-- left_out
def d14 : DefS := ⟨"left_out", 3, ["rows", "one", "other", "rest", "small", "row"], false, true, 2,
  (.cons (.set (.name 3) (.comp false [5] (.bin false .Add (.slc (.var 5) .nil (.cons (.var 2) .nil)) (.slc (.var 5) (.cons (.bin false .Add (.var 2) (.int 1)) .nil) .nil)) (.name 5) (.of (.bin false .Add (.slc (.var 0) .nil (.cons (.var 1) .nil)) (.slc (.var 0) (.cons (.bin false .Add (.var 1) (.int 1)) .nil) .nil))) .nil))
  (.cons (.set (.name 4) (.ite (.cmp .Gt (.bi false "len" (.cons (.var 3) .nil)) (.int 0)) (.call 13 (.cons (.var 3) .nil)) (.int 1)))
  (.cons (.ret (.ite (.cmp .Eq (.bin false .Mod (.bin false .Add (.var 1) (.var 2)) (.int 2)) (.int 0)) (.var 4) (.neg (.var 4)))) .nil)))⟩
-- is_base
def d15 : DefS := ⟨"is_base", 2, ["size", "value", "row"], false, true, 3,
  (.cons (.ite (.or (.not (.call 2 (.cons (.var 1) (.cons (.var 0) (.cons (.var 0) .nil))))) (.not (.bi false "all" (.cons (.comp false [2] (.call 8 (.cons (.var 2) (.cons (.var 0) .nil))) (.name 2) (.of (.var 1)) .nil) .nil)))) (.cons (.ret (.bl false)) .nil) .nil)
  (.cons (.ret (.cmp .In (.call 13 (.cons (.var 1) .nil)) (.tup (.cons (.int 1) (.cons (.neg (.int 1)) .nil))))) .nil))⟩
-- is_handy_in
def d16 : DefS := ⟨"is_handy_in", 1, ["value", "row", "part"], false, true, 4,
  (.cons (.ret (.and (.call 10 (.cons (.var 0) .nil)) (.and (.cmp .LtE (.bi false "len" (.cons (.var 0) .nil)) (.gint "ROWS_alikes" 4)) (.bi false "all" (.cons (.comp2 false [1, 2] [2] (.cmp .LtE (.bi false "abs" (.cons (.var 2) .nil)) (.gint "PART_alikes" 30)) (.name 1) (.of (.var 0)) .nil (.name 2) (.of (.var 1)) .nil) .nil))))) .nil)⟩
-- need_handy
def d17 : DefS := ⟨"need_handy", 1, ["table"], false, true, 5,
  (.cons (.ite (.not (.call 16 (.cons (.var 0) .nil))) (.cons (.raise "InvalidTable" "not a handy table") .nil) .nil) .nil)⟩
-- carried_by
def d18 : DefS := ⟨"carried_by", 2, ["table", "rows", "one", "other"], false, true, 3,
  (.cons (.ret (.bi false "tuple" (.cons (.comp false [2] (.bi false "tuple" (.cons (.comp false [3] (.call 7 (.cons (.var 0) (.cons (.var 2) (.cons (.var 3) .nil)))) (.name 3) (.of (.var 1)) .nil) .nil)) (.name 2) (.of (.var 1)) .nil) .nil))) .nil)⟩
-- unit_rows
def d19 : DefS := ⟨"unit_rows", 1, ["size", "place", "at"], false, false, 1,
  (.cons (.ret (.comp true [1] (.bi false "tuple" (.cons (.comp false [2] (.ite (.cmp .Eq (.var 2) (.var 1)) (.int 1) (.int 0)) (.name 2) (.rng1 (.var 0)) .nil) .nil)) (.name 1) (.rng1 (.var 0)) .nil)) .nil)⟩
-- shortened
def d20 : DefS := ⟨"shortened", 1, ["table", "rows", "changed", "one", "other", "by", "own", "long", "both", "part", "more"], false, true, 3,
  (.cons (.set (.name 1) (.call 19 (.cons (.bi false "len" (.cons (.var 0) .nil)) .nil)))
  (.cons (.set (.name 2) (.bl true))
  (.cons (.while_ 1000000 (.var 2) (.cons (.set (.name 2) (.bl false)) (.cons (.for_ (.name 3) (.rng1 (.bi false "len" (.cons (.var 1) .nil))) (.cons (.for_ (.name 4) (.of (.comp false [6] (.var 6) (.name 6) (.rng1 (.bi false "len" (.cons (.var 1) .nil))) (.cons (.cmp .NotEq (.var 6) (.var 3)) .nil))) (.cons (.par 7 8 (.call 7 (.cons (.var 0) (.cons (.idx (.var 1) (.var 4)) (.cons (.idx (.var 1) (.var 4)) .nil)))) (.call 7 (.cons (.var 0) (.cons (.idx (.var 1) (.var 3)) (.cons (.idx (.var 1) (.var 4)) .nil))))) (.cons (.set (.name 5) (.bin false .FloorDiv (.bin false .Add (.bin false .Mult (.int 2) (.var 8)) (.var 7)) (.bin false .Mult (.int 2) (.var 7)))) (.cons (.ite (.cmp .Lt (.bin false .Mult (.var 5) (.bin false .Sub (.bin false .Mult (.var 5) (.var 7)) (.bin false .Mult (.int 2) (.var 8)))) (.int 0)) (.cons (.seti (.var 1) (.var 3) (.bi false "tuple" (.cons (.comp false [9, 10] (.bin false .Sub (.var 9) (.bin false .Mult (.var 5) (.var 10))) (.tup (.cons (.name 9) (.cons (.name 10) .nil))) (.zip2 (.idx (.var 1) (.var 3)) (.idx (.var 1) (.var 4))) .nil) .nil))) (.cons (.set (.name 2) (.bl true)) .nil)) .nil) .nil)))) .nil)) .nil)))
  (.cons (.ret (.var 1)) .nil))))⟩
-- steps_of
def d21 : DefS := ⟨"steps_of", 1, ["table", "at", "left", "found", "before", "head", "row", "part", "place"], true, true, 1,
  (.cons (.parN [2, 3, 4] (.cons (.comp false [6] (.bi true "list" (.cons (.var 6) .nil)) (.name 6) (.of (.var 0)) .nil) (.cons (.lst true .nil) (.cons (.int 1) .nil))))
  (.cons (.for_ (.name 1) (.rng1 (.bi false "len" (.cons (.var 0) .nil))) (.cons (.set (.name 5) (.idx (.var 2) (.var 1))) (.cons (.exp (.app (.var 3) (.var 5))) (.cons (.for_ (.name 6) (.of (.slc (.var 2) (.cons (.bin false .Add (.var 1) (.int 1)) .nil) .nil)) (.cons (.set (.name 7) (.idx (.var 6) (.var 1))) (.cons (.for_ (.name 8) (.rng2 (.var 1) (.bi false "len" (.cons (.var 0) .nil))) (.cons (.seti (.var 6) (.var 8) (.bin false .FloorDiv (.bin false .Sub (.bin false .Mult (.idx (.var 6) (.var 8)) (.idx (.var 5) (.var 1))) (.bin false .Mult (.var 7) (.idx (.var 5) (.var 8)))) (.var 4))) .nil)) .nil))) (.cons (.set (.name 4) (.idx (.var 5) (.var 1))) .nil)))))
  (.cons (.ret (.var 3)) .nil)))⟩
-- tuples_to
def d22 : DefS := ⟨"tuples_to", 2, ["table", "bound", "whole", "lead", "line", "at", "steps", "leads", "weight", "later", "own", "left", "more", "most", "part", "low", "high", "square", "further"], true, true, 2,
  (.cons (.par 6 7 (.call 21 (.cons (.var 0) .nil)) (.bin false .Add (.lst false (.cons (.int 1) .nil)) (.call 9 (.cons (.var 0) .nil))))
  (.cons (.set (.name 2) (.int 1))
  (.cons (.for_ (.name 3) (.of (.var 7)) (.cons (.set (.name 2) (.bin false .Mult (.bin false .Mult (.var 2) (.var 3)) (.var 3))) .nil))
  (.cons (.set (.name 4) (.lst false (.cons (.tup (.cons (.tup .nil) (.cons (.bin false .Mult (.var 1) (.var 2)) .nil))) .nil)))
  (.cons (.for_ (.name 5) (.rng3 (.bin false .Sub (.bi false "len" (.cons (.var 0) .nil)) (.int 1)) (.neg (.int 1)) (.neg (.int 1))) (.cons (.par 8 9 (.bin false .FloorDiv (.var 2) (.bin false .Mult (.idx (.var 7) (.var 5)) (.idx (.var 7) (.bin false .Add (.var 5) (.int 1))))) (.lst true .nil)) (.cons (.for_ (.tup (.cons (.name 10) (.cons (.name 11) .nil))) (.of (.var 4)) (.cons (.set (.name 12) (.bi false "sum" (.cons (.comp false [14, 18] (.bin false .Mult (.var 14) (.var 18)) (.tup (.cons (.name 14) (.cons (.name 18) .nil))) (.zip2 (.slc (.idx (.var 6) (.var 5)) (.cons (.bin false .Add (.var 5) (.int 1)) .nil) .nil) (.var 10)) .nil) .nil))) (.cons (.set (.name 13) (.bi false "isqrt" (.cons (.bin false .FloorDiv (.var 11) (.var 8)) .nil))) (.cons (.par 15 16 (.neg (.bin false .FloorDiv (.bin false .Add (.var 13) (.var 12)) (.idx (.var 7) (.bin false .Add (.var 5) (.int 1))))) (.bin false .FloorDiv (.bin false .Sub (.var 13) (.var 12)) (.idx (.var 7) (.bin false .Add (.var 5) (.int 1))))) (.cons (.for_ (.name 14) (.rng2 (.var 15) (.bin false .Add (.var 16) (.int 1))) (.cons (.set (.name 17) (.bin false .Pow (.bin false .Add (.bin false .Mult (.idx (.var 7) (.bin false .Add (.var 5) (.int 1))) (.var 14)) (.var 12)) (.int 2))) (.cons (.exp (.app (.var 9) (.tup (.cons (.bin false .Add (.tup (.cons (.var 14) .nil)) (.var 10)) (.cons (.bin false .Sub (.var 11) (.bin false .Mult (.var 8) (.var 17))) .nil))))) .nil))) .nil))))) (.cons (.set (.name 4) (.var 9)) .nil))))
  (.cons (.ret (.comp false [10, 11] (.var 10) (.tup (.cons (.name 10) (.cons (.name 11) .nil))) (.of (.var 4)) .nil)) .nil))))))⟩
-- rows_to
def d23 : DefS := ⟨"rows_to", 2, ["table", "bound", "base", "found", "own", "row", "at", "part", "line"], true, true, 4,
  (.cons (.set (.name 2) (.call 20 (.cons (.var 0) .nil)))
  (.cons (.set (.name 3) (.lst true .nil))
  (.cons (.for_ (.name 4) (.of (.call 22 (.cons (.call 18 (.cons (.var 0) (.cons (.var 2) .nil))) (.cons (.var 1) .nil)))) (.cons (.set (.name 5) (.bi false "tuple" (.cons (.comp false [6] (.bi false "sum" (.cons (.comp false [7, 8] (.bin false .Mult (.var 7) (.idx (.var 8) (.var 6))) (.tup (.cons (.name 7) (.cons (.name 8) .nil))) (.zip2 (.var 4) (.var 2)) .nil) .nil)) (.name 6) (.rng1 (.bi false "len" (.cons (.var 0) .nil))) .nil) .nil))) (.cons (.ite (.bi false "any" (.cons (.var 5) .nil)) (.cons (.exp (.app (.var 3) (.var 5))) .nil) .nil) .nil)))
  (.cons (.ret (.var 3)) .nil))))⟩
-- by_length
def d24 : DefS := ⟨"by_length", 2, ["table", "bound", "found", "row", "long"], false, false, 5,
  (.cons (.set (.name 2) .dnew)
  (.cons (.for_ (.name 3) (.of (.call 23 (.cons (.var 0) (.cons (.var 1) .nil)))) (.cons (.set (.name 4) (.call 7 (.cons (.var 0) (.cons (.var 3) (.cons (.var 3) .nil))))) (.cons (.exp (.dsa (.var 2) (.var 4) (.var 3))) .nil)))
  (.cons (.ret (.var 2)) .nil)))⟩
-- goes_on
def d25 : DefS := ⟨"goes_on", 4, ["table", "goal", "known", "rows", "at", "some", "row", "by", "own"], false, true, 3,
  (.cons (.set (.name 4) (.bi false "len" (.cons (.var 3) .nil)))
  (.cons (.set (.name 5) (.dget (.var 2) (.idx (.idx (.var 1) (.var 4)) (.var 4)) (.lst false .nil)))
  (.cons (.ret (.comp false [6] (.var 6) (.name 6) (.of (.var 5)) (.cons (.bi false "all" (.cons (.comp false [7, 8] (.cmp .Eq (.call 7 (.cons (.var 0) (.cons (.var 6) (.cons (.var 8) .nil)))) (.idx (.idx (.var 1) (.var 4)) (.var 7))) (.tup (.cons (.name 7) (.cons (.name 8) .nil))) (.enum (.var 3)) .nil) .nil)) .nil))) .nil)))⟩
-- whole_from
def d26 : DefS := ⟨"whole_from", 4, ["table", "goal", "known", "rows", "line", "own", "row"], true, true, 4,
  (.cons (.set (.name 4) (.lst true (.cons (.bi false "tuple" (.cons (.var 3) .nil)) .nil)))
  (.cons (.while_ 1000000 (.cmp .NotEq (.var 4) (.lst false .nil)) (.cons (.set (.name 5) (.pop (.var 4) .nil)) (.cons (.ite (.cmp .Eq (.bi false "len" (.cons (.var 5) .nil)) (.bi false "len" (.cons (.var 1) .nil))) (.cons (.ret (.var 5)) .nil) .nil) (.cons (.set (.name 4) (.bin true .Add (.var 4) (.comp false [6] (.bin false .Add (.var 5) (.tup (.cons (.var 6) .nil))) (.name 6) (.of (.call 25 (.cons (.var 0) (.cons (.var 1) (.cons (.var 2) (.cons (.var 5) .nil)))))) .nil))) .nil))))
  (.cons (.ret .non) .nil)))⟩
-- back_rows
def d27 : DefS := ⟨"back_rows", 1, ["base", "found", "one", "size", "sign", "row", "other", "rest", "small", "at", "own"], true, true, 2,
  (.cons (.par 3 4 (.bi false "len" (.cons (.var 0) .nil)) (.call 13 (.cons (.var 0) .nil)))
  (.cons (.set (.name 1) (.lst true .nil))
  (.cons (.for_ (.name 2) (.rng1 (.var 3)) (.cons (.set (.name 5) (.lst true .nil)) (.cons (.for_ (.name 6) (.rng1 (.var 3)) (.cons (.set (.name 7) (.comp false [9, 10] (.bin false .Add (.slc (.var 10) .nil (.cons (.var 2) .nil)) (.slc (.var 10) (.cons (.bin false .Add (.var 2) (.int 1)) .nil) .nil)) (.tup (.cons (.name 9) (.cons (.name 10) .nil))) (.enum (.var 0)) (.cons (.cmp .NotEq (.var 9) (.var 6)) .nil))) (.cons (.set (.name 8) (.ite (.cmp .NotEq (.var 7) (.lst false .nil)) (.call 13 (.cons (.var 7) .nil)) (.int 1))) (.cons (.exp (.app (.var 5) (.bin false .Mult (.var 4) (.ite (.cmp .Eq (.bin false .Mod (.bin false .Add (.var 2) (.var 6)) (.int 2)) (.int 0)) (.var 8) (.neg (.var 8)))))) .nil)))) (.cons (.exp (.app (.var 1) (.bi false "tuple" (.cons (.var 5) .nil)))) .nil))))
  (.cons (.ret (.var 1)) .nil))))⟩
-- carrying_in
def d28 : DefS := ⟨"carrying_in", 2, ["one", "other", "base", "goal", "known", "found", "rows", "own", "at", "row", "part"], true, true, 6,
  (.cons (.ite (.or (.cmp .NotEq (.bi false "len" (.cons (.var 0) .nil)) (.bi false "len" (.cons (.var 1) .nil))) (.cmp .NotEq (.idx (.call 9 (.cons (.var 0) .nil)) (.neg (.int 1))) (.idx (.call 9 (.cons (.var 1) .nil)) (.neg (.int 1))))) (.cons (.ret .non) .nil) .nil)
  (.cons (.set (.name 2) (.call 20 (.cons (.var 1) .nil)))
  (.cons (.set (.name 3) (.call 18 (.cons (.var 1) (.cons (.var 2) .nil))))
  (.cons (.set (.name 4) (.call 24 (.cons (.var 0) (.cons (.bi false "max" (.cons (.comp false [8, 9] (.idx (.var 9) (.var 8)) (.tup (.cons (.name 8) (.cons (.name 9) .nil))) (.enum (.var 3)) .nil) .nil)) .nil))))
  (.cons (.set (.name 5) (.call 26 (.cons (.var 0) (.cons (.var 3) (.cons (.var 4) (.cons (.lst false .nil) .nil))))))
  (.cons (.ite (.cmp .Is (.var 5) .non) (.cons (.ret .non) .nil) .nil)
  (.cons (.set (.name 6) (.lst true .nil))
  (.cons (.for_ (.name 7) (.of (.call 27 (.cons (.var 2) .nil))) (.cons (.exp (.app (.var 6) (.bi false "tuple" (.cons (.comp false [8] (.bi false "sum" (.cons (.comp false [10, 9] (.bin false .Mult (.var 10) (.idx (.var 9) (.var 8))) (.tup (.cons (.name 10) (.cons (.name 9) .nil))) (.zip2 (.var 7) (.var 5)) .nil) .nil)) (.name 8) (.rng1 (.bi false "len" (.cons (.var 0) .nil))) .nil) .nil)))) .nil))
  (.cons (.ret (.bi false "tuple" (.cons (.var 6) .nil))) .nil)))))))))⟩
-- is_carrying_in
def d29 : DefS := ⟨"is_carrying_in", 3, ["one", "other", "value"], false, true, 4,
  (.cons (.ret (.and (.cmp .Eq (.bi false "len" (.cons (.var 0) .nil)) (.bi false "len" (.cons (.var 1) .nil))) (.and (.call 15 (.cons (.bi false "len" (.cons (.var 0) .nil)) (.cons (.var 2) .nil))) (.cmp .Eq (.call 18 (.cons (.var 0) (.cons (.var 2) .nil))) (.var 1))))) .nil)⟩
-- is_handy
def d30 : DefS := ⟨"is_handy", 1, ["value"], false, true, 5,
  (.cons (.ret (.call 16 (.cons (.var 0) .nil))) .nil)⟩
-- are_alike
def d31 : DefS := ⟨"are_alike", 2, ["one", "other"], false, true, 7,
  (.cons (.exp (.call 17 (.cons (.var 0) .nil)))
  (.cons (.exp (.call 17 (.cons (.var 1) .nil)))
  (.cons (.ret (.cmp .IsNot (.call 28 (.cons (.var 0) (.cons (.var 1) .nil))) .non)) .nil)))⟩
-- carrying
def d32 : DefS := ⟨"carrying", 2, ["one", "other"], false, true, 7,
  (.cons (.exp (.call 17 (.cons (.var 0) .nil)))
  (.cons (.exp (.call 17 (.cons (.var 1) .nil)))
  (.cons (.ret (.call 28 (.cons (.var 0) (.cons (.var 1) .nil)))) .nil)))⟩
-- is_carrying
def d33 : DefS := ⟨"is_carrying", 3, ["one", "other", "value"], false, true, 6,
  (.cons (.exp (.call 17 (.cons (.var 0) .nil)))
  (.cons (.exp (.call 17 (.cons (.var 1) .nil)))
  (.cons (.ret (.call 29 (.cons (.var 0) (.cons (.var 1) (.cons (.var 2) .nil))))) .nil)))⟩
-- pairs_in
def d34 : DefS := ⟨"pairs_in", 1, ["table", "known", "rows", "row", "at", "part"], false, true, 6,
  (.cons (.set (.name 1) (.call 24 (.cons (.var 0) (.cons (.bi false "min" (.cons (.comp false [4, 3] (.idx (.var 3) (.var 4)) (.tup (.cons (.name 4) (.cons (.name 3) .nil))) (.enum (.call 18 (.cons (.var 0) (.cons (.call 20 (.cons (.var 0) .nil)) .nil)))) .nil) .nil)) .nil))))
  (.cons (.set (.name 2) (.idx (.var 1) (.bi false "min" (.cons (.var 1) .nil))))
  (.cons (.ret .hole) .nil)))⟩
-- places_of
def d35 : DefS := ⟨"places_of", 1, ["size", "i", "j"], false, true, 1,
  (.cons (.ret (.comp2 false [1, 2] [2] (.tup (.cons (.var 1) (.cons (.var 2) .nil))) (.name 1) (.rng1 (.var 0)) .nil (.name 2) (.rng2 (.var 1) (.var 0)) .nil)) .nil)⟩
-- square_row
def d36 : DefS := ⟨"square_row", 1, ["row", "i", "j"], false, true, 2,
  (.cons (.ret (.comp false [1, 2] (.bin false .Mult (.idx (.var 0) (.var 1)) (.idx (.var 0) (.var 2))) (.tup (.cons (.name 1) (.cons (.name 2) .nil))) (.of (.call 35 (.cons (.bi false "len" (.cons (.var 0) .nil)) .nil))) .nil)) .nil)⟩
-- put_in
def d37 : DefS := ⟨"put_in", 2, ["heads", "line", "at", "head", "by", "of", "own", "other"], false, true, 1,
  (.cons (.for_ (.tup (.cons (.name 2) (.cons (.name 3) .nil))) (.of .hole) (.cons (.ite (.cmp .NotEq (.idx (.var 1) (.var 2)) (.int 0)) (.cons (.set (.tup (.cons (.name 4) (.cons (.name 5) .nil))) (.tup (.cons (.idx (.var 1) (.var 2)) (.cons (.idx (.var 3) (.var 2)) .nil)))) (.cons (.set (.name 1) (.comp false [6, 7] (.bin false .Sub (.bin false .Mult (.var 5) (.var 6)) (.bin false .Mult (.var 4) (.var 7))) (.tup (.cons (.name 6) (.cons (.name 7) .nil))) (.zip2 (.var 1) (.var 3)) .nil)) .nil)) .nil) .nil))
  (.cons (.ret (.var 1)) .nil))⟩
-- steps_by
def d38 : DefS := ⟨"steps_by", 1, ["lines", "heads", "chosen", "at", "own", "line", "places", "place", "part"], true, true, 2,
  (.cons (.par 1 2 .dnew (.lst true .nil))
  (.cons (.for_ (.tup (.cons (.name 3) (.cons (.name 4) .nil))) (.enum (.var 0)) (.cons (.set (.name 5) (.call 37 (.cons (.var 1) (.cons (.var 4) .nil)))) (.cons (.set (.name 6) (.comp false [7, 8] (.var 7) (.tup (.cons (.name 7) (.cons (.name 8) .nil))) (.enum (.var 5)) (.cons (.cmp .NotEq (.var 8) (.int 0)) .nil))) (.cons (.ite (.cmp .NotEq (.var 6) (.lst false .nil)) (.cons (.seti (.var 1) (.idx (.var 6) (.int 0)) (.var 5)) (.cons (.exp (.app (.var 2) (.var 3))) .nil)) .nil) .nil))))
  (.cons (.ret (.tup (.cons (.var 1) (.cons (.var 2) .nil)))) .nil)))⟩
-- rank_in
def d39 : DefS := ⟨"rank_in", 1, ["table", "row"], false, true, 7,
  (.cons (.ret (.bi false "len" (.cons (.idx (.call 38 (.cons (.comp false [1] (.call 36 (.cons (.var 1) .nil)) (.name 1) (.of (.call 34 (.cons (.var 0) .nil))) .nil) .nil)) (.int 1)) .nil))) .nil)⟩
-- flat_in
def d40 : DefS := ⟨"flat_in", 1, ["table", "size", "places", "heads", "free", "found", "at", "rows", "head", "total", "own", "row", "i", "j", "part"], true, true, 7,
  (.cons (.set (.name 1) (.bi false "len" (.cons (.var 0) .nil)))
  (.cons (.set (.name 2) (.call 35 (.cons (.var 1) .nil)))
  (.cons (.set (.name 3) (.idx (.call 38 (.cons (.comp false [11] (.call 36 (.cons (.var 11) .nil)) (.name 11) (.of (.call 34 (.cons (.var 0) .nil))) .nil) .nil)) (.int 0)))
  (.cons (.set (.name 4) (.comp false [6] (.var 6) (.name 6) (.rng1 (.bi false "len" (.cons (.var 2) .nil))) (.cons (.cmp .NotIn (.var 6) (.var 3)) .nil)))
  (.cons (.ite (.cmp .Eq (.var 4) (.lst false .nil)) (.cons (.ret .non) .nil) .nil)
  (.cons (.set (.name 5) (.bin true .Mult (.lst false (.cons (.int 0) .nil)) (.bi false "len" (.cons (.var 2) .nil))))
  (.cons (.seti (.var 5) (.idx (.var 4) (.int 0)) (.int 1))
  (.cons (.for_ (.name 6) (.of .hole) (.cons (.set (.name 8) (.idx (.var 3) (.var 6))) (.cons (.set (.name 9) (.bi false "sum" (.cons (.comp false [14, 10] (.bin false .Mult (.var 14) (.var 10)) (.tup (.cons (.name 14) (.cons (.name 10) .nil))) (.zip2 (.slc (.var 8) (.cons (.bin false .Add (.var 6) (.int 1)) .nil) .nil) (.slc (.var 5) (.cons (.bin false .Add (.var 6) (.int 1)) .nil) .nil)) .nil) .nil))) (.cons (.set (.name 5) (.comp true [10] (.bin false .Mult (.var 10) (.idx (.var 8) (.var 6))) (.name 10) (.of (.var 5)) .nil)) (.cons (.seti (.var 5) (.var 6) (.neg (.var 9))) .nil)))))
  (.cons (.set (.name 7) (.comp false [11] (.bin true .Mult (.lst false (.cons (.int 0) .nil)) (.var 1)) (.name 11) (.rng1 (.var 1)) .nil))
  (.cons (.for_ (.tup (.cons (.tup (.cons (.name 12) (.cons (.name 13) .nil))) (.cons (.name 10) .nil))) (.zip2 (.var 2) (.var 5)) (.cons (.seti (.idx (.var 7) (.var 12)) (.var 13) (.ite (.cmp .Eq (.var 12) (.var 13)) (.bin false .Mult (.int 2) (.var 10)) (.var 10))) (.cons (.seti (.idx (.var 7) (.var 13)) (.var 12) (.idx (.idx (.var 7) (.var 12)) (.var 13))) .nil)))
  (.cons (.ret (.call 41 (.cons (.var 7) .nil))) .nil)))))))))))⟩
-- thinned
def d41 : DefS := ⟨"thinned", 1, ["rows", "shared", "row", "own"], false, true, 2,
  (.cons (.set (.name 1) (.int 0))
  (.cons (.for_ (.name 2) (.of (.var 0)) (.cons (.for_ (.name 3) (.of (.var 2)) (.cons (.set (.name 1) (.call 42 (.cons (.var 1) (.cons (.bi false "abs" (.cons (.var 3) .nil)) .nil)))) .nil)) .nil))
  (.cons (.ret (.bi false "tuple" (.cons (.comp false [2] (.bi false "tuple" (.cons (.comp false [3] (.bin false .FloorDiv (.var 3) (.var 1)) (.name 3) (.of (.var 2)) .nil) .nil)) (.name 2) (.of (.var 0)) .nil) .nil))) .nil)))⟩
-- common
def d42 : DefS := ⟨"common", 2, ["one", "other"], false, true, 1,
  (.cons (.while_ 1000000 (.cmp .Gt (.var 1) (.int 0)) (.cons (.par 0 1 (.var 1) (.bin false .Mod (.var 0) (.var 1))) .nil))
  (.cons (.ret (.var 0)) .nil))⟩
-- is_form_of
def d43 : DefS := ⟨"is_form_of", 2, ["value", "size", "row", "i", "j", "own"], false, true, 2,
  (.cons (.ite (.or (.not (.call 2 (.cons (.var 0) (.cons (.var 1) (.cons (.var 1) .nil))))) (.not (.bi false "all" (.cons (.comp false [2] (.call 2 (.cons (.var 2) (.cons (.var 1) (.cons (.var 1) .nil)))) (.name 2) (.of (.var 0)) .nil) .nil)))) (.cons (.ret (.bl false)) .nil) .nil)
  (.cons (.ite (.not (.bi false "all" (.cons (.comp false [2] (.bi false "all" (.cons (.comp false [5] (.call 0 (.cons (.var 5) (.cons (.neg (.gint "GREAT_perfects" 1000000000000000000000000000000000000000000000000000000000000)) (.cons (.gint "GREAT_perfects" 1000000000000000000000000000000000000000000000000000000000000) .nil)))) (.name 5) (.of (.var 2)) .nil) .nil)) (.name 2) (.of (.var 0)) .nil) .nil))) (.cons (.ret (.bl false)) .nil) .nil)
  (.cons (.ret (.bi false "all" (.cons (.comp false [3, 4] (.cmp .Eq (.idx (.idx (.var 0) (.var 3)) (.var 4)) (.idx (.idx (.var 0) (.var 4)) (.var 3))) (.tup (.cons (.name 3) (.cons (.name 4) .nil))) (.of (.call 35 (.cons (.var 1) .nil))) .nil) .nil))) .nil)))⟩
-- sum_by
def d44 : DefS := ⟨"sum_by", 2, ["value", "row", "one", "line", "part", "other"], false, true, 1,
  (.cons (.ret (.bi false "sum" (.cons (.comp2 false [2, 3, 4, 5] [4, 5] (.bin false .Mult (.bin false .Mult (.var 2) (.var 4)) (.var 5)) (.tup (.cons (.name 2) (.cons (.name 3) .nil))) (.zip2 (.var 1) (.var 0)) .nil (.tup (.cons (.name 4) (.cons (.name 5) .nil))) (.zip2 (.var 3) (.var 1)) .nil) .nil))) .nil)⟩
-- short_pairs
def d45 : DefS := ⟨"short_pairs", 1, ["table"], false, true, 7,
  (.cons (.exp (.call 17 (.cons (.var 0) .nil)))
  (.cons (.ret (.bi false "tuple" (.cons (.call 34 (.cons (.var 0) .nil)) .nil))) .nil))⟩
-- perfect_rank
def d46 : DefS := ⟨"perfect_rank", 1, ["table"], false, true, 8,
  (.cons (.exp (.call 17 (.cons (.var 0) .nil)))
  (.cons (.ret (.call 39 (.cons (.var 0) .nil))) .nil))⟩
-- is_perfect
def d47 : DefS := ⟨"is_perfect", 1, ["table"], false, true, 8,
  (.cons (.exp (.call 17 (.cons (.var 0) .nil)))
  (.cons (.ret (.cmp .Eq (.call 39 (.cons (.var 0) .nil)) (.bi false "len" (.cons (.call 35 (.cons (.bi false "len" (.cons (.var 0) .nil)) .nil)) .nil)))) .nil))⟩
-- perfect_rows
def d48 : DefS := ⟨"perfect_rows", 1, ["table", "pairs", "chosen", "row", "at"], false, true, 7,
  (.cons (.exp (.call 17 (.cons (.var 0) .nil)))
  (.cons (.set (.name 1) (.call 34 (.cons (.var 0) .nil)))
  (.cons (.set (.name 2) (.idx (.call 38 (.cons (.comp false [3] (.call 36 (.cons (.var 3) .nil)) (.name 3) (.of (.var 1)) .nil) .nil)) (.int 1)))
  (.cons (.ret (.ite (.cmp .Eq (.bi false "len" (.cons (.var 2) .nil)) (.bi false "len" (.cons (.call 35 (.cons (.bi false "len" (.cons (.var 0) .nil)) .nil)) .nil))) (.bi false "tuple" (.cons (.comp false [4] (.idx (.var 1) (.var 4)) (.name 4) (.of (.var 2)) .nil) .nil)) .non)) .nil))))⟩
-- flat_table
def d49 : DefS := ⟨"flat_table", 1, ["table"], false, true, 8,
  (.cons (.exp (.call 17 (.cons (.var 0) .nil)))
  (.cons (.ret (.call 40 (.cons (.var 0) .nil))) .nil))⟩
-- are_perfect_rows
def d50 : DefS := ⟨"are_perfect_rows", 2, ["table", "value", "many", "pairs", "row", "part"], false, true, 7,
  (.cons (.exp (.call 17 (.cons (.var 0) .nil)))
  (.cons (.set (.tup (.cons (.name 2) (.cons (.name 3) .nil))) (.tup (.cons (.bi false "len" (.cons (.call 35 (.cons (.bi false "len" (.cons (.var 0) .nil)) .nil)) .nil)) (.cons (.call 34 (.cons (.var 0) .nil)) .nil))))
  (.cons (.ite (.or (.not (.call 2 (.cons (.var 1) (.cons (.var 2) (.cons (.var 2) .nil))))) (.not (.bi false "all" (.cons (.comp false [4] (.cmp .In (.var 4) (.var 3)) (.name 4) (.of (.var 1)) .nil) .nil)))) (.cons (.ret (.bl false)) .nil) .nil)
  (.cons (.ite (.or (.not (.bi false "all" (.cons (.comp false [4] (.bi false "all" (.cons (.comp false [5] (.call 0 (.cons (.var 5) (.cons (.neg (.gint "GREAT_perfects" 1000000000000000000000000000000000000000000000000000000000000)) (.cons (.gint "GREAT_perfects" 1000000000000000000000000000000000000000000000000000000000000) .nil)))) (.name 5) (.of (.var 4)) .nil) .nil)) (.name 4) (.of (.var 1)) .nil) .nil))) (.not (.call 3 (.cons (.var 1) .nil)))) (.cons (.ret (.bl false)) .nil) .nil)
  (.cons (.ret (.cmp .Eq (.bi false "len" (.cons (.idx (.call 38 (.cons (.comp false [4] (.call 36 (.cons (.var 4) .nil)) (.name 4) (.of (.var 1)) .nil) .nil)) (.int 1)) .nil)) (.var 2))) .nil)))))⟩
-- is_flat
def d51 : DefS := ⟨"is_flat", 2, ["table", "value", "row"], false, true, 7,
  (.cons (.exp (.call 17 (.cons (.var 0) .nil)))
  (.cons (.ite (.or (.not (.call 43 (.cons (.var 1) (.cons (.bi false "len" (.cons (.var 0) .nil)) .nil)))) (.not (.bi false "any" (.cons (.comp false [2] (.bi false "any" (.cons (.var 2) .nil)) (.name 2) (.of (.var 1)) .nil) .nil)))) (.cons (.ret (.bl false)) .nil) .nil)
  (.cons (.ret (.bi false "all" (.cons (.comp false [2] (.cmp .Eq (.call 44 (.cons (.var 1) (.cons (.var 2) .nil))) (.int 0)) (.name 2) (.of (.call 34 (.cons (.var 0) .nil))) .nil) .nil))) .nil)))⟩
-- best_in
def d52 : DefS := ⟨"best_in", 1, ["n", "pairs", "found", "i", "at", "j"], true, true, 1,
  (.cons (.ite (.cmp .Eq (.var 0) (.int 1)) (.cons (.ret (.tup (.cons (.tup (.cons (.int 1) .nil)) .nil))) .nil) .nil)
  (.cons (.set (.name 1) (.ite (.cmp .Lt (.var 0) (.int 4)) (.comp false [4] (.tup (.cons (.var 4) (.cons (.bin false .Add (.var 4) (.int 1)) .nil))) (.name 4) (.rng1 (.bin false .Sub (.var 0) (.int 1))) .nil) (.lst false (.cons (.tup (.cons (.int 0) (.cons (.int 1) .nil))) (.cons (.tup (.cons (.int 1) (.cons (.int 2) .nil))) (.cons (.tup (.cons (.int 1) (.cons (.int 3) .nil))) .nil))))))
  (.cons (.set (.name 2) (.lst true .nil))
  (.cons (.for_ (.name 3) (.rng1 (.var 0)) (.cons (.exp (.app (.var 2) (.bi false "tuple" (.cons (.comp false [5] (.ite (.cmp .Eq (.var 3) (.var 5)) (.int 2) (.ite (.or (.cmp .In (.tup (.cons (.var 3) (.cons (.var 5) .nil))) (.var 1)) (.cmp .In (.tup (.cons (.var 5) (.cons (.var 3) .nil))) (.var 1))) (.neg (.int 1)) (.int 0))) (.name 5) (.rng1 (.var 0)) .nil) .nil)))) .nil))
  (.cons (.ret (.bi false "tuple" (.cons (.var 2) .nil))) .nil)))))⟩
-- least_in
def d53 : DefS := ⟨"least_in", 1, ["table", "row"], false, true, 7,
  (.cons (.set (.name 1) (.idx (.call 34 (.cons (.var 0) .nil)) (.int 0)))
  (.cons (.ret (.call 7 (.cons (.var 0) (.cons (.var 1) (.cons (.var 1) .nil))))) .nil))⟩
-- ratio_in
def d54 : DefS := ⟨"ratio_in", 1, ["table", "power", "row"], false, true, 8,
  (.cons (.set (.name 1) (.int 1))
  (.cons (.for_ (.name 2) (.of (.var 0)) (.cons (.set (.name 1) (.bin false .Mult (.var 1) (.call 53 (.cons (.var 0) .nil)))) .nil))
  (.cons (.ret (.call 5 (.cons (.var 1) (.cons (.idx (.call 9 (.cons (.var 0) .nil)) (.neg (.int 1))) .nil)))) .nil)))⟩
-- best_table
def d55 : DefS := ⟨"best_table", 1, ["n"], false, true, 3,
  (.cons (.exp (.call 1 (.cons (.var 0) (.cons (.int 1) (.cons (.gint "ROWS_bestones" 4) .nil)))))
  (.cons (.ret (.call 52 (.cons (.var 0) .nil))) .nil))⟩
-- best_ratio
def d56 : DefS := ⟨"best_ratio", 1, ["n"], false, true, 3,
  (.cons (.exp (.call 1 (.cons (.var 0) (.cons (.int 1) (.cons (.gint "ROWS_bestones" 4) .nil)))))
  (.cons (.ret (.idx .hole (.bin false .Sub (.var 0) (.int 1)))) .nil))⟩
-- ratio_of
def d57 : DefS := ⟨"ratio_of", 1, ["table"], false, true, 9,
  (.cons (.exp (.call 17 (.cons (.var 0) .nil)))
  (.cons (.ret (.call 54 (.cons (.var 0) .nil))) .nil))⟩
-- is_best
def d58 : DefS := ⟨"is_best", 1, ["table"], false, true, 9,
  (.cons (.exp (.call 17 (.cons (.var 0) .nil)))
  (.cons (.ret (.cmp .Eq (.call 54 (.cons (.var 0) .nil)) (.idx .hole (.bin false .Sub (.bi false "len" (.cons (.var 0) .nil)) (.int 1))))) .nil))⟩
-- best_carrying
def d59 : DefS := ⟨"best_carrying", 1, ["table", "by", "found", "best", "least", "row", "part"], false, true, 8,
  (.cons (.exp (.call 17 (.cons (.var 0) .nil)))
  (.cons (.par 3 4 (.call 52 (.cons (.bi false "len" (.cons (.var 0) .nil)) .nil)) (.call 53 (.cons (.var 0) .nil)))
  (.cons (.ite (.cmp .NotEq (.bin false .Mod (.var 4) (.idx (.idx (.var 3) (.int 0)) (.int 0))) (.int 0)) (.cons (.ret .non) .nil) .nil)
  (.cons (.set (.name 1) (.bin false .FloorDiv (.var 4) (.idx (.idx (.var 3) (.int 0)) (.int 0))))
  (.cons (.set (.name 2) (.call 28 (.cons (.bi false "tuple" (.cons (.comp false [5] (.bi false "tuple" (.cons (.comp false [6] (.bin false .Mult (.var 1) (.var 6)) (.name 6) (.of (.var 5)) .nil) .nil)) (.name 5) (.of (.var 3)) .nil) .nil)) (.cons (.var 0) .nil))))
  (.cons (.ret (.ite (.cmp .IsNot (.var 2) .non) (.tup (.cons (.var 1) (.cons (.var 2) .nil))) .non)) .nil))))))⟩
-- numbers_in
def d60 : DefS := ⟨"numbers_in", 2, ["table", "most", "known", "long"], false, true, 6,
  (.cons (.set (.name 2) (.call 24 (.cons (.var 0) (.cons (.var 1) .nil))))
  (.cons (.ret (.bin false .Add (.lst false (.cons (.int 1) .nil)) (.comp false [3] (.bi false "len" (.cons (.dget (.var 2) (.var 3) (.lst false .nil)) .nil)) (.name 3) (.rng2 (.int 1) (.bin false .Add (.var 1) (.int 1))) .nil))) .nil))⟩
-- are_counts
def d61 : DefS := ⟨"are_counts", 1, ["value", "own"], false, true, 2,
  (.cons (.ret (.and (.call 2 (.cons (.var 0) (.cons (.int 1) (.cons (.bin false .Add (.gint "MOST_lengthnumbers" 30) (.int 1)) .nil)))) (.bi false "all" (.cons (.comp false [1] (.call 0 (.cons (.var 1) (.cons (.int 0) (.cons (.gint "GREAT_lengthnumbers" 1000000000) .nil)))) (.name 1) (.of (.var 0)) .nil) .nil)))) .nil)⟩
-- length_numbers
def d62 : DefS := ⟨"length_numbers", 2, ["table", "most"], false, true, 7,
  (.cons (.exp (.call 17 (.cons (.var 0) .nil)))
  (.cons (.exp (.call 1 (.cons (.var 1) (.cons (.int 0) (.cons (.gint "MOST_lengthnumbers" 30) .nil)))))
  (.cons (.ret (.bi false "tuple" (.cons (.call 60 (.cons (.var 0) (.cons (.var 1) .nil))) .nil))) .nil)))⟩
-- parting_length
def d63 : DefS := ⟨"parting_length", 3, ["one", "other", "most", "long", "first", "second"], false, true, 6,
  (.cons (.exp (.call 17 (.cons (.var 0) .nil)))
  (.cons (.exp (.call 17 (.cons (.var 1) .nil)))
  (.cons (.exp (.call 1 (.cons (.var 2) (.cons (.int 0) (.cons (.gint "MOST_lengthnumbers" 30) .nil)))))
  (.cons (.for_ (.tup (.cons (.name 3) (.cons (.tup (.cons (.name 4) (.cons (.name 5) .nil))) .nil))) (.enum .hole) (.cons (.ite (.cmp .NotEq (.var 4) (.var 5)) (.cons (.ret (.var 3)) .nil) .nil) .nil))
  (.cons (.ret .non) .nil)))))⟩
-- numbers_beside
def d64 : DefS := ⟨"numbers_beside", 2, ["first", "second", "k", "i"], false, true, 3,
  (.cons (.ite (.or (.not (.call 61 (.cons (.var 0) .nil))) (.or (.not (.call 61 (.cons (.var 1) .nil))) (.cmp .NotEq (.bi false "len" (.cons (.var 0) .nil)) (.bi false "len" (.cons (.var 1) .nil))))) (.cons (.raise "InvalidCounts" "not numbers of as many lengths") .nil) .nil)
  (.cons (.ret (.bi false "tuple" (.cons (.comp false [2] (.bi false "sum" (.cons (.comp false [3] (.bin false .Mult (.idx (.var 0) (.var 3)) (.idx (.var 1) (.bin false .Sub (.var 2) (.var 3)))) (.name 3) (.rng1 (.bin false .Add (.var 2) (.int 1))) .nil) .nil)) (.name 2) (.rng1 (.bi false "len" (.cons (.var 0) .nil))) .nil) .nil))) .nil))⟩
-- need_three
def d65 : DefS := ⟨"need_three", 1, ["table"], false, true, 5,
  (.cons (.ite (.or (.not (.call 16 (.cons (.var 0) .nil))) (.cmp .Gt (.bi false "len" (.cons (.var 0) .nil)) (.gint "ROWS_oneforms" 3))) (.cons (.raise "InvalidTable" "not a handy table of at most three rows") .nil) .nil) .nil)⟩
-- can_go_on
def d66 : DefS := ⟨"can_go_on", 2, ["rows", "size", "shared", "places", "row", "at"], false, true, 2,
  (.cons (.set (.name 2) (.int 0))
  (.cons (.for_ (.name 3) (.of .hole) (.cons (.set (.name 2) (.bi false "gcd" (.cons (.var 2) (.cons (.call 13 (.cons (.comp false [4] (.comp false [5] (.idx (.var 4) (.var 5)) (.name 5) (.of (.var 3)) .nil) (.name 4) (.of (.var 0)) .nil) .nil)) .nil)))) .nil))
  (.cons (.ret (.cmp .Eq (.var 2) (.int 1))) .nil)))⟩
-- next_rows
def d67 : DefS := ⟨"next_rows", 3, ["table", "rows", "known", "long", "found", "row"], false, true, 3,
  (.cons (.for_ (.name 3) (.of .hole) (.cons (.set (.name 4) (.comp false [5] (.var 5) (.name 5) (.of (.idx (.var 2) (.var 3))) (.cons (.call 66 (.cons (.bin false .Add (.var 1) (.tup (.cons (.var 5) .nil))) (.cons (.bi false "len" (.cons (.var 0) .nil)) .nil))) .nil))) (.cons (.ite (.cmp .NotEq (.var 4) (.lst false .nil)) (.cons (.ret (.var 4)) .nil) .nil) .nil)))
  (.cons (.ret (.lst false .nil)) .nil))⟩
-- bases_in
def d68 : DefS := ⟨"bases_in", 1, ["table", "bound", "at", "known", "line", "later", "rows", "some", "row"], false, true, 6,
  (.cons (.set (.name 1) (.bi false "max" (.cons (.comp false [2, 8] (.idx (.var 8) (.var 2)) (.tup (.cons (.name 2) (.cons (.name 8) .nil))) (.enum (.call 18 (.cons (.var 0) (.cons (.call 20 (.cons (.var 0) .nil)) .nil)))) .nil) .nil)))
  (.cons (.par 3 4 (.call 24 (.cons (.var 0) (.cons (.var 1) .nil))) (.lst false (.cons (.tup .nil) .nil)))
  (.cons (.for_ (.name 2) (.rng1 (.bi false "len" (.cons (.var 0) .nil))) (.cons (.set (.name 5) (.lst false .nil)) (.cons (.for_ (.name 6) (.of (.var 4)) (.cons (.set (.name 7) (.call 67 (.cons (.var 0) (.cons (.var 6) (.cons (.var 3) .nil))))) (.cons (.while_ 1000000 (.cmp .Eq (.var 7) (.lst false .nil)) (.cons (.set (.name 1) (.bin false .Mult (.int 2) (.var 1))) (.cons (.set (.name 3) (.call 24 (.cons (.var 0) (.cons (.var 1) .nil)))) (.cons (.set (.name 7) (.call 67 (.cons (.var 0) (.cons (.var 6) (.cons (.var 3) .nil))))) .nil)))) (.cons (.set (.name 5) (.bin false .Add (.var 5) (.comp false [8] (.bin false .Add (.var 6) (.tup (.cons (.var 8) .nil))) (.name 8) (.of (.var 7)) .nil))) .nil)))) (.cons (.set (.name 4) (.var 5)) .nil))))
  (.cons (.ret (.var 4)) .nil))))⟩
-- one_form
def d69 : DefS := ⟨"one_form", 1, ["table", "rows"], false, true, 7,
  (.cons (.exp (.call 65 (.cons (.var 0) .nil)))
  (.cons (.ret (.bi false "min" (.cons (.comp false [1] (.call 18 (.cons (.var 0) (.cons (.var 1) .nil))) (.name 1) (.of (.call 68 (.cons (.var 0) .nil))) .nil) .nil))) .nil))⟩
-- one_base
def d70 : DefS := ⟨"one_base", 1, ["table", "rows"], false, true, 7,
  (.cons (.exp (.call 65 (.cons (.var 0) .nil)))
  (.cons (.ret (.idx (.bi false "min" (.cons (.comp false [1] (.tup (.cons (.call 18 (.cons (.var 0) (.cons (.var 1) .nil))) (.cons (.var 1) .nil))) (.name 1) (.of (.call 68 (.cons (.var 0) .nil))) .nil) .nil)) (.int 1))) .nil))⟩
-- is_short_base
def d71 : DefS := ⟨"is_short_base", 2, ["table", "value"], false, true, 7,
  (.cons (.exp (.call 65 (.cons (.var 0) .nil)))
  (.cons (.ret (.and (.call 15 (.cons (.bi false "len" (.cons (.var 0) .nil)) (.cons (.var 1) .nil))) (.cmp .In (.var 1) (.call 68 (.cons (.var 0) .nil))))) .nil))⟩
-- count_short_bases
def d72 : DefS := ⟨"count_short_bases", 1, ["table"], false, true, 7,
  (.cons (.exp (.call 65 (.cons (.var 0) .nil)))
  (.cons (.ret (.bi false "len" (.cons (.call 68 (.cons (.var 0) .nil)) .nil))) .nil))⟩
-- need_base
def d73 : DefS := ⟨"need_base", 1, ["base"], false, true, 4,
  (.cons (.ite (.or (.not (.isi (.var 0) "tuple")) (.or (.not (.chain .LtE .LtE (.int 1) (.bi false "len" (.cons (.var 0) .nil)) (.gint "SIZE" 8))) (.not (.call 15 (.cons (.bi false "len" (.cons (.var 0) .nil)) (.cons (.var 0) .nil)))))) (.cons (.raise "InvalidBase" "not a base change") .nil) .nil) .nil)⟩
-- behind
def d74 : DefS := ⟨"behind", 2, ["one", "base", "own", "at", "part", "row"], false, true, 1,
  (.cons (.ret (.comp false [2] (.bi false "tuple" (.cons (.comp false [3] (.bi false "sum" (.cons (.comp false [4, 5] (.bin false .Mult (.var 4) (.idx (.var 5) (.var 3))) (.tup (.cons (.name 4) (.cons (.name 5) .nil))) (.zip2 (.var 2) (.var 1)) .nil) .nil)) (.name 3) (.rng1 (.bi false "len" (.cons (.var 1) .nil))) .nil) .nil)) (.name 2) (.of (.var 0)) .nil)) .nil)⟩
-- powers_of
def d75 : DefS := ⟨"powers_of", 1, ["base", "rows", "turn", "found", "here"], true, true, 2,
  (.cons (.set (.name 1) (.call 19 (.cons (.bi false "len" (.cons (.var 0) .nil)) .nil)))
  (.cons (.par 3 4 (.lst true (.cons (.var 1) .nil)) (.bi false "list" (.cons (.var 0) .nil)))
  (.cons (.for_ (.name 2) (.rng1 (.gint "GREATEST" 60)) (.cons (.ite (.cmp .Eq (.var 4) (.var 1)) (.cons (.ret (.var 3)) .nil) .nil) (.cons (.exp (.app (.var 3) (.var 4))) (.cons (.set (.name 4) (.call 74 (.cons (.var 4) (.cons (.var 0) .nil)))) .nil))))
  (.cons (.ret .non) .nil))))⟩
-- prime_powers
def d76 : DefS := ⟨"prime_powers", 1, ["m", "found", "prime", "power"], true, true, 1,
  (.cons (.par 1 2 (.lst true .nil) (.int 2))
  (.cons (.while_ 1000000 (.cmp .Gt (.var 0) (.int 1)) (.cons (.set (.name 3) (.int 1)) (.cons (.while_ 1000000 (.cmp .Eq (.bin false .Mod (.var 0) (.var 2)) (.int 0)) (.cons (.par 0 3 (.bin false .FloorDiv (.var 0) (.var 2)) (.bin false .Mult (.var 3) (.var 2))) .nil)) (.cons (.ite (.cmp .Gt (.var 3) (.int 1)) (.cons (.exp (.app (.var 1) (.tup (.cons (.var 2) (.cons (.var 3) .nil))))) .nil) .nil) (.cons (.set (.name 2) (.bin false .Add (.var 2) (.int 1))) .nil)))))
  (.cons (.ret (.var 1)) .nil)))⟩
-- rows_for
def d77 : DefS := ⟨"rows_for", 1, ["m", "parts", "prime", "power"], false, true, 2,
  (.cons (.set (.name 1) (.comp false [2, 3] (.tup (.cons (.var 2) (.cons (.var 3) .nil))) (.tup (.cons (.name 2) (.cons (.name 3) .nil))) (.of (.call 76 (.cons (.var 0) .nil))) (.cons (.cmp .NotEq (.var 3) (.int 2)) .nil)))
  (.cons (.ret (.bi false "max" (.cons (.int 1) (.cons (.bi false "sum" (.cons (.comp false [2, 3] (.bin false .Sub (.var 3) (.bin false .FloorDiv (.var 3) (.var 2))) (.tup (.cons (.name 2) (.cons (.name 3) .nil))) (.of (.var 1)) .nil) .nil)) .nil)))) .nil))⟩
-- block_of
def d78 : DefS := ⟨"block_of", 3, ["prime", "power", "sign", "rows", "size", "step", "place", "row", "at", "part"], true, true, 1,
  (.cons (.set (.tup (.cons (.name 4) (.cons (.name 5) .nil))) (.tup (.cons (.bin false .Sub (.var 1) (.bin false .FloorDiv (.var 1) (.var 0))) (.cons (.bin false .FloorDiv (.var 1) (.var 0)) .nil))))
  (.cons (.set (.name 3) (.comp true [6] (.comp false [8] (.ite (.cmp .Eq (.var 8) (.bin false .Add (.var 6) (.int 1))) (.int 1) (.int 0)) (.name 8) (.rng1 (.var 4)) .nil) (.name 6) (.rng1 (.bin false .Sub (.var 4) (.int 1))) .nil))
  (.cons (.exp (.app (.var 3) (.comp false [8] (.ite (.cmp .Eq (.bin false .Mod (.var 8) (.var 5)) (.int 0)) (.neg (.int 1)) (.int 0)) (.name 8) (.rng1 (.var 4)) .nil)))
  (.cons (.ret (.comp false [7] (.comp false [9] (.bin false .Mult (.var 2) (.var 9)) (.name 9) (.of (.var 7)) .nil) (.name 7) (.of (.var 3)) .nil)) .nil))))⟩
-- base_in
def d79 : DefS := ⟨"base_in", 2, ["n", "m", "parts", "sign", "blocks", "block", "at", "rows", "place", "prime", "power", "row"], true, true, 2,
  (.cons (.set (.name 2) (.comp false [9, 10] (.tup (.cons (.var 9) (.cons (.var 10) .nil))) (.tup (.cons (.name 9) (.cons (.name 10) .nil))) (.of (.call 76 (.cons (.var 1) .nil))) (.cons (.cmp .NotEq (.var 10) (.int 2)) .nil)))
  (.cons (.set (.name 3) (.ite (.cmp .In (.tup (.cons (.int 2) (.cons (.int 2) .nil))) (.call 76 (.cons (.var 1) .nil))) (.neg (.int 1)) (.int 1)))
  (.cons (.set (.name 4) (.lst true .nil))
  (.cons (.for_ (.tup (.cons (.name 6) (.cons (.tup (.cons (.name 9) (.cons (.name 10) .nil))) .nil))) (.enum (.var 2)) (.cons (.exp (.app (.var 4) (.call 78 (.cons (.var 9) (.cons (.var 10) (.cons (.ite (.cmp .Eq (.var 6) (.int 0)) (.var 3) (.int 1)) .nil)))))) .nil))
  (.cons (.ite (.cmp .Eq (.var 2) (.lst false .nil)) (.cons (.set (.name 4) (.lst true (.cons (.lst false (.cons (.lst false (.cons (.var 3) .nil)) .nil)) .nil))) .nil) .nil)
  (.cons (.par 7 8 (.call 19 (.cons (.var 0) .nil)) (.int 0))
  (.cons (.for_ (.name 5) (.of (.var 4)) (.cons (.for_ (.tup (.cons (.name 6) (.cons (.name 11) .nil))) (.enum (.var 5)) (.cons (.seti (.var 7) (.bin false .Add (.var 8) (.var 6)) (.bin false .Add (.bin false .Add (.bin false .Mult (.tup (.cons (.int 0) .nil)) (.var 8)) (.bi false "tuple" (.cons (.var 11) .nil))) (.bin false .Mult (.tup (.cons (.int 0) .nil)) (.bin false .Sub (.bin false .Sub (.var 0) (.var 8)) (.bi false "len" (.cons (.var 11) .nil)))))) .nil)) (.cons (.set (.name 8) (.bin false .Add (.var 8) (.bi false "len" (.cons (.var 5) .nil)))) .nil)))
  (.cons (.ret (.bi false "tuple" (.cons (.var 7) .nil))) .nil))))))))⟩
-- order_of
def d80 : DefS := ⟨"order_of", 1, ["base", "powers"], false, true, 5,
  (.cons (.exp (.call 73 (.cons (.var 0) .nil)))
  (.cons (.set (.name 1) (.call 75 (.cons (.var 0) .nil)))
  (.cons (.ret (.ite (.cmp .IsNot (.var 1) .non) (.bi false "len" (.cons (.var 1) .nil)) .non)) .nil)))⟩
-- least_rows
def d81 : DefS := ⟨"least_rows", 1, ["m"], false, true, 3,
  (.cons (.exp (.call 1 (.cons (.var 0) (.cons (.int 1) (.cons (.gint "MOST_orders" 100) .nil)))))
  (.cons (.ret (.call 77 (.cons (.var 0) .nil))) .nil))⟩
-- possible_orders
def d82 : DefS := ⟨"possible_orders", 1, ["n", "m"], false, true, 3,
  (.cons (.exp (.call 1 (.cons (.var 0) (.cons (.int 1) (.cons (.gint "SIZE" 8) .nil)))))
  (.cons (.ret (.bi false "tuple" (.cons (.comp false [1] (.var 1) (.name 1) (.rng2 (.int 1) (.bin false .Add (.gint "GREATEST" 60) (.int 1))) (.cons (.cmp .LtE (.call 77 (.cons (.var 1) .nil)) (.var 0)) .nil)) .nil))) .nil))⟩
-- base_with
def d83 : DefS := ⟨"base_with", 2, ["n", "m"], false, true, 3,
  (.cons (.exp (.call 1 (.cons (.var 0) (.cons (.int 1) (.cons (.gint "SIZE" 8) .nil)))))
  (.cons (.exp (.call 1 (.cons (.var 1) (.cons (.int 1) (.cons (.gint "MOST_orders" 100) .nil)))))
  (.cons (.ret (.ite (.cmp .LtE (.call 77 (.cons (.var 1) .nil)) (.var 0)) (.call 79 (.cons (.var 0) (.cons (.var 1) .nil))) .non)) .nil)))⟩
-- kept_table
def d84 : DefS := ⟨"kept_table", 1, ["base", "powers", "size", "found", "i", "row", "j", "rows", "one", "other"], true, true, 5,
  (.cons (.exp (.call 73 (.cons (.var 0) .nil)))
  (.cons (.set (.name 1) (.call 75 (.cons (.var 0) .nil)))
  (.cons (.ite (.cmp .Is (.var 1) .non) (.cons (.ret .non) .nil) .nil)
  (.cons (.set (.name 2) (.bi false "len" (.cons (.var 0) .nil)))
  (.cons (.set (.name 3) (.lst true .nil))
  (.cons (.for_ (.name 4) (.rng1 (.var 2)) (.cons (.set (.name 5) (.lst true .nil)) (.cons (.for_ (.name 6) (.rng1 (.var 2)) (.cons (.exp (.app (.var 5) (.bi false "sum" (.cons (.comp false [7] (.bi false "sum" (.cons (.comp false [8, 9] (.bin false .Mult (.var 8) (.var 9)) (.tup (.cons (.name 8) (.cons (.name 9) .nil))) (.zip2 (.idx (.var 7) (.var 4)) (.idx (.var 7) (.var 6))) .nil) .nil)) (.name 7) (.of (.var 1)) .nil) .nil)))) .nil)) (.cons (.exp (.app (.var 3) (.bi false "tuple" (.cons (.var 5) .nil)))) .nil))))
  (.cons (.ret (.bi false "tuple" (.cons (.var 3) .nil))) .nil)))))))⟩
-- does_keep
def d85 : DefS := ⟨"does_keep", 2, ["base", "value"], false, true, 5,
  (.cons (.exp (.call 73 (.cons (.var 0) .nil)))
  (.cons (.ret (.and (.call 10 (.cons (.var 1) .nil)) (.and (.cmp .Eq (.bi false "len" (.cons (.var 1) .nil)) (.bi false "len" (.cons (.var 0) .nil))) (.cmp .Eq (.call 18 (.cons (.var 1) (.cons (.var 0) .nil))) (.var 1))))) .nil))⟩
-- known_rows
def d86 : DefS := ⟨"known_rows", 1, ["table", "at", "row"], false, false, 6,
  (.cons (.ret (.call 24 (.cons (.var 0) (.cons (.bi false "max" (.cons (.comp false [1, 2] (.idx (.var 2) (.var 1)) (.tup (.cons (.name 1) (.cons (.name 2) .nil))) (.enum (.var 0)) .nil) .nil)) .nil)))) .nil)⟩
-- counts_in
def d87 : DefS := ⟨"counts_in", 1, ["table", "at", "known", "units", "found", "some", "row"], true, true, 7,
  (.cons (.set (.tup (.cons (.name 2) (.cons (.name 3) (.cons (.name 4) .nil)))) (.tup (.cons (.call 86 (.cons (.var 0) .nil)) (.cons (.call 19 (.cons (.bi false "len" (.cons (.var 0) .nil)) .nil)) (.cons (.lst true .nil) .nil)))))
  (.cons (.for_ (.name 1) (.rng1 (.bi false "len" (.cons (.var 0) .nil))) (.cons (.set (.name 5) (.call 25 (.cons (.var 0) (.cons (.var 0) (.cons (.var 2) (.cons (.slc (.var 3) .nil (.cons (.var 1) .nil)) .nil)))))) (.cons (.exp (.app (.var 4) (.bi false "len" (.cons (.comp false [6] (.var 6) (.name 6) (.of (.var 5)) (.cons (.cmp .IsNot (.call 26 (.cons (.var 0) (.cons (.var 0) (.cons (.var 2) (.cons (.bin false .Add (.slc (.var 3) .nil (.cons (.var 1) .nil)) (.lst false (.cons (.var 6) .nil))) .nil))))) .non) .nil)) .nil)))) .nil)))
  (.cons (.ret (.var 4)) .nil)))⟩
-- number_in
def d88 : DefS := ⟨"number_in", 1, ["table", "found", "count"], false, true, 8,
  (.cons (.set (.name 1) (.int 1))
  (.cons (.for_ (.name 2) (.of (.call 87 (.cons (.var 0) .nil))) (.cons (.set (.name 1) (.bin false .Mult (.var 1) (.var 2))) .nil))
  (.cons (.ret (.var 1)) .nil)))⟩
-- all_turnings
def d89 : DefS := ⟨"all_turnings", 1, ["table", "at", "known", "line", "own", "row"], false, true, 7,
  (.cons (.set (.tup (.cons (.name 2) (.cons (.name 3) .nil))) (.tup (.cons (.call 86 (.cons (.var 0) .nil)) (.cons (.lst false (.cons (.tup .nil) .nil)) .nil))))
  (.cons (.for_ (.name 1) (.rng1 (.bi false "len" (.cons (.var 0) .nil))) (.cons (.set (.name 3) (.comp2 false [4, 5] [5] (.bin false .Add (.var 4) (.tup (.cons (.var 5) .nil))) (.name 4) (.of (.var 3)) .nil (.name 5) (.of (.call 25 (.cons (.var 0) (.cons (.var 0) (.cons (.var 2) (.cons (.var 4) .nil)))))) .nil)) .nil))
  (.cons (.ret .hole) .nil)))⟩
-- count_turnings
def d90 : DefS := ⟨"count_turnings", 1, ["table"], false, true, 9,
  (.cons (.exp (.call 17 (.cons (.var 0) .nil)))
  (.cons (.ret (.call 88 (.cons (.var 0) .nil))) .nil))⟩
-- place_counts
def d91 : DefS := ⟨"place_counts", 1, ["table"], false, true, 8,
  (.cons (.exp (.call 17 (.cons (.var 0) .nil)))
  (.cons (.ret (.bi false "tuple" (.cons (.call 87 (.cons (.var 0) .nil)) .nil))) .nil))⟩
-- turnings_of
def d92 : DefS := ⟨"turnings_of", 1, ["table"], false, true, 9,
  (.cons (.exp (.call 17 (.cons (.var 0) .nil)))
  (.cons (.ite (.cmp .Gt (.call 88 (.cons (.var 0) .nil)) (.gint "LIMIT" 400)) (.cons (.raiseL "TooMany" (.gint "LIMIT" 400)) .nil) .nil)
  (.cons (.ret (.bi false "tuple" (.cons (.call 89 (.cons (.var 0) .nil)) .nil))) .nil)))⟩
-- is_turning
def d93 : DefS := ⟨"is_turning", 2, ["table", "value"], false, true, 6,
  (.cons (.exp (.call 17 (.cons (.var 0) .nil)))
  (.cons (.ret (.call 29 (.cons (.var 0) (.cons (.var 0) (.cons (.var 1) .nil))))) .nil))⟩
-- inverse_by
def d94 : DefS := ⟨"inverse_by", 1, ["table", "whole", "size", "i", "j"], false, true, 3,
  (.cons (.set (.tup (.cons (.name 1) (.cons (.name 2) .nil))) (.tup (.cons (.call 13 (.cons (.var 0) .nil)) (.cons (.bi false "len" (.cons (.var 0) .nil)) .nil))))
  (.cons (.ret (.comp false [3] (.comp false [4] (.call 5 (.cons (.call 14 (.cons (.var 0) (.cons (.var 4) (.cons (.var 3) .nil)))) (.cons (.var 1) .nil))) (.name 4) (.rng1 (.var 2)) .nil) (.name 3) (.rng1 (.var 2)) .nil)) .nil))⟩
-- less
def d95 : DefS := ⟨"less", 2, ["one", "other"], false, true, 3,
  (.cons (.ret (.call 6 (.cons (.var 0) (.cons (.tup (.cons (.neg (.idx (.var 1) (.int 0))) (.cons (.idx (.var 1) (.int 1)) .nil))) .nil)))) .nil)⟩
-- by
def d96 : DefS := ⟨"by", 2, ["one", "other"], false, true, 2,
  (.cons (.ret (.call 5 (.cons (.bin false .Mult (.idx (.var 0) (.int 0)) (.idx (.var 1) (.int 1))) (.cons (.bin false .Mult (.idx (.var 0) (.int 1)) (.idx (.var 1) (.int 0))) .nil)))) .nil)⟩
-- solved
def d97 : DefS := ⟨"solved", 2, ["lines", "many", "heads", "ways", "at", "own", "line", "way", "places", "other", "part", "first", "place", "head", "one", "two"], true, true, 4,
  (.cons (.par 2 3 (.lst true .nil) (.lst true .nil))
  (.cons (.for_ (.tup (.cons (.name 4) (.cons (.name 5) .nil))) (.enum (.var 0)) (.cons (.set (.name 6) (.comp false [10] (.ite (.isi (.var 10) "int") (.tup (.cons (.var 10) (.cons (.int 1) .nil))) (.var 10)) (.name 10) (.of (.var 5)) .nil)) (.cons (.set (.name 7) (.comp false [12] (.ite (.cmp .Eq (.var 12) (.var 4)) (.tup (.cons (.int 1) (.cons (.int 1) .nil))) .hole) (.name 12) (.rng1 (.bi false "len" (.cons (.var 0) .nil))) .nil)) (.cons (.for_ (.tup (.cons (.tup (.cons (.name 12) (.cons (.name 13) .nil))) (.cons (.name 9) .nil))) (.zip2 (.var 2) (.var 3)) (.cons (.set (.name 10) (.idx (.var 6) (.var 12))) (.cons (.ite (.cmp .NotEq (.var 10) .hole) (.cons (.set (.name 6) (.comp false [14, 15] (.call 95 (.cons (.var 14) (.cons .hole .nil))) (.tup (.cons (.name 14) (.cons (.name 15) .nil))) (.zip2 (.var 6) (.var 13)) .nil)) (.cons (.set (.name 7) (.comp false [14, 15] (.call 95 (.cons (.var 14) (.cons .hole .nil))) (.tup (.cons (.name 14) (.cons (.name 15) .nil))) (.zip2 (.var 7) (.var 9)) .nil)) .nil)) .nil) .nil))) (.cons (.set (.name 8) (.comp false [12] (.var 12) (.name 12) (.rng1 (.var 1)) (.cons (.cmp .NotEq (.idx (.var 6) (.var 12)) .hole) .nil))) (.cons (.ite (.cmp .NotEq (.var 8) (.lst false .nil)) (.cons (.set (.name 11) (.idx (.var 6) (.idx (.var 8) (.int 0)))) (.cons (.exp (.app (.var 2) (.tup (.cons (.idx (.var 8) (.int 0)) (.cons (.comp false [14] (.call 96 (.cons (.var 14) (.cons (.var 11) .nil))) (.name 14) (.of (.var 6)) .nil) .nil))))) (.cons (.exp (.app (.var 3) (.comp false [14] (.call 96 (.cons (.var 14) (.cons (.var 11) .nil))) (.name 14) (.of (.var 7)) .nil))) .nil))) (.cons (.ite (.cmp .NotEq (.idx (.var 6) (.var 1)) .hole) (.cons (.ret (.tup (.cons (.bin false .Add (.var 2) (.lst false (.cons (.tup (.cons .non (.cons (.var 6) .nil))) .nil))) (.cons (.bin false .Add (.var 3) (.lst false (.cons (.var 7) .nil))) .nil)))) .nil) .nil) .nil)) .nil))))))
  (.cons (.ret (.tup (.cons (.var 2) (.cons (.var 3) .nil)))) .nil)))⟩
-- answers
def d98 : DefS := ⟨"answers", 2, ["lines", "many", "heads", "led", "free", "found", "own", "values", "place", "head", "total", "at"], true, true, 5,
  (.cons (.set (.name 2) (.idx (.call 97 (.cons (.var 0) (.cons (.var 1) .nil))) (.int 0)))
  (.cons (.ite (.and (.cmp .NotEq (.var 2) (.lst false .nil)) (.cmp .Is (.idx (.idx (.var 2) (.neg (.int 1))) (.int 0)) .non)) (.cons (.ret .non) .nil) .nil)
  (.cons (.set (.name 3) (.comp false [8, 9] (.var 8) (.tup (.cons (.name 8) (.cons (.name 9) .nil))) (.of (.var 2)) .nil))
  (.cons (.set (.name 4) (.comp false [8] (.var 8) (.name 8) (.rng1 (.var 1)) (.cons (.cmp .NotIn (.var 8) (.var 3)) .nil)))
  (.cons (.set (.name 5) (.lst true .nil))
  (.cons (.for_ (.name 6) (.of (.bin false .Add (.lst false (.cons .non .nil)) (.var 4))) (.cons (.set (.name 7) (.bin true .Mult (.lst false (.cons .hole .nil)) (.var 1))) (.cons (.ite (.cmp .IsNot (.var 6) .non) (.cons (.seti (.var 7) (.var 6) (.tup (.cons (.int 1) (.cons (.int 1) .nil)))) .nil) .nil) (.cons (.for_ (.tup (.cons (.name 8) (.cons (.name 9) .nil))) (.of (.rev false (.var 2))) (.cons (.set (.name 10) (.ite (.cmp .Is (.var 6) .non) (.idx (.var 9) (.var 1)) .hole)) (.cons (.for_ (.name 11) (.rng1 (.var 1)) (.cons (.ite (.and (.cmp .NotEq (.var 11) (.var 8)) (.and (.cmp .NotEq (.idx (.var 9) (.var 11)) .hole) (.cmp .NotEq (.idx (.var 7) (.var 11)) .hole))) (.cons (.set (.name 10) (.call 95 (.cons (.var 10) (.cons .hole .nil)))) .nil) .nil) .nil)) (.cons (.seti (.var 7) (.var 8) (.var 10)) .nil)))) (.cons (.exp (.app (.var 5) (.var 7))) .nil)))))
  (.cons (.ret (.var 5)) .nil)))))))⟩
-- equations
def d99 : DefS := ⟨"equations", 1, ["table", "squares", "lines", "pairs", "inverse", "at", "row", "i", "j", "own"], true, true, 7,
  (.cons (.par 3 4 (.call 34 (.cons (.var 0) .nil)) (.call 94 (.cons (.var 0) .nil)))
  (.cons (.set (.name 1) (.comp false [6] (.call 36 (.cons (.var 6) .nil)) (.name 6) (.of (.var 3)) .nil))
  (.cons (.set (.name 2) (.lst true .nil))
  (.cons (.for_ (.tup (.cons (.name 5) (.cons (.tup (.cons (.name 7) (.cons (.name 8) .nil))) .nil))) (.enum (.call 35 (.cons (.bi false "len" (.cons (.var 0) .nil)) .nil))) (.cons (.exp (.app (.var 2) (.bin false .Add (.comp false [9] (.idx (.var 9) (.var 5)) (.name 9) (.of (.var 1)) .nil) (.lst false (.cons (.idx (.idx (.var 4) (.var 7)) (.var 8)) .nil))))) .nil))
  (.cons (.ret (.tup (.cons (.var 2) (.cons (.bi false "len" (.cons (.var 3) .nil)) .nil)))) .nil)))))⟩
-- bounded
def d100 : DefS := ⟨"bounded", 2, ["bounds", "frees", "place", "values", "layers", "left", "ups", "downs", "up", "parts", "rest", "shares", "lows", "highs", "own", "total", "at", "edge", "down"], true, true, 5,
  (.cons (.par 4 5 (.lst true .nil) (.var 0))
  (.cons (.for_ (.name 2) (.rng1 (.var 1)) (.cons (.exp (.app (.var 4) (.var 5))) (.cons (.set (.name 6) (.comp false [14] (.var 14) (.name 14) (.of (.var 5)) (.cons (.cmp .Gt (.idx (.idx (.idx (.var 14) (.int 0)) (.var 2)) (.int 0)) (.int 0)) .nil))) (.cons (.set (.name 7) (.comp false [14] (.var 14) (.name 14) (.of (.var 5)) (.cons (.cmp .Lt (.idx (.idx (.idx (.var 14) (.int 0)) (.var 2)) (.int 0)) (.int 0)) .nil))) (.cons (.set (.name 5) (.comp false [14] (.var 14) (.name 14) (.of (.var 5)) (.cons (.cmp .Eq (.idx (.idx (.idx (.var 14) (.int 0)) (.var 2)) (.int 0)) (.int 0)) .nil))) (.cons (.for_ (.name 8) (.of (.var 6)) (.cons (.set (.name 5) (.bin false .Add (.var 5) (.comp false [18] (.call 101 (.cons (.var 8) (.cons (.var 18) (.cons (.var 2) .nil)))) (.name 18) (.of (.var 7)) .nil))) .nil)) .nil))))))
  (.cons (.for_ (.tup (.cons (.name 9) (.cons (.name 10) (.cons (.name 11) .nil)))) (.of (.var 5)) (.cons (.ite (.cmp .LtE (.idx (.var 10) (.int 0)) (.int 0)) (.cons (.ret (.tup (.cons .non (.cons (.var 11) .nil)))) .nil) .nil) .nil))
  (.cons (.set (.name 3) (.bin true .Mult (.lst false (.cons .hole .nil)) (.var 1)))
  (.cons (.for_ (.name 2) (.rng3 (.bin false .Sub (.var 1) (.int 1)) (.neg (.int 1)) (.neg (.int 1))) (.cons (.par 12 13 (.lst false .nil) (.lst false .nil)) (.cons (.for_ (.tup (.cons (.name 9) (.cons (.name 10) (.cons (.name 11) .nil)))) (.of (.idx (.var 4) (.var 2))) (.cons (.ite (.cmp .NotEq (.idx (.var 9) (.var 2)) .hole) (.cons (.set (.name 15) (.var 10)) (.cons (.for_ (.name 16) (.rng2 (.bin false .Add (.var 2) (.int 1)) (.var 1)) (.cons (.set (.name 15) (.call 6 (.cons (.var 15) (.cons .hole .nil)))) .nil)) (.cons (.set (.name 17) (.call 96 (.cons (.tup (.cons (.neg (.idx (.var 15) (.int 0))) (.cons (.idx (.var 15) (.int 1)) .nil))) (.cons (.idx (.var 9) (.var 2)) .nil)))) (.cons (.exp (.app (.ite (.cmp .Gt (.idx (.idx (.var 9) (.var 2)) (.int 0)) (.int 0)) (.var 12) (.var 13)) (.var 17))) .nil)))) .nil) .nil)) (.cons (.seti (.var 3) (.var 2) (.call 102 (.cons (.var 12) (.cons (.var 13) .nil)))) .nil))))
  (.cons (.ret (.tup (.cons (.var 3) (.cons .non .nil)))) .nil))))))⟩
-- joined
def d101 : DefS := ⟨"joined", 3, ["up", "down", "place", "parts", "shares", "first", "second", "one", "two"], false, true, 3,
  (.cons (.set (.tup (.cons (.name 5) (.cons (.name 6) .nil))) (.tup (.cons (.tup (.cons (.neg (.idx (.idx (.idx (.var 1) (.int 0)) (.var 2)) (.int 0))) (.cons (.idx (.idx (.idx (.var 1) (.int 0)) (.var 2)) (.int 1)) .nil))) (.cons (.idx (.idx (.var 0) (.int 0)) (.var 2)) .nil))))
  (.cons (.set (.name 3) (.comp false [7, 8] (.call 6 (.cons .hole (.cons .hole .nil))) (.tup (.cons (.name 7) (.cons (.name 8) .nil))) (.zip2 (.idx (.var 0) (.int 0)) (.idx (.var 1) (.int 0))) .nil))
  (.cons (.set (.name 4) (.comp false [7, 8] (.call 6 (.cons .hole (.cons .hole .nil))) (.tup (.cons (.name 7) (.cons (.name 8) .nil))) (.zip2 (.idx (.var 0) (.int 2)) (.idx (.var 1) (.int 2))) .nil))
  (.cons (.ret (.tup (.cons (.var 3) (.cons (.call 6 (.cons .hole (.cons .hole .nil))) (.cons (.var 4) .nil))))) .nil))))⟩
-- between
def d102 : DefS := ⟨"between", 2, ["lows", "highs", "own", "low", "high"], false, true, 4,
  (.cons (.set (.tup (.cons (.name 3) (.cons (.name 4) .nil))) (.tup (.cons .non (.cons .non .nil))))
  (.cons (.for_ (.name 2) (.of (.var 0)) (.cons (.set (.name 3) (.ite (.or (.cmp .Is (.var 3) .non) (.cmp .Gt (.idx (.call 95 (.cons (.var 2) (.cons (.var 3) .nil))) (.int 0)) (.int 0))) (.var 2) (.var 3))) .nil))
  (.cons (.for_ (.name 2) (.of (.var 1)) (.cons (.set (.name 4) (.ite (.or (.cmp .Is (.var 4) .non) (.cmp .Lt (.idx (.call 95 (.cons (.var 2) (.cons (.var 4) .nil))) (.int 0)) (.int 0))) (.var 2) (.var 4))) .nil))
  (.cons (.ite (.cmp .Is (.var 3) .non) (.cons (.ret (.ite (.cmp .Is (.var 4) .non) .hole (.call 95 (.cons (.var 4) (.cons (.tup (.cons (.int 1) (.cons (.int 1) .nil))) .nil))))) .nil) .nil)
  (.cons (.ret (.ite (.cmp .Is (.var 4) .non) (.call 6 (.cons (.var 3) (.cons (.tup (.cons (.int 1) (.cons (.int 1) .nil))) .nil))) .hole)) .nil)))))⟩
-- form_by
def d103 : DefS := ⟨"form_by", 2, ["size", "numbers", "bottom", "own", "rows", "whole", "row", "i", "j"], true, true, 3,
  (.cons (.set (.name 2) (.int 1))
  (.cons (.for_ (.name 3) (.of (.var 1)) (.cons (.set (.name 2) (.bin false .Mult (.var 2) (.idx (.var 3) (.int 1)))) .nil))
  (.cons (.set (.name 4) (.comp false [6] (.bin true .Mult (.lst false (.cons (.int 0) .nil)) (.var 0)) (.name 6) (.rng1 (.var 0)) .nil))
  (.cons (.for_ (.tup (.cons (.tup (.cons (.name 7) (.cons (.name 8) .nil))) (.cons (.name 3) .nil))) (.zip2 (.call 35 (.cons (.var 0) .nil)) (.var 1)) (.cons (.set (.name 5) (.bin false .Mult (.idx (.var 3) (.int 0)) (.bin false .FloorDiv (.var 2) (.idx (.var 3) (.int 1))))) (.cons (.seti (.idx (.var 4) (.var 7)) (.var 8) (.ite (.cmp .Eq (.var 7) (.var 8)) (.bin false .Mult (.int 2) (.var 5)) (.var 5))) (.cons (.seti (.idx (.var 4) (.var 8)) (.var 7) (.idx (.idx (.var 4) (.var 7)) (.var 8))) .nil))))
  (.cons (.ret (.call 41 (.cons (.var 4) .nil))) .nil)))))⟩
-- weighed
def d104 : DefS := ⟨"weighed", 1, ["table", "found", "bounds", "at", "weights", "lines", "many", "sign", "start", "frees", "shares", "values", "squares", "own", "heads", "ways", "value", "line", "place", "row", "top", "bottom", "share"], true, true, 8,
  (.cons (.set (.tup (.cons (.name 5) (.cons (.name 6) .nil))) (.call 99 (.cons (.var 0) .nil)))
  (.cons (.set (.name 1) (.call 98 (.cons (.var 5) (.cons (.var 6) .nil))))
  (.cons (.ite (.cmp .Is (.var 1) .non) (.cons (.set (.tup (.cons (.name 14) (.cons (.name 15) .nil))) (.call 97 (.cons (.var 5) (.cons (.var 6) .nil)))) (.cons (.set (.name 7) (.ite (.cmp .Gt (.idx (.idx (.idx (.idx (.var 14) (.neg (.int 1))) (.int 1)) (.var 6)) (.int 0)) (.int 0)) (.neg (.int 1)) (.int 1))) (.cons (.ret (.tup (.cons .non (.cons (.call 103 (.cons (.bi false "len" (.cons (.var 0) .nil)) (.cons (.comp false [20, 21] (.tup (.cons (.bin false .Mult (.var 7) (.var 20)) (.cons (.var 21) .nil))) (.tup (.cons (.name 20) (.cons (.name 21) .nil))) (.of (.idx (.var 15) (.neg (.int 1)))) .nil) .nil))) .nil)))) .nil))) .nil)
  (.cons (.par 8 9 (.idx (.var 1) (.int 0)) (.slc (.var 1) (.cons (.int 1) .nil) .nil))
  (.cons (.set (.name 2) (.lst true .nil))
  (.cons (.for_ (.name 3) (.rng1 (.var 6)) (.cons (.set (.name 10) (.comp false [18] (.ite (.cmp .Eq (.var 18) (.var 3)) (.tup (.cons (.int 1) (.cons (.int 1) .nil))) .hole) (.name 18) (.rng1 (.var 6)) .nil)) (.cons (.exp (.app (.var 2) (.tup (.cons (.comp false [13] (.idx (.var 13) (.var 3)) (.name 13) (.of (.var 9)) .nil) (.cons (.idx (.var 8) (.var 3)) (.cons (.var 10) .nil)))))) .nil)))
  (.cons (.set (.tup (.cons (.name 11) (.cons (.name 10) .nil))) (.call 100 (.cons (.var 2) (.cons (.bi false "len" (.cons (.var 9) .nil)) .nil))))
  (.cons (.ite (.cmp .Is (.var 11) .non) (.cons (.set (.name 12) (.comp false [19] (.call 36 (.cons (.var 19) .nil)) (.name 19) (.of (.call 34 (.cons (.var 0) .nil))) .nil)) (.cons (.ret (.tup (.cons .non (.cons (.call 103 (.cons (.bi false "len" (.cons (.var 0) .nil)) (.cons (.idx (.call 98 (.cons (.comp false [13, 22] (.bin false .Add (.var 13) (.lst false (.cons (.var 22) .nil))) (.tup (.cons (.name 13) (.cons (.name 22) .nil))) (.zip2 (.var 12) (.var 10)) .nil) (.cons (.bi false "len" (.cons (.var 5) .nil)) .nil))) (.int 0)) .nil))) .nil)))) .nil)) .nil)
  (.cons (.set (.name 4) (.lst true .nil))
  (.cons (.for_ (.name 3) (.rng1 (.var 6)) (.cons (.set (.name 13) (.idx (.var 8) (.var 3))) (.cons (.for_ (.tup (.cons (.name 16) (.cons (.name 17) .nil))) (.zip2 (.var 11) (.var 9)) (.cons (.set (.name 13) (.call 6 (.cons (.var 13) (.cons .hole .nil)))) .nil)) (.cons (.exp (.app (.var 4) (.var 13))) .nil))))
  (.cons (.ret (.tup (.cons (.bi false "tuple" (.cons (.var 4) .nil)) (.cons .non .nil)))) .nil)))))))))))⟩
-- are_weights_in
def d105 : DefS := ⟨"are_weights_in", 2, ["table", "value", "pairs", "inverse", "i", "j", "total", "own", "row"], false, true, 7,
  (.cons (.par 2 3 (.call 34 (.cons (.var 0) .nil)) (.call 94 (.cons (.var 0) .nil)))
  (.cons (.ite (.or (.not (.call 2 (.cons (.var 1) (.cons (.bi false "len" (.cons (.var 2) .nil)) (.cons (.bi false "len" (.cons (.var 2) .nil)) .nil))))) (.not (.bi false "all" (.cons (.comp false [7] (.and (.call 4 (.cons (.var 7) .nil)) (.cmp .Gt (.idx (.var 7) (.int 0)) (.int 0))) (.name 7) (.of (.var 1)) .nil) .nil)))) (.cons (.ret (.bl false)) .nil) .nil)
  (.cons (.for_ (.tup (.cons (.name 4) (.cons (.name 5) .nil))) (.of (.call 35 (.cons (.bi false "len" (.cons (.var 0) .nil)) .nil))) (.cons (.set (.name 6) .hole) (.cons (.for_ (.tup (.cons (.name 7) (.cons (.name 8) .nil))) (.zip2 (.var 1) (.var 2)) (.cons (.set (.name 6) (.call 6 (.cons (.var 6) (.cons .hole .nil)))) .nil)) (.cons (.ite (.cmp .NotEq (.var 6) (.idx (.idx (.var 3) (.var 4)) (.var 5))) (.cons (.ret (.bl false)) .nil) .nil) .nil))))
  (.cons (.ret (.bl true)) .nil))))⟩
-- is_slanting_in
def d106 : DefS := ⟨"is_slanting_in", 2, ["table", "value", "sums", "total", "row", "own", "part", "other"], false, true, 7,
  (.cons (.ite (.not (.call 43 (.cons (.var 1) (.cons (.bi false "len" (.cons (.var 0) .nil)) .nil)))) (.cons (.ret (.bl false)) .nil) .nil)
  (.cons (.set (.name 2) (.comp false [4] (.call 44 (.cons (.var 1) (.cons (.var 4) .nil))) (.name 4) (.of (.call 34 (.cons (.var 0) .nil))) .nil))
  (.cons (.set (.name 3) .hole)
  (.cons (.for_ (.tup (.cons (.name 4) (.cons (.name 5) .nil))) (.zip2 (.var 1) (.call 94 (.cons (.var 0) .nil))) (.cons (.for_ (.tup (.cons (.name 6) (.cons (.name 7) .nil))) (.zip2 (.var 4) (.var 5)) (.cons (.set (.name 3) (.call 6 (.cons (.var 3) (.cons .hole .nil)))) .nil)) .nil))
  (.cons (.ret (.and (.cmp .GtE (.bi false "min" (.cons (.var 2) .nil)) (.int 0)) (.or (.cmp .Lt (.idx (.var 3) (.int 0)) (.int 0)) (.and (.cmp .Eq (.idx (.var 3) (.int 0)) (.int 0)) (.cmp .Gt (.bi false "max" (.cons (.var 2) .nil)) (.int 0)))))) .nil)))))⟩
-- weights_of
def d107 : DefS := ⟨"weights_of", 1, ["table"], false, true, 9,
  (.cons (.exp (.call 17 (.cons (.var 0) .nil)))
  (.cons (.ret (.idx (.call 104 (.cons (.var 0) .nil)) (.int 0))) .nil))⟩
-- slanting
def d108 : DefS := ⟨"slanting", 1, ["table"], false, true, 9,
  (.cons (.exp (.call 17 (.cons (.var 0) .nil)))
  (.cons (.ret (.idx (.call 104 (.cons (.var 0) .nil)) (.int 1))) .nil))⟩
-- are_weights
def d109 : DefS := ⟨"are_weights", 2, ["table", "value"], false, true, 8,
  (.cons (.exp (.call 17 (.cons (.var 0) .nil)))
  (.cons (.ret (.call 105 (.cons (.var 0) (.cons (.var 1) .nil)))) .nil))⟩
-- is_slanting
def d110 : DefS := ⟨"is_slanting", 2, ["table", "value"], false, true, 8,
  (.cons (.exp (.call 17 (.cons (.var 0) .nil)))
  (.cons (.ret (.call 106 (.cons (.var 0) (.cons (.var 1) .nil)))) .nil))⟩
-- _law_cup
def d111 : DefS := ⟨"_law_cup", 1, ["script", "cell"], false, false, 1,
  (.cons (.set (.name 1) (.bi false "abs" (.cons (.idx (.bin false .Add (.bi false "list" (.cons (.var 0) .nil)) (.lst false (.cons (.int 0) .nil))) (.int 0)) .nil)))
  (.cons (.ret (.lst true (.cons (.ite (.cmp .GtE (.var 1) (.bin false .Pow (.int 10) (.int 18))) (.bin false .FloorDiv (.var 1) (.int 173)) (.int 0)) (.cons (.bin false .Add (.bin false .Mod (.bi false "int" (.cons (.bin false .Add (.bin false .Mult (.var 1) (.int 431)) (.int 6323)) .nil)) (.int 1884129671)) (.int 277)) .nil)))) .nil))⟩
-- _law_roll
def d112 : DefS := ⟨"_law_roll", 2, ["cup", "many", "deep", "found"], false, true, 1,
  (.cons (.ite (.cmp .Gt (.idx (.var 0) (.int 0)) (.int 0)) (.cons (.set (.name 3) (.bin false .Mod (.bi false "int" (.cons (.idx (.var 0) (.int 0)) .nil)) (.var 1))) (.cons (.seti (.var 0) (.int 0) (.bin false .FloorDiv (.idx (.var 0) (.int 0)) (.var 1))) (.cons (.ret (.var 3)) .nil))) .nil)
  (.cons (.seti (.var 0) (.int 1) (.bin false .Mod (.bi false "int" (.cons (.bin false .Add (.bin false .Mult (.idx (.var 0) (.int 1)) (.int 29059)) (.int 10009)) .nil)) (.int 2147483543)))
  (.cons (.set (.name 2) (.bin false .Mod (.bi false "int" (.cons (.bin false .Mult (.idx (.var 0) (.int 1)) (.bin false .Add (.idx (.var 0) (.int 1)) (.int 359))) .nil)) (.int 2147483587)))
  (.cons (.ret (.bin false .Mod (.bi false "int" (.cons (.bin false .FloorDiv (.var 2) (.int 967)) .nil)) (.var 1))) .nil))))⟩
-- _law_some
def d113 : DefS := ⟨"_law_some", 2, ["cup", "things"], false, true, 2,
  (.cons (.ret (.idx (.var 1) (.call 112 (.cons (.var 0) (.cons (.bi false "len" (.cons (.var 1) .nil)) .nil))))) .nil)⟩
-- _law_mixed
def d114 : DefS := ⟨"_law_mixed", 2, ["cup", "things", "turn", "left", "found"], true, true, 2,
  (.cons (.par 3 4 (.bi true "list" (.cons (.var 1) .nil)) (.lst true .nil))
  (.cons (.for_ (.name 2) (.rng1 (.bi false "len" (.cons (.var 1) .nil))) (.cons (.exp (.app (.var 4) (.pop (.var 3) (.cons (.call 112 (.cons (.var 0) (.cons (.bi false "len" (.cons (.var 3) .nil)) .nil))) .nil)))) .nil))
  (.cons (.ret (.bi false "tuple" (.cons (.var 4) .nil))) .nil)))⟩
-- _law_error
def d115 : DefX := ⟨"_law_error", "QuarryError", 1, ["call", "e", "some", "word", "is_it"],
  (.cons (.set (.name 2) (.lst false (.cons (.tup (.cons (.str "table") (.cons (.isE 1 "InvalidTable") .nil))) (.cons (.tup (.cons (.str "base") (.cons (.isE 1 "InvalidBase") .nil))) (.cons (.tup (.cons (.str "number") (.cons (.isE 1 "InvalidNumber") .nil))) .nil)))))
  (.cons (.set (.name 2) (.bin false .Add (.bin false .Add (.var 2) (.lst false (.cons (.tup (.cons (.str "counts") (.cons (.isE 1 "InvalidCounts") .nil))) .nil))) (.ite (.isE 1 "TooMany") (.lst false (.cons (.tup (.cons (.bin false .Add (.str "many ") (.bi false "str" (.cons (.eLim 1) .nil))) (.cons (.bl true) .nil))) .nil)) (.lst false .nil))))
  (.cons (.ret (.join (.str " ") (.comp false [3, 4] (.var 3) (.tup (.cons (.name 3) (.cons (.name 4) .nil))) (.of (.var 2)) (.cons (.var 4) .nil)))) .nil))), ""⟩
-- _law_product
def d116 : DefS := ⟨"_law_product", 3, ["table", "one", "other", "found", "i", "part", "j"], false, true, 1,
  (.cons (.set (.name 3) (.int 0))
  (.cons (.for_ (.tup (.cons (.name 4) (.cons (.name 5) .nil))) (.enum (.var 1)) (.cons (.set (.name 3) (.bin false .Add (.var 3) (.bin false .Mult (.var 5) (.bi false "sum" (.cons (.comp false [6] (.bin false .Mult (.idx (.idx (.var 0) (.var 4)) (.var 6)) (.idx (.var 2) (.var 6))) (.name 6) (.rng1 (.bi false "len" (.cons (.var 2) .nil))) .nil) .nil))))) .nil))
  (.cons (.ret (.var 3)) .nil)))⟩
-- _law_carried
def d117 : DefS := ⟨"_law_carried", 2, ["table", "rows", "one", "other"], false, true, 2,
  (.cons (.ret (.bi false "tuple" (.cons (.comp false [2] (.bi false "tuple" (.cons (.comp false [3] (.call 116 (.cons (.var 0) (.cons (.var 2) (.cons (.var 3) .nil)))) (.name 3) (.of (.var 1)) .nil) .nil)) (.name 2) (.of (.var 1)) .nil) .nil))) .nil)⟩
-- _law_units
def d118 : DefS := ⟨"_law_units", 1, ["size", "i", "j"], false, true, 1,
  (.cons (.ret (.bi false "tuple" (.cons (.comp false [1] (.bi false "tuple" (.cons (.comp false [2] (.ite (.cmp .Eq (.var 1) (.var 2)) (.int 1) (.int 0)) (.name 2) (.rng1 (.var 0)) .nil) .nil)) (.name 1) (.rng1 (.var 0)) .nil) .nil))) .nil)⟩
-- _law_base
def d119 : DefS := ⟨"_law_base", 3, ["cup", "size", "steps", "rows", "turn", "sign", "row", "i", "j", "own", "more"], true, true, 3,
  (.cons (.set (.name 3) (.comp true [6] (.bi false "list" (.cons (.var 6) .nil)) (.name 6) (.of (.call 118 (.cons (.var 1) .nil))) .nil))
  (.cons (.for_ (.name 4) (.rng1 (.ite (.cmp .Gt (.var 1) (.int 1)) (.var 2) (.int 0))) (.cons (.set (.tup (.cons (.name 7) (.cons (.name 8) .nil))) (.slc (.call 114 (.cons (.var 0) (.cons (.lrg false false (.rng1 (.var 1))) .nil))) .nil (.cons (.int 2) .nil))) (.cons (.set (.name 5) (.call 113 (.cons (.var 0) (.cons (.lst false (.cons (.int 1) (.cons (.neg (.int 1)) .nil))) .nil)))) (.cons (.seti (.var 3) (.var 7) (.comp false [9, 10] (.bin false .Add (.var 9) (.bin false .Mult (.var 5) (.var 10))) (.tup (.cons (.name 9) (.cons (.name 10) .nil))) (.zip2 (.idx (.var 3) (.var 7)) (.idx (.var 3) (.var 8))) .nil)) .nil))))
  (.cons (.set (.name 3) (.comp true [6, 5] (.bi false "tuple" (.cons (.comp false [9] (.bin false .Mult (.var 9) (.var 5)) (.name 9) (.of (.var 6)) .nil) .nil)) (.tup (.cons (.name 6) (.cons (.name 5) .nil))) (.zip2 (.var 3) (.comp false [6] (.call 113 (.cons (.var 0) (.cons (.lst false (.cons (.int 1) (.cons (.neg (.int 1)) .nil))) .nil))) (.name 6) (.of (.var 3)) .nil)) .nil))
  (.cons (.ret (.call 114 (.cons (.var 0) (.cons (.var 3) .nil)))) .nil))))⟩
-- _law_tables_right
def d120 : DefS := ⟨"_law_tables_right", 0, ["good", "odds", "odd", "words", "call"], true, true, 10,
  (.cons (.set (.name 0) (.tup (.cons (.tup (.cons (.int 2) (.cons (.int 1) .nil))) (.cons (.tup (.cons (.int 1) (.cons (.int 2) .nil))) .nil))))
  (.cons (.set (.name 1) (.lst false (.cons .non (.cons (.tup .nil) (.cons (.tup (.cons (.tup (.cons (.int 0) .nil)) .nil)) (.cons (.tup (.cons (.tup (.cons (.neg (.int 1)) .nil)) .nil)) (.cons (.tup (.cons (.tup (.cons (.int 1) (.cons (.int 2) .nil))) (.cons (.tup (.cons (.int 2) (.cons (.int 1) .nil))) .nil))) (.cons (.tup (.cons (.tup (.cons (.int 1) (.cons (.int 1) .nil))) (.cons (.tup (.cons (.int 1) (.cons (.int 1) .nil))) .nil))) (.cons (.tup (.cons (.tup (.cons (.int 1) (.cons (.int 2) .nil))) (.cons (.tup (.cons (.int 3) (.cons (.int 9) .nil))) .nil))) (.cons (.tup (.cons (.tup (.cons (.int 1) (.cons (.int 0) .nil))) .nil)) (.cons (.lst false (.cons (.tup (.cons (.int 1) .nil)) .nil)) (.cons (.tup (.cons (.lst false (.cons (.int 1) .nil)) .nil)) (.cons (.tup (.cons (.tup (.cons (.bl true) .nil)) .nil)) (.cons (.tup (.cons (.tup (.cons (.int 31) .nil)) .nil)) (.cons (.tup (.cons (.tup (.cons (.int 30) (.cons (.int 0) .nil))) (.cons (.tup (.cons (.int 0) (.cons (.int 31) .nil))) .nil))) (.cons (.call 118 (.cons (.int 5) .nil)) (.cons (.int 5) .nil)))))))))))))))))
  (.cons (.for_ (.name 2) (.of (.var 1)) (.cons (.set (.name 3) (.comp true [4] (.lam 115 (.cvar 4 (.cons (.var 2) .nil))) (.name 4) (.of (.tup (.cons (.fnv 90) (.cons (.fnv 91) (.cons (.fnv 92) (.cons (.fnv 69) (.cons (.fnv 70) (.cons (.fnv 72) .nil)))))))) .nil)) (.cons (.set (.name 3) (.bin true .Add (.var 3) (.comp false [4] (.lam 115 (.cvar 4 (.cons (.var 2) .nil))) (.name 4) (.of (.tup (.cons (.fnv 45) (.cons (.fnv 46) (.cons (.fnv 47) (.cons (.fnv 48) (.cons (.fnv 49) .nil))))))) .nil))) (.cons (.set (.name 3) (.bin true .Add (.var 3) (.comp false [4] (.lam 115 (.cvar 4 (.cons (.var 2) .nil))) (.name 4) (.of (.tup (.cons (.fnv 107) (.cons (.fnv 108) (.cons (.fnv 57) (.cons (.fnv 58) (.cons (.fnv 59) .nil))))))) .nil))) (.cons (.ite (.cmp .NotEq (.var 3) (.bin false .Mult (.lst false (.cons (.str "table") .nil)) (.int 16))) (.cons (.ret (.bl false)) .nil) .nil) (.cons (.set (.name 3) (.comp true [4] (.lam 115 (.cvar 4 (.cons (.var 2) (.cons .non .nil)))) (.name 4) (.of (.tup (.cons (.fnv 31) (.cons (.fnv 32) (.cons (.fnv 93) (.cons (.fnv 71) (.cons (.fnv 62) .nil))))))) .nil)) (.cons (.set (.name 3) (.bin true .Add (.var 3) (.comp false [4] (.lam 115 (.cvar 4 (.cons (.var 2) (.cons .non .nil)))) (.name 4) (.of (.tup (.cons (.fnv 50) (.cons (.fnv 51) (.cons (.fnv 109) (.cons (.fnv 110) .nil)))))) .nil))) (.cons (.set (.name 3) (.bin true .Add (.var 3) (.comp false [4] (.lam 115 (.cvar 4 (.cons (.var 2) (.cons .non (.cons .non .nil))))) (.name 4) (.of (.tup (.cons (.fnv 33) (.cons (.fnv 63) .nil)))) .nil))) (.cons (.set (.name 3) (.bin true .Add (.var 3) (.comp false [4] (.lam 115 (.cvar 4 (.cons (.var 0) (.cons (.var 2) .nil)))) (.name 4) (.of (.tup (.cons (.fnv 31) (.cons (.fnv 32) .nil)))) .nil))) (.cons (.set (.name 3) (.bin true .Add (.var 3) (.comp false [4] (.lam 115 (.cvar 4 (.cons (.var 0) (.cons (.var 2) (.cons .non .nil))))) (.name 4) (.of (.tup (.cons (.fnv 33) (.cons (.fnv 63) .nil)))) .nil))) (.cons (.ite (.or (.cmp .NotEq (.var 3) (.bin false .Mult (.lst false (.cons (.str "table") .nil)) (.int 15))) (.cmp .IsNot (.call 30 (.cons (.var 2) .nil)) (.bl false))) (.cons (.ret (.bl false)) .nil) .nil) .nil)))))))))))
  (.cons (.set (.name 3) (.comp true [4] (.lam 115 (.cvar 4 (.cons (.call 118 (.cons (.int 4) .nil)) .nil))) (.name 4) (.of (.tup (.cons (.fnv 69) (.cons (.fnv 70) (.cons (.fnv 72) .nil))))) .nil))
  (.cons (.exp (.app (.var 3) (.lam 115 (.call 71 (.cons (.call 118 (.cons (.int 4) .nil)) (.cons .non .nil))))))
  (.cons (.ret (.and (.cmp .Eq (.var 3) (.bin false .Mult (.lst false (.cons (.str "table") .nil)) (.int 4))) (.cmp .Eq (.call 90 (.cons (.call 118 (.cons (.int 4) .nil)) .nil)) (.int 384)))) .nil))))))⟩
-- _law_numbers_right
def d121 : DefS := ⟨"_law_numbers_right", 0, ["most", "n", "m", "words", "forked", "good", "first", "second", "call"], true, true, 10,
  (.cons (.set (.tup (.cons (.name 5) (.cons (.name 3) .nil))) (.tup (.cons (.tup (.cons (.tup (.cons (.int 2) (.cons (.int 1) .nil))) (.cons (.tup (.cons (.int 1) (.cons (.int 2) .nil))) .nil))) (.cons (.lst true .nil) .nil))))
  (.cons (.for_ (.name 0) (.of (.tup (.cons .non (.cons (.neg (.int 1)) (.cons (.int 31) (.cons (.bl true) (.cons (.str "1") .nil))))))) (.cons (.exp (.app (.var 3) (.lam 115 (.call 62 (.cons (.var 5) (.cons (.var 0) .nil)))))) (.cons (.exp (.app (.var 3) (.lam 115 (.call 63 (.cons (.var 5) (.cons (.var 5) (.cons (.var 0) .nil))))))) .nil)))
  (.cons (.for_ (.name 1) (.of (.tup (.cons .non (.cons (.int 0) (.cons (.int 5) (.cons (.bl true) .nil)))))) (.cons (.set (.name 3) (.bin true .Add (.var 3) (.comp false [8] (.lam 115 (.cvar 8 (.cons (.var 1) .nil))) (.name 8) (.of (.tup (.cons (.fnv 55) (.cons (.fnv 56) .nil)))) .nil))) .nil))
  (.cons (.for_ (.name 1) (.of (.tup (.cons .non (.cons (.int 0) (.cons (.int 9) (.cons (.bl true) .nil)))))) (.cons (.exp (.app (.var 3) (.lam 115 (.call 82 (.cons (.var 1) .nil))))) (.cons (.exp (.app (.var 3) (.lam 115 (.call 83 (.cons (.var 1) (.cons .non .nil)))))) .nil)))
  (.cons (.for_ (.name 2) (.of (.tup (.cons .non (.cons (.int 0) (.cons (.int 101) (.cons (.bl true) .nil)))))) (.cons (.exp (.app (.var 3) (.lam 115 (.call 81 (.cons (.var 2) .nil))))) (.cons (.exp (.app (.var 3) (.lam 115 (.call 83 (.cons (.int 2) (.cons (.var 2) .nil)))))) .nil)))
  (.cons (.ite (.cmp .NotEq (.var 3) (.bin false .Mult (.lst false (.cons (.str "number") .nil)) (.int 34))) (.cons (.ret (.bl false)) .nil) .nil)
  (.cons (.set (.name 3) (.lst true .nil))
  (.cons (.for_ (.tup (.cons (.name 6) (.cons (.name 7) .nil))) (.of (.tup (.cons (.tup (.cons .non (.cons (.tup (.cons (.int 1) .nil)) .nil))) (.cons (.tup (.cons (.tup .nil) (.cons (.tup .nil) .nil))) (.cons (.tup (.cons (.tup (.cons (.int 1) .nil)) (.cons (.tup (.cons (.int 1) (.cons (.int 2) .nil))) .nil))) (.cons (.tup (.cons (.tup (.cons (.neg (.int 1)) .nil)) (.cons (.tup (.cons (.int 1) .nil)) .nil))) (.cons (.tup (.cons (.tup (.cons (.bin false .Add (.bin false .Pow (.int 10) (.int 9)) (.int 1)) .nil)) (.cons (.tup (.cons (.int 1) .nil)) .nil))) (.cons (.tup (.cons (.lst false (.cons (.int 1) .nil)) (.cons (.tup (.cons (.int 1) .nil)) .nil))) (.cons (.tup (.cons (.tup (.cons (.bl true) .nil)) (.cons (.tup (.cons (.int 1) .nil)) .nil))) (.cons (.tup (.cons (.tup (.cons (.int 1) .nil)) (.cons .non .nil))) (.cons (.tup (.cons (.bin false .Mult (.tup (.cons (.int 0) .nil)) (.int 32)) (.cons (.bin false .Mult (.tup (.cons (.int 0) .nil)) (.int 32)) .nil))) (.cons (.tup (.cons (.tup (.cons (.int 1) .nil)) (.cons (.tup .nil) .nil))) .nil)))))))))))) (.cons (.exp (.app (.var 3) (.lam 115 (.call 64 (.cons (.var 6) (.cons (.var 7) .nil)))))) .nil))
  (.cons (.set (.name 4) (.tup (.cons (.tup (.cons (.int 2) (.cons (.neg (.int 1)) (.cons (.int 0) (.cons (.int 0) .nil))))) (.cons (.tup (.cons (.neg (.int 1)) (.cons (.int 2) (.cons (.neg (.int 1)) (.cons (.neg (.int 1)) .nil))))) (.cons (.tup (.cons (.int 0) (.cons (.neg (.int 1)) (.cons (.int 2) (.cons (.int 0) .nil))))) (.cons (.tup (.cons (.int 0) (.cons (.neg (.int 1)) (.cons (.int 0) (.cons (.int 2) .nil))))) .nil))))))
  (.cons (.ret (.and (.cmp .Eq (.var 3) (.bin false .Mult (.lst false (.cons (.str "counts") .nil)) (.int 10))) (.and (.cmp .Eq (.lam 115 (.call 92 (.cons (.var 4) .nil))) (.str "many 400")) (.cmp .Eq (.bi false "len" (.cons (.call 64 (.cons (.bin false .Mult (.tup (.cons (.int 1) .nil)) (.int 31)) (.cons (.bin false .Mult (.tup (.cons (.int 1) .nil)) (.int 31)) .nil))) .nil)) (.int 31))))) .nil))))))))))⟩
-- _law_bases_right
def d122 : DefS := ⟨"_law_bases_right", 0, ["words", "base", "call"], true, true, 10,
  (.cons (.set (.name 0) (.lst true .nil))
  (.cons (.for_ (.name 1) (.of (.tup (.cons .non (.cons (.tup .nil) (.cons (.tup (.cons (.tup (.cons (.int 0) .nil)) .nil)) (.cons (.tup (.cons (.tup (.cons (.int 2) .nil)) .nil)) (.cons (.tup (.cons (.tup (.cons (.int 1) (.cons (.int 1) .nil))) (.cons (.tup (.cons (.int 1) (.cons (.int 1) .nil))) .nil))) (.cons (.tup (.cons (.tup (.cons (.int 1) (.cons (.int 0) .nil))) .nil)) (.cons (.lst false (.cons (.tup (.cons (.int 1) .nil)) .nil)) (.cons (.tup (.cons (.lst false (.cons (.int 1) .nil)) .nil)) (.cons (.tup (.cons (.tup (.cons (.bl true) .nil)) .nil)) (.cons (.tup (.cons (.tup (.cons (.int 1) (.cons (.int 0) .nil))) (.cons (.tup (.cons (.int 0) (.cons (.int 1) (.cons (.int 0) .nil)))) .nil))) (.cons (.call 118 (.cons (.int 9) .nil)) (.cons (.tup (.cons (.tup (.cons (.bin false .Add (.bin false .Pow (.int 10) (.int 6)) (.int 1)) (.cons (.int 1) .nil))) (.cons (.tup (.cons (.bin false .Pow (.int 10) (.int 6)) (.cons (.int 1) .nil))) .nil))) (.cons (.int 1) .nil))))))))))))))) (.cons (.set (.name 0) (.bin true .Add (.var 0) (.comp false [2] (.lam 115 (.cvar 2 (.cons (.var 1) .nil))) (.name 2) (.of (.tup (.cons (.fnv 80) (.cons (.fnv 84) .nil)))) .nil))) (.cons (.exp (.app (.var 0) (.lam 115 (.call 85 (.cons (.var 1) (.cons .non .nil)))))) .nil)))
  (.cons (.ret (.and (.cmp .Eq (.var 0) (.bin false .Mult (.lst false (.cons (.str "base") .nil)) (.int 39))) (.and (.cmp .Eq (.call 80 (.cons (.call 118 (.cons (.int 8) .nil)) .nil)) (.int 1)) (.cmp .Is (.call 85 (.cons (.call 118 (.cons (.int 8) .nil)) (.cons (.call 118 (.cons (.int 8) .nil)) .nil))) (.bl true))))) .nil)))⟩
-- law
def d123 : DefS := ⟨"law", 1, ["script", "cup", "base"], false, false, 11,
  (.cons (.set (.name 1) (.call 111 (.cons (.var 0) .nil)))
  (.cons (.set (.name 2) (.call 119 (.cons (.var 1) (.cons (.int 3) (.cons (.int 1) .nil)))))
  (.cons (.ite (.cmp .IsNot (.call 31 (.cons (.call 117 (.cons (.call 118 (.cons (.int 3) .nil)) (.cons (.var 2) .nil))) (.cons (.call 118 (.cons (.int 3) .nil)) .nil))) (.bl true)) (.cons (.ret (.bl false)) .nil) .nil)
  (.cons (.ret (.and (.call 120 .nil) (.and (.call 121 .nil) (.call 122 .nil)))) .nil))))⟩
def rows : List Rw := [⟨.std d0, top 10, false⟩, ⟨.std d1, top 11, false⟩, ⟨.std d2, top 12, false⟩, ⟨.std d3, top 13, false⟩, ⟨.std d4, top 16, false⟩, ⟨.std d5, top 17, false⟩, ⟨.std d6, top 18, false⟩, ⟨.std d7, top 29, false⟩, ⟨.std d8, top 24, false⟩, ⟨.std d9, top 25, false⟩, ⟨.std d10, top 26, false⟩, ⟨.std d11, top 27, false⟩, ⟨.std d12, top 28, false⟩, ⟨.std d13, top 31, false⟩, ⟨.std d14, top 32, false⟩, ⟨.std d15, top 33, false⟩, ⟨.std d16, top 37, false⟩, ⟨.std d17, top 38, false⟩, ⟨.std d18, top 39, false⟩, ⟨.std d19, top 40, false⟩, ⟨.std d20, top 41, false⟩, ⟨.std d21, top 42, false⟩, ⟨.std d22, top 43, false⟩, ⟨.std d23, top 44, false⟩, ⟨.std d24, top 45, false⟩, ⟨.std d25, top 46, false⟩, ⟨.std d26, top 47, false⟩, ⟨.std d27, top 48, false⟩, ⟨.std d28, top 49, false⟩, ⟨.std d29, top 50, false⟩, ⟨.std d30, top 51, false⟩, ⟨.std d31, top 52, false⟩, ⟨.std d32, top 53, false⟩, ⟨.std d33, top 54, false⟩, ⟨.std d34, top 57, false⟩, ⟨.std d35, top 58, false⟩, ⟨.std d36, top 59, false⟩, ⟨.std d37, top 60, false⟩, ⟨.std d38, top 61, false⟩, ⟨.std d39, top 62, false⟩, ⟨.std d40, top 63, false⟩, ⟨.std d41, top 64, false⟩, ⟨.std d42, top 65, false⟩, ⟨.std d43, top 66, false⟩, ⟨.std d44, top 67, false⟩, ⟨.std d45, top 68, false⟩, ⟨.std d46, top 69, false⟩, ⟨.std d47, top 70, false⟩, ⟨.std d48, top 71, false⟩, ⟨.std d49, top 72, false⟩, ⟨.std d50, top 73, false⟩, ⟨.std d51, top 74, false⟩, ⟨.std d52, top 78, false⟩, ⟨.std d53, top 79, false⟩, ⟨.std d54, top 80, false⟩, ⟨.std d55, top 81, false⟩, ⟨.std d56, top 82, false⟩, ⟨.std d57, top 83, false⟩, ⟨.std d58, top 84, false⟩, ⟨.std d59, top 85, false⟩, ⟨.std d60, top 89, false⟩, ⟨.std d61, top 90, false⟩, ⟨.std d62, top 91, false⟩, ⟨.std d63, top 92, false⟩, ⟨.std d64, top 93, false⟩, ⟨.std d65, top 96, false⟩, ⟨.std d66, top 97, false⟩, ⟨.std d67, top 98, false⟩, ⟨.std d68, top 99, false⟩, ⟨.std d69, top 100, false⟩, ⟨.std d70, top 101, false⟩, ⟨.std d71, top 102, false⟩, ⟨.std d72, top 103, false⟩, ⟨.std d73, top 107, false⟩, ⟨.std d74, top 108, false⟩, ⟨.std d75, top 109, false⟩, ⟨.std d76, top 110, false⟩, ⟨.std d77, top 111, false⟩, ⟨.std d78, top 112, false⟩, ⟨.std d79, top 113, false⟩, ⟨.std d80, top 114, false⟩, ⟨.std d81, top 115, false⟩, ⟨.std d82, top 116, false⟩, ⟨.std d83, top 117, false⟩, ⟨.std d84, top 118, false⟩, ⟨.std d85, top 119, false⟩, ⟨.std d86, top 122, false⟩, ⟨.std d87, top 123, false⟩, ⟨.std d88, top 124, false⟩, ⟨.std d89, top 125, false⟩, ⟨.std d90, top 126, false⟩, ⟨.std d91, top 127, false⟩, ⟨.std d92, top 128, false⟩, ⟨.std d93, top 129, false⟩, ⟨.std d94, top 132, false⟩, ⟨.std d95, top 133, false⟩, ⟨.std d96, top 134, false⟩, ⟨.std d97, top 135, false⟩, ⟨.std d98, top 136, false⟩, ⟨.std d99, top 137, false⟩, ⟨.std d100, top 138, false⟩, ⟨.std d101, top 139, false⟩, ⟨.std d102, top 140, false⟩, ⟨.std d103, top 141, false⟩, ⟨.std d104, top 142, false⟩, ⟨.std d105, top 143, false⟩, ⟨.std d106, top 144, false⟩, ⟨.std d107, top 145, false⟩, ⟨.std d108, top 146, false⟩, ⟨.std d109, top 147, false⟩, ⟨.std d110, top 148, false⟩, ⟨.std d111, top 150, false⟩, ⟨.std d112, top 151, false⟩, ⟨.std d113, top 152, false⟩, ⟨.std d114, top 153, false⟩, ⟨.err d115, top 154, false⟩, ⟨.std d116, top 155, false⟩, ⟨.std d117, top 156, false⟩, ⟨.std d118, top 157, false⟩, ⟨.std d119, top 158, false⟩, ⟨.std d120, top 159, true⟩, ⟨.std d121, top 160, true⟩, ⟨.std d122, top 161, true⟩, ⟨.std d123, top 162, false⟩]
def Ds : List Def := rows.map (·.d)
def sg : Sg := ⟨Ds, ["abs", "all", "any", "bool", "enumerate", "int", "isinstance", "len", "list", "max", "min", "range", "str", "sum", "super", "tuple", "zip"], [("gcd", "math.gcd"), ("isqrt", "math.isqrt")], [("GREATEST", 60), ("GREAT_lengthnumbers", 1000000000), ("GREAT_perfects", 1000000000000000000000000000000000000000000000000000000000000), ("GREAT_portions", 1000000000000000000000000000000000000000000000000000000000000), ("LIMIT", 400), ("MOST_lengthnumbers", 30), ("MOST_orders", 100), ("PART_alikes", 30), ("PART_tables", 1000000), ("ROWS_alikes", 4), ("ROWS_bestones", 4), ("ROWS_oneforms", 3), ("SIZE", 8)], ["InvalidBase", "InvalidCounts", "InvalidNumber", "InvalidTable"], "QuarryError", [("times_tables", 7)], ["TooMany"]⟩
end K56

set_option maxHeartbeats 4000000
set_option exponentiation.threshold 20000
/-! the source of the scripts: cup, roll, some, mixed -/
namespace K56
open PySem Mini L2
theorem bind_ok {α β : Type} {a : α} {μ : Mem} {f : α → Mem → R β} : (R.ok a μ).bind f = f a μ := rfl
theorem call_down {j : Nat} {d : DefS} (h : Ds[j]? = some (.std d)) (us : List U) (μ : Mem) : ∀ n, callD Ds (d.lv + n) j us μ = callD Ds d.lv j us μ
  | 0 => rfl
  | n + 1 => by
    show callD Ds (d.lv + n + 1) j us μ = _
    rw [callD, h]
    show (if d.lv ≤ d.lv + n then callD Ds (d.lv + n) j us μ else _) = _
    rw [if_pos (Nat.le_add_right _ _)]
    exact call_down h us μ n
theorem call_at {j k : Nat} {d : DefS} {us : List U} {μ : Mem} (h : Ds[j]? = some (.std d)) (hk : d.lv = k + 1) : callD Ds d.lv j us μ = runD d (orc Ds k) us μ := by
  rw [hk, callD, h]
  show (if d.lv ≤ k then _ else _) = _
  rw [if_neg (by omega)]
theorem run_here {d : DefS} {C : Orc} {us : List U} {μ : Mem} (h1 : us.length = d.np) (h2 : (d.loc && belows 0 us) = false) (h3 : d.gc = false) : runD d C us μ = ended (denSs C d.body (startU d.N us) μ) := by
  unfold runD
  rw [if_pos h1, h2, h3]
  rfl
theorem run_gc {d : DefS} {C : Orc} {us : List U} {μ : Mem} (h1 : us.length = d.np) (h2 : (d.loc && belows 0 us) = false) (h3 : d.gc = true) : runD d C us μ = sweep μ.length (ended (denSs C d.body (startU d.N us) μ)) := by
  unfold runD
  rw [if_pos h1, h2, h3]
  rfl
theorem run_loc {d : DefS} {C : Orc} {us : List U} {μ : Mem} (h1 : us.length = d.np) (h2 : (d.loc && belows 0 us) = true) : runD d C us μ = locD μ (ended (denSs C d.body (startU d.N us) [])) := by
  unfold runD
  rw [if_pos h1, h2]
  rfl
abbrev M (a b : Int) (r : Mem) : Mem := [.int a, .int b] :: r
def CupOk (a b : Int) : Prop := 0 ≤ a ∧ 0 ≤ b ∧ b < 4294967296
theorem bi_abs {m : Bool} {i : Int} {μ : Mem} : biD m "abs" [.int i] μ = .ok (.int (if i < 0 then -i else i)) μ := rfl
theorem bi_int {m : Bool} {i : Int} {μ : Mem} : biD m "int" [.int i] μ = .ok (.int i) μ := rfl
theorem bi_list_rol {m : Bool} {xs : List U} {μ : Mem} : biD m "list" [.rol xs] μ = alloc m xs μ := rfl
theorem bi_len_lst {m : Bool} {xs : List U} {μ : Mem} : biD m "len" [.lst xs] μ = .ok (.int xs.length) μ := rfl
theorem bin_add {m : Bool} {i j : Int} {μ : Mem} : binD m .Add (.int i) (.int j) μ = .ok (.int (i + j)) μ := rfl
theorem bin_mul {m : Bool} {i j : Int} {μ : Mem} (h : mulOk i j = true) : binD m .Mult (.int i) (.int j) μ = .ok (.int (i * j)) μ := by
  show (if mulOk i j = true then _ else _) = _
  rw [if_pos h]
theorem bin_fdiv {m : Bool} {i j : Int} {μ : Mem} (h : divOk j = true) : binD m .FloorDiv (.int i) (.int j) μ = .ok (.int (i.fdiv j)) μ := by
  show (if divOk j = true then _ else _) = _
  rw [if_pos h]
theorem bin_mod {m : Bool} {i j : Int} {μ : Mem} (h : (j != 0) = true) : binD m .Mod (.int i) (.int j) μ = .ok (.int (i.fmod j)) μ := by
  show (if (j != 0) = true then _ else _) = _
  rw [if_pos h]
theorem bin_pow {m : Bool} {i j : Int} {μ : Mem} (h : powOk i j = true) : binD m .Pow (.int i) (.int j) μ = .ok (.int (i ^ j.toNat)) μ := by
  show (if powOk i j = true then _ else _) = _
  rw [if_pos h]
theorem bin_cat {xs ys : List U} {μ : Mem} (h : xs.length + ys.length ≤ bigL) : binD false .Add (.lst xs) (.lst ys) μ = .ok (.lst (xs ++ ys)) μ := by
  show (if xs.length + ys.length ≤ bigL then _ else _) = _
  rw [if_pos h]
  rfl
theorem cmp_gt {i j : Int} {μ : Mem} : cmpR .Gt (.int i) (.int j) μ = .ok (.bl (decide (j < i))) μ := rfl
theorem cmp_ge {i j : Int} {μ : Mem} : cmpR .GtE (.int i) (.int j) μ = .ok (.bl (decide (j ≤ i))) μ := rfl
theorem truR_bl {b : Bool} {μ : Mem} : truR (.ok (.bl b) μ) = .ok b μ := rfl
theorem ended_ret {u : U} {μ : Mem} : ended (.ok (.ret u) μ) = .ok u μ := rfl
theorem ended_next {ρ : Slots} {μ : Mem} : ended (.ok (.next ρ) μ) = .ok .non μ := rfl
theorem idx_lst {xs : List U} {i : Int} {μ : Mem} : idxD (.lst xs) (.int i) μ = (match atU xs i with | some u => .ok u μ | none => .bad) := rfl
theorem idx_c0 {a b : Int} {r : Mem} : idxD (.ref 0) (.int 0) (M a b r) = .ok (.int a) (M a b r) := rfl
theorem idx_c1 {a b : Int} {r : Mem} : idxD (.ref 0) (.int 1) (M a b r) = .ok (.int b) (M a b r) := rfl
theorem set_c0 {a b c : Int} {r : Mem} : setiD (.ref 0) (.int 0) (.int c) (M a b r) = some (M c b r) := rfl
theorem set_c1 {a b c : Int} {r : Mem} : setiD (.ref 0) (.int 1) (.int c) (M a b r) = some (M a c r) := rfl
theorem ix_nat {n i : Nat} (h : i < n) : ixN n (i : Int) = some i := by
  unfold ixN
  rw [if_pos (by omega), if_pos (by omega)]
  simp
theorem at_nat {xs : List U} {i : Nat} {u : U} (h : xs[i]? = some u) : atU xs (i : Int) = some u := by
  have hl := (List.getElem?_eq_some_iff.mp h).1
  unfold atU
  rw [ix_nat hl]
  exact h
theorem at_int {xs : List U} {i : Int} {u : U} (h0 : 0 ≤ i) (h : xs[i.toNat]? = some u) : atU xs i = some u := by
  have z := at_nat h
  rwa [Int.toNat_of_nonneg h0] at z
theorem small_mul {i j : Int} (h : j.natAbs < 2 ^ 64) : mulOk i j = true := by
  unfold mulOk
  simp [h]
theorem small_mul' {i j : Int} (h : i.natAbs < 2 ^ 64) : mulOk i j = true := by
  unfold mulOk
  simp [h]
theorem div_ok {j : Int} (h : j ≠ 0) (h2 : j.natAbs < 2 ^ 9000) : divOk j = true := by
  unfold divOk
  simp [h, h2]
theorem roll0 (a b many : Int) (r : Mem) (h : CupOk a b) (hm : 0 < many) (hm2 : many < 2 ^ 62) : ∃ v a' b', callD Ds 1 112 [.ref 0, .int many] (M a b r) = .ok (.int v) (M a' b' r) ∧ CupOk a' b' ∧ 0 ≤ v ∧ v < many := by
  obtain ⟨h1, h2, h3⟩ := h
  rw [show (1 : Nat) = d112.lv from rfl, call_at (k := 0) (d := d112) rfl rfl, run_here rfl rfl rfl]
  have hmz : (many != 0) = true := by simp; omega
  have hdv : divOk many = true := div_ok (by omega) (Nat.lt_of_lt_of_le (m := 2 ^ 62) (by omega) (Nat.pow_le_pow_right (by decide) (by decide)))
  by_cases ha : 0 < a
  · refine ⟨a.fmod many, a.fdiv many, b, ?_, ⟨Int.fdiv_nonneg h1 (by omega), h2, h3⟩, Int.fmod_nonneg_of_pos a hm, Int.fmod_lt_of_pos a hm⟩
    simp [d112, denSs, denS, denE, denEs, startU, bind_ok, idx_c0, idx_c1, cmp_gt, truR_bl, ha, bi_int, bin_mod hmz, bin_fdiv hdv, set_c0, Mini.stored, Mini.setT, ended_ret]
  · obtain ⟨b1, eb⟩ : ∃ b1, (b * 29059 + 10009).fmod 2147483543 = b1 := ⟨_, rfl⟩
    have p1 := Int.fmod_nonneg_of_pos (b * 29059 + 10009) (b := 2147483543) (by decide)
    have p2 := Int.fmod_lt_of_pos (b * 29059 + 10009) (b := 2147483543) (by decide)
    rw [eb] at p1 p2
    have hm1 : mulOk b1 (b1 + 359) = true := small_mul' (by omega)
    refine ⟨(((b1 * (b1 + 359)).fmod 2147483587).fdiv 967).fmod many, a, b1, ?_, ⟨h1, p1, by omega⟩, Int.fmod_nonneg_of_pos _ hm, Int.fmod_lt_of_pos _ hm⟩
    simp [d112, denSs, denS, denE, denEs, startU, bind_ok, idx_c0, idx_c1, cmp_gt, truR_bl, ha, bi_int, bin_add, bin_mul (small_mul (i := b) (j := 29059) (by decide)), bin_mod (j := 2147483543) (by decide), eb, set_c1,
      bin_mul hm1, bin_mod (j := 2147483587) (by decide), bin_fdiv (j := 967) (by decide +kernel), bin_mod hmz, Mini.stored, Mini.setT, ended_ret]
theorem roll (k : Nat) (a b many : Int) (r : Mem) (h : CupOk a b) (hm : 0 < many) (hm2 : many < 2 ^ 62) : ∃ v a' b', callD Ds (k + 1) 112 [.ref 0, .int many] (M a b r) = .ok (.int v) (M a' b' r) ∧ CupOk a' b' ∧ 0 ≤ v ∧ v < many := by
  rw [show k + 1 = d112.lv + k from Nat.add_comm k 1, call_down (d := d112) rfl]
  exact roll0 a b many r h hm hm2
theorem some_ (k : Nat) (a b : Int) (r : Mem) (xs : List U) (h : CupOk a b) (hn : 0 < xs.length) (hl : xs.length < 2 ^ 62) : ∃ (i : Nat) (u : U) (a' b' : Int), xs[i]? = some u ∧ callD Ds (k + 2) 113 [.ref 0, .lst xs] (M a b r) = .ok u (M a' b' r) ∧ CupOk a' b' := by
  obtain ⟨v, a', b', e, c, h0, h1⟩ := roll 0 a b xs.length r h (by omega) (by omega)
  have hlt : v.toNat < xs.length := by omega
  refine ⟨v.toNat, xs[v.toNat], a', b', List.getElem?_eq_getElem hlt, ?_, c⟩
  rw [show k + 2 = d113.lv + k from Nat.add_comm k 2, call_down (d := d113) rfl, call_at (k := 1) (d := d113) rfl rfl, run_here rfl rfl rfl]
  simp [d113, denSs, denS, denE, denEs, startU, bind_ok, bi_len_lst, e, idx_lst, at_int h0 (List.getElem?_eq_getElem hlt), ended_ret]
theorem cup_ (k : Nat) (ns : List Int) (hl : ns.length ≤ 63) : ∃ a b, callD Ds (k + 1) 111 [.rol (ns.map U.int)] [] = .ok (.ref 0) (M a b []) ∧ CupOk a b := by
  obtain ⟨c, hc⟩ : ∃ c : Int, atU (ns.map U.int ++ [.int 0]) 0 = some (.int c) := by
    cases ns with
    | nil => exact ⟨0, at_nat (i := 0) rfl⟩
    | cons n ns => exact ⟨n, at_nat (i := 0) rfl⟩
  rw [show k + 1 = d111.lv + k from Nat.add_comm k 1, call_down (d := d111) rfl, call_at (k := 0) (d := d111) rfl rfl, run_here rfl rfl rfl]
  obtain ⟨e, he, he0⟩ : ∃ e : Int, (if c < 0 then -c else c) = e ∧ 0 ≤ e := ⟨_, rfl, by split <;> omega⟩
  have p1 := Int.fmod_nonneg_of_pos (e * 431 + 6323) (b := 1884129671) (by decide)
  have p2 := Int.fmod_lt_of_pos (e * 431 + 6323) (b := 1884129671) (by decide)
  have hd : CupOk (if 1000000000000000000 ≤ e then e.fdiv 173 else 0) ((e * 431 + 6323).fmod 1884129671 + 277) := ⟨by split; exact Int.fdiv_nonneg he0 (by decide); decide, by omega, by omega⟩
  refine ⟨_, _, ?_, hd⟩
  have hcat : binD false .Add (.lst (ns.map U.int)) (.lst [.int 0]) [] = .ok (.lst (ns.map U.int ++ [.int 0])) [] := bin_cat (by simp [bigL]; omega)
  by_cases hg : 1000000000000000000 ≤ e
  · simp [d111, denSs, denS, denE, denEs, startU, bind_ok, bi_list_rol, Mini.alloc, bi_abs, bi_int, cmp_ge, truR_bl, bin_add, Mini.stored, Mini.setT, ended_ret, hcat, idx_lst, hc, he, bin_pow (i := 10) (j := 18) (by decide), hg, bin_fdiv (j := 173) (by decide +kernel), bin_mul (small_mul (i := e) (j := 431) (by decide)), bin_mod (j := 1884129671) (by decide), bigL]
  · simp [d111, denSs, denS, denE, denEs, startU, bind_ok, bi_list_rol, Mini.alloc, bi_abs, bi_int, cmp_ge, truR_bl, bin_add, Mini.stored, Mini.setT, ended_ret, hcat, idx_lst, hc, he, bin_pow (i := 10) (j := 18) (by decide), hg, bin_fdiv (j := 173) (by decide +kernel), bin_mul (small_mul (i := e) (j := 431) (by decide)), bin_mod (j := 1884129671) (by decide), bigL]
end K56

set_option maxHeartbeats 4000000
namespace K56
open PySem Mini L2
def TB : ISs := .cons (.exp (.app (.var 4) (.pop (.var 3) (.cons (.call 112 (.cons (.var 0) (.cons (.bi false "len" (.cons (.var 3) .nil)) .nil))) .nil)))) .nil
theorem pop_at {μ : Mem} {n j : Nat} {v : Int} {xs : List U} {y : U} (h : getL μ n = some xs) (hl : xs.length ≤ bigL) (hv : v = (j : Int)) (hy : xs[j]? = some y) : popD μ (.ref n) [.int v] = .ok y (μ.set n (xs.eraseIdx j)) := by
  subst hv
  have hj := (List.getElem?_eq_some_iff.mp hy).1
  simp [popD, h, int1, hl, ix_nat hj, hy]
theorem turn (things t : U) (p q : Nat) (r : Mem) (L F : List U) (a b : Int) (h : CupOk a b) (hL : ∀ a b, getL (M a b r) p = some L) (hF : ∀ j a b, getL ((M a b r).set p (L.eraseIdx j)) q = some F) (hn : 0 < L.length) (hl : L.length ≤ 1000) (hf : F.length ≤ 1000) :
    ∃ (j : Nat) (y : U) (a' b' : Int), L[j]? = some y ∧ CupOk a' b' ∧ denSs (orc Ds 1) TB [some (.ref 0), some things, some t, some (.ref p), some (.ref q)] (M a b r) = .ok (.next [some (.ref 0), some things, some t, some (.ref p), some (.ref q)]) (((M a' b' r).set p (L.eraseIdx j)).set q (F ++ [y])) := by
  obtain ⟨v, a', b', e, c, h0, h1⟩ := roll 0 a b L.length r h (by omega) (by omega)
  have hlt : v.toNat < L.length := by omega
  have hy : L[v.toNat]? = some L[v.toNat] := List.getElem?_eq_getElem hlt
  refine ⟨v.toNat, L[v.toNat], a', b', hy, c, ?_⟩
  have hlen : biD false "len" [.ref p] (M a b r) = .ok (.int L.length) (M a b r) := by
    show getOr (getL (M a b r) p) _ = _
    rw [hL]
    rfl
  have hb : F.length < bigL := by unfold bigL; omega
  have hp := pop_at (hL a' b') (by unfold bigL; omega) (v := v) (j := v.toNat) (by omega) hy
  simp [TB, denSs, denS, denE, denEs, bind_ok, hlen, e, hp, hF, hb]
/-- the orders of three -/
def P6 (x y z : U) : List (List U) := [[x, y, z], [x, z, y], [y, x, z], [y, z, x], [z, x, y], [z, y, x]]
theorem loop3 (n : Nat) (things : U) (μ0 μ μ1 μ2 μ3 : Mem) {p q s : U}
    (h0 : denS (orc Ds 1) (.par 3 4 (.bi true "list" (.cons (.var 1) .nil)) (.lst true .nil)) (startU d114.N [.ref 0, things]) μ0 = .ok (.next [some (.ref 0), some things, none, some (.ref n), some (.ref (n + 1))]) μ)
    (h1 : denSs (orc Ds 1) TB [some (.ref 0), some things, some (.int 0), some (.ref n), some (.ref (n + 1))] μ = .ok (.next [some (.ref 0), some things, some (.int 0), some (.ref n), some (.ref (n + 1))]) μ1)
    (h2 : denSs (orc Ds 1) TB [some (.ref 0), some things, some (.int 1), some (.ref n), some (.ref (n + 1))] μ1 = .ok (.next [some (.ref 0), some things, some (.int 1), some (.ref n), some (.ref (n + 1))]) μ2)
    (h3 : denSs (orc Ds 1) TB [some (.ref 0), some things, some (.int 2), some (.ref n), some (.ref (n + 1))] μ2 = .ok (.next [some (.ref 0), some things, some (.int 2), some (.ref n), some (.ref (n + 1))]) μ3)
    (hl : biD false "len" [things] μ = .ok (.int 3) μ) (ht : getL μ3 (n + 1) = some [p, q, s]) :
    denSs (orc Ds 1) d114.body (startU d114.N [.ref 0, things]) μ0 = .ok (.ret (.tup [p, q, s])) μ3 := by
  have e4 : biD false "tuple" [.ref (n + 1)] μ3 = .ok (.tup [p, q, s]) μ3 := by
    show getOr (getL μ3 (n + 1)) _ = _
    rw [ht]
    rfl
  have er : rngL 0 3 = [.int 0, .int 1, .int 2] := rfl
  have eo : rngOk 3 = true := rfl
  show denSs (orc Ds 1) (.cons (.par 3 4 (.bi true "list" (.cons (.var 1) .nil)) (.lst true .nil)) (.cons (.for_ (.name 2) (.rng1 (.bi false "len" (.cons (.var 1) .nil))) TB) (.cons (.ret (.bi false "tuple" (.cons (.var 4) .nil))) .nil))) _ μ0 = _
  generalize hT : TB = T at h1 h2 h3 ⊢
  generalize hP : IS.par 3 4 (.bi true "list" (.cons (.var 1) .nil)) (.lst true .nil) = P at h0 ⊢
  simp [denSs, h0, denS, denI, denE, denEs, bind_ok, hl, eo, er, forLoop, gd, setT, h1, h2, h3, e4]
theorem swept_tup {n : Nat} {a b : Int} {r1 r2 : Mem} {xs : List U} (hn : r1.length + 1 = n) (hs : r1.all (belows n) = true) (hf : frzs (getF (M a b (r1 ++ r2)) n 9) xs = some xs) : sweep n (.ok (.tup xs) (M a b (r1 ++ r2))) = .ok (.tup xs) (M a b r1) := by
  have e : (M a b (r1 ++ r2)).take n = M a b r1 := by
    subst hn
    simp [M]
  have hs2 : swept n (M a b (r1 ++ r2)) = true := by
    unfold swept
    rw [e]
    simp [M, belows, below, hs]
  unfold sweep
  simp only [hs2, if_true]
  rw [frz, hf]
  simp [e]

theorem mixed_a (R : List U) (hR : belows 2 R = true) (a b : Int) (h : CupOk a b) : ∃ (p q s : U) (a' b' : Int), [p, q, s] ∈ P6 (.int 0) (.int 1) (.int 2) ∧ CupOk a' b' ∧ callD Ds 2 114 [.ref 0, .lst [.int 0, .int 1, .int 2]] (M a b [R]) = .ok (.tup [p, q, s]) (M a' b' [R]) := by
  have key : ∃ (p q s : U) (a' b' : Int), [p, q, s] ∈ P6 (.int 0) (.int 1) (.int 2) ∧ CupOk a' b' ∧ denSs (orc Ds 1) d114.body (startU d114.N [.ref 0, .lst [.int 0, .int 1, .int 2]]) (M a b [R]) = .ok (.ret (.tup [p, q, s])) (M a' b' [R, [], [p, q, s]]) := by
    obtain ⟨i1, u1, a1, b1, h1, c1, e1⟩ := turn (.lst [.int 0, .int 1, .int 2]) (.int 0) 2 3 [R, [.int 0, .int 1, .int 2], []] [.int 0, .int 1, .int 2] [] a b h (fun _ _ => rfl) (fun i _ _ => by rfl) (by simp) (by simp) (by simp)
    have z1 : i1 = 0 ∨ i1 = 1 ∨ i1 = 2 := by have := (List.getElem?_eq_some_iff.mp h1).1; simp at this; omega
    rcases z1 with rfl | rfl | rfl
    · cases h1
      have g1 : denSs (orc Ds 1) TB [some (.ref 0), some (.lst [.int 0, .int 1, .int 2]), some (.int 0), some (.ref 2), some (.ref 3)] (M a b [R, [.int 0, .int 1, .int 2], []]) = .ok (.next [some (.ref 0), some (.lst [.int 0, .int 1, .int 2]), some (.int 0), some (.ref 2), some (.ref 3)]) (M a1 b1 [R, [.int 1, .int 2], [.int 0]]) := e1
      obtain ⟨i2, u2, a2, b2, h2, c2, e2⟩ := turn (.lst [.int 0, .int 1, .int 2]) (.int 1) 2 3 [R, [.int 1, .int 2], [.int 0]] [.int 1, .int 2] [.int 0] a1 b1 c1 (fun _ _ => rfl) (fun i _ _ => by rfl) (by simp) (by simp) (by simp)
      have z2 : i2 = 0 ∨ i2 = 1 := by have := (List.getElem?_eq_some_iff.mp h2).1; simp at this; omega
      rcases z2 with rfl | rfl
      · cases h2
        have g2 : denSs (orc Ds 1) TB [some (.ref 0), some (.lst [.int 0, .int 1, .int 2]), some (.int 1), some (.ref 2), some (.ref 3)] (M a1 b1 [R, [.int 1, .int 2], [.int 0]]) = .ok (.next [some (.ref 0), some (.lst [.int 0, .int 1, .int 2]), some (.int 1), some (.ref 2), some (.ref 3)]) (M a2 b2 [R, [.int 2], [.int 0, .int 1]]) := e2
        obtain ⟨i3, u3, a3, b3, h3, c3, e3⟩ := turn (.lst [.int 0, .int 1, .int 2]) (.int 2) 2 3 [R, [.int 2], [.int 0, .int 1]] [.int 2] [.int 0, .int 1] a2 b2 c2 (fun _ _ => rfl) (fun i _ _ => by rfl) (by simp) (by simp) (by simp)
        have z3 : i3 = 0 := by have := (List.getElem?_eq_some_iff.mp h3).1; simp at this; omega
        subst z3
        cases h3
        have g3 : denSs (orc Ds 1) TB [some (.ref 0), some (.lst [.int 0, .int 1, .int 2]), some (.int 2), some (.ref 2), some (.ref 3)] (M a2 b2 [R, [.int 2], [.int 0, .int 1]]) = .ok (.next [some (.ref 0), some (.lst [.int 0, .int 1, .int 2]), some (.int 2), some (.ref 2), some (.ref 3)]) (M a3 b3 [R, [], [.int 0, .int 1, .int 2]]) := e3
        refine ⟨.int 0, .int 1, .int 2, a3, b3, by simp [P6], c3, ?_⟩
        exact loop3 2 (.lst [.int 0, .int 1, .int 2]) _ _ _ _ _ rfl g1 g2 g3 rfl rfl
      · cases h2
        have g2 : denSs (orc Ds 1) TB [some (.ref 0), some (.lst [.int 0, .int 1, .int 2]), some (.int 1), some (.ref 2), some (.ref 3)] (M a1 b1 [R, [.int 1, .int 2], [.int 0]]) = .ok (.next [some (.ref 0), some (.lst [.int 0, .int 1, .int 2]), some (.int 1), some (.ref 2), some (.ref 3)]) (M a2 b2 [R, [.int 1], [.int 0, .int 2]]) := e2
        obtain ⟨i3, u3, a3, b3, h3, c3, e3⟩ := turn (.lst [.int 0, .int 1, .int 2]) (.int 2) 2 3 [R, [.int 1], [.int 0, .int 2]] [.int 1] [.int 0, .int 2] a2 b2 c2 (fun _ _ => rfl) (fun i _ _ => by rfl) (by simp) (by simp) (by simp)
        have z3 : i3 = 0 := by have := (List.getElem?_eq_some_iff.mp h3).1; simp at this; omega
        subst z3
        cases h3
        have g3 : denSs (orc Ds 1) TB [some (.ref 0), some (.lst [.int 0, .int 1, .int 2]), some (.int 2), some (.ref 2), some (.ref 3)] (M a2 b2 [R, [.int 1], [.int 0, .int 2]]) = .ok (.next [some (.ref 0), some (.lst [.int 0, .int 1, .int 2]), some (.int 2), some (.ref 2), some (.ref 3)]) (M a3 b3 [R, [], [.int 0, .int 2, .int 1]]) := e3
        refine ⟨.int 0, .int 2, .int 1, a3, b3, by simp [P6], c3, ?_⟩
        exact loop3 2 (.lst [.int 0, .int 1, .int 2]) _ _ _ _ _ rfl g1 g2 g3 rfl rfl
    · cases h1
      have g1 : denSs (orc Ds 1) TB [some (.ref 0), some (.lst [.int 0, .int 1, .int 2]), some (.int 0), some (.ref 2), some (.ref 3)] (M a b [R, [.int 0, .int 1, .int 2], []]) = .ok (.next [some (.ref 0), some (.lst [.int 0, .int 1, .int 2]), some (.int 0), some (.ref 2), some (.ref 3)]) (M a1 b1 [R, [.int 0, .int 2], [.int 1]]) := e1
      obtain ⟨i2, u2, a2, b2, h2, c2, e2⟩ := turn (.lst [.int 0, .int 1, .int 2]) (.int 1) 2 3 [R, [.int 0, .int 2], [.int 1]] [.int 0, .int 2] [.int 1] a1 b1 c1 (fun _ _ => rfl) (fun i _ _ => by rfl) (by simp) (by simp) (by simp)
      have z2 : i2 = 0 ∨ i2 = 1 := by have := (List.getElem?_eq_some_iff.mp h2).1; simp at this; omega
      rcases z2 with rfl | rfl
      · cases h2
        have g2 : denSs (orc Ds 1) TB [some (.ref 0), some (.lst [.int 0, .int 1, .int 2]), some (.int 1), some (.ref 2), some (.ref 3)] (M a1 b1 [R, [.int 0, .int 2], [.int 1]]) = .ok (.next [some (.ref 0), some (.lst [.int 0, .int 1, .int 2]), some (.int 1), some (.ref 2), some (.ref 3)]) (M a2 b2 [R, [.int 2], [.int 1, .int 0]]) := e2
        obtain ⟨i3, u3, a3, b3, h3, c3, e3⟩ := turn (.lst [.int 0, .int 1, .int 2]) (.int 2) 2 3 [R, [.int 2], [.int 1, .int 0]] [.int 2] [.int 1, .int 0] a2 b2 c2 (fun _ _ => rfl) (fun i _ _ => by rfl) (by simp) (by simp) (by simp)
        have z3 : i3 = 0 := by have := (List.getElem?_eq_some_iff.mp h3).1; simp at this; omega
        subst z3
        cases h3
        have g3 : denSs (orc Ds 1) TB [some (.ref 0), some (.lst [.int 0, .int 1, .int 2]), some (.int 2), some (.ref 2), some (.ref 3)] (M a2 b2 [R, [.int 2], [.int 1, .int 0]]) = .ok (.next [some (.ref 0), some (.lst [.int 0, .int 1, .int 2]), some (.int 2), some (.ref 2), some (.ref 3)]) (M a3 b3 [R, [], [.int 1, .int 0, .int 2]]) := e3
        refine ⟨.int 1, .int 0, .int 2, a3, b3, by simp [P6], c3, ?_⟩
        exact loop3 2 (.lst [.int 0, .int 1, .int 2]) _ _ _ _ _ rfl g1 g2 g3 rfl rfl
      · cases h2
        have g2 : denSs (orc Ds 1) TB [some (.ref 0), some (.lst [.int 0, .int 1, .int 2]), some (.int 1), some (.ref 2), some (.ref 3)] (M a1 b1 [R, [.int 0, .int 2], [.int 1]]) = .ok (.next [some (.ref 0), some (.lst [.int 0, .int 1, .int 2]), some (.int 1), some (.ref 2), some (.ref 3)]) (M a2 b2 [R, [.int 0], [.int 1, .int 2]]) := e2
        obtain ⟨i3, u3, a3, b3, h3, c3, e3⟩ := turn (.lst [.int 0, .int 1, .int 2]) (.int 2) 2 3 [R, [.int 0], [.int 1, .int 2]] [.int 0] [.int 1, .int 2] a2 b2 c2 (fun _ _ => rfl) (fun i _ _ => by rfl) (by simp) (by simp) (by simp)
        have z3 : i3 = 0 := by have := (List.getElem?_eq_some_iff.mp h3).1; simp at this; omega
        subst z3
        cases h3
        have g3 : denSs (orc Ds 1) TB [some (.ref 0), some (.lst [.int 0, .int 1, .int 2]), some (.int 2), some (.ref 2), some (.ref 3)] (M a2 b2 [R, [.int 0], [.int 1, .int 2]]) = .ok (.next [some (.ref 0), some (.lst [.int 0, .int 1, .int 2]), some (.int 2), some (.ref 2), some (.ref 3)]) (M a3 b3 [R, [], [.int 1, .int 2, .int 0]]) := e3
        refine ⟨.int 1, .int 2, .int 0, a3, b3, by simp [P6], c3, ?_⟩
        exact loop3 2 (.lst [.int 0, .int 1, .int 2]) _ _ _ _ _ rfl g1 g2 g3 rfl rfl
    · cases h1
      have g1 : denSs (orc Ds 1) TB [some (.ref 0), some (.lst [.int 0, .int 1, .int 2]), some (.int 0), some (.ref 2), some (.ref 3)] (M a b [R, [.int 0, .int 1, .int 2], []]) = .ok (.next [some (.ref 0), some (.lst [.int 0, .int 1, .int 2]), some (.int 0), some (.ref 2), some (.ref 3)]) (M a1 b1 [R, [.int 0, .int 1], [.int 2]]) := e1
      obtain ⟨i2, u2, a2, b2, h2, c2, e2⟩ := turn (.lst [.int 0, .int 1, .int 2]) (.int 1) 2 3 [R, [.int 0, .int 1], [.int 2]] [.int 0, .int 1] [.int 2] a1 b1 c1 (fun _ _ => rfl) (fun i _ _ => by rfl) (by simp) (by simp) (by simp)
      have z2 : i2 = 0 ∨ i2 = 1 := by have := (List.getElem?_eq_some_iff.mp h2).1; simp at this; omega
      rcases z2 with rfl | rfl
      · cases h2
        have g2 : denSs (orc Ds 1) TB [some (.ref 0), some (.lst [.int 0, .int 1, .int 2]), some (.int 1), some (.ref 2), some (.ref 3)] (M a1 b1 [R, [.int 0, .int 1], [.int 2]]) = .ok (.next [some (.ref 0), some (.lst [.int 0, .int 1, .int 2]), some (.int 1), some (.ref 2), some (.ref 3)]) (M a2 b2 [R, [.int 1], [.int 2, .int 0]]) := e2
        obtain ⟨i3, u3, a3, b3, h3, c3, e3⟩ := turn (.lst [.int 0, .int 1, .int 2]) (.int 2) 2 3 [R, [.int 1], [.int 2, .int 0]] [.int 1] [.int 2, .int 0] a2 b2 c2 (fun _ _ => rfl) (fun i _ _ => by rfl) (by simp) (by simp) (by simp)
        have z3 : i3 = 0 := by have := (List.getElem?_eq_some_iff.mp h3).1; simp at this; omega
        subst z3
        cases h3
        have g3 : denSs (orc Ds 1) TB [some (.ref 0), some (.lst [.int 0, .int 1, .int 2]), some (.int 2), some (.ref 2), some (.ref 3)] (M a2 b2 [R, [.int 1], [.int 2, .int 0]]) = .ok (.next [some (.ref 0), some (.lst [.int 0, .int 1, .int 2]), some (.int 2), some (.ref 2), some (.ref 3)]) (M a3 b3 [R, [], [.int 2, .int 0, .int 1]]) := e3
        refine ⟨.int 2, .int 0, .int 1, a3, b3, by simp [P6], c3, ?_⟩
        exact loop3 2 (.lst [.int 0, .int 1, .int 2]) _ _ _ _ _ rfl g1 g2 g3 rfl rfl
      · cases h2
        have g2 : denSs (orc Ds 1) TB [some (.ref 0), some (.lst [.int 0, .int 1, .int 2]), some (.int 1), some (.ref 2), some (.ref 3)] (M a1 b1 [R, [.int 0, .int 1], [.int 2]]) = .ok (.next [some (.ref 0), some (.lst [.int 0, .int 1, .int 2]), some (.int 1), some (.ref 2), some (.ref 3)]) (M a2 b2 [R, [.int 0], [.int 2, .int 1]]) := e2
        obtain ⟨i3, u3, a3, b3, h3, c3, e3⟩ := turn (.lst [.int 0, .int 1, .int 2]) (.int 2) 2 3 [R, [.int 0], [.int 2, .int 1]] [.int 0] [.int 2, .int 1] a2 b2 c2 (fun _ _ => rfl) (fun i _ _ => by rfl) (by simp) (by simp) (by simp)
        have z3 : i3 = 0 := by have := (List.getElem?_eq_some_iff.mp h3).1; simp at this; omega
        subst z3
        cases h3
        have g3 : denSs (orc Ds 1) TB [some (.ref 0), some (.lst [.int 0, .int 1, .int 2]), some (.int 2), some (.ref 2), some (.ref 3)] (M a2 b2 [R, [.int 0], [.int 2, .int 1]]) = .ok (.next [some (.ref 0), some (.lst [.int 0, .int 1, .int 2]), some (.int 2), some (.ref 2), some (.ref 3)]) (M a3 b3 [R, [], [.int 2, .int 1, .int 0]]) := e3
        refine ⟨.int 2, .int 1, .int 0, a3, b3, by simp [P6], c3, ?_⟩
        exact loop3 2 (.lst [.int 0, .int 1, .int 2]) _ _ _ _ _ rfl g1 g2 g3 rfl rfl
  obtain ⟨p, q, s, a', b', hm, c, e⟩ := key
  refine ⟨p, q, s, a', b', hm, c, ?_⟩
  refine (show callD Ds d114.lv 114 _ _ = _ from ?_)
  rw [call_at (k := 1) (d := d114) rfl rfl, run_gc rfl rfl rfl, e]
  have hf : frzs (getF (M a' b' [R, [], [p, q, s]]) 2 9) [p, q, s] = some [p, q, s] := by
    simp only [P6, List.mem_cons, List.not_mem_nil, or_false] at hm
    rcases hm with z | z | z | z | z | z <;> cases z <;> rfl
  exact swept_tup (r1 := [R]) (r2 := [[], [p, q, s]]) rfl (by simpa using hR) hf
theorem mixed_b (R : List U) (x0 x1 x2 y0 y1 y2 z0 z1 z2 : Int) (hR : belows 3 R = true) (a b : Int) (h : CupOk a b) : ∃ (p q s : U) (a' b' : Int), [p, q, s] ∈ P6 (.tup [.int x0, .int x1, .int x2]) (.tup [.int y0, .int y1, .int y2]) (.tup [.int z0, .int z1, .int z2]) ∧ CupOk a' b' ∧ callD Ds 2 114 [.ref 0, .ref 2] (M a b [R, [.tup [.int x0, .int x1, .int x2], .tup [.int y0, .int y1, .int y2], .tup [.int z0, .int z1, .int z2]]]) = .ok (.tup [p, q, s]) (M a' b' [R, [.tup [.int x0, .int x1, .int x2], .tup [.int y0, .int y1, .int y2], .tup [.int z0, .int z1, .int z2]]]) := by
  have key : ∃ (p q s : U) (a' b' : Int), [p, q, s] ∈ P6 (.tup [.int x0, .int x1, .int x2]) (.tup [.int y0, .int y1, .int y2]) (.tup [.int z0, .int z1, .int z2]) ∧ CupOk a' b' ∧ denSs (orc Ds 1) d114.body (startU d114.N [.ref 0, .ref 2]) (M a b [R, [.tup [.int x0, .int x1, .int x2], .tup [.int y0, .int y1, .int y2], .tup [.int z0, .int z1, .int z2]]]) = .ok (.ret (.tup [p, q, s])) (M a' b' [R, [.tup [.int x0, .int x1, .int x2], .tup [.int y0, .int y1, .int y2], .tup [.int z0, .int z1, .int z2]], [], [p, q, s]]) := by
    obtain ⟨i1, u1, a1, b1, h1, c1, e1⟩ := turn (.ref 2) (.int 0) 3 4 [R, [.tup [.int x0, .int x1, .int x2], .tup [.int y0, .int y1, .int y2], .tup [.int z0, .int z1, .int z2]], [.tup [.int x0, .int x1, .int x2], .tup [.int y0, .int y1, .int y2], .tup [.int z0, .int z1, .int z2]], []] [.tup [.int x0, .int x1, .int x2], .tup [.int y0, .int y1, .int y2], .tup [.int z0, .int z1, .int z2]] [] a b h (fun _ _ => rfl) (fun i _ _ => by rfl) (by simp) (by simp) (by simp)
    have z1 : i1 = 0 ∨ i1 = 1 ∨ i1 = 2 := by have := (List.getElem?_eq_some_iff.mp h1).1; simp at this; omega
    rcases z1 with rfl | rfl | rfl
    · cases h1
      have g1 : denSs (orc Ds 1) TB [some (.ref 0), some (.ref 2), some (.int 0), some (.ref 3), some (.ref 4)] (M a b [R, [.tup [.int x0, .int x1, .int x2], .tup [.int y0, .int y1, .int y2], .tup [.int z0, .int z1, .int z2]], [.tup [.int x0, .int x1, .int x2], .tup [.int y0, .int y1, .int y2], .tup [.int z0, .int z1, .int z2]], []]) = .ok (.next [some (.ref 0), some (.ref 2), some (.int 0), some (.ref 3), some (.ref 4)]) (M a1 b1 [R, [.tup [.int x0, .int x1, .int x2], .tup [.int y0, .int y1, .int y2], .tup [.int z0, .int z1, .int z2]], [.tup [.int y0, .int y1, .int y2], .tup [.int z0, .int z1, .int z2]], [.tup [.int x0, .int x1, .int x2]]]) := e1
      obtain ⟨i2, u2, a2, b2, h2, c2, e2⟩ := turn (.ref 2) (.int 1) 3 4 [R, [.tup [.int x0, .int x1, .int x2], .tup [.int y0, .int y1, .int y2], .tup [.int z0, .int z1, .int z2]], [.tup [.int y0, .int y1, .int y2], .tup [.int z0, .int z1, .int z2]], [.tup [.int x0, .int x1, .int x2]]] [.tup [.int y0, .int y1, .int y2], .tup [.int z0, .int z1, .int z2]] [.tup [.int x0, .int x1, .int x2]] a1 b1 c1 (fun _ _ => rfl) (fun i _ _ => by rfl) (by simp) (by simp) (by simp)
      have z2 : i2 = 0 ∨ i2 = 1 := by have := (List.getElem?_eq_some_iff.mp h2).1; simp at this; omega
      rcases z2 with rfl | rfl
      · cases h2
        have g2 : denSs (orc Ds 1) TB [some (.ref 0), some (.ref 2), some (.int 1), some (.ref 3), some (.ref 4)] (M a1 b1 [R, [.tup [.int x0, .int x1, .int x2], .tup [.int y0, .int y1, .int y2], .tup [.int z0, .int z1, .int z2]], [.tup [.int y0, .int y1, .int y2], .tup [.int z0, .int z1, .int z2]], [.tup [.int x0, .int x1, .int x2]]]) = .ok (.next [some (.ref 0), some (.ref 2), some (.int 1), some (.ref 3), some (.ref 4)]) (M a2 b2 [R, [.tup [.int x0, .int x1, .int x2], .tup [.int y0, .int y1, .int y2], .tup [.int z0, .int z1, .int z2]], [.tup [.int z0, .int z1, .int z2]], [.tup [.int x0, .int x1, .int x2], .tup [.int y0, .int y1, .int y2]]]) := e2
        obtain ⟨i3, u3, a3, b3, h3, c3, e3⟩ := turn (.ref 2) (.int 2) 3 4 [R, [.tup [.int x0, .int x1, .int x2], .tup [.int y0, .int y1, .int y2], .tup [.int z0, .int z1, .int z2]], [.tup [.int z0, .int z1, .int z2]], [.tup [.int x0, .int x1, .int x2], .tup [.int y0, .int y1, .int y2]]] [.tup [.int z0, .int z1, .int z2]] [.tup [.int x0, .int x1, .int x2], .tup [.int y0, .int y1, .int y2]] a2 b2 c2 (fun _ _ => rfl) (fun i _ _ => by rfl) (by simp) (by simp) (by simp)
        have z3 : i3 = 0 := by have := (List.getElem?_eq_some_iff.mp h3).1; simp at this; omega
        subst z3
        cases h3
        have g3 : denSs (orc Ds 1) TB [some (.ref 0), some (.ref 2), some (.int 2), some (.ref 3), some (.ref 4)] (M a2 b2 [R, [.tup [.int x0, .int x1, .int x2], .tup [.int y0, .int y1, .int y2], .tup [.int z0, .int z1, .int z2]], [.tup [.int z0, .int z1, .int z2]], [.tup [.int x0, .int x1, .int x2], .tup [.int y0, .int y1, .int y2]]]) = .ok (.next [some (.ref 0), some (.ref 2), some (.int 2), some (.ref 3), some (.ref 4)]) (M a3 b3 [R, [.tup [.int x0, .int x1, .int x2], .tup [.int y0, .int y1, .int y2], .tup [.int z0, .int z1, .int z2]], [], [.tup [.int x0, .int x1, .int x2], .tup [.int y0, .int y1, .int y2], .tup [.int z0, .int z1, .int z2]]]) := e3
        refine ⟨.tup [.int x0, .int x1, .int x2], .tup [.int y0, .int y1, .int y2], .tup [.int z0, .int z1, .int z2], a3, b3, by simp [P6], c3, ?_⟩
        exact loop3 3 (.ref 2) _ _ _ _ _ rfl g1 g2 g3 rfl rfl
      · cases h2
        have g2 : denSs (orc Ds 1) TB [some (.ref 0), some (.ref 2), some (.int 1), some (.ref 3), some (.ref 4)] (M a1 b1 [R, [.tup [.int x0, .int x1, .int x2], .tup [.int y0, .int y1, .int y2], .tup [.int z0, .int z1, .int z2]], [.tup [.int y0, .int y1, .int y2], .tup [.int z0, .int z1, .int z2]], [.tup [.int x0, .int x1, .int x2]]]) = .ok (.next [some (.ref 0), some (.ref 2), some (.int 1), some (.ref 3), some (.ref 4)]) (M a2 b2 [R, [.tup [.int x0, .int x1, .int x2], .tup [.int y0, .int y1, .int y2], .tup [.int z0, .int z1, .int z2]], [.tup [.int y0, .int y1, .int y2]], [.tup [.int x0, .int x1, .int x2], .tup [.int z0, .int z1, .int z2]]]) := e2
        obtain ⟨i3, u3, a3, b3, h3, c3, e3⟩ := turn (.ref 2) (.int 2) 3 4 [R, [.tup [.int x0, .int x1, .int x2], .tup [.int y0, .int y1, .int y2], .tup [.int z0, .int z1, .int z2]], [.tup [.int y0, .int y1, .int y2]], [.tup [.int x0, .int x1, .int x2], .tup [.int z0, .int z1, .int z2]]] [.tup [.int y0, .int y1, .int y2]] [.tup [.int x0, .int x1, .int x2], .tup [.int z0, .int z1, .int z2]] a2 b2 c2 (fun _ _ => rfl) (fun i _ _ => by rfl) (by simp) (by simp) (by simp)
        have z3 : i3 = 0 := by have := (List.getElem?_eq_some_iff.mp h3).1; simp at this; omega
        subst z3
        cases h3
        have g3 : denSs (orc Ds 1) TB [some (.ref 0), some (.ref 2), some (.int 2), some (.ref 3), some (.ref 4)] (M a2 b2 [R, [.tup [.int x0, .int x1, .int x2], .tup [.int y0, .int y1, .int y2], .tup [.int z0, .int z1, .int z2]], [.tup [.int y0, .int y1, .int y2]], [.tup [.int x0, .int x1, .int x2], .tup [.int z0, .int z1, .int z2]]]) = .ok (.next [some (.ref 0), some (.ref 2), some (.int 2), some (.ref 3), some (.ref 4)]) (M a3 b3 [R, [.tup [.int x0, .int x1, .int x2], .tup [.int y0, .int y1, .int y2], .tup [.int z0, .int z1, .int z2]], [], [.tup [.int x0, .int x1, .int x2], .tup [.int z0, .int z1, .int z2], .tup [.int y0, .int y1, .int y2]]]) := e3
        refine ⟨.tup [.int x0, .int x1, .int x2], .tup [.int z0, .int z1, .int z2], .tup [.int y0, .int y1, .int y2], a3, b3, by simp [P6], c3, ?_⟩
        exact loop3 3 (.ref 2) _ _ _ _ _ rfl g1 g2 g3 rfl rfl
    · cases h1
      have g1 : denSs (orc Ds 1) TB [some (.ref 0), some (.ref 2), some (.int 0), some (.ref 3), some (.ref 4)] (M a b [R, [.tup [.int x0, .int x1, .int x2], .tup [.int y0, .int y1, .int y2], .tup [.int z0, .int z1, .int z2]], [.tup [.int x0, .int x1, .int x2], .tup [.int y0, .int y1, .int y2], .tup [.int z0, .int z1, .int z2]], []]) = .ok (.next [some (.ref 0), some (.ref 2), some (.int 0), some (.ref 3), some (.ref 4)]) (M a1 b1 [R, [.tup [.int x0, .int x1, .int x2], .tup [.int y0, .int y1, .int y2], .tup [.int z0, .int z1, .int z2]], [.tup [.int x0, .int x1, .int x2], .tup [.int z0, .int z1, .int z2]], [.tup [.int y0, .int y1, .int y2]]]) := e1
      obtain ⟨i2, u2, a2, b2, h2, c2, e2⟩ := turn (.ref 2) (.int 1) 3 4 [R, [.tup [.int x0, .int x1, .int x2], .tup [.int y0, .int y1, .int y2], .tup [.int z0, .int z1, .int z2]], [.tup [.int x0, .int x1, .int x2], .tup [.int z0, .int z1, .int z2]], [.tup [.int y0, .int y1, .int y2]]] [.tup [.int x0, .int x1, .int x2], .tup [.int z0, .int z1, .int z2]] [.tup [.int y0, .int y1, .int y2]] a1 b1 c1 (fun _ _ => rfl) (fun i _ _ => by rfl) (by simp) (by simp) (by simp)
      have z2 : i2 = 0 ∨ i2 = 1 := by have := (List.getElem?_eq_some_iff.mp h2).1; simp at this; omega
      rcases z2 with rfl | rfl
      · cases h2
        have g2 : denSs (orc Ds 1) TB [some (.ref 0), some (.ref 2), some (.int 1), some (.ref 3), some (.ref 4)] (M a1 b1 [R, [.tup [.int x0, .int x1, .int x2], .tup [.int y0, .int y1, .int y2], .tup [.int z0, .int z1, .int z2]], [.tup [.int x0, .int x1, .int x2], .tup [.int z0, .int z1, .int z2]], [.tup [.int y0, .int y1, .int y2]]]) = .ok (.next [some (.ref 0), some (.ref 2), some (.int 1), some (.ref 3), some (.ref 4)]) (M a2 b2 [R, [.tup [.int x0, .int x1, .int x2], .tup [.int y0, .int y1, .int y2], .tup [.int z0, .int z1, .int z2]], [.tup [.int z0, .int z1, .int z2]], [.tup [.int y0, .int y1, .int y2], .tup [.int x0, .int x1, .int x2]]]) := e2
        obtain ⟨i3, u3, a3, b3, h3, c3, e3⟩ := turn (.ref 2) (.int 2) 3 4 [R, [.tup [.int x0, .int x1, .int x2], .tup [.int y0, .int y1, .int y2], .tup [.int z0, .int z1, .int z2]], [.tup [.int z0, .int z1, .int z2]], [.tup [.int y0, .int y1, .int y2], .tup [.int x0, .int x1, .int x2]]] [.tup [.int z0, .int z1, .int z2]] [.tup [.int y0, .int y1, .int y2], .tup [.int x0, .int x1, .int x2]] a2 b2 c2 (fun _ _ => rfl) (fun i _ _ => by rfl) (by simp) (by simp) (by simp)
        have z3 : i3 = 0 := by have := (List.getElem?_eq_some_iff.mp h3).1; simp at this; omega
        subst z3
        cases h3
        have g3 : denSs (orc Ds 1) TB [some (.ref 0), some (.ref 2), some (.int 2), some (.ref 3), some (.ref 4)] (M a2 b2 [R, [.tup [.int x0, .int x1, .int x2], .tup [.int y0, .int y1, .int y2], .tup [.int z0, .int z1, .int z2]], [.tup [.int z0, .int z1, .int z2]], [.tup [.int y0, .int y1, .int y2], .tup [.int x0, .int x1, .int x2]]]) = .ok (.next [some (.ref 0), some (.ref 2), some (.int 2), some (.ref 3), some (.ref 4)]) (M a3 b3 [R, [.tup [.int x0, .int x1, .int x2], .tup [.int y0, .int y1, .int y2], .tup [.int z0, .int z1, .int z2]], [], [.tup [.int y0, .int y1, .int y2], .tup [.int x0, .int x1, .int x2], .tup [.int z0, .int z1, .int z2]]]) := e3
        refine ⟨.tup [.int y0, .int y1, .int y2], .tup [.int x0, .int x1, .int x2], .tup [.int z0, .int z1, .int z2], a3, b3, by simp [P6], c3, ?_⟩
        exact loop3 3 (.ref 2) _ _ _ _ _ rfl g1 g2 g3 rfl rfl
      · cases h2
        have g2 : denSs (orc Ds 1) TB [some (.ref 0), some (.ref 2), some (.int 1), some (.ref 3), some (.ref 4)] (M a1 b1 [R, [.tup [.int x0, .int x1, .int x2], .tup [.int y0, .int y1, .int y2], .tup [.int z0, .int z1, .int z2]], [.tup [.int x0, .int x1, .int x2], .tup [.int z0, .int z1, .int z2]], [.tup [.int y0, .int y1, .int y2]]]) = .ok (.next [some (.ref 0), some (.ref 2), some (.int 1), some (.ref 3), some (.ref 4)]) (M a2 b2 [R, [.tup [.int x0, .int x1, .int x2], .tup [.int y0, .int y1, .int y2], .tup [.int z0, .int z1, .int z2]], [.tup [.int x0, .int x1, .int x2]], [.tup [.int y0, .int y1, .int y2], .tup [.int z0, .int z1, .int z2]]]) := e2
        obtain ⟨i3, u3, a3, b3, h3, c3, e3⟩ := turn (.ref 2) (.int 2) 3 4 [R, [.tup [.int x0, .int x1, .int x2], .tup [.int y0, .int y1, .int y2], .tup [.int z0, .int z1, .int z2]], [.tup [.int x0, .int x1, .int x2]], [.tup [.int y0, .int y1, .int y2], .tup [.int z0, .int z1, .int z2]]] [.tup [.int x0, .int x1, .int x2]] [.tup [.int y0, .int y1, .int y2], .tup [.int z0, .int z1, .int z2]] a2 b2 c2 (fun _ _ => rfl) (fun i _ _ => by rfl) (by simp) (by simp) (by simp)
        have z3 : i3 = 0 := by have := (List.getElem?_eq_some_iff.mp h3).1; simp at this; omega
        subst z3
        cases h3
        have g3 : denSs (orc Ds 1) TB [some (.ref 0), some (.ref 2), some (.int 2), some (.ref 3), some (.ref 4)] (M a2 b2 [R, [.tup [.int x0, .int x1, .int x2], .tup [.int y0, .int y1, .int y2], .tup [.int z0, .int z1, .int z2]], [.tup [.int x0, .int x1, .int x2]], [.tup [.int y0, .int y1, .int y2], .tup [.int z0, .int z1, .int z2]]]) = .ok (.next [some (.ref 0), some (.ref 2), some (.int 2), some (.ref 3), some (.ref 4)]) (M a3 b3 [R, [.tup [.int x0, .int x1, .int x2], .tup [.int y0, .int y1, .int y2], .tup [.int z0, .int z1, .int z2]], [], [.tup [.int y0, .int y1, .int y2], .tup [.int z0, .int z1, .int z2], .tup [.int x0, .int x1, .int x2]]]) := e3
        refine ⟨.tup [.int y0, .int y1, .int y2], .tup [.int z0, .int z1, .int z2], .tup [.int x0, .int x1, .int x2], a3, b3, by simp [P6], c3, ?_⟩
        exact loop3 3 (.ref 2) _ _ _ _ _ rfl g1 g2 g3 rfl rfl
    · cases h1
      have g1 : denSs (orc Ds 1) TB [some (.ref 0), some (.ref 2), some (.int 0), some (.ref 3), some (.ref 4)] (M a b [R, [.tup [.int x0, .int x1, .int x2], .tup [.int y0, .int y1, .int y2], .tup [.int z0, .int z1, .int z2]], [.tup [.int x0, .int x1, .int x2], .tup [.int y0, .int y1, .int y2], .tup [.int z0, .int z1, .int z2]], []]) = .ok (.next [some (.ref 0), some (.ref 2), some (.int 0), some (.ref 3), some (.ref 4)]) (M a1 b1 [R, [.tup [.int x0, .int x1, .int x2], .tup [.int y0, .int y1, .int y2], .tup [.int z0, .int z1, .int z2]], [.tup [.int x0, .int x1, .int x2], .tup [.int y0, .int y1, .int y2]], [.tup [.int z0, .int z1, .int z2]]]) := e1
      obtain ⟨i2, u2, a2, b2, h2, c2, e2⟩ := turn (.ref 2) (.int 1) 3 4 [R, [.tup [.int x0, .int x1, .int x2], .tup [.int y0, .int y1, .int y2], .tup [.int z0, .int z1, .int z2]], [.tup [.int x0, .int x1, .int x2], .tup [.int y0, .int y1, .int y2]], [.tup [.int z0, .int z1, .int z2]]] [.tup [.int x0, .int x1, .int x2], .tup [.int y0, .int y1, .int y2]] [.tup [.int z0, .int z1, .int z2]] a1 b1 c1 (fun _ _ => rfl) (fun i _ _ => by rfl) (by simp) (by simp) (by simp)
      have z2 : i2 = 0 ∨ i2 = 1 := by have := (List.getElem?_eq_some_iff.mp h2).1; simp at this; omega
      rcases z2 with rfl | rfl
      · cases h2
        have g2 : denSs (orc Ds 1) TB [some (.ref 0), some (.ref 2), some (.int 1), some (.ref 3), some (.ref 4)] (M a1 b1 [R, [.tup [.int x0, .int x1, .int x2], .tup [.int y0, .int y1, .int y2], .tup [.int z0, .int z1, .int z2]], [.tup [.int x0, .int x1, .int x2], .tup [.int y0, .int y1, .int y2]], [.tup [.int z0, .int z1, .int z2]]]) = .ok (.next [some (.ref 0), some (.ref 2), some (.int 1), some (.ref 3), some (.ref 4)]) (M a2 b2 [R, [.tup [.int x0, .int x1, .int x2], .tup [.int y0, .int y1, .int y2], .tup [.int z0, .int z1, .int z2]], [.tup [.int y0, .int y1, .int y2]], [.tup [.int z0, .int z1, .int z2], .tup [.int x0, .int x1, .int x2]]]) := e2
        obtain ⟨i3, u3, a3, b3, h3, c3, e3⟩ := turn (.ref 2) (.int 2) 3 4 [R, [.tup [.int x0, .int x1, .int x2], .tup [.int y0, .int y1, .int y2], .tup [.int z0, .int z1, .int z2]], [.tup [.int y0, .int y1, .int y2]], [.tup [.int z0, .int z1, .int z2], .tup [.int x0, .int x1, .int x2]]] [.tup [.int y0, .int y1, .int y2]] [.tup [.int z0, .int z1, .int z2], .tup [.int x0, .int x1, .int x2]] a2 b2 c2 (fun _ _ => rfl) (fun i _ _ => by rfl) (by simp) (by simp) (by simp)
        have z3 : i3 = 0 := by have := (List.getElem?_eq_some_iff.mp h3).1; simp at this; omega
        subst z3
        cases h3
        have g3 : denSs (orc Ds 1) TB [some (.ref 0), some (.ref 2), some (.int 2), some (.ref 3), some (.ref 4)] (M a2 b2 [R, [.tup [.int x0, .int x1, .int x2], .tup [.int y0, .int y1, .int y2], .tup [.int z0, .int z1, .int z2]], [.tup [.int y0, .int y1, .int y2]], [.tup [.int z0, .int z1, .int z2], .tup [.int x0, .int x1, .int x2]]]) = .ok (.next [some (.ref 0), some (.ref 2), some (.int 2), some (.ref 3), some (.ref 4)]) (M a3 b3 [R, [.tup [.int x0, .int x1, .int x2], .tup [.int y0, .int y1, .int y2], .tup [.int z0, .int z1, .int z2]], [], [.tup [.int z0, .int z1, .int z2], .tup [.int x0, .int x1, .int x2], .tup [.int y0, .int y1, .int y2]]]) := e3
        refine ⟨.tup [.int z0, .int z1, .int z2], .tup [.int x0, .int x1, .int x2], .tup [.int y0, .int y1, .int y2], a3, b3, by simp [P6], c3, ?_⟩
        exact loop3 3 (.ref 2) _ _ _ _ _ rfl g1 g2 g3 rfl rfl
      · cases h2
        have g2 : denSs (orc Ds 1) TB [some (.ref 0), some (.ref 2), some (.int 1), some (.ref 3), some (.ref 4)] (M a1 b1 [R, [.tup [.int x0, .int x1, .int x2], .tup [.int y0, .int y1, .int y2], .tup [.int z0, .int z1, .int z2]], [.tup [.int x0, .int x1, .int x2], .tup [.int y0, .int y1, .int y2]], [.tup [.int z0, .int z1, .int z2]]]) = .ok (.next [some (.ref 0), some (.ref 2), some (.int 1), some (.ref 3), some (.ref 4)]) (M a2 b2 [R, [.tup [.int x0, .int x1, .int x2], .tup [.int y0, .int y1, .int y2], .tup [.int z0, .int z1, .int z2]], [.tup [.int x0, .int x1, .int x2]], [.tup [.int z0, .int z1, .int z2], .tup [.int y0, .int y1, .int y2]]]) := e2
        obtain ⟨i3, u3, a3, b3, h3, c3, e3⟩ := turn (.ref 2) (.int 2) 3 4 [R, [.tup [.int x0, .int x1, .int x2], .tup [.int y0, .int y1, .int y2], .tup [.int z0, .int z1, .int z2]], [.tup [.int x0, .int x1, .int x2]], [.tup [.int z0, .int z1, .int z2], .tup [.int y0, .int y1, .int y2]]] [.tup [.int x0, .int x1, .int x2]] [.tup [.int z0, .int z1, .int z2], .tup [.int y0, .int y1, .int y2]] a2 b2 c2 (fun _ _ => rfl) (fun i _ _ => by rfl) (by simp) (by simp) (by simp)
        have z3 : i3 = 0 := by have := (List.getElem?_eq_some_iff.mp h3).1; simp at this; omega
        subst z3
        cases h3
        have g3 : denSs (orc Ds 1) TB [some (.ref 0), some (.ref 2), some (.int 2), some (.ref 3), some (.ref 4)] (M a2 b2 [R, [.tup [.int x0, .int x1, .int x2], .tup [.int y0, .int y1, .int y2], .tup [.int z0, .int z1, .int z2]], [.tup [.int x0, .int x1, .int x2]], [.tup [.int z0, .int z1, .int z2], .tup [.int y0, .int y1, .int y2]]]) = .ok (.next [some (.ref 0), some (.ref 2), some (.int 2), some (.ref 3), some (.ref 4)]) (M a3 b3 [R, [.tup [.int x0, .int x1, .int x2], .tup [.int y0, .int y1, .int y2], .tup [.int z0, .int z1, .int z2]], [], [.tup [.int z0, .int z1, .int z2], .tup [.int y0, .int y1, .int y2], .tup [.int x0, .int x1, .int x2]]]) := e3
        refine ⟨.tup [.int z0, .int z1, .int z2], .tup [.int y0, .int y1, .int y2], .tup [.int x0, .int x1, .int x2], a3, b3, by simp [P6], c3, ?_⟩
        exact loop3 3 (.ref 2) _ _ _ _ _ rfl g1 g2 g3 rfl rfl
  obtain ⟨p, q, s, a', b', hm, c, e⟩ := key
  refine ⟨p, q, s, a', b', hm, c, ?_⟩
  refine (show callD Ds d114.lv 114 _ _ = _ from ?_)
  rw [call_at (k := 1) (d := d114) rfl rfl, run_gc rfl rfl rfl, e]
  have hf : frzs (getF (M a' b' [R, [.tup [.int x0, .int x1, .int x2], .tup [.int y0, .int y1, .int y2], .tup [.int z0, .int z1, .int z2]], [], [p, q, s]]) 3 9) [p, q, s] = some [p, q, s] := by
    simp only [P6, List.mem_cons, List.not_mem_nil, or_false] at hm
    rcases hm with z | z | z | z | z | z <;> cases z <;> rfl
  exact swept_tup (r1 := [R, [.tup [.int x0, .int x1, .int x2], .tup [.int y0, .int y1, .int y2], .tup [.int z0, .int z1, .int z2]]]) (r2 := [[], [p, q, s]]) rfl (by simpa [belows, below] using hR) hf
end K56

set_option maxHeartbeats 4000000
namespace K56
open PySem Mini L2
abbrev I3 (x y z : Int) : List U := [.int x, .int y, .int z]
def U3 : U := .tup [.tup (I3 1 0 0), .tup (I3 0 1 0), .tup (I3 0 0 1)]
theorem loc_any {X : R U} {v : U} {ν μ : Mem} (h : locD [] X = .ok v ν) : locD μ X = .ok v μ := by
  cases X with
  | bad => cases h
  | exc c κ => cases h
  | ok u κ =>
    have h : (match frz (getF κ 0 9) u with | some v => R.ok v [] | none => R.bad) = .ok v ν := h
    show (match frz (getF κ 0 9) u with | some v => R.ok v μ | none => R.bad) = _
    generalize frz (getF κ 0 9) u = o at h ⊢
    cases o with
    | none => cases h
    | some x => cases h; rfl
theorem units3 (k : Nat) (μ : Mem) : callD Ds (k + 1) 118 [.int 3] μ = .ok U3 μ := by
  rw [show k + 1 = d118.lv + k from Nat.add_comm k 1, call_down (d := d118) rfl, call_at (k := 0) (d := d118) rfl rfl, run_loc rfl rfl]
  exact loc_any (μ := μ) (show locD [] (ended (denSs (orc Ds 0) d118.body (startU d118.N [.int 3]) [])) = .ok U3 [] from rfl)
abbrev PM : IE := .lst false (.cons (.int 1) (.cons (.neg (.int 1)) .nil))
theorem sign (C : Orc) (hC : C.call = callD Ds 2) (ρ : Slots) (hρ : ρ[0]? = some (some (.ref 0))) (a b : Int) (r : Mem) (h : CupOk a b) :
    ∃ s a' b' : Int, (s = 1 ∨ s = -1) ∧ CupOk a' b' ∧ denE C (.call 113 (.cons (.var 0) (.cons PM .nil))) ρ (M a b r) = .ok (.int s) (M a' b' r) := by
  obtain ⟨i, u, a', b', hi, e, c⟩ := some_ 0 a b r [.int 1, .int (-1)] h (by simp) (by simp)
  have hz : i = 0 ∨ i = 1 := by have := (List.getElem?_eq_some_iff.mp hi).1; simp at this; omega
  have ep : denE C PM ρ (M a b r) = .ok (.lst [.int 1, .int (-1)]) (M a b r) := rfl
  rcases hz with rfl | rfl
  · cases hi
    refine ⟨1, a', b', .inl rfl, c, ?_⟩
    simp only [denE, denEs, hρ, bind_ok, ep, hC]
    exact e
  · cases hi
    refine ⟨-1, a', b', .inr rfl, c, ?_⟩
    simp only [denE, denEs, hρ, bind_ok, ep, hC]
    exact e
abbrev S1 : IS := .set (.name 3) (.comp true [6] (.bi false "list" (.cons (.var 6) .nil)) (.name 6) (.of (.call 118 (.cons (.var 1) .nil))) .nil)
abbrev B2 : ISs := .cons (.set (.tup (.cons (.name 7) (.cons (.name 8) .nil))) (.slc (.call 114 (.cons (.var 0) (.cons (.lrg false false (.rng1 (.var 1))) .nil))) .nil (.cons (.int 2) .nil))) (.cons (.set (.name 5) (.call 113 (.cons (.var 0) (.cons PM .nil)))) (.cons (.seti (.var 3) (.var 7) (.comp false [9, 10] (.bin false .Add (.var 9) (.bin false .Mult (.var 5) (.var 10))) (.tup (.cons (.name 9) (.cons (.name 10) .nil))) (.zip2 (.idx (.var 3) (.var 7)) (.idx (.var 3) (.var 8))) .nil)) .nil))
abbrev S2 : IS := .for_ (.name 4) (.rng1 (.ite (.cmp .Gt (.var 1) (.int 1)) (.var 2) (.int 0))) B2
abbrev E3 : IE := .comp false [6] (.call 113 (.cons (.var 0) (.cons PM .nil))) (.name 6) (.of (.var 3)) .nil
abbrev S3 : IS := .set (.name 3) (.comp true [6, 5] (.bi false "tuple" (.cons (.comp false [9] (.bin false .Mult (.var 9) (.var 5)) (.name 9) (.of (.var 6)) .nil) .nil)) (.tup (.cons (.name 6) (.cons (.name 5) .nil))) (.zip2 (.var 3) E3) .nil)
abbrev S4 : IS := .ret (.call 114 (.cons (.var 0) (.cons (.var 3) .nil)))
theorem body_base : d119.body = .cons S1 (.cons S2 (.cons S3 (.cons S4 .nil))) := rfl
def R0 : List U := [.lst (I3 1 0 0), .lst (I3 0 1 0), .lst (I3 0 0 1)]
theorem st1 (a b : Int) : denS (orc Ds 2) S1 (startU d119.N [.ref 0, .int 3, .int 1]) (M a b []) = .ok (.next [some (.ref 0), some (.int 3), some (.int 1), some (.ref 1), none, none, none, none, none, none, none]) (M a b [R0]) := by
  have hI : denI (orc Ds 2) (.of (.call 118 (.cons (.var 1) .nil))) (startU d119.N [.ref 0, .int 3, .int 1]) (M a b []) = .ok ([], [.tup (I3 1 0 0), .tup (I3 0 1 0), .tup (I3 0 0 1)]) (M a b []) := by
    have : denE (orc Ds 2) (.call 118 (.cons (.var 1) .nil)) (startU d119.N [.ref 0, .int 3, .int 1]) (M a b []) = .ok U3 (M a b []) := units3 1 _
    simp only [denI, this, bind_ok]
    rfl
  simp only [denS, denE, hI, bind_ok]
  rfl
/-- the two rows and the sign -/
def T12 : List (Nat × Nat × Int) := [(0, 1, 1), (0, 1, -1), (0, 2, 1), (0, 2, -1), (1, 0, 1), (1, 0, -1), (1, 2, 1), (1, 2, -1), (2, 0, 1), (2, 0, -1), (2, 1, 1), (2, 1, -1)]
/-- the places of the base behind the one step -/
def e0 (r c : Nat) : Int := if r = c then 1 else 0
def e2 (i j : Nat) (s : Int) (r c : Nat) : Int := if r = i then e0 i c + s * e0 j c else e0 r c
def R2 (i j : Nat) (s : Int) : List U := [.lst (I3 (e2 i j s 0 0) (e2 i j s 0 1) (e2 i j s 0 2)), .lst (I3 (e2 i j s 1 0) (e2 i j s 1 1) (e2 i j s 1 2)), .lst (I3 (e2 i j s 2 0) (e2 i j s 2 1) (e2 i j s 2 2))]
theorem st2 (a b : Int) (h : CupOk a b) : ∃ (i j : Nat) (s a' b' : Int), (i, j, s) ∈ T12 ∧ CupOk a' b' ∧ denS (orc Ds 2) S2 [some (.ref 0), some (.int 3), some (.int 1), some (.ref 1), none, none, none, none, none, none, none] (M a b [R0]) =
    .ok (.next [some (.ref 0), some (.int 3), some (.int 1), some (.ref 1), some (.int 0), some (.int s), none, some (.int i), some (.int j), none, none]) (M a' b' [R2 i j s]) := by
  obtain ⟨p, q, t, a1, b1, hm, c1, e1⟩ := mixed_a R0 rfl a b h
  obtain ⟨s, a2, b2, hs, c2, e2⟩ := sign (orc Ds 2) rfl [some (.ref 0), some (.int 3), some (.int 1), some (.ref 1), some (.int 0), none, none, some p, some q, none, none] rfl a1 b1 [R0] c1
  have hI : denI (orc Ds 2) (.rng1 (.ite (.cmp .Gt (.var 1) (.int 1)) (.var 2) (.int 0))) [some (.ref 0), some (.int 3), some (.int 1), some (.ref 1), none, none, none, none, none, none, none] (M a b [R0]) = .ok ([], [.int 0]) (M a b [R0]) := rfl
  have hm2 : denE (orc Ds 2) (.call 114 (.cons (.var 0) (.cons (.lrg false false (.rng1 (.var 1))) .nil))) [some (.ref 0), some (.int 3), some (.int 1), some (.ref 1), some (.int 0), none, none, none, none, none, none] (M a b [R0]) = .ok (.tup [p, q, t]) (M a1 b1 [R0]) := e1
  have hset : denS (orc Ds 2) (.set (.tup (.cons (.name 7) (.cons (.name 8) .nil))) (.slc (.call 114 (.cons (.var 0) (.cons (.lrg false false (.rng1 (.var 1))) .nil))) .nil (.cons (.int 2) .nil))) [some (.ref 0), some (.int 3), some (.int 1), some (.ref 1), some (.int 0), none, none, none, none, none, none] (M a b [R0]) =
      .ok (.next [some (.ref 0), some (.int 3), some (.int 1), some (.ref 1), some (.int 0), none, none, some p, some q, none, none]) (M a1 b1 [R0]) := by
    generalize hE : IE.call 114 (.cons (.var 0) (.cons (.lrg false false (.rng1 (.var 1))) .nil)) = E at hm2 ⊢
    simp only [denS, denE, hm2, bind_ok]
    rfl
  have hset2 : denS (orc Ds 2) (.set (.name 5) (.call 113 (.cons (.var 0) (.cons PM .nil)))) [some (.ref 0), some (.int 3), some (.int 1), some (.ref 1), some (.int 0), none, none, some p, some q, none, none] (M a1 b1 [R0]) =
      .ok (.next [some (.ref 0), some (.int 3), some (.int 1), some (.ref 1), some (.int 0), some (.int s), none, some p, some q, none, none]) (M a2 b2 [R0]) := by
    rw [denS, e2]
    rfl
  have key : ∀ (i j : Nat) (R : List U), p = .int i → q = .int j → denS (orc Ds 2) (.seti (.var 3) (.var 7) (.comp false [9, 10] (.bin false .Add (.var 9) (.bin false .Mult (.var 5) (.var 10))) (.tup (.cons (.name 9) (.cons (.name 10) .nil))) (.zip2 (.idx (.var 3) (.var 7)) (.idx (.var 3) (.var 8))) .nil)) [some (.ref 0), some (.int 3), some (.int 1), some (.ref 1), some (.int 0), some (.int s), none, some p, some q, none, none] (M a2 b2 [R0]) =
      .ok (.next [some (.ref 0), some (.int 3), some (.int 1), some (.ref 1), some (.int 0), some (.int s), none, some p, some q, none, none]) (M a2 b2 [R]) → denS (orc Ds 2) S2 [some (.ref 0), some (.int 3), some (.int 1), some (.ref 1), none, none, none, none, none, none, none] (M a b [R0]) =
    .ok (.next [some (.ref 0), some (.int 3), some (.int 1), some (.ref 1), some (.int 0), some (.int s), none, some (.int i), some (.int j), none, none]) (M a2 b2 [R]) := by
    intro i j R hp hq e3
    subst hp
    subst hq
    delta S2
    delta B2
    generalize hX : IS.set (.tup (.cons (.name 7) (.cons (.name 8) .nil))) (.slc (.call 114 (.cons (.var 0) (.cons (.lrg false false (.rng1 (.var 1))) .nil))) .nil (.cons (.int 2) .nil)) = X at hset ⊢
    generalize hY : IS.set (.name 5) (.call 113 (.cons (.var 0) (.cons PM .nil))) = Y at hset2 ⊢
    generalize hZ : IS.seti (.var 3) (.var 7) (.comp false [9, 10] (.bin false .Add (.var 9) (.bin false .Mult (.var 5) (.var 10))) (.tup (.cons (.name 9) (.cons (.name 10) .nil))) (.zip2 (.idx (.var 3) (.var 7)) (.idx (.var 3) (.var 8))) .nil) = Z at e3 ⊢
    rw [denS, hI]
    simp [bind_ok, forLoop, gd, Mini.setT, denSs, hset, hset2, e3]
  simp only [P6, List.mem_cons, List.not_mem_nil, or_false] at hm
  rcases hm with z | z | z | z | z | z <;> cases z <;> rcases hs with rfl | rfl
  · exact ⟨0, 1, 1, a2, b2, by simp [T12], c2, key 0 1 _ rfl rfl rfl⟩
  · exact ⟨0, 1, -1, a2, b2, by simp [T12], c2, key 0 1 _ rfl rfl rfl⟩
  · exact ⟨0, 2, 1, a2, b2, by simp [T12], c2, key 0 2 _ rfl rfl rfl⟩
  · exact ⟨0, 2, -1, a2, b2, by simp [T12], c2, key 0 2 _ rfl rfl rfl⟩
  · exact ⟨1, 0, 1, a2, b2, by simp [T12], c2, key 1 0 _ rfl rfl rfl⟩
  · exact ⟨1, 0, -1, a2, b2, by simp [T12], c2, key 1 0 _ rfl rfl rfl⟩
  · exact ⟨1, 2, 1, a2, b2, by simp [T12], c2, key 1 2 _ rfl rfl rfl⟩
  · exact ⟨1, 2, -1, a2, b2, by simp [T12], c2, key 1 2 _ rfl rfl rfl⟩
  · exact ⟨2, 0, 1, a2, b2, by simp [T12], c2, key 2 0 _ rfl rfl rfl⟩
  · exact ⟨2, 0, -1, a2, b2, by simp [T12], c2, key 2 0 _ rfl rfl rfl⟩
  · exact ⟨2, 1, 1, a2, b2, by simp [T12], c2, key 2 1 _ rfl rfl rfl⟩
  · exact ⟨2, 1, -1, a2, b2, by simp [T12], c2, key 2 1 _ rfl rfl rfl⟩
end K56

set_option maxHeartbeats 4000000
namespace K56
open PySem Mini L2
theorem eqUs_I3 (x y z : Int) : Mini.eqU (.lst (I3 x y z)) (.lst (I3 x y z)) = true := by
  simp [Mini.eqU, Mini.eqUs]
theorem gd_R2 (i j : Nat) (s a b : Int) (r : Mem) : gd [(1, R2 i j s)] (M a b (R2 i j s :: r)) = true := by
  have e : getL (M a b (R2 i j s :: r)) 1 = some (R2 i j s) := rfl
  simp only [gd, List.all_cons, List.all_nil, Bool.and_true, e]
  simp only [R2, Mini.eqUs, eqUs_I3, Bool.and_true]
abbrev ρ3 (i j : Nat) (s : Int) : Slots := [some (.ref 0), some (.int 3), some (.int 1), some (.ref 1), some (.int 0), some (.int s), none, some (.int i), some (.int j), none, none]
theorem signs (i j : Nat) (s a b : Int) (h : CupOk a b) : ∃ s1 s2 s3 a' b' : Int, (s1 = 1 ∨ s1 = -1) ∧ (s2 = 1 ∨ s2 = -1) ∧ (s3 = 1 ∨ s3 = -1) ∧ CupOk a' b' ∧ denE (orc Ds 2) E3 (ρ3 i j s) (M a b [R2 i j s]) = .ok (.lst [.int s1, .int s2, .int s3]) (M a' b' [R2 i j s]) := by
  obtain ⟨s1, a1, b1, h1, c1, e1⟩ := sign (orc Ds 2) rfl ((ρ3 i j s).set 6 (some (.lst (I3 (e2 i j s 0 0) (e2 i j s 0 1) (e2 i j s 0 2))))) rfl a b [R2 i j s] h
  obtain ⟨s2, a2, b2, h2, c2, g2⟩ := sign (orc Ds 2) rfl ((ρ3 i j s).set 6 (some (.lst (I3 (e2 i j s 1 0) (e2 i j s 1 1) (e2 i j s 1 2))))) rfl a1 b1 [R2 i j s] c1
  obtain ⟨s3, a3, b3, h3, c3, g3⟩ := sign (orc Ds 2) rfl ((ρ3 i j s).set 6 (some (.lst (I3 (e2 i j s 2 0) (e2 i j s 2 1) (e2 i j s 2 2))))) rfl a2 b2 [R2 i j s] c2
  refine ⟨s1, s2, s3, a3, b3, h1, h2, h3, c3, ?_⟩
  have hI : denI (orc Ds 2) (.of (.var 3)) (ρ3 i j s) (M a b [R2 i j s]) = .ok ([(1, R2 i j s)], R2 i j s) (M a b [R2 i j s]) := rfl
  delta E3
  generalize hX : IE.call 113 (.cons (.var 0) (.cons PM .nil)) = X at e1 g2 g3 ⊢
  rw [denE, hI]
  have k1 : compLoop (gd [(1, R2 i j s)]) (stepD (fun ρ μ => denTs (orc Ds 2) .nil ρ μ) (fun ρ μ => denE (orc Ds 2) X ρ μ)) (fun u μ => setT (.name 6) u μ (wipeU (ρ3 i j s) [6])) (R2 i j s) (M a b [R2 i j s]) = .ok [.int s1, .int s2, .int s3] (M a3 b3 [R2 i j s]) := by
    have w : wipeU (ρ3 i j s) [6] = ρ3 i j s := rfl
    rw [w]
    conv => lhs; arg 4; unfold R2
    simp only [compLoop, gd_R2, if_true, Mini.setT, stepD, denTs, e1, g2, g3, bind_ok]
  show (match compLoop (gd [(1, R2 i j s)]) _ _ (R2 i j s) (M a b [R2 i j s]) with | .ok us μ2 => if us.length ≤ bigL then alloc false us μ2 else .bad | _ => .bad) = _
  rw [k1]
  rfl
def R3 (i j : Nat) (s s1 s2 s3 : Int) : List U := [.tup (I3 (e2 i j s 0 0 * s1) (e2 i j s 0 1 * s1) (e2 i j s 0 2 * s1)), .tup (I3 (e2 i j s 1 0 * s2) (e2 i j s 1 1 * s2) (e2 i j s 1 2 * s2)), .tup (I3 (e2 i j s 2 0 * s3) (e2 i j s 2 1 * s3) (e2 i j s 2 2 * s3))]
abbrev ρ4 (i j : Nat) (s : Int) : Slots := [some (.ref 0), some (.int 3), some (.int 1), some (.ref 2), some (.int 0), some (.int s), none, some (.int i), some (.int j), none, none]
theorem st3 (i j : Nat) (s a b : Int) (hT : (i, j, s) ∈ T12) (h : CupOk a b) : ∃ s1 s2 s3 a' b' : Int, (s1 = 1 ∨ s1 = -1) ∧ (s2 = 1 ∨ s2 = -1) ∧ (s3 = 1 ∨ s3 = -1) ∧ CupOk a' b' ∧ denS (orc Ds 2) S3 (ρ3 i j s) (M a b [R2 i j s]) = .ok (.next (ρ4 i j s)) (M a' b' [R2 i j s, R3 i j s s1 s2 s3]) := by
  obtain ⟨s1, s2, s3, a', b', h1, h2, h3, c, e⟩ := signs i j s a b h
  refine ⟨s1, s2, s3, a', b', h1, h2, h3, c, ?_⟩
  have hI : denI (orc Ds 2) (.zip2 (.var 3) E3) (ρ3 i j s) (M a b [R2 i j s]) = .ok ([(1, R2 i j s)], zipU (R2 i j s) [.int s1, .int s2, .int s3]) (M a' b' [R2 i j s]) := by
    generalize hX : E3 = X at e ⊢
    have hv : denE (orc Ds 2) (.var 3) (ρ3 i j s) (M a b [R2 i j s]) = .ok (.ref 1) (M a b [R2 i j s]) := rfl
    rw [denI, hv, bind_ok, e]
    rfl
  delta S3
  generalize hX : II.zip2 (.var 3) E3 = X at hI ⊢
  rw [denS, denE, hI]
  clear hI e hX X
  revert hT
  simp only [T12, List.mem_cons, List.not_mem_nil, or_false]
  intro hT
  rcases hT with z | z | z | z | z | z | z | z | z | z | z | z <;> cases z <;> rcases h1 with rfl | rfl <;> rcases h2 with rfl | rfl <;> rcases h3 with rfl | rfl <;> rfl
end K56

set_option maxHeartbeats 4000000
namespace K56
open PySem Mini L2
def T8 : List (Int × Int × Int) := [(1, 1, 1), (1, 1, -1), (1, -1, 1), (1, -1, -1), (-1, 1, 1), (-1, 1, -1), (-1, -1, 1), (-1, -1, -1)]
def rowsOf (t : Nat × Nat × Int) (g : Int × Int × Int) : List (List U) := match R3 t.1 t.2.1 t.2.2 g.1 g.2.1 g.2.2 with
  | [x, y, z] => P6 x y z
  | _ => []
/-- all bases that the scripts can give -/
def bases : List U := T12.flatMap fun t => T8.flatMap fun g => (rowsOf t g).map U.tup
theorem base_ (a b : Int) (h : CupOk a b) : ∃ B ∈ bases, ∃ a' b' : Int, callD Ds 3 119 [.ref 0, .int 3, .int 1] (M a b []) = .ok B (M a' b' []) := by
  obtain ⟨i, j, s, a1, b1, hT, c1, g2⟩ := st2 a b h
  obtain ⟨s1, s2, s3, a2, b2, h1, h2, h3, c2, g3⟩ := st3 i j s a1 b1 hT c1
  obtain ⟨p, q, t, a3, b3, hm, c3, g4⟩ := mixed_b (R2 i j s) (e2 i j s 0 0 * s1) (e2 i j s 0 1 * s1) (e2 i j s 0 2 * s1) (e2 i j s 1 0 * s2) (e2 i j s 1 1 * s2) (e2 i j s 1 2 * s2) (e2 i j s 2 0 * s3) (e2 i j s 2 1 * s3) (e2 i j s 2 2 * s3) rfl a2 b2 c2
  refine ⟨.tup [p, q, t], ?_, a3, b3, ?_⟩
  · unfold bases
    refine List.mem_flatMap.mpr ⟨(i, j, s), hT, List.mem_flatMap.mpr ⟨(s1, s2, s3), ?_, List.mem_map.mpr ⟨[p, q, t], hm, rfl⟩⟩⟩
    rcases h1 with rfl | rfl <;> rcases h2 with rfl | rfl <;> rcases h3 with rfl | rfl <;> simp [T8]
  · refine (show callD Ds d119.lv 119 _ _ = _ from ?_)
    rw [call_at (k := 2) (d := d119) rfl rfl, run_gc rfl rfl rfl, body_base]
    have g1 := st1 a b
    clear h hT c1 c2 c3 h1 h2 h3
    have e4 : denS (orc Ds 2) S4 (ρ4 i j s) (M a2 b2 [R2 i j s, R3 i j s s1 s2 s3]) = .ok (.ret (.tup [p, q, t])) (M a3 b3 [R2 i j s, R3 i j s s1 s2 s3]) := by
      have e5 : denE (orc Ds 2) (.call 114 (.cons (.var 0) (.cons (.var 3) .nil))) (ρ4 i j s) (M a2 b2 [R2 i j s, R3 i j s s1 s2 s3]) = callD Ds 2 114 [.ref 0, .ref 2] (M a2 b2 [R2 i j s, R3 i j s s1 s2 s3]) := by
        simp [denE, denEs, bind_ok]
      have g4' : callD Ds 2 114 [.ref 0, .ref 2] (M a2 b2 [R2 i j s, R3 i j s s1 s2 s3]) = .ok (.tup [p, q, t]) (M a3 b3 [R2 i j s, R3 i j s s1 s2 s3]) := g4
      delta S4
      rw [denS, e5, g4', bind_ok]
    generalize hS1 : S1 = X1 at g1 ⊢
    generalize hS2 : S2 = X2 at g2 ⊢
    generalize hS3 : S3 = X3 at g3 ⊢
    generalize hS4 : S4 = X4 at e4 ⊢
    simp only [denSs, g1, g2, g3, e4, ended]
    have hf : frzs (getF (M a3 b3 [R2 i j s, R3 i j s s1 s2 s3]) 1 9) [p, q, t] = some [p, q, t] := by
      simp only [P6, List.mem_cons, List.not_mem_nil, or_false] at hm
      rcases hm with z | z | z | z | z | z <;> cases z <;> rfl
    exact swept_tup (r1 := []) (r2 := [R2 i j s, R3 i j s s1 s2 s3]) rfl rfl hf
/-- a def that runs in a memory of its own: the same in every memory -/
theorem call_loc {j k : Nat} {d : DefS} {us : List U} {v : U} {ν : Mem} (h : Ds[j]? = some (.std d)) (hk : d.lv = k + 1) (hn : us.length = d.np) (hl : (d.loc && belows 0 us) = true) (e : callD Ds d.lv j us [] = .ok v ν) (n : Nat) (μ : Mem) : callD Ds (d.lv + n) j us μ = .ok v μ := by
  rw [call_down h, call_at h hk, run_loc hn hl]
  rw [call_at h hk, run_loc hn hl] at e
  exact loc_any e
theorem okv {r : R U} {v : U} (h : (match r with | .ok u _ => Mini.eqU u v | _ => false) = true) : ∃ ν, r = .ok v ν := by
  cases r with
  | bad => cases h
  | exc c μ => cases h
  | ok u ν => exact ⟨ν, by rw [eqU_eq h]⟩
end K56

set_option maxHeartbeats 0
/-! the one long closed run, in pieces: the count of turnings of a forked table -/
namespace K56
open PySem Mini L2
def eqM : Mem → Mem → Bool
  | [], [] => true
  | x :: xs, y :: ys => Mini.eqUs x y && eqM xs ys
  | _, _ => false
theorem eqM_eq : ∀ {a b : Mem}, eqM a b = true → a = b
  | [], [], _ => rfl
  | x :: xs, y :: ys, h => by
    unfold eqM at h
    rw [Bool.and_eq_true] at h
    rw [eqUs_eq h.1, eqM_eq h.2]
  | [], _ :: _, h => by cases h
  | _ :: _, [], h => by cases h
def eqS : Slots → Slots → Bool
  | [], [] => true
  | none :: xs, none :: ys => eqS xs ys
  | some x :: xs, some y :: ys => Mini.eqU x y && eqS xs ys
  | _, _ => false
theorem eqS_eq : ∀ {a b : Slots}, eqS a b = true → a = b
  | [], [], _ => rfl
  | none :: xs, none :: ys, h => by
    have h : eqS xs ys = true := h
    rw [eqS_eq h]
  | some x :: xs, some y :: ys, h => by
    have h : (Mini.eqU x y && eqS xs ys) = true := h
    rw [Bool.and_eq_true] at h
    rw [eqU_eq h.1, eqS_eq h.2]
  | [], none :: _, h => by cases h
  | [], some _ :: _, h => by cases h
  | none :: _, [], h => by cases h
  | some _ :: _, [], h => by cases h
  | none :: _, some _ :: _, h => by cases h
  | some _ :: _, none :: _, h => by cases h
def okN (r : R Fl) (ρ : Slots) (μ : Mem) : Bool := match r with
  | .ok (.next ρ1) μ1 => eqS ρ1 ρ && eqM μ1 μ
  | _ => false
theorem okN_ok {r : R Fl} {ρ : Slots} {μ : Mem} (h : okN r ρ μ = true) : r = .ok (.next ρ) μ := by
  unfold okN at h
  split at h
  · rw [Bool.and_eq_true] at h
    rw [eqS_eq h.1, eqM_eq h.2]
  · cases h
def okT (r : R Bool) (μ : Mem) : Bool := match r with
  | .ok true μ1 => eqM μ1 μ
  | _ => false
theorem okT_ok {r : R Bool} {μ : Mem} (h : okT r μ = true) : r = .ok true μ := by
  unfold okT at h
  split at h
  · rw [eqM_eq h]
  · cases h
theorem comp_same {g : Mem → Bool} {dt : Slots → Mem → R Bool} {de : Slots → Mem → R U} {set : U → Mem → Option Slots} {μ : Mem} (hg : g μ = true) : ∀ xs : List U, (∀ x ∈ xs, ∃ ρ, set x μ = some ρ ∧ dt ρ μ = .ok true μ ∧ de ρ μ = .ok x μ) → compLoop g (stepD dt de) set xs μ = .ok xs μ
  | [], _ => by
    unfold compLoop
    rw [if_pos hg]
  | x :: xs, h => by
    obtain ⟨ρ, h1, h2, h3⟩ := h x (List.mem_cons_self)
    have ih := comp_same hg xs fun y hy => h y (List.mem_cons_of_mem x hy)
    unfold compLoop
    rw [if_pos hg, h1]
    have e : stepD dt de ρ μ = .ok (some x) μ := by
      unfold stepD
      rw [h2]
      show (de ρ μ).bind _ = _
      rw [h3]
      rfl
    show (match stepD dt de ρ μ with
      | .ok none μ1 => compLoop g (stepD dt de) set xs μ1
      | .ok (some u) μ1 => match compLoop g (stepD dt de) set xs μ1 with
        | .ok us μ2 => .ok (u :: us) μ2
        | _ => .bad
      | _ => .bad) = _
    rw [e]
    show (match compLoop g (stepD dt de) set xs μ with
        | .ok us μ2 => R.ok (x :: us) μ2
        | _ => .bad) = _
    rw [ih]
abbrev C6 : Orc := orc Ds 6
abbrev W1 : IS := .set (.tup (.cons (.name 2) (.cons (.name 3) (.cons (.name 4) .nil)))) (.tup (.cons (.call 86 (.cons (.var 0) .nil)) (.cons (.call 19 (.cons (.bi false "len" (.cons (.var 0) .nil)) .nil)) (.cons (.lst true .nil) .nil))))
abbrev W2 : IS := .set (.name 5) (.call 25 (.cons (.var 0) (.cons (.var 0) (.cons (.var 2) (.cons (.slc (.var 3) .nil (.cons (.var 1) .nil)) .nil)))))
abbrev IFS : IEs := .cons (.cmp .IsNot (.call 26 (.cons (.var 0) (.cons (.var 0) (.cons (.var 2) (.cons (.bin false .Add (.slc (.var 3) .nil (.cons (.var 1) .nil)) (.lst false (.cons (.var 6) .nil))) .nil))))) .non) .nil
abbrev CMP : IE := .comp false [6] (.var 6) (.name 6) (.of (.var 5)) IFS
abbrev W3 : IS := .exp (.app (.var 4) (.bi false "len" (.cons CMP .nil)))
theorem body87 : d87.body = .cons W1 (.cons (.for_ (.name 1) (.rng1 (.bi false "len" (.cons (.var 0) .nil))) (.cons W2 (.cons W3 .nil))) (.cons (.ret (.var 4)) .nil)) := rfl
theorem okB_of {xs : List U} {p : U → Bool} (ps : List (List U)) (e : xs = ps.flatten) (h : ∀ c ∈ ps, c.all p = true) : ∀ x ∈ xs, p x = true := by
  subst e
  intro x hx
  obtain ⟨c, hc, hx⟩ := List.mem_flatten.mp hx
  exact List.all_eq_true.mp (h c hc) x hx
def F4 : U := (.tup [(.tup [(.int 2), (.int (-1)), (.int 0), (.int 0)]), (.tup [(.int (-1)), (.int 2), (.int (-1)), (.int (-1))]), (.tup [(.int 0), (.int (-1)), (.int 2), (.int 0)]), (.tup [(.int 0), (.int (-1)), (.int 0), (.int 2)])])
def K24 : List U := [(.tup [(.int (-1)), (.int (-2)), (.int (-1)), (.int (-1))]), (.tup [(.int (-1)), (.int (-1)), (.int (-1)), (.int (-1))]), (.tup [(.int 0), (.int (-1)), (.int (-1)), (.int (-1))]), (.tup [(.int (-1)), (.int (-1)), (.int 0), (.int (-1))]), (.tup [(.int 0), (.int (-1)), (.int 0), (.int (-1))]), (.tup [(.int 0), (.int 0), (.int 0), (.int (-1))]), (.tup [(.int (-1)), (.int (-1)), (.int (-1)), (.int 0)]), (.tup [(.int 0), (.int (-1)), (.int (-1)), (.int 0)]), (.tup [(.int 0), (.int 0), (.int (-1)), (.int 0)]), (.tup [(.int (-1)), (.int (-1)), (.int 0), (.int 0)]), (.tup [(.int 0), (.int (-1)), (.int 0), (.int 0)]), (.tup [(.int (-1)), (.int 0), (.int 0), (.int 0)]), (.tup [(.int 1), (.int 0), (.int 0), (.int 0)]), (.tup [(.int 0), (.int 1), (.int 0), (.int 0)]), (.tup [(.int 1), (.int 1), (.int 0), (.int 0)]), (.tup [(.int 0), (.int 0), (.int 1), (.int 0)]), (.tup [(.int 0), (.int 1), (.int 1), (.int 0)]), (.tup [(.int 1), (.int 1), (.int 1), (.int 0)]), (.tup [(.int 0), (.int 0), (.int 0), (.int 1)]), (.tup [(.int 0), (.int 1), (.int 0), (.int 1)]), (.tup [(.int 1), (.int 1), (.int 0), (.int 1)]), (.tup [(.int 0), (.int 1), (.int 1), (.int 1)]), (.tup [(.int 1), (.int 1), (.int 1), (.int 1)]), (.tup [(.int 1), (.int 2), (.int 1), (.int 1)])]
def UN : List U := [(.tup [(.int 1), (.int 0), (.int 0), (.int 0)]), (.tup [(.int 0), (.int 1), (.int 0), (.int 0)]), (.tup [(.int 0), (.int 0), (.int 1), (.int 0)]), (.tup [(.int 0), (.int 0), (.int 0), (.int 1)])]
def mem (found : List U) : Mem := [[.dtag, .tup [.int 2, .ref 1]], K24, UN, found]
def so0 : List U := [(.tup [(.int (-1)), (.int (-2)), (.int (-1)), (.int (-1))]), (.tup [(.int (-1)), (.int (-1)), (.int (-1)), (.int (-1))]), (.tup [(.int 0), (.int (-1)), (.int (-1)), (.int (-1))]), (.tup [(.int (-1)), (.int (-1)), (.int 0), (.int (-1))]), (.tup [(.int 0), (.int (-1)), (.int 0), (.int (-1))]), (.tup [(.int 0), (.int 0), (.int 0), (.int (-1))]), (.tup [(.int (-1)), (.int (-1)), (.int (-1)), (.int 0)]), (.tup [(.int 0), (.int (-1)), (.int (-1)), (.int 0)]), (.tup [(.int 0), (.int 0), (.int (-1)), (.int 0)]), (.tup [(.int (-1)), (.int (-1)), (.int 0), (.int 0)]), (.tup [(.int 0), (.int (-1)), (.int 0), (.int 0)]), (.tup [(.int (-1)), (.int 0), (.int 0), (.int 0)]), (.tup [(.int 1), (.int 0), (.int 0), (.int 0)]), (.tup [(.int 0), (.int 1), (.int 0), (.int 0)]), (.tup [(.int 1), (.int 1), (.int 0), (.int 0)]), (.tup [(.int 0), (.int 0), (.int 1), (.int 0)]), (.tup [(.int 0), (.int 1), (.int 1), (.int 0)]), (.tup [(.int 1), (.int 1), (.int 1), (.int 0)]), (.tup [(.int 0), (.int 0), (.int 0), (.int 1)]), (.tup [(.int 0), (.int 1), (.int 0), (.int 1)]), (.tup [(.int 1), (.int 1), (.int 0), (.int 1)]), (.tup [(.int 0), (.int 1), (.int 1), (.int 1)]), (.tup [(.int 1), (.int 1), (.int 1), (.int 1)]), (.tup [(.int 1), (.int 2), (.int 1), (.int 1)])]
theorem w1 : okN (denS C6 W1 (startU d87.N [F4]) []) [some F4, none, some (.dref 0), some (.ref 2), some (.ref 3), none, none] (mem []) = true := by decide +kernel
theorem wa0 : okN (denS C6 W2 [some F4, some (.int 0), some (.dref 0), some (.ref 2), some (.ref 3), none, none] (mem [])) [some F4, some (.int 0), some (.dref 0), some (.ref 2), some (.ref 3), some (.lst so0), none] (mem []) = true := by decide +kernel
def p0 (x : U) : Bool := okT (denTs C6 IFS [some F4, some (.int 0), some (.dref 0), some (.ref 2), some (.ref 3), some (.lst so0), some x] (mem [])) (mem [])
def ch0_0 : List U := [(.tup [(.int (-1)), (.int (-2)), (.int (-1)), (.int (-1))]), (.tup [(.int (-1)), (.int (-1)), (.int (-1)), (.int (-1))]), (.tup [(.int 0), (.int (-1)), (.int (-1)), (.int (-1))]), (.tup [(.int (-1)), (.int (-1)), (.int 0), (.int (-1))])]
theorem pc0_0 : ch0_0.all p0 = true := by decide +kernel
def ch0_1 : List U := [(.tup [(.int 0), (.int (-1)), (.int 0), (.int (-1))]), (.tup [(.int 0), (.int 0), (.int 0), (.int (-1))]), (.tup [(.int (-1)), (.int (-1)), (.int (-1)), (.int 0)]), (.tup [(.int 0), (.int (-1)), (.int (-1)), (.int 0)])]
theorem pc0_1 : ch0_1.all p0 = true := by decide +kernel
def ch0_2 : List U := [(.tup [(.int 0), (.int 0), (.int (-1)), (.int 0)]), (.tup [(.int (-1)), (.int (-1)), (.int 0), (.int 0)]), (.tup [(.int 0), (.int (-1)), (.int 0), (.int 0)]), (.tup [(.int (-1)), (.int 0), (.int 0), (.int 0)])]
theorem pc0_2 : ch0_2.all p0 = true := by decide +kernel
def ch0_3 : List U := [(.tup [(.int 1), (.int 0), (.int 0), (.int 0)]), (.tup [(.int 0), (.int 1), (.int 0), (.int 0)]), (.tup [(.int 1), (.int 1), (.int 0), (.int 0)]), (.tup [(.int 0), (.int 0), (.int 1), (.int 0)])]
theorem pc0_3 : ch0_3.all p0 = true := by decide +kernel
def ch0_4 : List U := [(.tup [(.int 0), (.int 1), (.int 1), (.int 0)]), (.tup [(.int 1), (.int 1), (.int 1), (.int 0)]), (.tup [(.int 0), (.int 0), (.int 0), (.int 1)]), (.tup [(.int 0), (.int 1), (.int 0), (.int 1)])]
theorem pc0_4 : ch0_4.all p0 = true := by decide +kernel
def ch0_5 : List U := [(.tup [(.int 1), (.int 1), (.int 0), (.int 1)]), (.tup [(.int 0), (.int 1), (.int 1), (.int 1)]), (.tup [(.int 1), (.int 1), (.int 1), (.int 1)]), (.tup [(.int 1), (.int 2), (.int 1), (.int 1)])]
theorem pc0_5 : ch0_5.all p0 = true := by decide +kernel
theorem wbC0 (C : Orc) (T : IEs) (hp : ∀ x ∈ so0, okT (denTs C T [some F4, some (.int 0), some (.dref 0), some (.ref 2), some (.ref 3), some (.lst so0), some x] (mem [])) (mem []) = true) : denS C (.exp (.app (.var 4) (.bi false "len" (.cons (.comp false [6] (.var 6) (.name 6) (.of (.var 5)) T) .nil)))) [some F4, some (.int 0), some (.dref 0), some (.ref 2), some (.ref 3), some (.lst so0), none] (mem []) = .ok (.next [some F4, some (.int 0), some (.dref 0), some (.ref 2), some (.ref 3), some (.lst so0), none]) (mem [.int 24]) := by
  have hc : denE C (.comp false [6] (.var 6) (.name 6) (.of (.var 5)) T) [some F4, some (.int 0), some (.dref 0), some (.ref 2), some (.ref 3), some (.lst so0), none] (mem []) = .ok (.lst so0) (mem []) := by
    have hI : denI C (.of (.var 5)) [some F4, some (.int 0), some (.dref 0), some (.ref 2), some (.ref 3), some (.lst so0), none] (mem []) = .ok ([], so0) (mem []) := rfl
    have k := comp_same (g := gd []) (dt := fun ρ μ => denTs C T ρ μ) (de := fun ρ μ => denE C (.var 6) ρ μ) (set := fun u μ => setT (.name 6) u μ (wipeU [some F4, some (.int 0), some (.dref 0), some (.ref 2), some (.ref 3), some (.lst so0), none] [6])) (μ := mem []) rfl so0 fun x hx => ⟨_, rfl, okT_ok (hp x hx), rfl⟩
    rw [denE, hI]
    show (match compLoop (gd []) _ _ so0 (mem []) with | .ok us μ2 => if us.length ≤ bigL then alloc false us μ2 else .bad | _ => .bad) = _
    rw [k]
    rfl
  generalize IE.comp false [6] (.var 6) (.name 6) (.of (.var 5)) T = X at hc ⊢
  simp only [denS, denE, denEs, hc, bind_ok, List.getElem?_cons_zero, List.getElem?_cons_succ]
  rfl
theorem hp0 : ∀ x ∈ so0, p0 x = true := okB_of [ch0_0, ch0_1, ch0_2, ch0_3, ch0_4, ch0_5] rfl (by
    intro c hc
    simp only [List.mem_cons, List.not_mem_nil, or_false] at hc
    rcases hc with rfl | rfl | rfl | rfl | rfl | rfl
    · exact pc0_0
    · exact pc0_1
    · exact pc0_2
    · exact pc0_3
    · exact pc0_4
    · exact pc0_5)
theorem wb0 : denS C6 W3 [some F4, some (.int 0), some (.dref 0), some (.ref 2), some (.ref 3), some (.lst so0), none] (mem []) = .ok (.next [some F4, some (.int 0), some (.dref 0), some (.ref 2), some (.ref 3), some (.lst so0), none]) (mem [.int 24]) := wbC0 C6 IFS hp0
def so1 : List U := [(.tup [(.int (-1)), (.int (-1)), (.int (-1)), (.int (-1))]), (.tup [(.int (-1)), (.int (-1)), (.int 0), (.int (-1))]), (.tup [(.int (-1)), (.int (-1)), (.int (-1)), (.int 0)]), (.tup [(.int (-1)), (.int (-1)), (.int 0), (.int 0)]), (.tup [(.int 0), (.int 1), (.int 0), (.int 0)]), (.tup [(.int 0), (.int 1), (.int 1), (.int 0)]), (.tup [(.int 0), (.int 1), (.int 0), (.int 1)]), (.tup [(.int 0), (.int 1), (.int 1), (.int 1)])]
theorem wa1 : okN (denS C6 W2 [some F4, some (.int 1), some (.dref 0), some (.ref 2), some (.ref 3), some (.lst so0), none] (mem [.int 24])) [some F4, some (.int 1), some (.dref 0), some (.ref 2), some (.ref 3), some (.lst so1), none] (mem [.int 24]) = true := by decide +kernel
def p1 (x : U) : Bool := okT (denTs C6 IFS [some F4, some (.int 1), some (.dref 0), some (.ref 2), some (.ref 3), some (.lst so1), some x] (mem [.int 24])) (mem [.int 24])
def ch1_0 : List U := [(.tup [(.int (-1)), (.int (-1)), (.int (-1)), (.int (-1))]), (.tup [(.int (-1)), (.int (-1)), (.int 0), (.int (-1))]), (.tup [(.int (-1)), (.int (-1)), (.int (-1)), (.int 0)]), (.tup [(.int (-1)), (.int (-1)), (.int 0), (.int 0)])]
theorem pc1_0 : ch1_0.all p1 = true := by decide +kernel
def ch1_1 : List U := [(.tup [(.int 0), (.int 1), (.int 0), (.int 0)]), (.tup [(.int 0), (.int 1), (.int 1), (.int 0)]), (.tup [(.int 0), (.int 1), (.int 0), (.int 1)]), (.tup [(.int 0), (.int 1), (.int 1), (.int 1)])]
theorem pc1_1 : ch1_1.all p1 = true := by decide +kernel
theorem wbC1 (C : Orc) (T : IEs) (hp : ∀ x ∈ so1, okT (denTs C T [some F4, some (.int 1), some (.dref 0), some (.ref 2), some (.ref 3), some (.lst so1), some x] (mem [.int 24])) (mem [.int 24]) = true) : denS C (.exp (.app (.var 4) (.bi false "len" (.cons (.comp false [6] (.var 6) (.name 6) (.of (.var 5)) T) .nil)))) [some F4, some (.int 1), some (.dref 0), some (.ref 2), some (.ref 3), some (.lst so1), none] (mem [.int 24]) = .ok (.next [some F4, some (.int 1), some (.dref 0), some (.ref 2), some (.ref 3), some (.lst so1), none]) (mem [.int 24, .int 8]) := by
  have hc : denE C (.comp false [6] (.var 6) (.name 6) (.of (.var 5)) T) [some F4, some (.int 1), some (.dref 0), some (.ref 2), some (.ref 3), some (.lst so1), none] (mem [.int 24]) = .ok (.lst so1) (mem [.int 24]) := by
    have hI : denI C (.of (.var 5)) [some F4, some (.int 1), some (.dref 0), some (.ref 2), some (.ref 3), some (.lst so1), none] (mem [.int 24]) = .ok ([], so1) (mem [.int 24]) := rfl
    have k := comp_same (g := gd []) (dt := fun ρ μ => denTs C T ρ μ) (de := fun ρ μ => denE C (.var 6) ρ μ) (set := fun u μ => setT (.name 6) u μ (wipeU [some F4, some (.int 1), some (.dref 0), some (.ref 2), some (.ref 3), some (.lst so1), none] [6])) (μ := mem [.int 24]) rfl so1 fun x hx => ⟨_, rfl, okT_ok (hp x hx), rfl⟩
    rw [denE, hI]
    show (match compLoop (gd []) _ _ so1 (mem [.int 24]) with | .ok us μ2 => if us.length ≤ bigL then alloc false us μ2 else .bad | _ => .bad) = _
    rw [k]
    rfl
  generalize IE.comp false [6] (.var 6) (.name 6) (.of (.var 5)) T = X at hc ⊢
  simp only [denS, denE, denEs, hc, bind_ok, List.getElem?_cons_zero, List.getElem?_cons_succ]
  rfl
theorem hp1 : ∀ x ∈ so1, p1 x = true := okB_of [ch1_0, ch1_1] rfl (by
    intro c hc
    simp only [List.mem_cons, List.not_mem_nil, or_false] at hc
    rcases hc with rfl | rfl
    · exact pc1_0
    · exact pc1_1)
theorem wb1 : denS C6 W3 [some F4, some (.int 1), some (.dref 0), some (.ref 2), some (.ref 3), some (.lst so1), none] (mem [.int 24]) = .ok (.next [some F4, some (.int 1), some (.dref 0), some (.ref 2), some (.ref 3), some (.lst so1), none]) (mem [.int 24, .int 8]) := wbC1 C6 IFS hp1
def so2 : List U := [(.tup [(.int (-1)), (.int (-2)), (.int (-1)), (.int (-1))]), (.tup [(.int 0), (.int 0), (.int 1), (.int 0)]), (.tup [(.int 0), (.int 0), (.int 0), (.int 1)])]
theorem wa2 : okN (denS C6 W2 [some F4, some (.int 2), some (.dref 0), some (.ref 2), some (.ref 3), some (.lst so1), none] (mem [.int 24, .int 8])) [some F4, some (.int 2), some (.dref 0), some (.ref 2), some (.ref 3), some (.lst so2), none] (mem [.int 24, .int 8]) = true := by decide +kernel
def p2 (x : U) : Bool := okT (denTs C6 IFS [some F4, some (.int 2), some (.dref 0), some (.ref 2), some (.ref 3), some (.lst so2), some x] (mem [.int 24, .int 8])) (mem [.int 24, .int 8])
def ch2_0 : List U := [(.tup [(.int (-1)), (.int (-2)), (.int (-1)), (.int (-1))]), (.tup [(.int 0), (.int 0), (.int 1), (.int 0)]), (.tup [(.int 0), (.int 0), (.int 0), (.int 1)])]
theorem pc2_0 : ch2_0.all p2 = true := by decide +kernel
theorem wbC2 (C : Orc) (T : IEs) (hp : ∀ x ∈ so2, okT (denTs C T [some F4, some (.int 2), some (.dref 0), some (.ref 2), some (.ref 3), some (.lst so2), some x] (mem [.int 24, .int 8])) (mem [.int 24, .int 8]) = true) : denS C (.exp (.app (.var 4) (.bi false "len" (.cons (.comp false [6] (.var 6) (.name 6) (.of (.var 5)) T) .nil)))) [some F4, some (.int 2), some (.dref 0), some (.ref 2), some (.ref 3), some (.lst so2), none] (mem [.int 24, .int 8]) = .ok (.next [some F4, some (.int 2), some (.dref 0), some (.ref 2), some (.ref 3), some (.lst so2), none]) (mem [.int 24, .int 8, .int 3]) := by
  have hc : denE C (.comp false [6] (.var 6) (.name 6) (.of (.var 5)) T) [some F4, some (.int 2), some (.dref 0), some (.ref 2), some (.ref 3), some (.lst so2), none] (mem [.int 24, .int 8]) = .ok (.lst so2) (mem [.int 24, .int 8]) := by
    have hI : denI C (.of (.var 5)) [some F4, some (.int 2), some (.dref 0), some (.ref 2), some (.ref 3), some (.lst so2), none] (mem [.int 24, .int 8]) = .ok ([], so2) (mem [.int 24, .int 8]) := rfl
    have k := comp_same (g := gd []) (dt := fun ρ μ => denTs C T ρ μ) (de := fun ρ μ => denE C (.var 6) ρ μ) (set := fun u μ => setT (.name 6) u μ (wipeU [some F4, some (.int 2), some (.dref 0), some (.ref 2), some (.ref 3), some (.lst so2), none] [6])) (μ := mem [.int 24, .int 8]) rfl so2 fun x hx => ⟨_, rfl, okT_ok (hp x hx), rfl⟩
    rw [denE, hI]
    show (match compLoop (gd []) _ _ so2 (mem [.int 24, .int 8]) with | .ok us μ2 => if us.length ≤ bigL then alloc false us μ2 else .bad | _ => .bad) = _
    rw [k]
    rfl
  generalize IE.comp false [6] (.var 6) (.name 6) (.of (.var 5)) T = X at hc ⊢
  simp only [denS, denE, denEs, hc, bind_ok, List.getElem?_cons_zero, List.getElem?_cons_succ]
  rfl
theorem hp2 : ∀ x ∈ so2, p2 x = true := okB_of [ch2_0] rfl (by
    intro c hc
    simp only [List.mem_cons, List.not_mem_nil, or_false] at hc
    rcases hc with rfl
    · exact pc2_0)
theorem wb2 : denS C6 W3 [some F4, some (.int 2), some (.dref 0), some (.ref 2), some (.ref 3), some (.lst so2), none] (mem [.int 24, .int 8]) = .ok (.next [some F4, some (.int 2), some (.dref 0), some (.ref 2), some (.ref 3), some (.lst so2), none]) (mem [.int 24, .int 8, .int 3]) := wbC2 C6 IFS hp2
def so3 : List U := [(.tup [(.int (-1)), (.int (-2)), (.int (-1)), (.int (-1))]), (.tup [(.int 0), (.int 0), (.int 0), (.int 1)])]
theorem wa3 : okN (denS C6 W2 [some F4, some (.int 3), some (.dref 0), some (.ref 2), some (.ref 3), some (.lst so2), none] (mem [.int 24, .int 8, .int 3])) [some F4, some (.int 3), some (.dref 0), some (.ref 2), some (.ref 3), some (.lst so3), none] (mem [.int 24, .int 8, .int 3]) = true := by decide +kernel
def p3 (x : U) : Bool := okT (denTs C6 IFS [some F4, some (.int 3), some (.dref 0), some (.ref 2), some (.ref 3), some (.lst so3), some x] (mem [.int 24, .int 8, .int 3])) (mem [.int 24, .int 8, .int 3])
def ch3_0 : List U := [(.tup [(.int (-1)), (.int (-2)), (.int (-1)), (.int (-1))]), (.tup [(.int 0), (.int 0), (.int 0), (.int 1)])]
theorem pc3_0 : ch3_0.all p3 = true := by decide +kernel
theorem wbC3 (C : Orc) (T : IEs) (hp : ∀ x ∈ so3, okT (denTs C T [some F4, some (.int 3), some (.dref 0), some (.ref 2), some (.ref 3), some (.lst so3), some x] (mem [.int 24, .int 8, .int 3])) (mem [.int 24, .int 8, .int 3]) = true) : denS C (.exp (.app (.var 4) (.bi false "len" (.cons (.comp false [6] (.var 6) (.name 6) (.of (.var 5)) T) .nil)))) [some F4, some (.int 3), some (.dref 0), some (.ref 2), some (.ref 3), some (.lst so3), none] (mem [.int 24, .int 8, .int 3]) = .ok (.next [some F4, some (.int 3), some (.dref 0), some (.ref 2), some (.ref 3), some (.lst so3), none]) (mem [.int 24, .int 8, .int 3, .int 2]) := by
  have hc : denE C (.comp false [6] (.var 6) (.name 6) (.of (.var 5)) T) [some F4, some (.int 3), some (.dref 0), some (.ref 2), some (.ref 3), some (.lst so3), none] (mem [.int 24, .int 8, .int 3]) = .ok (.lst so3) (mem [.int 24, .int 8, .int 3]) := by
    have hI : denI C (.of (.var 5)) [some F4, some (.int 3), some (.dref 0), some (.ref 2), some (.ref 3), some (.lst so3), none] (mem [.int 24, .int 8, .int 3]) = .ok ([], so3) (mem [.int 24, .int 8, .int 3]) := rfl
    have k := comp_same (g := gd []) (dt := fun ρ μ => denTs C T ρ μ) (de := fun ρ μ => denE C (.var 6) ρ μ) (set := fun u μ => setT (.name 6) u μ (wipeU [some F4, some (.int 3), some (.dref 0), some (.ref 2), some (.ref 3), some (.lst so3), none] [6])) (μ := mem [.int 24, .int 8, .int 3]) rfl so3 fun x hx => ⟨_, rfl, okT_ok (hp x hx), rfl⟩
    rw [denE, hI]
    show (match compLoop (gd []) _ _ so3 (mem [.int 24, .int 8, .int 3]) with | .ok us μ2 => if us.length ≤ bigL then alloc false us μ2 else .bad | _ => .bad) = _
    rw [k]
    rfl
  generalize IE.comp false [6] (.var 6) (.name 6) (.of (.var 5)) T = X at hc ⊢
  simp only [denS, denE, denEs, hc, bind_ok, List.getElem?_cons_zero, List.getElem?_cons_succ]
  rfl
theorem hp3 : ∀ x ∈ so3, p3 x = true := okB_of [ch3_0] rfl (by
    intro c hc
    simp only [List.mem_cons, List.not_mem_nil, or_false] at hc
    rcases hc with rfl
    · exact pc3_0)
theorem wb3 : denS C6 W3 [some F4, some (.int 3), some (.dref 0), some (.ref 2), some (.ref 3), some (.lst so3), none] (mem [.int 24, .int 8, .int 3]) = .ok (.next [some F4, some (.int 3), some (.dref 0), some (.ref 2), some (.ref 3), some (.lst so3), none]) (mem [.int 24, .int 8, .int 3, .int 2]) := wbC3 C6 IFS hp3
theorem loopC (C : Orc) (X Y : IS) (a0 : denS C X [some F4, some (.int 0), some (.dref 0), some (.ref 2), some (.ref 3), none, none] (mem []) = .ok (.next [some F4, some (.int 0), some (.dref 0), some (.ref 2), some (.ref 3), some (.lst so0), none]) (mem [])) (b0 : denS C Y [some F4, some (.int 0), some (.dref 0), some (.ref 2), some (.ref 3), some (.lst so0), none] (mem []) = .ok (.next [some F4, some (.int 0), some (.dref 0), some (.ref 2), some (.ref 3), some (.lst so0), none]) (mem [.int 24])) (a1 : denS C X [some F4, some (.int 1), some (.dref 0), some (.ref 2), some (.ref 3), some (.lst so0), none] (mem [.int 24]) = .ok (.next [some F4, some (.int 1), some (.dref 0), some (.ref 2), some (.ref 3), some (.lst so1), none]) (mem [.int 24])) (b1 : denS C Y [some F4, some (.int 1), some (.dref 0), some (.ref 2), some (.ref 3), some (.lst so1), none] (mem [.int 24]) = .ok (.next [some F4, some (.int 1), some (.dref 0), some (.ref 2), some (.ref 3), some (.lst so1), none]) (mem [.int 24, .int 8])) (a2 : denS C X [some F4, some (.int 2), some (.dref 0), some (.ref 2), some (.ref 3), some (.lst so1), none] (mem [.int 24, .int 8]) = .ok (.next [some F4, some (.int 2), some (.dref 0), some (.ref 2), some (.ref 3), some (.lst so2), none]) (mem [.int 24, .int 8])) (b2 : denS C Y [some F4, some (.int 2), some (.dref 0), some (.ref 2), some (.ref 3), some (.lst so2), none] (mem [.int 24, .int 8]) = .ok (.next [some F4, some (.int 2), some (.dref 0), some (.ref 2), some (.ref 3), some (.lst so2), none]) (mem [.int 24, .int 8, .int 3])) (a3 : denS C X [some F4, some (.int 3), some (.dref 0), some (.ref 2), some (.ref 3), some (.lst so2), none] (mem [.int 24, .int 8, .int 3]) = .ok (.next [some F4, some (.int 3), some (.dref 0), some (.ref 2), some (.ref 3), some (.lst so3), none]) (mem [.int 24, .int 8, .int 3])) (b3 : denS C Y [some F4, some (.int 3), some (.dref 0), some (.ref 2), some (.ref 3), some (.lst so3), none] (mem [.int 24, .int 8, .int 3]) = .ok (.next [some F4, some (.int 3), some (.dref 0), some (.ref 2), some (.ref 3), some (.lst so3), none]) (mem [.int 24, .int 8, .int 3, .int 2])) : forLoop (gd []) (fun ρ μ => denSs C (.cons X (.cons Y .nil)) ρ μ) (fun u μ ρ => setT (.name 1) u μ ρ) [.int 0, .int 1, .int 2, .int 3] [some F4, none, some (.dref 0), some (.ref 2), some (.ref 3), none, none] (mem []) = .ok (.next [some F4, some (.int 3), some (.dref 0), some (.ref 2), some (.ref 3), some (.lst so3), none]) (mem [.int 24, .int 8, .int 3, .int 2]) := by
  simp [forLoop, gd, Mini.setT, denSs, a0, b0, a1, b1, a2, b2, a3, b3]
theorem bodyC (C : Orc) (W X Y : IS) (I : II) (h1 : denS C W (startU d87.N [F4]) [] = .ok (.next [some F4, none, some (.dref 0), some (.ref 2), some (.ref 3), none, none]) (mem [])) (hI : denI C I [some F4, none, some (.dref 0), some (.ref 2), some (.ref 3), none, none] (mem []) = .ok ([], [.int 0, .int 1, .int 2, .int 3]) (mem []))
    (h2 : forLoop (gd []) (fun ρ μ => denSs C (.cons X (.cons Y .nil)) ρ μ) (fun u μ ρ => setT (.name 1) u μ ρ) [.int 0, .int 1, .int 2, .int 3] [some F4, none, some (.dref 0), some (.ref 2), some (.ref 3), none, none] (mem []) = .ok (.next [some F4, some (.int 3), some (.dref 0), some (.ref 2), some (.ref 3), some (.lst so3), none]) (mem [.int 24, .int 8, .int 3, .int 2])) :
    ended (denSs C (.cons W (.cons (.for_ (.name 1) I (.cons X (.cons Y .nil))) (.cons (.ret (.var 4)) .nil))) (startU d87.N [F4]) []) = .ok (.ref 3) (mem [.int 24, .int 8, .int 3, .int 2]) := by
  have h4 : denS C (.for_ (.name 1) I (.cons X (.cons Y .nil))) [some F4, none, some (.dref 0), some (.ref 2), some (.ref 3), none, none] (mem []) = .ok (.next [some F4, some (.int 3), some (.dref 0), some (.ref 2), some (.ref 3), some (.lst so3), none]) (mem [.int 24, .int 8, .int 3, .int 2]) := by
    rw [denS, hI]
    exact h2
  have h3 : denS C (.ret (.var 4)) [some F4, some (.int 3), some (.dref 0), some (.ref 2), some (.ref 3), some (.lst so3), none] (mem [.int 24, .int 8, .int 3, .int 2]) = .ok (.ret (.ref 3)) (mem [.int 24, .int 8, .int 3, .int 2]) := rfl
  generalize IS.for_ (.name 1) I (.cons X (.cons Y .nil)) = Z at h4 ⊢
  simp only [denSs, h1, h4, h3, ended]
theorem hI87 (C : Orc) : denI C (.rng1 (.bi false "len" (.cons (.var 0) .nil))) [some F4, none, some (.dref 0), some (.ref 2), some (.ref 3), none, none] (mem []) = .ok ([], [.int 0, .int 1, .int 2, .int 3]) (mem []) := rfl
theorem ended87 : ended (denSs C6 d87.body (startU d87.N [F4]) []) = .ok (.ref 3) (mem [.int 24, .int 8, .int 3, .int 2]) := by
  rw [body87]
  exact bodyC C6 W1 W2 W3 _ (okN_ok w1) (hI87 C6) (loopC C6 W2 W3 (okN_ok wa0) wb0 (okN_ok wa1) wb1 (okN_ok wa2) wb2 (okN_ok wa3) wb3)
theorem loc87 {X : R U} (h : X = .ok (.ref 3) (mem [.int 24, .int 8, .int 3, .int 2])) : locD [] X = .ok (.lst [.int 24, .int 8, .int 3, .int 2]) [] := by
  subst h
  rfl
theorem counts : callD Ds 7 87 [F4] [] = .ok (.lst [.int 24, .int 8, .int 3, .int 2]) [] := by
  have h := loc87 ended87
  refine (show callD Ds d87.lv 87 _ _ = _ from ?_)
  rw [call_at (k := 6) (d := d87) rfl rfl, run_loc rfl rfl]
  exact h
end K56

set_option maxHeartbeats 0
/-! the numbers' part, joined from pieces -/
namespace K56
open PySem Mini L2
def okU (r : R U) (v : U) (μ : Mem) : Bool := match r with
  | .ok u ν => Mini.eqU u v && eqM ν μ
  | _ => false
theorem okU_ok {r : R U} {v : U} {μ : Mem} (h : okU r v μ = true) : r = .ok v μ := by
  unfold okU at h
  split at h
  · rw [Bool.and_eq_true] at h
    rw [eqU_eq h.1, eqM_eq h.2]
  · cases h
theorem loc_exc {X : R U} {c : Exn} {ν μ : Mem} (h : locD [] X = .exc c ν) : locD μ X = .exc c μ := by
  cases X with
  | bad => cases h
  | exc c κ => cases h; rfl
  | ok u κ =>
    have h : (match frz (getF κ 0 9) u with | some v => R.ok v [] | none => R.bad) = .exc c ν := h
    generalize frz (getF κ 0 9) u = o at h
    cases o <;> cases h
theorem call_locX {j k : Nat} {d : DefS} {us : List U} {c : Exn} {ν : Mem} (h : Ds[j]? = some (.std d)) (hk : d.lv = k + 1) (hn : us.length = d.np) (hl : (d.loc && belows 0 us) = true) (e : callD Ds d.lv j us [] = .exc c ν) (n : Nat) (μ : Mem) : callD Ds (d.lv + n) j us μ = .exc c μ := by
  rw [call_down h, call_at h hk, run_loc hn hl]
  rw [call_at h hk, run_loc hn hl] at e
  exact loc_exc e
def apS : ISs → ISs → ISs
  | .nil, b => b
  | .cons s ss, b => .cons s (apS ss b)
theorem den_ap {C : Orc} {b : ISs} {ρ1 : Slots} {μ1 : Mem} : ∀ {a : ISs} {ρ : Slots} {μ : Mem}, denSs C a ρ μ = .ok (.next ρ1) μ1 → denSs C (apS a b) ρ μ = denSs C b ρ1 μ1
  | .nil, ρ, μ, h => by
    simp only [denSs] at h
    cases h
    rfl
  | .cons s ss, ρ, μ, h => by
    simp only [denSs] at h
    show denSs C (.cons s (apS ss b)) ρ μ = _
    simp only [denSs]
    split at h
    · exact den_ap h
    · cases h
    · cases h
    · cases h
    · cases h
    · cases h
theorem fold88 (F : Nat → List U → Mem → R U) (L : Nat → R U → R U) (X : Option Exn) (h : F 87 [F4] [] = .ok (.lst [.int 24, .int 8, .int 3, .int 2]) []) : ended (denSs ⟨F, L, X⟩ d88.body (startU d88.N [F4]) []) = .ok (.int 1152) [] := by
  have hI : denI ⟨F, L, X⟩ (.of (.call 87 (.cons (.var 0) .nil))) [some F4, some (.int 1), none] [] = .ok ([], [.int 24, .int 8, .int 3, .int 2]) [] := by
    simp [denI, denE, denEs, bind_ok, h, seqOf, srcsOf]
  show ended (denSs ⟨F, L, X⟩ (.cons (.set (.name 1) (.int 1)) (.cons (.for_ (.name 2) (.of (.call 87 (.cons (.var 0) .nil))) (.cons (.set (.name 1) (.bin false .Mult (.var 1) (.var 2))) .nil)) (.cons (.ret (.var 1)) .nil))) [some F4, none, none] []) = _
  generalize II.of (.call 87 (.cons (.var 0) .nil)) = I at hI ⊢
  have hs : denS ⟨F, L, X⟩ (.set (.name 1) (.int 1)) [some F4, none, none] [] = .ok (.next [some F4, some (.int 1), none]) [] := rfl
  have hf : denS ⟨F, L, X⟩ (.for_ (.name 2) I (.cons (.set (.name 1) (.bin false .Mult (.var 1) (.var 2))) .nil)) [some F4, some (.int 1), none] [] = .ok (.next [some F4, some (.int 1152), some (.int 2)]) [] := by
    rw [denS, hI]
    rfl
  have hr : denS ⟨F, L, X⟩ (.ret (.var 1)) [some F4, some (.int 1152), some (.int 2)] [] = .ok (.ret (.int 1152)) [] := rfl
  generalize IS.for_ (.name 2) I (.cons (.set (.name 1) (.bin false .Mult (.var 1) (.var 2))) .nil) = Z at hf ⊢
  simp only [denSs, hs, hf, hr, ended]
theorem loc_int {X : R U} {i : Int} {ν μ : Mem} (h : X = .ok (.int i) ν) : locD μ X = .ok (.int i) μ := by
  subst h
  rfl
theorem e88 : callD Ds 8 88 [F4] [] = .ok (.int 1152) [] := by
  have h := loc_int (μ := []) (fold88 (callD Ds 7) (lamD Ds) none counts)
  refine (show callD Ds d88.lv 88 _ _ = _ from ?_)
  rw [call_at (k := 7) (d := d88) rfl rfl, run_loc rfl rfl]
  exact h
theorem k17 : okU (callD Ds 8 17 [F4] []) .non [] = true := by decide +kernel
theorem body92 (F : Nat → List U → Mem → R U) (L : Nat → R U → R U) (X : Option Exn) (h1 : F 17 [F4] [] = .ok .non []) (h2 : F 88 [F4] [] = .ok (.int 1152) []) : ended (denSs ⟨F, L, X⟩ d92.body (startU d92.N [F4]) []) = .exc ⟨"TooMany", some 400⟩ [] := by
  simp [d92, denSs, denS, denE, denEs, startU, bind_ok, h1, h2, cmp_gt, truR_bl, ended]
theorem e92 : callD Ds 9 92 [F4] [] = .exc ⟨"TooMany", some 400⟩ [] := by
  have h := loc_exc (μ := []) (show locD [] (.exc ⟨"TooMany", some 400⟩ []) = .exc ⟨"TooMany", some 400⟩ [] from rfl)
  rw [← body92 (callD Ds 8) (lamD Ds) none (okU_ok k17) e88] at h
  refine (show callD Ds d92.lv 92 _ _ = _ from ?_)
  rw [call_at (k := 8) (d := d92) rfl rfl, run_loc rfl rfl]
  refine h.trans ?_
  rw [body92 (callD Ds 8) (lamD Ds) none (okU_ok k17) e88]
def O31 : U := .tup (rep [.int 1] 31)
def len31 (r : R U) : Bool := match r with
  | .ok (.tup xs) _ => xs.length == 31
  | _ => false
theorem k64 : len31 (callD Ds 3 64 [O31, O31] []) = true := by decide +kernel
theorem e64 : ∃ xs ν, xs.length = 31 ∧ callD Ds 3 64 [O31, O31] [] = .ok (.tup xs) ν := by
  have h := k64
  unfold len31 at h
  split at h
  · rename_i xs ν e
    exact ⟨xs, ν, by simpa using h, e⟩
  · cases h
abbrev V0 : IS := (.set (.tup (.cons (.name 5) (.cons (.name 3) .nil))) (.tup (.cons (.tup (.cons (.tup (.cons (.int 2) (.cons (.int 1) .nil))) (.cons (.tup (.cons (.int 1) (.cons (.int 2) .nil))) .nil))) (.cons (.lst true .nil) .nil))))
abbrev V1 : IS := (.for_ (.name 0) (.of (.tup (.cons .non (.cons (.neg (.int 1)) (.cons (.int 31) (.cons (.bl true) (.cons (.str "1") .nil))))))) (.cons (.exp (.app (.var 3) (.lam 115 (.call 62 (.cons (.var 5) (.cons (.var 0) .nil)))))) (.cons (.exp (.app (.var 3) (.lam 115 (.call 63 (.cons (.var 5) (.cons (.var 5) (.cons (.var 0) .nil))))))) .nil)))
abbrev V2 : IS := (.for_ (.name 1) (.of (.tup (.cons .non (.cons (.int 0) (.cons (.int 5) (.cons (.bl true) .nil)))))) (.cons (.set (.name 3) (.bin true .Add (.var 3) (.comp false [8] (.lam 115 (.cvar 8 (.cons (.var 1) .nil))) (.name 8) (.of (.tup (.cons (.fnv 55) (.cons (.fnv 56) .nil)))) .nil))) .nil))
abbrev V3 : IS := (.for_ (.name 1) (.of (.tup (.cons .non (.cons (.int 0) (.cons (.int 9) (.cons (.bl true) .nil)))))) (.cons (.exp (.app (.var 3) (.lam 115 (.call 82 (.cons (.var 1) .nil))))) (.cons (.exp (.app (.var 3) (.lam 115 (.call 83 (.cons (.var 1) (.cons .non .nil)))))) .nil)))
abbrev V4 : IS := (.for_ (.name 2) (.of (.tup (.cons .non (.cons (.int 0) (.cons (.int 101) (.cons (.bl true) .nil)))))) (.cons (.exp (.app (.var 3) (.lam 115 (.call 81 (.cons (.var 2) .nil))))) (.cons (.exp (.app (.var 3) (.lam 115 (.call 83 (.cons (.int 2) (.cons (.var 2) .nil)))))) .nil)))
abbrev V5 : IS := (.ite (.cmp .NotEq (.var 3) (.bin false .Mult (.lst false (.cons (.str "number") .nil)) (.int 34))) (.cons (.ret (.bl false)) .nil) .nil)
abbrev V6 : IS := (.set (.name 3) (.lst true .nil))
abbrev V7 : IS := (.for_ (.tup (.cons (.name 6) (.cons (.name 7) .nil))) (.of (.tup (.cons (.tup (.cons .non (.cons (.tup (.cons (.int 1) .nil)) .nil))) (.cons (.tup (.cons (.tup .nil) (.cons (.tup .nil) .nil))) (.cons (.tup (.cons (.tup (.cons (.int 1) .nil)) (.cons (.tup (.cons (.int 1) (.cons (.int 2) .nil))) .nil))) (.cons (.tup (.cons (.tup (.cons (.neg (.int 1)) .nil)) (.cons (.tup (.cons (.int 1) .nil)) .nil))) (.cons (.tup (.cons (.tup (.cons (.bin false .Add (.bin false .Pow (.int 10) (.int 9)) (.int 1)) .nil)) (.cons (.tup (.cons (.int 1) .nil)) .nil))) (.cons (.tup (.cons (.lst false (.cons (.int 1) .nil)) (.cons (.tup (.cons (.int 1) .nil)) .nil))) (.cons (.tup (.cons (.tup (.cons (.bl true) .nil)) (.cons (.tup (.cons (.int 1) .nil)) .nil))) (.cons (.tup (.cons (.tup (.cons (.int 1) .nil)) (.cons .non .nil))) (.cons (.tup (.cons (.bin false .Mult (.tup (.cons (.int 0) .nil)) (.int 32)) (.cons (.bin false .Mult (.tup (.cons (.int 0) .nil)) (.int 32)) .nil))) (.cons (.tup (.cons (.tup (.cons (.int 1) .nil)) (.cons (.tup .nil) .nil))) .nil)))))))))))) (.cons (.exp (.app (.var 3) (.lam 115 (.call 64 (.cons (.var 6) (.cons (.var 7) .nil)))))) .nil))
abbrev V8 : IS := (.set (.name 4) (.tup (.cons (.tup (.cons (.int 2) (.cons (.neg (.int 1)) (.cons (.int 0) (.cons (.int 0) .nil))))) (.cons (.tup (.cons (.neg (.int 1)) (.cons (.int 2) (.cons (.neg (.int 1)) (.cons (.neg (.int 1)) .nil))))) (.cons (.tup (.cons (.int 0) (.cons (.neg (.int 1)) (.cons (.int 2) (.cons (.int 0) .nil))))) (.cons (.tup (.cons (.int 0) (.cons (.neg (.int 1)) (.cons (.int 0) (.cons (.int 2) .nil))))) .nil))))))
abbrev V9 : IS := (.ret (.and (.cmp .Eq (.var 3) (.bin false .Mult (.lst false (.cons (.str "counts") .nil)) (.int 10))) (.and (.cmp .Eq (.lam 115 (.call 92 (.cons (.var 4) .nil))) (.str "many 400")) (.cmp .Eq (.bi false "len" (.cons (.call 64 (.cons (.bin false .Mult (.tup (.cons (.int 1) .nil)) (.int 31)) (.cons (.bin false .Mult (.tup (.cons (.int 1) .nil)) (.int 31)) .nil))) .nil)) (.int 31)))))
abbrev pre : ISs := (.cons V0 (.cons V1 (.cons V2 (.cons V3 (.cons V4 (.cons V5 (.cons V6 (.cons V7 (.cons V8 .nil)))))))))
theorem body121 : d121.body = apS pre (.cons V9 .nil) := rfl
def r8 : Slots := [some (.str "1"), some (.bl true), some (.bl true), some (.ref 5), some F4, some (.tup [(.tup [(.int 2), (.int 1)]), (.tup [(.int 1), (.int 2)])]), some (.tup [(.int 1)]), some (.tup []), none]
def m8 : Mem := [[(.str "number"), (.str "number"), (.str "number"), (.str "number"), (.str "number"), (.str "number"), (.str "number"), (.str "number"), (.str "number"), (.str "number")], [(.str "number"), (.str "number"), (.str "number"), (.str "number"), (.str "number"), (.str "number"), (.str "number"), (.str "number"), (.str "number"), (.str "number"), (.str "number"), (.str "number")], [(.str "number"), (.str "number"), (.str "number"), (.str "number"), (.str "number"), (.str "number"), (.str "number"), (.str "number"), (.str "number"), (.str "number"), (.str "number"), (.str "number"), (.str "number"), (.str "number")], [(.str "number"), (.str "number"), (.str "number"), (.str "number"), (.str "number"), (.str "number"), (.str "number"), (.str "number"), (.str "number"), (.str "number"), (.str "number"), (.str "number"), (.str "number"), (.str "number"), (.str "number"), (.str "number")], [(.str "number"), (.str "number"), (.str "number"), (.str "number"), (.str "number"), (.str "number"), (.str "number"), (.str "number"), (.str "number"), (.str "number"), (.str "number"), (.str "number"), (.str "number"), (.str "number"), (.str "number"), (.str "number"), (.str "number"), (.str "number"), (.str "number"), (.str "number"), (.str "number"), (.str "number"), (.str "number"), (.str "number"), (.str "number"), (.str "number"), (.str "number"), (.str "number"), (.str "number"), (.str "number"), (.str "number"), (.str "number"), (.str "number"), (.str "number")], [(.str "counts"), (.str "counts"), (.str "counts"), (.str "counts"), (.str "counts"), (.str "counts"), (.str "counts"), (.str "counts"), (.str "counts"), (.str "counts")]]
theorem v0 : okN (denS (orc Ds 9) V0 (startU d121.N []) ([])) ([none, none, none, some (.ref 0), none, some (.tup [(.tup [(.int 2), (.int 1)]), (.tup [(.int 1), (.int 2)])]), none, none, none]) ([[]]) = true := by decide +kernel
theorem v1 : okN (denS (orc Ds 9) V1 ([none, none, none, some (.ref 0), none, some (.tup [(.tup [(.int 2), (.int 1)]), (.tup [(.int 1), (.int 2)])]), none, none, none]) ([[]])) ([some (.str "1"), none, none, some (.ref 0), none, some (.tup [(.tup [(.int 2), (.int 1)]), (.tup [(.int 1), (.int 2)])]), none, none, none]) ([[(.str "number"), (.str "number"), (.str "number"), (.str "number"), (.str "number"), (.str "number"), (.str "number"), (.str "number"), (.str "number"), (.str "number")]]) = true := by decide +kernel
theorem v2 : okN (denS (orc Ds 9) V2 ([some (.str "1"), none, none, some (.ref 0), none, some (.tup [(.tup [(.int 2), (.int 1)]), (.tup [(.int 1), (.int 2)])]), none, none, none]) ([[(.str "number"), (.str "number"), (.str "number"), (.str "number"), (.str "number"), (.str "number"), (.str "number"), (.str "number"), (.str "number"), (.str "number")]])) ([some (.str "1"), some (.bl true), none, some (.ref 4), none, some (.tup [(.tup [(.int 2), (.int 1)]), (.tup [(.int 1), (.int 2)])]), none, none, none]) ([[(.str "number"), (.str "number"), (.str "number"), (.str "number"), (.str "number"), (.str "number"), (.str "number"), (.str "number"), (.str "number"), (.str "number")], [(.str "number"), (.str "number"), (.str "number"), (.str "number"), (.str "number"), (.str "number"), (.str "number"), (.str "number"), (.str "number"), (.str "number"), (.str "number"), (.str "number")], [(.str "number"), (.str "number"), (.str "number"), (.str "number"), (.str "number"), (.str "number"), (.str "number"), (.str "number"), (.str "number"), (.str "number"), (.str "number"), (.str "number"), (.str "number"), (.str "number")], [(.str "number"), (.str "number"), (.str "number"), (.str "number"), (.str "number"), (.str "number"), (.str "number"), (.str "number"), (.str "number"), (.str "number"), (.str "number"), (.str "number"), (.str "number"), (.str "number"), (.str "number"), (.str "number")], [(.str "number"), (.str "number"), (.str "number"), (.str "number"), (.str "number"), (.str "number"), (.str "number"), (.str "number"), (.str "number"), (.str "number"), (.str "number"), (.str "number"), (.str "number"), (.str "number"), (.str "number"), (.str "number"), (.str "number"), (.str "number")]]) = true := by decide +kernel
theorem v3 : okN (denS (orc Ds 9) V3 ([some (.str "1"), some (.bl true), none, some (.ref 4), none, some (.tup [(.tup [(.int 2), (.int 1)]), (.tup [(.int 1), (.int 2)])]), none, none, none]) ([[(.str "number"), (.str "number"), (.str "number"), (.str "number"), (.str "number"), (.str "number"), (.str "number"), (.str "number"), (.str "number"), (.str "number")], [(.str "number"), (.str "number"), (.str "number"), (.str "number"), (.str "number"), (.str "number"), (.str "number"), (.str "number"), (.str "number"), (.str "number"), (.str "number"), (.str "number")], [(.str "number"), (.str "number"), (.str "number"), (.str "number"), (.str "number"), (.str "number"), (.str "number"), (.str "number"), (.str "number"), (.str "number"), (.str "number"), (.str "number"), (.str "number"), (.str "number")], [(.str "number"), (.str "number"), (.str "number"), (.str "number"), (.str "number"), (.str "number"), (.str "number"), (.str "number"), (.str "number"), (.str "number"), (.str "number"), (.str "number"), (.str "number"), (.str "number"), (.str "number"), (.str "number")], [(.str "number"), (.str "number"), (.str "number"), (.str "number"), (.str "number"), (.str "number"), (.str "number"), (.str "number"), (.str "number"), (.str "number"), (.str "number"), (.str "number"), (.str "number"), (.str "number"), (.str "number"), (.str "number"), (.str "number"), (.str "number")]])) ([some (.str "1"), some (.bl true), none, some (.ref 4), none, some (.tup [(.tup [(.int 2), (.int 1)]), (.tup [(.int 1), (.int 2)])]), none, none, none]) ([[(.str "number"), (.str "number"), (.str "number"), (.str "number"), (.str "number"), (.str "number"), (.str "number"), (.str "number"), (.str "number"), (.str "number")], [(.str "number"), (.str "number"), (.str "number"), (.str "number"), (.str "number"), (.str "number"), (.str "number"), (.str "number"), (.str "number"), (.str "number"), (.str "number"), (.str "number")], [(.str "number"), (.str "number"), (.str "number"), (.str "number"), (.str "number"), (.str "number"), (.str "number"), (.str "number"), (.str "number"), (.str "number"), (.str "number"), (.str "number"), (.str "number"), (.str "number")], [(.str "number"), (.str "number"), (.str "number"), (.str "number"), (.str "number"), (.str "number"), (.str "number"), (.str "number"), (.str "number"), (.str "number"), (.str "number"), (.str "number"), (.str "number"), (.str "number"), (.str "number"), (.str "number")], [(.str "number"), (.str "number"), (.str "number"), (.str "number"), (.str "number"), (.str "number"), (.str "number"), (.str "number"), (.str "number"), (.str "number"), (.str "number"), (.str "number"), (.str "number"), (.str "number"), (.str "number"), (.str "number"), (.str "number"), (.str "number"), (.str "number"), (.str "number"), (.str "number"), (.str "number"), (.str "number"), (.str "number"), (.str "number"), (.str "number")]]) = true := by decide +kernel
theorem v4 : okN (denS (orc Ds 9) V4 ([some (.str "1"), some (.bl true), none, some (.ref 4), none, some (.tup [(.tup [(.int 2), (.int 1)]), (.tup [(.int 1), (.int 2)])]), none, none, none]) ([[(.str "number"), (.str "number"), (.str "number"), (.str "number"), (.str "number"), (.str "number"), (.str "number"), (.str "number"), (.str "number"), (.str "number")], [(.str "number"), (.str "number"), (.str "number"), (.str "number"), (.str "number"), (.str "number"), (.str "number"), (.str "number"), (.str "number"), (.str "number"), (.str "number"), (.str "number")], [(.str "number"), (.str "number"), (.str "number"), (.str "number"), (.str "number"), (.str "number"), (.str "number"), (.str "number"), (.str "number"), (.str "number"), (.str "number"), (.str "number"), (.str "number"), (.str "number")], [(.str "number"), (.str "number"), (.str "number"), (.str "number"), (.str "number"), (.str "number"), (.str "number"), (.str "number"), (.str "number"), (.str "number"), (.str "number"), (.str "number"), (.str "number"), (.str "number"), (.str "number"), (.str "number")], [(.str "number"), (.str "number"), (.str "number"), (.str "number"), (.str "number"), (.str "number"), (.str "number"), (.str "number"), (.str "number"), (.str "number"), (.str "number"), (.str "number"), (.str "number"), (.str "number"), (.str "number"), (.str "number"), (.str "number"), (.str "number"), (.str "number"), (.str "number"), (.str "number"), (.str "number"), (.str "number"), (.str "number"), (.str "number"), (.str "number")]])) ([some (.str "1"), some (.bl true), some (.bl true), some (.ref 4), none, some (.tup [(.tup [(.int 2), (.int 1)]), (.tup [(.int 1), (.int 2)])]), none, none, none]) ([[(.str "number"), (.str "number"), (.str "number"), (.str "number"), (.str "number"), (.str "number"), (.str "number"), (.str "number"), (.str "number"), (.str "number")], [(.str "number"), (.str "number"), (.str "number"), (.str "number"), (.str "number"), (.str "number"), (.str "number"), (.str "number"), (.str "number"), (.str "number"), (.str "number"), (.str "number")], [(.str "number"), (.str "number"), (.str "number"), (.str "number"), (.str "number"), (.str "number"), (.str "number"), (.str "number"), (.str "number"), (.str "number"), (.str "number"), (.str "number"), (.str "number"), (.str "number")], [(.str "number"), (.str "number"), (.str "number"), (.str "number"), (.str "number"), (.str "number"), (.str "number"), (.str "number"), (.str "number"), (.str "number"), (.str "number"), (.str "number"), (.str "number"), (.str "number"), (.str "number"), (.str "number")], [(.str "number"), (.str "number"), (.str "number"), (.str "number"), (.str "number"), (.str "number"), (.str "number"), (.str "number"), (.str "number"), (.str "number"), (.str "number"), (.str "number"), (.str "number"), (.str "number"), (.str "number"), (.str "number"), (.str "number"), (.str "number"), (.str "number"), (.str "number"), (.str "number"), (.str "number"), (.str "number"), (.str "number"), (.str "number"), (.str "number"), (.str "number"), (.str "number"), (.str "number"), (.str "number"), (.str "number"), (.str "number"), (.str "number"), (.str "number")]]) = true := by decide +kernel
theorem v5 : okN (denS (orc Ds 9) V5 ([some (.str "1"), some (.bl true), some (.bl true), some (.ref 4), none, some (.tup [(.tup [(.int 2), (.int 1)]), (.tup [(.int 1), (.int 2)])]), none, none, none]) ([[(.str "number"), (.str "number"), (.str "number"), (.str "number"), (.str "number"), (.str "number"), (.str "number"), (.str "number"), (.str "number"), (.str "number")], [(.str "number"), (.str "number"), (.str "number"), (.str "number"), (.str "number"), (.str "number"), (.str "number"), (.str "number"), (.str "number"), (.str "number"), (.str "number"), (.str "number")], [(.str "number"), (.str "number"), (.str "number"), (.str "number"), (.str "number"), (.str "number"), (.str "number"), (.str "number"), (.str "number"), (.str "number"), (.str "number"), (.str "number"), (.str "number"), (.str "number")], [(.str "number"), (.str "number"), (.str "number"), (.str "number"), (.str "number"), (.str "number"), (.str "number"), (.str "number"), (.str "number"), (.str "number"), (.str "number"), (.str "number"), (.str "number"), (.str "number"), (.str "number"), (.str "number")], [(.str "number"), (.str "number"), (.str "number"), (.str "number"), (.str "number"), (.str "number"), (.str "number"), (.str "number"), (.str "number"), (.str "number"), (.str "number"), (.str "number"), (.str "number"), (.str "number"), (.str "number"), (.str "number"), (.str "number"), (.str "number"), (.str "number"), (.str "number"), (.str "number"), (.str "number"), (.str "number"), (.str "number"), (.str "number"), (.str "number"), (.str "number"), (.str "number"), (.str "number"), (.str "number"), (.str "number"), (.str "number"), (.str "number"), (.str "number")]])) ([some (.str "1"), some (.bl true), some (.bl true), some (.ref 4), none, some (.tup [(.tup [(.int 2), (.int 1)]), (.tup [(.int 1), (.int 2)])]), none, none, none]) ([[(.str "number"), (.str "number"), (.str "number"), (.str "number"), (.str "number"), (.str "number"), (.str "number"), (.str "number"), (.str "number"), (.str "number")], [(.str "number"), (.str "number"), (.str "number"), (.str "number"), (.str "number"), (.str "number"), (.str "number"), (.str "number"), (.str "number"), (.str "number"), (.str "number"), (.str "number")], [(.str "number"), (.str "number"), (.str "number"), (.str "number"), (.str "number"), (.str "number"), (.str "number"), (.str "number"), (.str "number"), (.str "number"), (.str "number"), (.str "number"), (.str "number"), (.str "number")], [(.str "number"), (.str "number"), (.str "number"), (.str "number"), (.str "number"), (.str "number"), (.str "number"), (.str "number"), (.str "number"), (.str "number"), (.str "number"), (.str "number"), (.str "number"), (.str "number"), (.str "number"), (.str "number")], [(.str "number"), (.str "number"), (.str "number"), (.str "number"), (.str "number"), (.str "number"), (.str "number"), (.str "number"), (.str "number"), (.str "number"), (.str "number"), (.str "number"), (.str "number"), (.str "number"), (.str "number"), (.str "number"), (.str "number"), (.str "number"), (.str "number"), (.str "number"), (.str "number"), (.str "number"), (.str "number"), (.str "number"), (.str "number"), (.str "number"), (.str "number"), (.str "number"), (.str "number"), (.str "number"), (.str "number"), (.str "number"), (.str "number"), (.str "number")]]) = true := by decide +kernel
theorem v6 : okN (denS (orc Ds 9) V6 ([some (.str "1"), some (.bl true), some (.bl true), some (.ref 4), none, some (.tup [(.tup [(.int 2), (.int 1)]), (.tup [(.int 1), (.int 2)])]), none, none, none]) ([[(.str "number"), (.str "number"), (.str "number"), (.str "number"), (.str "number"), (.str "number"), (.str "number"), (.str "number"), (.str "number"), (.str "number")], [(.str "number"), (.str "number"), (.str "number"), (.str "number"), (.str "number"), (.str "number"), (.str "number"), (.str "number"), (.str "number"), (.str "number"), (.str "number"), (.str "number")], [(.str "number"), (.str "number"), (.str "number"), (.str "number"), (.str "number"), (.str "number"), (.str "number"), (.str "number"), (.str "number"), (.str "number"), (.str "number"), (.str "number"), (.str "number"), (.str "number")], [(.str "number"), (.str "number"), (.str "number"), (.str "number"), (.str "number"), (.str "number"), (.str "number"), (.str "number"), (.str "number"), (.str "number"), (.str "number"), (.str "number"), (.str "number"), (.str "number"), (.str "number"), (.str "number")], [(.str "number"), (.str "number"), (.str "number"), (.str "number"), (.str "number"), (.str "number"), (.str "number"), (.str "number"), (.str "number"), (.str "number"), (.str "number"), (.str "number"), (.str "number"), (.str "number"), (.str "number"), (.str "number"), (.str "number"), (.str "number"), (.str "number"), (.str "number"), (.str "number"), (.str "number"), (.str "number"), (.str "number"), (.str "number"), (.str "number"), (.str "number"), (.str "number"), (.str "number"), (.str "number"), (.str "number"), (.str "number"), (.str "number"), (.str "number")]])) ([some (.str "1"), some (.bl true), some (.bl true), some (.ref 5), none, some (.tup [(.tup [(.int 2), (.int 1)]), (.tup [(.int 1), (.int 2)])]), none, none, none]) ([[(.str "number"), (.str "number"), (.str "number"), (.str "number"), (.str "number"), (.str "number"), (.str "number"), (.str "number"), (.str "number"), (.str "number")], [(.str "number"), (.str "number"), (.str "number"), (.str "number"), (.str "number"), (.str "number"), (.str "number"), (.str "number"), (.str "number"), (.str "number"), (.str "number"), (.str "number")], [(.str "number"), (.str "number"), (.str "number"), (.str "number"), (.str "number"), (.str "number"), (.str "number"), (.str "number"), (.str "number"), (.str "number"), (.str "number"), (.str "number"), (.str "number"), (.str "number")], [(.str "number"), (.str "number"), (.str "number"), (.str "number"), (.str "number"), (.str "number"), (.str "number"), (.str "number"), (.str "number"), (.str "number"), (.str "number"), (.str "number"), (.str "number"), (.str "number"), (.str "number"), (.str "number")], [(.str "number"), (.str "number"), (.str "number"), (.str "number"), (.str "number"), (.str "number"), (.str "number"), (.str "number"), (.str "number"), (.str "number"), (.str "number"), (.str "number"), (.str "number"), (.str "number"), (.str "number"), (.str "number"), (.str "number"), (.str "number"), (.str "number"), (.str "number"), (.str "number"), (.str "number"), (.str "number"), (.str "number"), (.str "number"), (.str "number"), (.str "number"), (.str "number"), (.str "number"), (.str "number"), (.str "number"), (.str "number"), (.str "number"), (.str "number")], []]) = true := by decide +kernel
theorem v7 : okN (denS (orc Ds 9) V7 ([some (.str "1"), some (.bl true), some (.bl true), some (.ref 5), none, some (.tup [(.tup [(.int 2), (.int 1)]), (.tup [(.int 1), (.int 2)])]), none, none, none]) ([[(.str "number"), (.str "number"), (.str "number"), (.str "number"), (.str "number"), (.str "number"), (.str "number"), (.str "number"), (.str "number"), (.str "number")], [(.str "number"), (.str "number"), (.str "number"), (.str "number"), (.str "number"), (.str "number"), (.str "number"), (.str "number"), (.str "number"), (.str "number"), (.str "number"), (.str "number")], [(.str "number"), (.str "number"), (.str "number"), (.str "number"), (.str "number"), (.str "number"), (.str "number"), (.str "number"), (.str "number"), (.str "number"), (.str "number"), (.str "number"), (.str "number"), (.str "number")], [(.str "number"), (.str "number"), (.str "number"), (.str "number"), (.str "number"), (.str "number"), (.str "number"), (.str "number"), (.str "number"), (.str "number"), (.str "number"), (.str "number"), (.str "number"), (.str "number"), (.str "number"), (.str "number")], [(.str "number"), (.str "number"), (.str "number"), (.str "number"), (.str "number"), (.str "number"), (.str "number"), (.str "number"), (.str "number"), (.str "number"), (.str "number"), (.str "number"), (.str "number"), (.str "number"), (.str "number"), (.str "number"), (.str "number"), (.str "number"), (.str "number"), (.str "number"), (.str "number"), (.str "number"), (.str "number"), (.str "number"), (.str "number"), (.str "number"), (.str "number"), (.str "number"), (.str "number"), (.str "number"), (.str "number"), (.str "number"), (.str "number"), (.str "number")], []])) ([some (.str "1"), some (.bl true), some (.bl true), some (.ref 5), none, some (.tup [(.tup [(.int 2), (.int 1)]), (.tup [(.int 1), (.int 2)])]), some (.tup [(.int 1)]), some (.tup []), none]) ([[(.str "number"), (.str "number"), (.str "number"), (.str "number"), (.str "number"), (.str "number"), (.str "number"), (.str "number"), (.str "number"), (.str "number")], [(.str "number"), (.str "number"), (.str "number"), (.str "number"), (.str "number"), (.str "number"), (.str "number"), (.str "number"), (.str "number"), (.str "number"), (.str "number"), (.str "number")], [(.str "number"), (.str "number"), (.str "number"), (.str "number"), (.str "number"), (.str "number"), (.str "number"), (.str "number"), (.str "number"), (.str "number"), (.str "number"), (.str "number"), (.str "number"), (.str "number")], [(.str "number"), (.str "number"), (.str "number"), (.str "number"), (.str "number"), (.str "number"), (.str "number"), (.str "number"), (.str "number"), (.str "number"), (.str "number"), (.str "number"), (.str "number"), (.str "number"), (.str "number"), (.str "number")], [(.str "number"), (.str "number"), (.str "number"), (.str "number"), (.str "number"), (.str "number"), (.str "number"), (.str "number"), (.str "number"), (.str "number"), (.str "number"), (.str "number"), (.str "number"), (.str "number"), (.str "number"), (.str "number"), (.str "number"), (.str "number"), (.str "number"), (.str "number"), (.str "number"), (.str "number"), (.str "number"), (.str "number"), (.str "number"), (.str "number"), (.str "number"), (.str "number"), (.str "number"), (.str "number"), (.str "number"), (.str "number"), (.str "number"), (.str "number")], [(.str "counts"), (.str "counts"), (.str "counts"), (.str "counts"), (.str "counts"), (.str "counts"), (.str "counts"), (.str "counts"), (.str "counts"), (.str "counts")]]) = true := by decide +kernel
theorem v8 : okN (denS (orc Ds 9) V8 ([some (.str "1"), some (.bl true), some (.bl true), some (.ref 5), none, some (.tup [(.tup [(.int 2), (.int 1)]), (.tup [(.int 1), (.int 2)])]), some (.tup [(.int 1)]), some (.tup []), none]) ([[(.str "number"), (.str "number"), (.str "number"), (.str "number"), (.str "number"), (.str "number"), (.str "number"), (.str "number"), (.str "number"), (.str "number")], [(.str "number"), (.str "number"), (.str "number"), (.str "number"), (.str "number"), (.str "number"), (.str "number"), (.str "number"), (.str "number"), (.str "number"), (.str "number"), (.str "number")], [(.str "number"), (.str "number"), (.str "number"), (.str "number"), (.str "number"), (.str "number"), (.str "number"), (.str "number"), (.str "number"), (.str "number"), (.str "number"), (.str "number"), (.str "number"), (.str "number")], [(.str "number"), (.str "number"), (.str "number"), (.str "number"), (.str "number"), (.str "number"), (.str "number"), (.str "number"), (.str "number"), (.str "number"), (.str "number"), (.str "number"), (.str "number"), (.str "number"), (.str "number"), (.str "number")], [(.str "number"), (.str "number"), (.str "number"), (.str "number"), (.str "number"), (.str "number"), (.str "number"), (.str "number"), (.str "number"), (.str "number"), (.str "number"), (.str "number"), (.str "number"), (.str "number"), (.str "number"), (.str "number"), (.str "number"), (.str "number"), (.str "number"), (.str "number"), (.str "number"), (.str "number"), (.str "number"), (.str "number"), (.str "number"), (.str "number"), (.str "number"), (.str "number"), (.str "number"), (.str "number"), (.str "number"), (.str "number"), (.str "number"), (.str "number")], [(.str "counts"), (.str "counts"), (.str "counts"), (.str "counts"), (.str "counts"), (.str "counts"), (.str "counts"), (.str "counts"), (.str "counts"), (.str "counts")]])) ([some (.str "1"), some (.bl true), some (.bl true), some (.ref 5), some (.tup [(.tup [(.int 2), (.int (-1)), (.int 0), (.int 0)]), (.tup [(.int (-1)), (.int 2), (.int (-1)), (.int (-1))]), (.tup [(.int 0), (.int (-1)), (.int 2), (.int 0)]), (.tup [(.int 0), (.int (-1)), (.int 0), (.int 2)])]), some (.tup [(.tup [(.int 2), (.int 1)]), (.tup [(.int 1), (.int 2)])]), some (.tup [(.int 1)]), some (.tup []), none]) ([[(.str "number"), (.str "number"), (.str "number"), (.str "number"), (.str "number"), (.str "number"), (.str "number"), (.str "number"), (.str "number"), (.str "number")], [(.str "number"), (.str "number"), (.str "number"), (.str "number"), (.str "number"), (.str "number"), (.str "number"), (.str "number"), (.str "number"), (.str "number"), (.str "number"), (.str "number")], [(.str "number"), (.str "number"), (.str "number"), (.str "number"), (.str "number"), (.str "number"), (.str "number"), (.str "number"), (.str "number"), (.str "number"), (.str "number"), (.str "number"), (.str "number"), (.str "number")], [(.str "number"), (.str "number"), (.str "number"), (.str "number"), (.str "number"), (.str "number"), (.str "number"), (.str "number"), (.str "number"), (.str "number"), (.str "number"), (.str "number"), (.str "number"), (.str "number"), (.str "number"), (.str "number")], [(.str "number"), (.str "number"), (.str "number"), (.str "number"), (.str "number"), (.str "number"), (.str "number"), (.str "number"), (.str "number"), (.str "number"), (.str "number"), (.str "number"), (.str "number"), (.str "number"), (.str "number"), (.str "number"), (.str "number"), (.str "number"), (.str "number"), (.str "number"), (.str "number"), (.str "number"), (.str "number"), (.str "number"), (.str "number"), (.str "number"), (.str "number"), (.str "number"), (.str "number"), (.str "number"), (.str "number"), (.str "number"), (.str "number"), (.str "number")], [(.str "counts"), (.str "counts"), (.str "counts"), (.str "counts"), (.str "counts"), (.str "counts"), (.str "counts"), (.str "counts"), (.str "counts"), (.str "counts")]]) = true := by decide +kernel
theorem preC (C : Orc) (X0 : IS) (X1 : IS) (X2 : IS) (X3 : IS) (X4 : IS) (X5 : IS) (X6 : IS) (X7 : IS) (X8 : IS) {ρ0 : Slots} {μ0 : Mem} {ρ1 : Slots} {μ1 : Mem} {ρ2 : Slots} {μ2 : Mem} {ρ3 : Slots} {μ3 : Mem} {ρ4 : Slots} {μ4 : Mem} {ρ5 : Slots} {μ5 : Mem} {ρ6 : Slots} {μ6 : Mem} {ρ7 : Slots} {μ7 : Mem} {ρ8 : Slots} {μ8 : Mem} {ρ9 : Slots} {μ9 : Mem} (h0 : denS C X0 ρ0 μ0 = .ok (.next ρ1) μ1) (h1 : denS C X1 ρ1 μ1 = .ok (.next ρ2) μ2) (h2 : denS C X2 ρ2 μ2 = .ok (.next ρ3) μ3) (h3 : denS C X3 ρ3 μ3 = .ok (.next ρ4) μ4) (h4 : denS C X4 ρ4 μ4 = .ok (.next ρ5) μ5) (h5 : denS C X5 ρ5 μ5 = .ok (.next ρ6) μ6) (h6 : denS C X6 ρ6 μ6 = .ok (.next ρ7) μ7) (h7 : denS C X7 ρ7 μ7 = .ok (.next ρ8) μ8) (h8 : denS C X8 ρ8 μ8 = .ok (.next ρ9) μ9) : denSs C (.cons X0 (.cons X1 (.cons X2 (.cons X3 (.cons X4 (.cons X5 (.cons X6 (.cons X7 (.cons X8 .nil))))))))) ρ0 μ0 = .ok (.next ρ9) μ9 := by
  simp only [denSs, h0, h1, h2, h3, h4, h5, h6, h7, h8]
theorem pre_ok : denSs (orc Ds 9) pre (startU d121.N []) [] = .ok (.next r8) m8 := preC (orc Ds 9) V0 V1 V2 V3 V4 V5 V6 V7 V8 (okN_ok v0) (okN_ok v1) (okN_ok v2) (okN_ok v3) (okN_ok v4) (okN_ok v5) (okN_ok v6) (okN_ok v7) (okN_ok v8)
theorem k115 : okU (lamD Ds 115 (.exc ⟨"TooMany", some 400⟩ m8)) (.str "many 400") m8 = true := by decide +kernel
theorem words8 (C : Orc) : denE C (.cmp .Eq (.var 3) (.bin false .Mult (.lst false (.cons (.str "counts") .nil)) (.int 10))) r8 m8 = .ok (.bl true) m8 := by kernel_rfl
theorem last_ok (F : Nat → List U → Mem → R U) (L : Nat → R U → R U) (X : Option Exn) {xs : List U} (hx : xs.length = 31) (h92 : F 92 [F4] m8 = .exc ⟨"TooMany", some 400⟩ m8) (hl : L 115 (.exc ⟨"TooMany", some 400⟩ m8) = .ok (.str "many 400") m8) (h64 : F 64 [O31, O31] m8 = .ok (.tup xs) m8) : denSs ⟨F, L, X⟩ (.cons V9 .nil) r8 m8 = .ok (.ret (.bl true)) m8 := by
  have g1 := words8 ⟨F, L, X⟩
  have g2 : denE ⟨F, L, X⟩ (.cmp .Eq (.lam 115 (.call 92 (.cons (.var 4) .nil))) (.str "many 400")) r8 m8 = .ok (.bl true) m8 := by
    have e : denE ⟨F, L, X⟩ (.call 92 (.cons (.var 4) .nil)) r8 m8 = .exc ⟨"TooMany", some 400⟩ m8 := by
      simp [denE, denEs, r8, bind_ok, h92]
    have e2 : denE ⟨F, L, X⟩ (.lam 115 (.call 92 (.cons (.var 4) .nil))) r8 m8 = .ok (.str "many 400") m8 := by
      rw [denE, e]
      exact hl
    rw [denE, e2]
    rfl
  have g3 : denE ⟨F, L, X⟩ (.cmp .Eq (.bi false "len" (.cons (.call 64 (.cons (.bin false .Mult (.tup (.cons (.int 1) .nil)) (.int 31)) (.cons (.bin false .Mult (.tup (.cons (.int 1) .nil)) (.int 31)) .nil))) .nil)) (.int 31)) r8 m8 = .ok (.bl true) m8 := by
    have e0 : denE ⟨F, L, X⟩ (.bin false .Mult (.tup (.cons (.int 1) .nil)) (.int 31)) r8 m8 = .ok O31 m8 := by rfl
    generalize IE.bin false .Mult (.tup (.cons (.int 1) .nil)) (.int 31) = Y at e0 ⊢
    have e : denE ⟨F, L, X⟩ (.call 64 (.cons Y (.cons Y .nil))) r8 m8 = .ok (.tup xs) m8 := by
      simp [denE, denEs, bind_ok, e0, h64]
    generalize IE.call 64 (.cons Y (.cons Y .nil)) = Z at e ⊢
    have e2 : biD false "len" [.tup xs] m8 = .ok (.int xs.length) m8 := rfl
    rw [hx] at e2
    simp only [denE, denEs, e, bind_ok, e2]
    rfl
  delta V9
  generalize IE.cmp .Eq (.var 3) (.bin false .Mult (.lst false (.cons (.str "counts") .nil)) (.int 10)) = A at g1 ⊢
  generalize IE.cmp .Eq (.lam 115 (.call 92 (.cons (.var 4) .nil))) (.str "many 400") = B at g2 ⊢
  generalize IE.cmp .Eq (.bi false "len" (.cons (.call 64 (.cons (.bin false .Mult (.tup (.cons (.int 1) .nil)) (.int 31)) (.cons (.bin false .Mult (.tup (.cons (.int 1) .nil)) (.int 31)) .nil))) .nil)) (.int 31) = D at g3 ⊢
  simp only [denSs, denS, denE, g1, g2, g3, bind_ok]
theorem loc_true {X : R U} {ν μ : Mem} (h : X = .ok (.bl true) ν) : locD μ X = .ok (.bl true) μ := by
  subst h
  rfl
theorem ended121 : ended (denSs (orc Ds 9) d121.body (startU d121.N []) []) = .ok (.bl true) m8 := by
  obtain ⟨xs, ν, hx, e⟩ := e64
  have h92 : callD Ds 9 92 [F4] m8 = .exc ⟨"TooMany", some 400⟩ m8 := call_locX (d := d92) (k := 8) (us := [F4]) rfl rfl rfl rfl e92 0 m8
  have h64 : callD Ds 9 64 [O31, O31] m8 = .ok (.tup xs) m8 := call_loc (d := d64) (k := 2) (us := [O31, O31]) rfl rfl rfl rfl e 6 m8
  have h := last_ok (callD Ds 9) (lamD Ds) none hx h92 (okU_ok k115) h64
  rw [body121, den_ap pre_ok, h]
  rfl
theorem cl121 : ∃ ν, callD Ds 10 121 [] [] = .ok (.bl true) ν := by
  have h := loc_true (μ := []) ended121
  refine ⟨[], ?_⟩
  refine (show callD Ds d121.lv 121 _ _ = _ from ?_)
  rw [call_at (k := 9) (d := d121) rfl rfl, run_loc rfl rfl]
  exact h
end K56

set_option maxHeartbeats 0
namespace K56
open PySem Mini L2
def t0 : U := (U.tup [(U.tup [(U.int 2), (U.int 1), (U.int 0)]), (U.tup [(U.int 1), (U.int 1), (U.int 0)]), (U.tup [(U.int 0), (U.int 0), (U.int 1)])])
def t1 : U := (U.tup [(U.tup [(U.int 2), (U.int 0), (U.int 1)]), (U.tup [(U.int 0), (U.int 1), (U.int 0)]), (U.tup [(U.int 1), (U.int 0), (U.int 1)])])
def t2 : U := (U.tup [(U.tup [(U.int 1), (U.int 1), (U.int 0)]), (U.tup [(U.int 1), (U.int 2), (U.int 0)]), (U.tup [(U.int 0), (U.int 0), (U.int 1)])])
def t3 : U := (U.tup [(U.tup [(U.int 1), (U.int 0), (U.int 1)]), (U.tup [(U.int 0), (U.int 1), (U.int 0)]), (U.tup [(U.int 1), (U.int 0), (U.int 2)])])
def t4 : U := (U.tup [(U.tup [(U.int 1), (U.int 0), (U.int 0)]), (U.tup [(U.int 0), (U.int 2), (U.int 1)]), (U.tup [(U.int 0), (U.int 1), (U.int 1)])])
def t5 : U := (U.tup [(U.tup [(U.int 1), (U.int 0), (U.int 0)]), (U.tup [(U.int 0), (U.int 1), (U.int 1)]), (U.tup [(U.int 0), (U.int 1), (U.int 2)])])
def t6 : U := (U.tup [(U.tup [(U.int 2), (U.int (-1)), (U.int 0)]), (U.tup [(U.int (-1)), (U.int 1), (U.int 0)]), (U.tup [(U.int 0), (U.int 0), (U.int 1)])])
def t7 : U := (U.tup [(U.tup [(U.int 2), (U.int 0), (U.int (-1))]), (U.tup [(U.int 0), (U.int 1), (U.int 0)]), (U.tup [(U.int (-1)), (U.int 0), (U.int 1)])])
def t8 : U := (U.tup [(U.tup [(U.int 1), (U.int (-1)), (U.int 0)]), (U.tup [(U.int (-1)), (U.int 2), (U.int 0)]), (U.tup [(U.int 0), (U.int 0), (U.int 1)])])
def t9 : U := (U.tup [(U.tup [(U.int 1), (U.int 0), (U.int (-1))]), (U.tup [(U.int 0), (U.int 1), (U.int 0)]), (U.tup [(U.int (-1)), (U.int 0), (U.int 2)])])
def t10 : U := (U.tup [(U.tup [(U.int 1), (U.int 0), (U.int 0)]), (U.tup [(U.int 0), (U.int 2), (U.int (-1))]), (U.tup [(U.int 0), (U.int (-1)), (U.int 1)])])
def t11 : U := (U.tup [(U.tup [(U.int 1), (U.int 0), (U.int 0)]), (U.tup [(U.int 0), (U.int 1), (U.int (-1))]), (U.tup [(U.int 0), (U.int (-1)), (U.int 2)])])
def tabs : List U := [t0, t1, t2, t3, t4, t5, t6, t7, t8, t9, t10, t11]
def car1 (B : U) : Bool := belows 0 [U3, B] && (match callD Ds 2 117 [U3, B] [] with
  | .ok T _ => tabs.any fun z => Mini.eqU T z
  | _ => false)
def part (t : Nat × Nat × Int) : List U := T8.flatMap fun g => (rowsOf t g).map U.tup

theorem carp0 : (part (0, 1, 1)).all car1 = true := by decide +kernel
theorem carp1 : (part (0, 1, -1)).all car1 = true := by decide +kernel
theorem carp2 : (part (0, 2, 1)).all car1 = true := by decide +kernel
theorem carp3 : (part (0, 2, -1)).all car1 = true := by decide +kernel
theorem carp4 : (part (1, 0, 1)).all car1 = true := by decide +kernel
theorem carp5 : (part (1, 0, -1)).all car1 = true := by decide +kernel
theorem carp6 : (part (1, 2, 1)).all car1 = true := by decide +kernel
theorem carp7 : (part (1, 2, -1)).all car1 = true := by decide +kernel
theorem carp8 : (part (2, 0, 1)).all car1 = true := by decide +kernel
theorem carp9 : (part (2, 0, -1)).all car1 = true := by decide +kernel
theorem carp10 : (part (2, 1, 1)).all car1 = true := by decide +kernel
theorem carp11 : (part (2, 1, -1)).all car1 = true := by decide +kernel
theorem car_all {B : U} (h : B ∈ bases) : car1 B = true := by
  unfold bases at h
  obtain ⟨t, ht, hB⟩ := List.mem_flatMap.mp h
  simp only [T12, List.mem_cons, List.not_mem_nil, or_false] at ht
  rcases ht with rfl | rfl | rfl | rfl | rfl | rfl | rfl | rfl | rfl | rfl | rfl | rfl
  · exact List.all_eq_true.mp carp0 B hB
  · exact List.all_eq_true.mp carp1 B hB
  · exact List.all_eq_true.mp carp2 B hB
  · exact List.all_eq_true.mp carp3 B hB
  · exact List.all_eq_true.mp carp4 B hB
  · exact List.all_eq_true.mp carp5 B hB
  · exact List.all_eq_true.mp carp6 B hB
  · exact List.all_eq_true.mp carp7 B hB
  · exact List.all_eq_true.mp carp8 B hB
  · exact List.all_eq_true.mp carp9 B hB
  · exact List.all_eq_true.mp carp10 B hB
  · exact List.all_eq_true.mp carp11 B hB
def is1 (j : Nat) (l : Nat) (us : List U) : Bool := match callD Ds l j us [] with
  | .ok u _ => Mini.eqU u (.bl true)
  | _ => false
theorem al0 : is1 31 7 [t0, U3] = true := by decide +kernel
theorem al1 : is1 31 7 [t1, U3] = true := by decide +kernel
theorem al2 : is1 31 7 [t2, U3] = true := by decide +kernel
theorem al3 : is1 31 7 [t3, U3] = true := by decide +kernel
theorem al4 : is1 31 7 [t4, U3] = true := by decide +kernel
theorem al5 : is1 31 7 [t5, U3] = true := by decide +kernel
theorem al6 : is1 31 7 [t6, U3] = true := by decide +kernel
theorem al7 : is1 31 7 [t7, U3] = true := by decide +kernel
theorem al8 : is1 31 7 [t8, U3] = true := by decide +kernel
theorem al9 : is1 31 7 [t9, U3] = true := by decide +kernel
theorem al10 : is1 31 7 [t10, U3] = true := by decide +kernel
theorem al11 : is1 31 7 [t11, U3] = true := by decide +kernel
theorem cl120 : is1 120 10 [] = true := by decide +kernel
theorem cl122 : is1 122 10 [] = true := by decide +kernel
theorem is1_ok {j l : Nat} {us : List U} (h : is1 j l us = true) : ∃ ν, callD Ds l j us [] = .ok (.bl true) ν := okv h
theorem alike {T : U} (h : T ∈ tabs) : belows 0 [T, U3] = true ∧ ∃ ν, callD Ds 7 31 [T, U3] [] = .ok (.bl true) ν := by
  simp only [tabs, List.mem_cons, List.not_mem_nil, or_false] at h
  rcases h with rfl | rfl | rfl | rfl | rfl | rfl | rfl | rfl | rfl | rfl | rfl | rfl
  · exact ⟨rfl, is1_ok al0⟩
  · exact ⟨rfl, is1_ok al1⟩
  · exact ⟨rfl, is1_ok al2⟩
  · exact ⟨rfl, is1_ok al3⟩
  · exact ⟨rfl, is1_ok al4⟩
  · exact ⟨rfl, is1_ok al5⟩
  · exact ⟨rfl, is1_ok al6⟩
  · exact ⟨rfl, is1_ok al7⟩
  · exact ⟨rfl, is1_ok al8⟩
  · exact ⟨rfl, is1_ok al9⟩
  · exact ⟨rfl, is1_ok al10⟩
  · exact ⟨rfl, is1_ok al11⟩
theorem carry {B : U} (h : B ∈ bases) : belows 0 [U3, B] = true ∧ ∃ T ∈ tabs, ∃ ν, callD Ds 2 117 [U3, B] [] = .ok T ν := by
  have z := car_all h
  unfold car1 at z
  rw [Bool.and_eq_true] at z
  refine ⟨z.1, ?_⟩
  have z2 := z.2
  generalize callD Ds 2 117 [U3, B] [] = r at z2 ⊢
  cases r with
  | bad => cases z2
  | exc c μ => cases z2
  | ok T ν =>
    obtain ⟨T2, h2, h3⟩ := List.any_eq_true.mp z2
    exact ⟨T2, h2, ν, by rw [eqU_eq h3]⟩
end K56

set_option maxHeartbeats 4000000
namespace K56
open PySem Mini L2
theorem law_body (ns : List Int) (a b a1 b1 : Int) (B T : U) (F : Nat → List U → Mem → R U) (L : Nat → R U → R U) (X : Option Exn) (e1 : F 111 [.rol (ns.map U.int)] [] = .ok (.ref 0) (M a b [])) (f2 : F 119 [.ref 0, .int 3, .int 1] (M a b []) = .ok B (M a1 b1 [])) (f0 : ∀ μ, F 118 [.int 3] μ = .ok U3 μ) (f3 : ∀ μ, F 117 [U3, B] μ = .ok T μ) (f4 : ∀ μ, F 31 [T, U3] μ = .ok (.bl true) μ)
  (f5 : ∀ μ, F 120 [] μ = .ok (.bl true) μ) (f6 : ∀ μ, F 121 [] μ = .ok (.bl true) μ) (f7 : ∀ μ, F 122 [] μ = .ok (.bl true) μ) : ended (denSs ⟨F, L, X⟩ d123.body (startU d123.N [.rol (ns.map U.int)]) []) = .ok (.bl true) (M a1 b1 []) := by
  simp [d123, denSs, denS, denE, denEs, startU, bind_ok, Mini.stored, Mini.setT, e1, f2, f0, f3, f4, f5, f6, f7, cmpR, cmpD, truR_bl, ended]
theorem law_call (ns : List Int) (a1 b1 : Int) (h : ended (denSs (orc Ds 10) d123.body (startU d123.N [.rol (ns.map U.int)]) []) = .ok (.bl true) (M a1 b1 [])) : callD Ds d123.lv 123 [.rol (ns.map U.int)] [] = .ok (.bl true) (M a1 b1 []) := by
  rw [call_at (k := 10) (d := d123) rfl rfl, run_here rfl rfl rfl]
  exact h
theorem plain (ns : List Int) (hl : ns.length ≤ 63) (_ : ∀ z ∈ ns, Builtin.Int.intBits z ≤ 1048576) : ∃ μ, callD sg.Ds 11 123 [.rol (ns.map U.int)] [] = .ok (.bl true) μ := by
  show ∃ μ, callD Ds 11 123 [.rol (ns.map U.int)] [] = .ok (.bl true) μ
  obtain ⟨a, b, e1, c⟩ := cup_ 9 ns hl
  obtain ⟨B, hB, a1, b1, e2⟩ := base_ a b c
  obtain ⟨l3, T, hT, ν3, e3⟩ := carry hB
  obtain ⟨l4, ν4, e4⟩ := alike hT
  obtain ⟨ν5, e5⟩ := is1_ok cl120
  obtain ⟨ν6, e6⟩ := cl121
  obtain ⟨ν7, e7⟩ := is1_ok cl122
  have f2 : callD Ds 10 119 [.ref 0, .int 3, .int 1] (M a b []) = .ok B (M a1 b1 []) := (call_down (d := d119) rfl _ _ 7).trans e2
  have f0 : ∀ μ, callD Ds 10 118 [.int 3] μ = .ok U3 μ := fun μ => units3 9 μ
  have f3 : ∀ μ, callD Ds 10 117 [U3, B] μ = .ok T μ := fun μ => call_loc (d := d117) (k := 1) (us := [U3, B]) rfl rfl rfl l3 e3 8 μ
  have f4 : ∀ μ, callD Ds 10 31 [T, U3] μ = .ok (.bl true) μ := fun μ => call_loc (d := d31) (k := 6) (us := [T, U3]) rfl rfl rfl l4 e4 3 μ
  have f5 : ∀ μ, callD Ds 10 120 [] μ = .ok (.bl true) μ := fun μ => call_loc (d := d120) (k := 9) rfl rfl rfl rfl e5 0 μ
  have f6 : ∀ μ, callD Ds 10 121 [] μ = .ok (.bl true) μ := fun μ => call_loc (d := d121) (k := 9) rfl rfl rfl rfl e6 0 μ
  have f7 : ∀ μ, callD Ds 10 122 [] μ = .ok (.bl true) μ := fun μ => call_loc (d := d122) (k := 9) rfl rfl rfl rfl e7 0 μ
  refine ⟨M a1 b1 [], ?_⟩
  exact law_call ns a1 b1 (law_body ns a b a1 b1 B T (callD Ds 10) (lamD Ds) none e1 f2 f0 f3 f4 f5 f6 f7)
end K56

set_option maxHeartbeats 0
namespace K56
open PySem PySem.Spec PyProof.Rows L2 LamX Mini
theorem c0 : Rw.chk sg ⟨.std d0, top 10, false⟩ = true := by decide +kernel
theorem c1 : Rw.chk sg ⟨.std d1, top 11, false⟩ = true := by decide +kernel
theorem c2 : Rw.chk sg ⟨.std d2, top 12, false⟩ = true := by decide +kernel
theorem c3 : Rw.chk sg ⟨.std d3, top 13, false⟩ = true := by decide +kernel
theorem c4 : Rw.chk sg ⟨.std d4, top 16, false⟩ = true := by decide +kernel
theorem c5 : Rw.chk sg ⟨.std d5, top 17, false⟩ = true := by decide +kernel
theorem c6 : Rw.chk sg ⟨.std d6, top 18, false⟩ = true := by decide +kernel
theorem c7 : Rw.chk sg ⟨.std d7, top 29, false⟩ = true := by decide +kernel
theorem c8 : Rw.chk sg ⟨.std d8, top 24, false⟩ = true := by decide +kernel
theorem c9 : Rw.chk sg ⟨.std d9, top 25, false⟩ = true := by decide +kernel
theorem c10 : Rw.chk sg ⟨.std d10, top 26, false⟩ = true := by decide +kernel
theorem c11 : Rw.chk sg ⟨.std d11, top 27, false⟩ = true := by decide +kernel
theorem c12 : Rw.chk sg ⟨.std d12, top 28, false⟩ = true := by decide +kernel
theorem c13 : Rw.chk sg ⟨.std d13, top 31, false⟩ = true := by decide +kernel
theorem c14 : Rw.chk sg ⟨.std d14, top 32, false⟩ = true := by decide +kernel
theorem c15 : Rw.chk sg ⟨.std d15, top 33, false⟩ = true := by decide +kernel
theorem c16 : Rw.chk sg ⟨.std d16, top 37, false⟩ = true := by decide +kernel
theorem c17 : Rw.chk sg ⟨.std d17, top 38, false⟩ = true := by decide +kernel
theorem c18 : Rw.chk sg ⟨.std d18, top 39, false⟩ = true := by decide +kernel
theorem c19 : Rw.chk sg ⟨.std d19, top 40, false⟩ = true := by decide +kernel
theorem c20 : Rw.chk sg ⟨.std d20, top 41, false⟩ = true := by decide +kernel
theorem c21 : Rw.chk sg ⟨.std d21, top 42, false⟩ = true := by decide +kernel
theorem c22 : Rw.chk sg ⟨.std d22, top 43, false⟩ = true := by decide +kernel
theorem c23 : Rw.chk sg ⟨.std d23, top 44, false⟩ = true := by decide +kernel
theorem c24 : Rw.chk sg ⟨.std d24, top 45, false⟩ = true := by decide +kernel
theorem c25 : Rw.chk sg ⟨.std d25, top 46, false⟩ = true := by decide +kernel
theorem c26 : Rw.chk sg ⟨.std d26, top 47, false⟩ = true := by decide +kernel
theorem c27 : Rw.chk sg ⟨.std d27, top 48, false⟩ = true := by decide +kernel
theorem c28 : Rw.chk sg ⟨.std d28, top 49, false⟩ = true := by decide +kernel
theorem c29 : Rw.chk sg ⟨.std d29, top 50, false⟩ = true := by decide +kernel
theorem c30 : Rw.chk sg ⟨.std d30, top 51, false⟩ = true := by decide +kernel
theorem c31 : Rw.chk sg ⟨.std d31, top 52, false⟩ = true := by decide +kernel
theorem c32 : Rw.chk sg ⟨.std d32, top 53, false⟩ = true := by decide +kernel
theorem c33 : Rw.chk sg ⟨.std d33, top 54, false⟩ = true := by decide +kernel
theorem c34 : Rw.chk sg ⟨.std d34, top 57, false⟩ = true := by decide +kernel
theorem c35 : Rw.chk sg ⟨.std d35, top 58, false⟩ = true := by decide +kernel
theorem c36 : Rw.chk sg ⟨.std d36, top 59, false⟩ = true := by decide +kernel
theorem c37 : Rw.chk sg ⟨.std d37, top 60, false⟩ = true := by decide +kernel
theorem c38 : Rw.chk sg ⟨.std d38, top 61, false⟩ = true := by decide +kernel
theorem c39 : Rw.chk sg ⟨.std d39, top 62, false⟩ = true := by decide +kernel
theorem c40 : Rw.chk sg ⟨.std d40, top 63, false⟩ = true := by decide +kernel
theorem c41 : Rw.chk sg ⟨.std d41, top 64, false⟩ = true := by decide +kernel
theorem c42 : Rw.chk sg ⟨.std d42, top 65, false⟩ = true := by decide +kernel
theorem c43 : Rw.chk sg ⟨.std d43, top 66, false⟩ = true := by decide +kernel
theorem c44 : Rw.chk sg ⟨.std d44, top 67, false⟩ = true := by decide +kernel
theorem c45 : Rw.chk sg ⟨.std d45, top 68, false⟩ = true := by decide +kernel
theorem c46 : Rw.chk sg ⟨.std d46, top 69, false⟩ = true := by decide +kernel
theorem c47 : Rw.chk sg ⟨.std d47, top 70, false⟩ = true := by decide +kernel
theorem c48 : Rw.chk sg ⟨.std d48, top 71, false⟩ = true := by decide +kernel
theorem c49 : Rw.chk sg ⟨.std d49, top 72, false⟩ = true := by decide +kernel
theorem c50 : Rw.chk sg ⟨.std d50, top 73, false⟩ = true := by decide +kernel
theorem c51 : Rw.chk sg ⟨.std d51, top 74, false⟩ = true := by decide +kernel
theorem c52 : Rw.chk sg ⟨.std d52, top 78, false⟩ = true := by decide +kernel
theorem c53 : Rw.chk sg ⟨.std d53, top 79, false⟩ = true := by decide +kernel
theorem c54 : Rw.chk sg ⟨.std d54, top 80, false⟩ = true := by decide +kernel
theorem c55 : Rw.chk sg ⟨.std d55, top 81, false⟩ = true := by decide +kernel
theorem c56 : Rw.chk sg ⟨.std d56, top 82, false⟩ = true := by decide +kernel
theorem c57 : Rw.chk sg ⟨.std d57, top 83, false⟩ = true := by decide +kernel
theorem c58 : Rw.chk sg ⟨.std d58, top 84, false⟩ = true := by decide +kernel
theorem c59 : Rw.chk sg ⟨.std d59, top 85, false⟩ = true := by decide +kernel
theorem c60 : Rw.chk sg ⟨.std d60, top 89, false⟩ = true := by decide +kernel
theorem c61 : Rw.chk sg ⟨.std d61, top 90, false⟩ = true := by decide +kernel
theorem c62 : Rw.chk sg ⟨.std d62, top 91, false⟩ = true := by decide +kernel
theorem c63 : Rw.chk sg ⟨.std d63, top 92, false⟩ = true := by decide +kernel
theorem c64 : Rw.chk sg ⟨.std d64, top 93, false⟩ = true := by decide +kernel
theorem c65 : Rw.chk sg ⟨.std d65, top 96, false⟩ = true := by decide +kernel
theorem c66 : Rw.chk sg ⟨.std d66, top 97, false⟩ = true := by decide +kernel
theorem c67 : Rw.chk sg ⟨.std d67, top 98, false⟩ = true := by decide +kernel
theorem c68 : Rw.chk sg ⟨.std d68, top 99, false⟩ = true := by decide +kernel
theorem c69 : Rw.chk sg ⟨.std d69, top 100, false⟩ = true := by decide +kernel
theorem c70 : Rw.chk sg ⟨.std d70, top 101, false⟩ = true := by decide +kernel
theorem c71 : Rw.chk sg ⟨.std d71, top 102, false⟩ = true := by decide +kernel
theorem c72 : Rw.chk sg ⟨.std d72, top 103, false⟩ = true := by decide +kernel
theorem c73 : Rw.chk sg ⟨.std d73, top 107, false⟩ = true := by decide +kernel
theorem c74 : Rw.chk sg ⟨.std d74, top 108, false⟩ = true := by decide +kernel
theorem c75 : Rw.chk sg ⟨.std d75, top 109, false⟩ = true := by decide +kernel
theorem c76 : Rw.chk sg ⟨.std d76, top 110, false⟩ = true := by decide +kernel
theorem c77 : Rw.chk sg ⟨.std d77, top 111, false⟩ = true := by decide +kernel
theorem c78 : Rw.chk sg ⟨.std d78, top 112, false⟩ = true := by decide +kernel
theorem c79 : Rw.chk sg ⟨.std d79, top 113, false⟩ = true := by decide +kernel
theorem c80 : Rw.chk sg ⟨.std d80, top 114, false⟩ = true := by decide +kernel
theorem c81 : Rw.chk sg ⟨.std d81, top 115, false⟩ = true := by decide +kernel
theorem c82 : Rw.chk sg ⟨.std d82, top 116, false⟩ = true := by decide +kernel
theorem c83 : Rw.chk sg ⟨.std d83, top 117, false⟩ = true := by decide +kernel
theorem c84 : Rw.chk sg ⟨.std d84, top 118, false⟩ = true := by decide +kernel
theorem c85 : Rw.chk sg ⟨.std d85, top 119, false⟩ = true := by decide +kernel
theorem c86 : Rw.chk sg ⟨.std d86, top 122, false⟩ = true := by decide +kernel
theorem c87 : Rw.chk sg ⟨.std d87, top 123, false⟩ = true := by decide +kernel
theorem c88 : Rw.chk sg ⟨.std d88, top 124, false⟩ = true := by decide +kernel
theorem c89 : Rw.chk sg ⟨.std d89, top 125, false⟩ = true := by decide +kernel
theorem c90 : Rw.chk sg ⟨.std d90, top 126, false⟩ = true := by decide +kernel
theorem c91 : Rw.chk sg ⟨.std d91, top 127, false⟩ = true := by decide +kernel
theorem c92 : Rw.chk sg ⟨.std d92, top 128, false⟩ = true := by decide +kernel
theorem c93 : Rw.chk sg ⟨.std d93, top 129, false⟩ = true := by decide +kernel
theorem c94 : Rw.chk sg ⟨.std d94, top 132, false⟩ = true := by decide +kernel
theorem c95 : Rw.chk sg ⟨.std d95, top 133, false⟩ = true := by decide +kernel
theorem c96 : Rw.chk sg ⟨.std d96, top 134, false⟩ = true := by decide +kernel
theorem c97 : Rw.chk sg ⟨.std d97, top 135, false⟩ = true := by decide +kernel
theorem c98 : Rw.chk sg ⟨.std d98, top 136, false⟩ = true := by decide +kernel
theorem c99 : Rw.chk sg ⟨.std d99, top 137, false⟩ = true := by decide +kernel
theorem c100 : Rw.chk sg ⟨.std d100, top 138, false⟩ = true := by decide +kernel
theorem c101 : Rw.chk sg ⟨.std d101, top 139, false⟩ = true := by decide +kernel
theorem c102 : Rw.chk sg ⟨.std d102, top 140, false⟩ = true := by decide +kernel
theorem c103 : Rw.chk sg ⟨.std d103, top 141, false⟩ = true := by decide +kernel
theorem c104 : Rw.chk sg ⟨.std d104, top 142, false⟩ = true := by decide +kernel
theorem c105 : Rw.chk sg ⟨.std d105, top 143, false⟩ = true := by decide +kernel
theorem c106 : Rw.chk sg ⟨.std d106, top 144, false⟩ = true := by decide +kernel
theorem c107 : Rw.chk sg ⟨.std d107, top 145, false⟩ = true := by decide +kernel
theorem c108 : Rw.chk sg ⟨.std d108, top 146, false⟩ = true := by decide +kernel
theorem c109 : Rw.chk sg ⟨.std d109, top 147, false⟩ = true := by decide +kernel
theorem c110 : Rw.chk sg ⟨.std d110, top 148, false⟩ = true := by decide +kernel
theorem c111 : Rw.chk sg ⟨.std d111, top 150, false⟩ = true := by decide +kernel
theorem c112 : Rw.chk sg ⟨.std d112, top 151, false⟩ = true := by decide +kernel
theorem c113 : Rw.chk sg ⟨.std d113, top 152, false⟩ = true := by decide +kernel
theorem c114 : Rw.chk sg ⟨.std d114, top 153, false⟩ = true := by decide +kernel
theorem c115 : Rw.chk sg ⟨.err d115, top 154, false⟩ = true := by decide +kernel
theorem c116 : Rw.chk sg ⟨.std d116, top 155, false⟩ = true := by decide +kernel
theorem c117 : Rw.chk sg ⟨.std d117, top 156, false⟩ = true := by decide +kernel
theorem c118 : Rw.chk sg ⟨.std d118, top 157, false⟩ = true := by decide +kernel
theorem c119 : Rw.chk sg ⟨.std d119, top 158, false⟩ = true := by decide +kernel
theorem c120 : Rw.chk sg ⟨.std d120, top 159, true⟩ = true := by decide +kernel
theorem c121 : Rw.chk sg ⟨.std d121, top 160, true⟩ = true := by decide +kernel
theorem c122 : Rw.chk sg ⟨.std d122, top 161, true⟩ = true := by decide +kernel
theorem c123 : Rw.chk sg ⟨.std d123, top 162, false⟩ = true := by decide +kernel
theorem chk : rows.all (Rw.chk sg) = true := by
  simp only [rows, List.all_cons, List.all_nil, c0, c1, c2, c3, c4, c5, c6, c7, c8, c9, c10, c11, c12, c13, c14, c15, c16, c17, c18, c19, c20, c21, c22, c23, c24, c25, c26, c27, c28, c29, c30, c31, c32, c33, c34, c35, c36, c37, c38, c39, c40, c41, c42, c43, c44, c45, c46, c47, c48, c49, c50, c51, c52, c53, c54, c55, c56, c57, c58, c59, c60, c61, c62, c63, c64, c65, c66, c67, c68, c69, c70, c71, c72, c73, c74, c75, c76, c77, c78, c79, c80, c81, c82, c83, c84, c85, c86, c87, c88, c89, c90, c91, c92, c93, c94, c95, c96, c97, c98, c99, c100, c101, c102, c103, c104, c105, c106, c107, c108, c109, c110, c111, c112, c113, c114, c115, c116, c117, c118, c119, c120, c121, c122, c123, Bool.and_self]
end K56

set_option maxHeartbeats 0
namespace K56
open PySem PySem.Spec PyProof.Rows L2 LamX Mini
theorem b0 : (⟨.std d0, top 10, false⟩ : Rw).bnd := fun _ _ _ _ _ _ us hl => match us, hl with | [_, _, _], _ => rfl
theorem b1 : (⟨.std d1, top 11, false⟩ : Rw).bnd := fun _ _ _ _ _ _ us hl => match us, hl with | [_, _, _], _ => rfl
theorem b2 : (⟨.std d2, top 12, false⟩ : Rw).bnd := fun _ _ _ _ _ _ us hl => match us, hl with | [_, _, _], _ => rfl
theorem b3 : (⟨.std d3, top 13, false⟩ : Rw).bnd := fun _ _ _ _ _ _ us hl => match us, hl with | [_], _ => rfl
theorem b4 : (⟨.std d4, top 16, false⟩ : Rw).bnd := fun _ _ _ _ _ _ us hl => match us, hl with | [_], _ => rfl
theorem b5 : (⟨.std d5, top 17, false⟩ : Rw).bnd := fun _ _ _ _ _ _ us hl => match us, hl with | [_, _], _ => rfl
theorem b6 : (⟨.std d6, top 18, false⟩ : Rw).bnd := fun _ _ _ _ _ _ us hl => match us, hl with | [_, _], _ => rfl
theorem b7 : (⟨.std d7, top 29, false⟩ : Rw).bnd := fun _ _ _ _ _ _ us hl => match us, hl with | [_, _, _], _ => rfl
theorem b8 : (⟨.std d8, top 24, false⟩ : Rw).bnd := fun _ _ _ _ _ _ us hl => match us, hl with | [_, _], _ => rfl
theorem b9 : (⟨.std d9, top 25, false⟩ : Rw).bnd := fun _ _ _ _ _ _ us hl => match us, hl with | [_], _ => rfl
theorem b10 : (⟨.std d10, top 26, false⟩ : Rw).bnd := fun _ _ _ _ _ _ us hl => match us, hl with | [_], _ => rfl
theorem b11 : (⟨.std d11, top 27, false⟩ : Rw).bnd := fun _ _ _ _ _ _ us hl => match us, hl with | [_], _ => rfl
theorem b12 : (⟨.std d12, top 28, false⟩ : Rw).bnd := fun _ _ _ _ _ _ us hl => match us, hl with | [_, _], _ => rfl
theorem b13 : (⟨.std d13, top 31, false⟩ : Rw).bnd := fun _ _ _ _ _ _ us hl => match us, hl with | [_], _ => rfl
theorem b14 : (⟨.std d14, top 32, false⟩ : Rw).bnd := fun _ _ _ _ _ _ us hl => match us, hl with | [_, _, _], _ => rfl
theorem b15 : (⟨.std d15, top 33, false⟩ : Rw).bnd := fun _ _ _ _ _ _ us hl => match us, hl with | [_, _], _ => rfl
theorem b16 : (⟨.std d16, top 37, false⟩ : Rw).bnd := fun _ _ _ _ _ _ us hl => match us, hl with | [_], _ => rfl
theorem b17 : (⟨.std d17, top 38, false⟩ : Rw).bnd := fun _ _ _ _ _ _ us hl => match us, hl with | [_], _ => rfl
theorem b18 : (⟨.std d18, top 39, false⟩ : Rw).bnd := fun _ _ _ _ _ _ us hl => match us, hl with | [_, _], _ => rfl
theorem b19 : (⟨.std d19, top 40, false⟩ : Rw).bnd := fun _ _ _ _ _ _ us hl => match us, hl with | [_], _ => rfl
theorem b20 : (⟨.std d20, top 41, false⟩ : Rw).bnd := fun _ _ _ _ _ _ us hl => match us, hl with | [_], _ => rfl
theorem b21 : (⟨.std d21, top 42, false⟩ : Rw).bnd := fun _ _ _ _ _ _ us hl => match us, hl with | [_], _ => rfl
theorem b22 : (⟨.std d22, top 43, false⟩ : Rw).bnd := fun _ _ _ _ _ _ us hl => match us, hl with | [_, _], _ => rfl
theorem b23 : (⟨.std d23, top 44, false⟩ : Rw).bnd := fun _ _ _ _ _ _ us hl => match us, hl with | [_, _], _ => rfl
theorem b24 : (⟨.std d24, top 45, false⟩ : Rw).bnd := fun _ _ _ _ _ _ us hl => match us, hl with | [_, _], _ => rfl
theorem b25 : (⟨.std d25, top 46, false⟩ : Rw).bnd := fun _ _ _ _ _ _ us hl => match us, hl with | [_, _, _, _], _ => rfl
theorem b26 : (⟨.std d26, top 47, false⟩ : Rw).bnd := fun _ _ _ _ _ _ us hl => match us, hl with | [_, _, _, _], _ => rfl
theorem b27 : (⟨.std d27, top 48, false⟩ : Rw).bnd := fun _ _ _ _ _ _ us hl => match us, hl with | [_], _ => rfl
theorem b28 : (⟨.std d28, top 49, false⟩ : Rw).bnd := fun _ _ _ _ _ _ us hl => match us, hl with | [_, _], _ => rfl
theorem b29 : (⟨.std d29, top 50, false⟩ : Rw).bnd := fun _ _ _ _ _ _ us hl => match us, hl with | [_, _, _], _ => rfl
theorem b30 : (⟨.std d30, top 51, false⟩ : Rw).bnd := fun _ _ _ _ _ _ us hl => match us, hl with | [_], _ => rfl
theorem b31 : (⟨.std d31, top 52, false⟩ : Rw).bnd := fun _ _ _ _ _ _ us hl => match us, hl with | [_, _], _ => rfl
theorem b32 : (⟨.std d32, top 53, false⟩ : Rw).bnd := fun _ _ _ _ _ _ us hl => match us, hl with | [_, _], _ => rfl
theorem b33 : (⟨.std d33, top 54, false⟩ : Rw).bnd := fun _ _ _ _ _ _ us hl => match us, hl with | [_, _, _], _ => rfl
theorem b34 : (⟨.std d34, top 57, false⟩ : Rw).bnd := fun _ _ _ _ _ _ us hl => match us, hl with | [_], _ => rfl
theorem b35 : (⟨.std d35, top 58, false⟩ : Rw).bnd := fun _ _ _ _ _ _ us hl => match us, hl with | [_], _ => rfl
theorem b36 : (⟨.std d36, top 59, false⟩ : Rw).bnd := fun _ _ _ _ _ _ us hl => match us, hl with | [_], _ => rfl
theorem b37 : (⟨.std d37, top 60, false⟩ : Rw).bnd := fun _ _ _ _ _ _ us hl => match us, hl with | [_, _], _ => rfl
theorem b38 : (⟨.std d38, top 61, false⟩ : Rw).bnd := fun _ _ _ _ _ _ us hl => match us, hl with | [_], _ => rfl
theorem b39 : (⟨.std d39, top 62, false⟩ : Rw).bnd := fun _ _ _ _ _ _ us hl => match us, hl with | [_], _ => rfl
theorem b40 : (⟨.std d40, top 63, false⟩ : Rw).bnd := fun _ _ _ _ _ _ us hl => match us, hl with | [_], _ => rfl
theorem b41 : (⟨.std d41, top 64, false⟩ : Rw).bnd := fun _ _ _ _ _ _ us hl => match us, hl with | [_], _ => rfl
theorem b42 : (⟨.std d42, top 65, false⟩ : Rw).bnd := fun _ _ _ _ _ _ us hl => match us, hl with | [_, _], _ => rfl
theorem b43 : (⟨.std d43, top 66, false⟩ : Rw).bnd := fun _ _ _ _ _ _ us hl => match us, hl with | [_, _], _ => rfl
theorem b44 : (⟨.std d44, top 67, false⟩ : Rw).bnd := fun _ _ _ _ _ _ us hl => match us, hl with | [_, _], _ => rfl
theorem b45 : (⟨.std d45, top 68, false⟩ : Rw).bnd := fun _ _ _ _ _ _ us hl => match us, hl with | [_], _ => rfl
theorem b46 : (⟨.std d46, top 69, false⟩ : Rw).bnd := fun _ _ _ _ _ _ us hl => match us, hl with | [_], _ => rfl
theorem b47 : (⟨.std d47, top 70, false⟩ : Rw).bnd := fun _ _ _ _ _ _ us hl => match us, hl with | [_], _ => rfl
theorem b48 : (⟨.std d48, top 71, false⟩ : Rw).bnd := fun _ _ _ _ _ _ us hl => match us, hl with | [_], _ => rfl
theorem b49 : (⟨.std d49, top 72, false⟩ : Rw).bnd := fun _ _ _ _ _ _ us hl => match us, hl with | [_], _ => rfl
theorem b50 : (⟨.std d50, top 73, false⟩ : Rw).bnd := fun _ _ _ _ _ _ us hl => match us, hl with | [_, _], _ => rfl
theorem b51 : (⟨.std d51, top 74, false⟩ : Rw).bnd := fun _ _ _ _ _ _ us hl => match us, hl with | [_, _], _ => rfl
theorem b52 : (⟨.std d52, top 78, false⟩ : Rw).bnd := fun _ _ _ _ _ _ us hl => match us, hl with | [_], _ => rfl
theorem b53 : (⟨.std d53, top 79, false⟩ : Rw).bnd := fun _ _ _ _ _ _ us hl => match us, hl with | [_], _ => rfl
theorem b54 : (⟨.std d54, top 80, false⟩ : Rw).bnd := fun _ _ _ _ _ _ us hl => match us, hl with | [_], _ => rfl
theorem b55 : (⟨.std d55, top 81, false⟩ : Rw).bnd := fun _ _ _ _ _ _ us hl => match us, hl with | [_], _ => rfl
theorem b56 : (⟨.std d56, top 82, false⟩ : Rw).bnd := fun _ _ _ _ _ _ us hl => match us, hl with | [_], _ => rfl
theorem b57 : (⟨.std d57, top 83, false⟩ : Rw).bnd := fun _ _ _ _ _ _ us hl => match us, hl with | [_], _ => rfl
theorem b58 : (⟨.std d58, top 84, false⟩ : Rw).bnd := fun _ _ _ _ _ _ us hl => match us, hl with | [_], _ => rfl
theorem b59 : (⟨.std d59, top 85, false⟩ : Rw).bnd := fun _ _ _ _ _ _ us hl => match us, hl with | [_], _ => rfl
theorem b60 : (⟨.std d60, top 89, false⟩ : Rw).bnd := fun _ _ _ _ _ _ us hl => match us, hl with | [_, _], _ => rfl
theorem b61 : (⟨.std d61, top 90, false⟩ : Rw).bnd := fun _ _ _ _ _ _ us hl => match us, hl with | [_], _ => rfl
theorem b62 : (⟨.std d62, top 91, false⟩ : Rw).bnd := fun _ _ _ _ _ _ us hl => match us, hl with | [_, _], _ => rfl
theorem b63 : (⟨.std d63, top 92, false⟩ : Rw).bnd := fun _ _ _ _ _ _ us hl => match us, hl with | [_, _, _], _ => rfl
theorem b64 : (⟨.std d64, top 93, false⟩ : Rw).bnd := fun _ _ _ _ _ _ us hl => match us, hl with | [_, _], _ => rfl
theorem b65 : (⟨.std d65, top 96, false⟩ : Rw).bnd := fun _ _ _ _ _ _ us hl => match us, hl with | [_], _ => rfl
theorem b66 : (⟨.std d66, top 97, false⟩ : Rw).bnd := fun _ _ _ _ _ _ us hl => match us, hl with | [_, _], _ => rfl
theorem b67 : (⟨.std d67, top 98, false⟩ : Rw).bnd := fun _ _ _ _ _ _ us hl => match us, hl with | [_, _, _], _ => rfl
theorem b68 : (⟨.std d68, top 99, false⟩ : Rw).bnd := fun _ _ _ _ _ _ us hl => match us, hl with | [_], _ => rfl
theorem b69 : (⟨.std d69, top 100, false⟩ : Rw).bnd := fun _ _ _ _ _ _ us hl => match us, hl with | [_], _ => rfl
theorem b70 : (⟨.std d70, top 101, false⟩ : Rw).bnd := fun _ _ _ _ _ _ us hl => match us, hl with | [_], _ => rfl
theorem b71 : (⟨.std d71, top 102, false⟩ : Rw).bnd := fun _ _ _ _ _ _ us hl => match us, hl with | [_, _], _ => rfl
theorem b72 : (⟨.std d72, top 103, false⟩ : Rw).bnd := fun _ _ _ _ _ _ us hl => match us, hl with | [_], _ => rfl
theorem b73 : (⟨.std d73, top 107, false⟩ : Rw).bnd := fun _ _ _ _ _ _ us hl => match us, hl with | [_], _ => rfl
theorem b74 : (⟨.std d74, top 108, false⟩ : Rw).bnd := fun _ _ _ _ _ _ us hl => match us, hl with | [_, _], _ => rfl
theorem b75 : (⟨.std d75, top 109, false⟩ : Rw).bnd := fun _ _ _ _ _ _ us hl => match us, hl with | [_], _ => rfl
theorem b76 : (⟨.std d76, top 110, false⟩ : Rw).bnd := fun _ _ _ _ _ _ us hl => match us, hl with | [_], _ => rfl
theorem b77 : (⟨.std d77, top 111, false⟩ : Rw).bnd := fun _ _ _ _ _ _ us hl => match us, hl with | [_], _ => rfl
theorem b78 : (⟨.std d78, top 112, false⟩ : Rw).bnd := fun _ _ _ _ _ _ us hl => match us, hl with | [_, _, _], _ => rfl
theorem b79 : (⟨.std d79, top 113, false⟩ : Rw).bnd := fun _ _ _ _ _ _ us hl => match us, hl with | [_, _], _ => rfl
theorem b80 : (⟨.std d80, top 114, false⟩ : Rw).bnd := fun _ _ _ _ _ _ us hl => match us, hl with | [_], _ => rfl
theorem b81 : (⟨.std d81, top 115, false⟩ : Rw).bnd := fun _ _ _ _ _ _ us hl => match us, hl with | [_], _ => rfl
theorem b82 : (⟨.std d82, top 116, false⟩ : Rw).bnd := fun _ _ _ _ _ _ us hl => match us, hl with | [_], _ => rfl
theorem b83 : (⟨.std d83, top 117, false⟩ : Rw).bnd := fun _ _ _ _ _ _ us hl => match us, hl with | [_, _], _ => rfl
theorem b84 : (⟨.std d84, top 118, false⟩ : Rw).bnd := fun _ _ _ _ _ _ us hl => match us, hl with | [_], _ => rfl
theorem b85 : (⟨.std d85, top 119, false⟩ : Rw).bnd := fun _ _ _ _ _ _ us hl => match us, hl with | [_, _], _ => rfl
theorem b86 : (⟨.std d86, top 122, false⟩ : Rw).bnd := fun _ _ _ _ _ _ us hl => match us, hl with | [_], _ => rfl
theorem b87 : (⟨.std d87, top 123, false⟩ : Rw).bnd := fun _ _ _ _ _ _ us hl => match us, hl with | [_], _ => rfl
theorem b88 : (⟨.std d88, top 124, false⟩ : Rw).bnd := fun _ _ _ _ _ _ us hl => match us, hl with | [_], _ => rfl
theorem b89 : (⟨.std d89, top 125, false⟩ : Rw).bnd := fun _ _ _ _ _ _ us hl => match us, hl with | [_], _ => rfl
theorem b90 : (⟨.std d90, top 126, false⟩ : Rw).bnd := fun _ _ _ _ _ _ us hl => match us, hl with | [_], _ => rfl
theorem b91 : (⟨.std d91, top 127, false⟩ : Rw).bnd := fun _ _ _ _ _ _ us hl => match us, hl with | [_], _ => rfl
theorem b92 : (⟨.std d92, top 128, false⟩ : Rw).bnd := fun _ _ _ _ _ _ us hl => match us, hl with | [_], _ => rfl
theorem b93 : (⟨.std d93, top 129, false⟩ : Rw).bnd := fun _ _ _ _ _ _ us hl => match us, hl with | [_, _], _ => rfl
theorem b94 : (⟨.std d94, top 132, false⟩ : Rw).bnd := fun _ _ _ _ _ _ us hl => match us, hl with | [_], _ => rfl
theorem b95 : (⟨.std d95, top 133, false⟩ : Rw).bnd := fun _ _ _ _ _ _ us hl => match us, hl with | [_, _], _ => rfl
theorem b96 : (⟨.std d96, top 134, false⟩ : Rw).bnd := fun _ _ _ _ _ _ us hl => match us, hl with | [_, _], _ => rfl
theorem b97 : (⟨.std d97, top 135, false⟩ : Rw).bnd := fun _ _ _ _ _ _ us hl => match us, hl with | [_, _], _ => rfl
theorem b98 : (⟨.std d98, top 136, false⟩ : Rw).bnd := fun _ _ _ _ _ _ us hl => match us, hl with | [_, _], _ => rfl
theorem b99 : (⟨.std d99, top 137, false⟩ : Rw).bnd := fun _ _ _ _ _ _ us hl => match us, hl with | [_], _ => rfl
theorem b100 : (⟨.std d100, top 138, false⟩ : Rw).bnd := fun _ _ _ _ _ _ us hl => match us, hl with | [_, _], _ => rfl
theorem b101 : (⟨.std d101, top 139, false⟩ : Rw).bnd := fun _ _ _ _ _ _ us hl => match us, hl with | [_, _, _], _ => rfl
theorem b102 : (⟨.std d102, top 140, false⟩ : Rw).bnd := fun _ _ _ _ _ _ us hl => match us, hl with | [_, _], _ => rfl
theorem b103 : (⟨.std d103, top 141, false⟩ : Rw).bnd := fun _ _ _ _ _ _ us hl => match us, hl with | [_, _], _ => rfl
theorem b104 : (⟨.std d104, top 142, false⟩ : Rw).bnd := fun _ _ _ _ _ _ us hl => match us, hl with | [_], _ => rfl
theorem b105 : (⟨.std d105, top 143, false⟩ : Rw).bnd := fun _ _ _ _ _ _ us hl => match us, hl with | [_, _], _ => rfl
theorem b106 : (⟨.std d106, top 144, false⟩ : Rw).bnd := fun _ _ _ _ _ _ us hl => match us, hl with | [_, _], _ => rfl
theorem b107 : (⟨.std d107, top 145, false⟩ : Rw).bnd := fun _ _ _ _ _ _ us hl => match us, hl with | [_], _ => rfl
theorem b108 : (⟨.std d108, top 146, false⟩ : Rw).bnd := fun _ _ _ _ _ _ us hl => match us, hl with | [_], _ => rfl
theorem b109 : (⟨.std d109, top 147, false⟩ : Rw).bnd := fun _ _ _ _ _ _ us hl => match us, hl with | [_, _], _ => rfl
theorem b110 : (⟨.std d110, top 148, false⟩ : Rw).bnd := fun _ _ _ _ _ _ us hl => match us, hl with | [_, _], _ => rfl
theorem b111 : (⟨.std d111, top 150, false⟩ : Rw).bnd := fun _ _ _ _ _ _ us hl => match us, hl with | [_], _ => rfl
theorem b112 : (⟨.std d112, top 151, false⟩ : Rw).bnd := fun _ _ _ _ _ _ us hl => match us, hl with | [_, _], _ => rfl
theorem b113 : (⟨.std d113, top 152, false⟩ : Rw).bnd := fun _ _ _ _ _ _ us hl => match us, hl with | [_, _], _ => rfl
theorem b114 : (⟨.std d114, top 153, false⟩ : Rw).bnd := fun _ _ _ _ _ _ us hl => match us, hl with | [_, _], _ => rfl
theorem b115 : (⟨.err d115, top 154, false⟩ : Rw).bnd := fun _ _ _ _ _ _ us hl => match us, hl with | [_], _ => rfl
theorem b116 : (⟨.std d116, top 155, false⟩ : Rw).bnd := fun _ _ _ _ _ _ us hl => match us, hl with | [_, _, _], _ => rfl
theorem b117 : (⟨.std d117, top 156, false⟩ : Rw).bnd := fun _ _ _ _ _ _ us hl => match us, hl with | [_, _], _ => rfl
theorem b118 : (⟨.std d118, top 157, false⟩ : Rw).bnd := fun _ _ _ _ _ _ us hl => match us, hl with | [_], _ => rfl
theorem b119 : (⟨.std d119, top 158, false⟩ : Rw).bnd := fun _ _ _ _ _ _ us hl => match us, hl with | [_, _, _], _ => rfl
theorem b120 : (⟨.std d120, top 159, false⟩ : Rw).bnd := fun _ _ _ _ _ _ us hl => match us, hl with | [], _ => rfl
theorem b121 : (⟨.std d121, top 160, false⟩ : Rw).bnd := fun _ _ _ _ _ _ us hl => match us, hl with | [], _ => rfl
theorem b122 : (⟨.std d122, top 161, false⟩ : Rw).bnd := fun _ _ _ _ _ _ us hl => match us, hl with | [], _ => rfl
theorem b123 : (⟨.std d123, top 162, false⟩ : Rw).bnd := fun _ _ _ _ _ _ us hl => match us, hl with | [_], _ => rfl
theorem bnds : bndL rows := ⟨b0, b1, b2, b3, b4, b5, b6, b7, b8, b9, b10, b11, b12, b13, b14, b15, b16, b17, b18, b19, b20, b21, b22, b23, b24, b25, b26, b27, b28, b29, b30, b31, b32, b33, b34, b35, b36, b37, b38, b39, b40, b41, b42, b43, b44, b45, b46, b47, b48, b49, b50, b51, b52, b53, b54, b55, b56, b57, b58, b59, b60, b61, b62, b63, b64, b65, b66, b67, b68, b69, b70, b71, b72, b73, b74, b75, b76, b77, b78, b79, b80, b81, b82, b83, b84, b85, b86, b87, b88, b89, b90, b91, b92, b93, b94, b95, b96, b97, b98, b99, b100, b101, b102, b103, b104, b105, b106, b107, b108, b109, b110, b111, b112, b113, b114, b115, b116, b117, b118, b119, b120, b121, b122, b123, trivial⟩
end K56

set_option maxHeartbeats 0
namespace K56
open PySem PySem.Spec PyProof.Rows L2 LamX Mini
abbrev hk : PySem.W.Hook := hookY 4 (faL sg rows) (fnL rows) (tfL rows) (exL sg rows fl)
def ob (s : PySem.W.SharedT) : He.AlX := obsY 4 (faL sg rows) (fnL rows) (tfL rows) (exL sg rows fl) (HandSHeadRun.getT s)
theorem ob_eq (s : PySem.W.SharedT) : ob s = hk.obs s.abs := obsY_eq (HandSHeadRun.getT_eq s)
theorem fa_eq : faL sg rows = faX := by kernel_rfl
theorem fn_eq : fnL rows = fnX := by kernel_rfl
theorem tf_eq : tfL rows = tfX := by kernel_rfl
theorem ex_eq : exL sg rows fl = exX := by kernel_rfl
theorem run_b2 (w : World) : RunB RR 12000 4 (faL sg rows) (fnL rows) w := by
  rw [fa_eq, fn_eq]
  exact run_b w
theorem run_c2 (w : World) : RunC RR 12000 4 (tfL rows) (exL sg rows fl) w := by
  rw [tf_eq, ex_eq]
  exact run_c w
theorem run (w : World) : HandSHeadRun.RunEqI RR (PySem.W.view RR.prog [0, 1, 162]) hk ob 12000 lns w := run3 (run_a w) (run_b2 w) (run_c2 w)
end K56

open PySem PySem.W PySem.Calls PyProof.Rows
theorem PySem.Challenge.cw_latticequarry_k56_errors_and_limits_of_a_holds : PySem.Challenge.rw_latticequarry_k56_errors_and_limits_of_a.Holds := by
  w_on; o_law
  refine HandSHeadRun.head_imp (r := OpenLaw.row PySem.Challenge.rw_latticequarry_k56_errors_and_limits_of_a) (q := view (OpenLaw.row PySem.Challenge.rw_latticequarry_k56_errors_and_limits_of_a).prog [0, 1, 162]) (H := K56.hk) (ob := K56.ob) (M := 12000) (loose := K56.lns) (d := HandSHeadRun.topDef (OpenLaw.row PySem.Challenge.rw_latticequarry_k56_errors_and_limits_of_a).prog 162) (kwd := []) K56.ob_eq
    K56.run (by kernel_rfl) (by kernel_rfl) (by kernel_rfl) (by rfl) (by first | assumption | decide +kernel) (by decide +kernel) ⟨rfl, rfl, rfl, rfl, rfl, by decide +kernel⟩ ?hw ?hc
  case hw => w_witness2
  case hc =>
    refine LamX.walk_ofTsE (l := PySem.Challenge.rw_latticequarry_k56_errors_and_limits_of_a) (n := 63) (k := 33) (x := "script") (CX := fun w => L2N.CX (PySem.Challenge.rw_latticequarry_k56_errors_and_limits_of_a).prog w) rfl (by decide) (by kernel_rfl) ⟨rfl, by decide, by decide⟩ ?F (fun w H s e s' z => by
      obtain ⟨_, _, _, _, _, _, _, _, _, _, _, _, f⟩ := z
      exact f)
    intro w mg fa h Y G hmg0
    obtain ⟨K, KX, c⟩ := Y
    have hmg : mg ("law" : PySem.Str) = some (.ref fa) := by
      have e : (HandSHeadRun.topDef (OpenLaw.row PySem.Challenge.rw_latticequarry_k56_errors_and_limits_of_a).prog 162).name = ("law" : PySem.Str) := by kernel_rfl
      rw [← e]
      exact hmg0
    have ez : fa = He.ga K "law" := by
      have z := hmg.symm.trans (He.glo_ok KX G (He.SaysD.facts (He.SaysT.d c.t) (f := .glo "law") (List.mem_append_left _ (List.mem_map.mpr ⟨⟨.std K56.d123, K56.top 162, false⟩, by simp [K56.rows], rfl⟩))))
      cases z
      rfl
    rw [ez]
    exact ⟨K, KX, Mini.law_at (S := K56.sg) (rs := K56.rows) (k := 10) (j := 123) (d := K56.d123) rfl K56.chk K56.bnds (F := K56.fl) c KX G rfl rfl rfl (by decide) (by kernel_rfl) (by kernel_rfl) K56.plain⟩
