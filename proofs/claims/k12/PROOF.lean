import PyProof.Rows.All
import Wide.All
import OpenK.AllK
import Wide.FinOn
import HandS.ExcInit
import HandS.ExcSuper
import HandS.ExcIs
import HandS.ExcValue
import KE.KExcSuper
import KE.KExcIs
import KE.KExcStr
import HandS.ExcField
import HandS.HeadHook1
import HandS.HeadHook2
import HandS.HeadHook4
import HandS.Words
import KE.KStateDown
import Lean
import HandS.Base
import HandS.Call
import HandS.Ends
import HandS.More
import HandS.WordsExc
import HandS.Defaults
import HandS.Head0
import HandS.Head1
import HandS.Head2
import HandS.HeadEnd
import HandS.ForMost
import HandS.ForExc
import PySem.Challenge.RW_cutbodies_k12_classes_of_errors
set_option Elab.async false
set_option linter.all false
set_option maxRecDepth 100000
set_option maxHeartbeats 1000000
/-! Ex1: an own exception class whose __init__ says super().__init__('..') and keeps one field. -/
namespace TM
open PySem PySem.Spec PyProof.Rows L2

def cxK (P : Program) (w : World) (K : PySem.W.Frag) (mg : Str → Option Value) (base : Heap) (N : List Str) (env : Env) (A : Around) (outer : List Env) (s : Shared) (H : Hp) (xe : Value → Shared → Prop) : Cx where
  prog := P
  w := w
  K := K
  mg := mg
  base := base
  A := A.deeper env
  N := N
  s_0 := s
  H_0 := H
  env := env
  outer := outer
  stack := env :: outer
  ex := []
  calm := true
  fn := fun _ => false
  pn := []
  xe := xe

section
variable {P : Program} {w : World} {K : PySem.W.Frag} {mg : Str → Option Value} {base : Heap} {A : Around} {outer : List Env} {s : Shared} {H : Hp} {xe : Value → Shared → Prop}
variable {qual : Str} {scope : Scope} {f cc : Addr} {cd : Value}
theorem lk_cons {α : Type} {x n : Str} {c d : α} {r : List (Str × α)} (h : List.lookup x ((n, c) :: r) = some d) : (x = n ∧ c = d) ∨ List.lookup x r = some d := by
  by_cases e : x = n
  · subst e
    rw [List.lookup_cons_self] at h
    exact .inl ⟨rfl, Option.some.inj h⟩
  · have e' : (x == n) = false := by simpa using e
    rw [List.lookup_cons, e'] at h
    exact .inr h
def tmNames : List (Str × NameKind) := [("self", .local), ("limit", .local), ("__class__", .free), ("super", .globalImplicit)]
theorem inv_K {h₀ : Heap} {t : Nat} {a : Addr} {v : V} {u : Value} {oc : Obj} {cv : Option Value} (e0 : Env0 P w K mg base A outer s H) (hd : A.handled = none) (hk : scope.kind = .function) (hN : scope.names = tmNames)
    (hc : K.lookup cc = some oc) (hcd : oc.data = .cell cv) (hns : h₀.Ns s.heap.objs.size (fun x => List.lookup x [(("limit" : Str), u), (("self" : Str), Value.ref a)])) (keep : ∀ b o, s.heap.get? b = some o → h₀.get? b = some o) (rv : RelV v u) :
    Inv (cxK P w K mg base ["self", "limit"] (PySem.W.ksEnv qual scope s.heap.objs.size f cd cc) A outer s H xe) [] [some (.ref a), some v] H { s with heap := h₀, toks := t } := by
  have KX : K.In base := e0.mod.kin
  have bc := e0.bs _ _ (KX _ _ hc)
  have lkc : ∀ y c, (PySem.W.ksEnv qual scope s.heap.objs.size f cd cc).cells.lookup y = some c → y = "__class__" ∧ c = cc := fun y c h => by
    have h' : List.lookup y [(("__class__" : Str), cc)] = some c := h
    rcases lk_cons h' with ⟨q, z⟩ | z
    · exact ⟨q, z.symm⟩
    · cases z
  refine ⟨⟨e0.mod, hk, rfl, rfl, Nat.le_refl _, fun x y c h1 h2 => ?_, fun y hy => ?_, fun y c z _ => Bool.noConfusion (show false = true from z), fun _ => hd, Around.frames_deeper e0.frames, .inr ⟨rfl, rfl⟩, fun b z => absurd (show b ∈ ([] : List Addr) from z) (by simp), e0.bs, e0.bsz, fun b _ _ z => absurd (show b ∈ ([] : List Addr) from z) (by simp), fun b z => absurd (show b ∈ ([] : List Addr) from z) (by simp), e0.funs, e0.frf⟩,
    rfl, e0.bare, Un.kept keep, ⟨_, hns, fun i y z h1 h2 h3 => ?_⟩, fun y c h => ?_, e0.hok.fresh (Nat.le_refl _), fun y c h => ?_, fun p hp => absurd (show p ∈ ([] : List (Addr × Obj)) from hp) (by simp), e0.hok.kept keep, rfl⟩
  · rw [(lkc _ _ h1).1, (lkc _ _ h2).1]
  · have hy' : scope.names.lookup y = some .cell ∨ scope.names.lookup y = some .free := hy
    rw [hN] at hy'
    refine ⟨cc, ?_⟩
    show List.lookup y [(("__class__" : Str), cc)] = some cc
    have e : y = "__class__" := by
      unfold tmNames at hy'
      rcases hy' with z | z
      · rcases lk_cons z with ⟨_, q⟩ | z
        · cases q
        rcases lk_cons z with ⟨_, q⟩ | z
        · cases q
        rcases lk_cons z with ⟨_, q⟩ | z
        · cases q
        rcases lk_cons z with ⟨_, q⟩ | z
        · cases q
        cases z
      · rcases lk_cons z with ⟨_, q⟩ | z
        · cases q
        rcases lk_cons z with ⟨_, q⟩ | z
        · cases q
        rcases lk_cons z with ⟨q, _⟩ | z
        · exact q
        rcases lk_cons z with ⟨_, q⟩ | z
        · cases q
        cases z
    rw [e]
    rfl
  · match i with
    | 0 =>
      cases h1
      cases h2
      exact ⟨.ref a, rfl, .inl ⟨by show scope.names.lookup _ = _; rw [hN]; rfl, rfl⟩⟩
    | 1 =>
      cases h1
      cases h2
      exact ⟨u, rv, .inl ⟨by show scope.names.lookup _ = _; rw [hN]; rfl, rfl⟩⟩
    | (n + 2) => cases h1
  · obtain ⟨_, rfl⟩ := lkc _ _ h
    exact ⟨cv, _, keep _ _ bc.1, hcd⟩
  · obtain ⟨_, rfl⟩ := lkc _ _ h
    exact bc.2

/-- what the written part says of such a class -/
structure TmC (P : Program) (K : PySem.W.Frag) (mg : Str → Option Value) (C cc : Addr) (cd : Value) (qual : Str) : Prop where
  oex : OexC K C
  code : PySem.W.codeIn K cd qual = true
  file : ∃ cda ccl cdd vs ccs fl tf, cd = .ref cda ∧ K.lookup cda = some ⟨ccl, cdd, .fields vs, ccs⟩ ∧ vs[2]? = some (.str fl tf) ∧ ((P.main.file : Str) == fl) = true
  cell : ∃ cl cld csl, K.lookup cc = some ⟨cl, cld, .cell (some (.ref C)), csl⟩
  cls : (PySem.W.clsIn K C).isSome = true
  self : PySem.W.mroIn K C (.ref C) = some true
  sup : mg "super" = none
  top : (P.main.scope.names.lookup ("super" : Str)).isSome = false
  opq : PySem.W.nsIn K cStatics "thirdparty.any" = some none
  ini : PySem.W.ks_superIn K C C "__init__" = some (some (.builtin "ValueError.__init__"))
  isV : PySem.W.subIn K (.ref C) (.type "ValueError") = some true
  lim : PySem.W.findIn K (.ref C) "limit" = some none
theorem hint (env : Env) (hk : env.scope.kind = .function) : interactive env = false := by
  unfold interactive
  simp [hk]
/-- __init__(self, limit): self is an exception being made -/
def spTm (C : Addr) : Sp := fun vs H Q _ => ∃ a v, vs = [.ref a, v] ∧ H a = some (exo a C none) ∧ ∀ d, H d = none → d ≠ a → Q .non (upd (upd H d (exd d [("limit", v)])) a (exo a C (some d)))

theorem fn_tm {CX : CXT} {k : Nat} {C : Addr} {msg : Str} {name : Str} {params : Arguments} {dV kV doc pm ct oc : Value} {an od : Option Addr} {osl : Array (Option Value)} {p1 p2 p3 p4 p5 p6 p7 p8 p9 p10 : Pos} {j : _} {ar : Arg}
    (T : TmC P K mg C cc cd qual)
    (lk : K.lookup f = some ⟨oc, od, .func (PySem.W.ksFn name qual params [.Expr (.Call (.Attribute (.Call (.Name "super" p1) [] [] p2) "__init__" p3) [.Constant (.str msg) j p4] [] p5) p6, .Assign [.Attribute (.Name "self" p7) "limit" p8] (.Name "limit" p9) p10] scope dV kV doc pm an cd ct cc), osl⟩)
    (hp : (params.posonlyargs ++ params.args).head? = some ar) (har : ar.arg = "self")
    (hk : scope.kind = .function) (hN : scope.names = tmNames) (hco : scope.isCoroutine = false) (hgen : scope.isGenerator = false)
    (hev : ∀ env : Env, ∃ pl : Sem Bool, eval (.Call (.Attribute (.Call (.Name "super" p1) [] [] p2) "__init__" p3) [.Constant (.str msg) j p4] [] p5) env = (do
      let ov ← attributeBase (.Call (.Name "super" p1) [] [] p2) "__init__" env (eval (.Call (.Name "super" p1) [] [] p2) env)
      standAt p3.atName
      let (f, first) ← holding [ov] (getMethod ov "__init__" pl)
      callWith p5 f first (backTo p5 (starEach [.Constant (.str msg) j p4] env)) [])) :
    FnOk P w K mg base CX (k + 1) f (PySem.W.ksFn name qual params [.Expr (.Call (.Attribute (.Call (.Name "super" p1) [] [] p2) "__init__" p3) [.Constant (.str msg) j p4] [] p5) p6, .Assign [.Attribute (.Name "self" p7) "limit" p8] (.Name "limit" p9) p10] scope dV kV doc pm an cd ct cc) ["self", "limit"] (spTm C) := by
  refine ⟨fun vs H Q E ⟨a, v, e, _⟩ => by rw [e]; rfl, fun A outer s H args us vs Q E hr e0 hb r hsp => ?_⟩
  obtain ⟨a, v, rfl, ha, hq⟩ := hsp
  cases r with
  | cons ra r =>
  cases r with
  | cons rv r =>
  cases r
  rename_i ua u
  obtain rfl : ua = Value.ref a := ra
  have KX : K.In s.heap := e0.mod.kin.keeps fun b o e => (e0.bs b o e).1
  have lim : s.heap.NoLimit := e0.mod.nolimit.keeps fun b o e => (e0.bs b o e).1
  obtain ⟨cda, ccl, cdd, cvs, ccs, fl, tf, rfl, hcode, hvs, hfile⟩ := T.file
  obtain ⟨cl, cld, csl, hcell⟩ := T.cell
  refine ks_codeAny_call_defAt hr.depth (KX _ _ lk) rfl lim (PySem.W.codeRec_of KX T.code) rfl hb ?_ ?_ (fun h₀ hns keep => ?_) hco hgen hk
  · show ∀ x ∈ scope.names, x.2 ≠ .cell
    rw [hN]
    decide
  · intro x hx
    show scope.names.lookup x.1 = some .local
    rw [hN]
    rcases List.mem_cons.mp hx with rfl | hx
    · rfl
    rcases List.mem_cons.mp hx with rfl | hx
    · rfl
    · cases hx
  have I : Inv (cxK P w K mg base ["self", "limit"] (PySem.W.ksEnv qual scope s.heap.objs.size f (.ref cda) cc) A outer s H
      (fun e s' => wpAny (model P w) (A.deeper (PySem.W.ksEnv qual scope s.heap.objs.size f (.ref cda) cc)) (leaving (PySem.W.ksEnv qual scope s.heap.objs.size f (.ref cda) cc) e) (fun _ s'' => CR CX outer P w H s Q E (.error e) s'') (fun e' s'' => CR CX outer P w H s Q E (.error e') s'') s'))
      [] [some (.ref a), some v] H { s with heap := h₀, toks := s.toks + 2 } := inv_K e0 hr.hd hk hN hcell rfl hns keep rv
  obtain ⟨pl, he⟩ := hev (PySem.W.ksEnv qual scope s.heap.objs.size f (.ref cda) cc)
  obtain ⟨nm, qn, N, bs, bm, sn, sub, ab, col, dd, k0, k1, k2, k3, k5, hC, hbm⟩ := T.oex.cls
  obtain ⟨oD, hD⟩ := Option.isSome_iff_exists.mp T.cls
  have K0 : K.In h₀ := KX.keeps keep
  obtain ⟨mb, hb1, hb2⟩ := I.mod.blt
  refine ks_wpAt_execs_cons (ks_wpAt_Expr_any (ks_wpAt_MethodCall (pl := pl) ?_ he) (hint _ hk))
  refine ks_wpAt_super_base (ar := ar) (vs := cvs) (by show scope.names.lookup _ = _; rw [hN]; rfl) (by show scope.names.lookup _ = _; rw [hN]; rfl) rfl rfl (K0 _ _ lk) rfl hp rfl (K0 _ _ hcode) rfl hvs hfile T.top ?_
  refine PySem.W.ks_loadName_global hk (by show scope.names.lookup _ = _; rw [hN]; rfl) (Calls.loadGlobal_builtin (I.mod.glob.keeps I.bk) T.sup (hb1.keeps I.bk) ((hb2 _ (by decide)).trans (show bootBuiltins "super" = some (.type "super") by first | boot_by_name | rfl | kernel_rfl)) ⟨rfl, ?_⟩)
  refine wpAny_loadName_free hk (by show scope.names.lookup _ = _; rw [hN]; rfl) rfl ⟨_, K0 _ _ hcell, rfl⟩ ?_
  refine wpAny_loadName_local hk (by show scope.names.lookup _ = _; rw [hN, har]; rfl) hns (by rw [har]; rfl) ?_
  refine ks_wpAny_isType_cls (K0 _ _ hC) rfl ⟨rfl, ?_⟩
  obtain ⟨t1, hox⟩ := exo_at I.hok ha
  have hox0 : h₀.get? a = some ({ cls := .ref C, dict := none, data := .fields #[.ref t1, .none, .none, .none, .bool false, .none] } : Obj) := hox
  have I0 : PySem.W.InstAt h₀ a { cls := .ref C, dict := none, data := .fields #[.ref t1, .none, .none, .none, .bool false, .none] } C none := ⟨hox0, rfl, rfl, trivial⟩
  refine ks_wpAny_call_super (K0 _ _ hC) rfl hox0 rfl (fun c e => by cases e) (PySem.W.looks_mroIn K0 T.self) (fun h1 e1 k1 => ?_)
  have I1 := I.kept (h' := h1) (t' := s.toks + 2) k1
  have K1 : K.In h1 := K0.keeps k1
  have hI1 : PySem.W.Looks (model P w) h1 (isInstance (.ref a) (.type "ValueError")) true := (show PySem.W.Looks (model P w) h1 (typeOf (.ref a)) (.ref C) from (show PySem.W.InstAt h1 a { cls := .ref C, dict := none, data := .fields #[.ref t1, .none, .none, .none, .bool false, .none] } C none from ⟨k1 _ _ hox0, rfl, rfl, trivial⟩).type).andThen (PySem.W.looks_subIn K1 T.isV)
  have hcl : PySem.W.clsIn K C = some { name := nm, bases := bs, mro := .ref C :: bm, ns := N, qualname := qn, hasDict := true, slotNames := sn, subclasses := sub, abstract := ab, collection := col, hasDel := false } := by unfold PySem.W.clsIn; rw [hC] <;> rfl
  have hsi := T.ini
  unfold PySem.W.ks_superIn at hsi
  rw [hcl] at hsi
  refine PySem.W.kxs_getMethod PySem.W.kxs_ValueError e1 (PySem.W.looks_opaque K1 T.opq) (l₀ := .ref C :: bm) (fun A Q E s k q => wpAny_bind ((PySem.W.looks_clsIn K1 hcl) A _ E s k (wpAny_pure q))) rfl K1 hsi hI1 (PySem.W.ks_ne K0 I0 hcl) (by decide) ?_
  have k2 : ∀ b o, h1.get? b = some o → (h1.push (PySem.W.kxs_mw "ValueError.__init__" a)).get? b = some o := fun b o e => Heap.get?_push_of_some _ e
  have hmw : (h1.push (PySem.W.kxs_mw "ValueError.__init__" a)).get? h1.objs.size = some (PySem.W.kxs_mw "ValueError.__init__" a) := Heap.get?_push_at rfl rfl
  have I2 := I1.kept (h' := h1.push (PySem.W.kxs_mw "ValueError.__init__" a)) (t' := s.toks + 2 + 1) k2
  refine PySem.W.kxs_callWith (i := "ValueError.__init__") (x := a) rfl (Calls.evalArgs_plain (Calls.spliced_cons ?_))
  show wpAny _ _ (eval (.Constant (.str msg) j p4) _) _ _ _
  refine Calls.Constant_str (Calls.spliced_nil ⟨hmw, ?_⟩)
  show wpAny _ _ (call (.ref h1.objs.size) [.str msg _]) _ _ _
  refine wpAny_call (codeAny_of_tree ?_)
  show wpAny _ _ (callAny (.ref h1.objs.size) ⟨[.str msg _], []⟩) _ _ _
  simp only [callAny]
  refine wpAny_bind (wpAny_load hmw ?_)
  simp only [PySem.W.kxs_mw, show (Value.type "method-wrapper" == Value.type "method" || Value.type "method-wrapper" == Value.type "builtin_function_or_method" || Value.type "method-wrapper" == Value.type "method-wrapper") = true by decide, if_true]
  refine PySem.W.KFB.if_so (by decide) ?_
  have hox2 : (h1.push (PySem.W.kxs_mw "ValueError.__init__" a)).get? a = some (PySem.W.excRec (.ref C) t1 none .none .none (.bool false)) := k2 _ _ (k1 _ _ hox0)
  refine wpAny_bind (PySem.W.check_bound_init F.excBase_ValueError.toExcCallFacts (k2 _ _ (k1 _ _ (K0 _ _ hC))) hox2 rfl ?_)
  refine wpAny_bind (wpAny_pure (wpAny_pure ?_))
  refine ⟨plainId_quiet F.excBase_ValueError.init.plain _, codeAny_builtin F.excBase_ValueError.initEntry ?_⟩
  refine PySem.W.exc_init_tree (cls := .ref C) (t0 := t1) (dv := none) (c2 := .none) (c3 := .none) (b4 := .bool false) hox2 (show 1 ≤ sizeLine by rw [sizeLine_eq]; omega) fun h3 k3 e3 _ => ?_
  have J := I2.write (h' := h3) (t' := s.toks + 2 + 1 + 1) (x := a) (e := a) (o := exo a C none) (by rw [ha]; exact True.intro) (.inl rfl) k3 ⟨_, e3⟩ (exo_ok e3)
  have eu : upd H a (exo a C none) = H := by
    funext b
    by_cases hb' : b = a
    · rw [hb', upd_same, ha]
    · exact upd_ne hb'
  rw [eu] at J
  let X := cxK P w K mg base ["self", "limit"] (PySem.W.ksEnv qual scope s.heap.objs.size f (.ref cda) cc) A outer s H
      (fun e s' => wpAny (model P w) (A.deeper (PySem.W.ksEnv qual scope s.heap.objs.size f (.ref cda) cc)) (leaving (PySem.W.ksEnv qual scope s.heap.objs.size f (.ref cda) cc) e) (fun _ s'' => CR CX outer P w H s Q E (.error e) s'') (fun e' s'' => CR CX outer P w H s Q E (.error e') s'') s')
  have v0 : PE X (.Name "self" p7) (tVar 0) := pe_var rfl (.inl (by show scope.names.lookup _ = _; rw [hN]; rfl))
  have v1 : PE X (.Name "limit" p9) (tVar 1) := pe_var rfl (.inl (by show scope.names.lookup _ = _; rw [hN]; rfl))
  have st := pss_cons (ps_ost (p' := p8) (pos := p10) (f := "limit") v0 v1) pss_nil
  refine wpAt_of_wpAny (wpAny_mono (st.run [] _ _ H { nx := fun _ H' => Q .non H', rt := fun _ _ => False } J ?_) (fun fl s' hs => ?_) fun e s' hs => hs)
  · refine ⟨v, rfl, .ref a, rfl, a, C, rfl, T.oex, T.lim, .inl ⟨ha, fun d hd hda => ?_⟩⟩
    exact hq d hd hda
  · have fin : ∀ {σ' : L2.St} {H' : Hp} {z : V} {u' : Value}, Inv X [] σ' H' s' → RelV z u' → Q z H' → CE outer P w H s Q u' s' :=
      fun {σ' H' z u'} J rv q => ⟨z, H', J.os, J.bare, J.base, J.hok, rv, q⟩
    cases fl with
    | ret u' => 
      obtain ⟨z, σ', H', J, rv, q⟩ := hs
      exact False.elim q
    | next =>
      obtain ⟨σ', H', J, q⟩ := hs
      exact fin (z := V.non) (u' := Value.none) J rfl q
    | brk =>
      obtain ⟨_, _, _, q⟩ := hs
      exact False.elim q
    | cont =>
      obtain ⟨_, _, _, q⟩ := hs
      exact False.elim q
end
end TM
set_option Elab.async false
set_option linter.all false
set_option maxRecDepth 100000
set_option maxHeartbeats 1000000
/-! Ex2: exceptions as values: made, asked for their class, their text, their field. -/
namespace TM
open PySem PySem.Spec PyProof.Rows L2
section
variable {X : Cx} {e : Expr} {es : List Expr} {ta : TA} {p pos : Pos}
/-- C(e, ..) as a value, C's own __init__ keeping sp -/
def tMkV (C : Addr) (sp : Sp) (ta : TA) : TE := fun σ H Q => ta σ H fun vs H1 => vs.length ≤ 1000 ∧ ∀ a, H1 a = none → sp (.ref a :: vs) (upd H1 a (exo a C none)) (fun v H2 => v = .non ∧ Q (.ref a) H2) (fun _ _ _ => False)
theorem pe_mkV {CX : CXT} {x : Str} {C fI : Addr} {k : Nat} {fd : FuncData} {ps : List Str} {sp : Sp} (T : OexC X.K C) (iC : PySem.W.findIn X.K (.ref C) "__init__" = some (some (.ref fI))) (tI : PySem.W.typeIn X.K (.ref fI) = some (.type "function"))
    (F1 : FnOk X.prog X.w X.K X.mg X.base CX k fI fd ps sp) (hr : Room (k + 1) X.A) (hb : Binds X.K fd ps []) (hx : Passes CX X (fun _ _ _ => False)) (hg : Gl X x) (hm : X.mg x = some (.ref C)) (ha : PA X (e :: es) ta)
    (hdb : (x == ("__debug__" : Str)) = false := by decide) (he : starEach (e :: es) X.env = (false, eval e X.env) :: starEach es X.env := by rfl) (hpl : (backTo pos (starEach es X.env)).any (·.1) = false := by rfl) :
    PE X (.Call (.Name x p) (e :: es) [] pos) (tMkV C sp ta) := by
  refine ⟨fun pins s σ H Q I h => ?_⟩
  obtain ⟨nm, q, N, bs, bm, sn, sub, ab, col, dd, k0, k1, k2, k3, k5, hC, hbm⟩ := T.cls
  refine wpAny_Call_Name_kw (ld_glob I hg hm ?_ hdb)
  refine PySem.W.callWith_K (h₀ := X.base) I.ok.mod.kin T.kC (thn (ha.run pos pins s σ H _ I h) fun us s1 ⟨vs, H1, I1, r1, hz, q1⟩ => ⟨I1.kIn, ?_⟩) he hpl
  show wpAny _ _ (call (.ref C) us) _ _ _
  obtain ⟨hp, g, dr, tk, os⟩ := s1
  have hsz : hp.objs.size ≤ hp.objs.size + 1 := Nat.le_succ _
  have hn : H1 (hp.objs.size + 1) = none := I1.hok.fresh hsz
  have hq := q1 (hp.objs.size + 1) hn
  have kk : ∀ b o, hp.get? b = some o → ((hp.push (PySem.W.kdv_tup us)).push (PySem.HandSPX.excO C hp.objs.size)).get? b = some o := fun b o e => Heap.get?_push_of_some _ (Heap.get?_push_of_some _ e)
  have hget : ((hp.push (PySem.W.kdv_tup us)).push (PySem.HandSPX.excO C hp.objs.size)).get? (hp.objs.size + 1) = some (PySem.HandSPX.excO C hp.objs.size) := by heap_get
  have I2 : Inv X pins σ (upd H1 (hp.objs.size + 1) (exo (hp.objs.size + 1) C none)) ⟨(hp.push (PySem.W.kdv_tup us)).push (PySem.HandSPX.excO C hp.objs.size), g, dr, tk, os⟩ :=
    I1.laid (t' := tk) (a := hp.objs.size + 1) (o := exo (hp.objs.size + 1) C none) (h' := (hp.push (PySem.W.kdv_tup us)).push (PySem.HandSPX.excO C hp.objs.size)) kk hsz (exo_ok hget)
  have r2 : Vals (V.ref (hp.objs.size + 1) :: vs) (Value.ref (hp.objs.size + 1) :: us) := .cons rfl r1
  have hl : (Value.ref (hp.objs.size + 1) :: us ++ []).length = ps.length := by
    have e := r2.length
    rw [F1.len _ _ _ _ hq] at e
    rw [List.append_nil]
    exact e.symm
  have hus : us.length ≤ sizeLine := by
    rw [← Paired.length r1, sizeLine_eq]
    omega
  have hb' := hb _ (Value.ref (hp.objs.size + 1) :: us) I2.kIn hl
  rw [List.append_nil] at hb'
  refine wpAny_call (PySem.HandSPX.call_own F.excBase_ValueError (fun Y => PySem.HandSPX.refsVE_contains Y bm hbm) (I1.kIn _ _ hC) (PySem.W.looks_findIn I1.kIn iC) (fun self => PySem.W.bind_fn I1.kIn self tI) hus
    (codeAny_mono (F1.run _ X.stack _ _ ⟨Value.ref (hp.objs.size + 1) :: us, []⟩ (Value.ref (hp.objs.size + 1) :: us) _ _ (fun _ _ _ => False) (hr.make C us []) (I2.env0.make C us []) hb' r2 hq) fun r s' hq' => ?_))
  cases r with
  | error er => exact hx pins σ _ _ er s' I2 hq'
  | ok fl =>
    cases fl with
    | ret u =>
      obtain ⟨v, H2, J, rv, ev, q2⟩ := I2.after hq'
      subst ev
      exact ⟨rv, .ref (hp.objs.size + 1), H2, J, rfl, q2⟩
    | next => exact False.elim hq'
    | brk => exact False.elim hq'
    | cont => exact False.elim hq'
/-- a plain own exception at a, its message's tuple at p -/
def ExM (C p a : Addr) : HO := .ext fun h => h.get? a = some ({ cls := .ref C, dict := none, data := .fields #[.ref p, .none, .none, .none, .bool false, .none] } : Obj)
theorem exM_ok {P : Program} {w : World} {H : Hp} {h : Heap} {a p C : Addr} (he : h.get? a = some ({ cls := .ref C, dict := none, data := .fields #[.ref p, .none, .none, .none, .bool false, .none] } : Obj)) : ObjOk P w H h a (ExM C p a) :=
  ⟨he, ⟨_, he⟩, fun _ _ z k => k _ z⟩
/-- the tuple of one text at t -/
def MsT (m : Str) (t : Addr) : HO := .ext fun h => ∃ tk, h.get? t = some (PySem.W.excTup [.str m tk])
theorem msT_ok {P : Program} {w : World} {H : Hp} {h : Heap} {t : Addr} {m : Str} {tk : Tok} (he : h.get? t = some (PySem.W.excTup [.str m tk])) : ObjOk P w H h t (MsT m t) :=
  ⟨⟨tk, he⟩, ⟨_, he⟩, fun _ _ ⟨tk, z⟩ k => ⟨tk, k _ z⟩⟩
theorem pe_exm {C : Addr} {bmB : List Value} {B newId initId : String} {x m : Str} {j : Nat} {pc : Pos} (F : ExcBaseFacts B newId initId bmB) (q : PySem.W.excIn X.K C bmB newId = true) (gC : X.mg x = some (.ref C)) (kC : PySem.W.keepIn X.K (.ref C) = true) (hg : Gl X x)
    (hdb : (x == ("__debug__" : Str)) = false := by decide) :
    PE X (.Call (.Name x p) [.Constant (.str m) j pc] [] pos) (fun σ H Q => ∀ a t, H a = none → H t = none → t ≠ a → Q (.ref a) (upd (upd H t (MsT m t)) a (ExM C t a))) := by
  refine ⟨fun pins s σ H Q I h => ?_⟩
  refine wpAny_Call_Name_kw (ld_glob I hg gC ?_ hdb)
  refine PySem.W.callWith_K (h₀ := X.base) I.ok.mod.kin kC ?_ (show starEach [.Constant (.str m) j pc] X.env = (false, eval (.Constant (.str m) j pc) X.env) :: starEach [] X.env from rfl) (by rfl)
  refine Calls.spliced_cons ?_
  show wpAny _ _ (eval (.Constant (.str m) j pc) _) _ _ _
  refine Calls.Constant_str (Calls.spliced_nil ⟨I.kIn, ?_⟩)
  show wpAny _ _ (call (.ref C) [.str m _]) _ _ _
  obtain ⟨bm, N, nm, qn, bs, hdct, sn, sub, ab, col, dd, k0, k1, k2, k3, k5, mN, hC, hN, hni, T⟩ := exc_obj I.kIn q
  refine wpAny_call_exc_subT F T hC hN hni (fun h' a hm => ?_) (by show 1 ≤ sizeLine; rw [sizeLine_eq]; omega)
  have hn : H a = none := I.hok.gone hm.new
  obtain ⟨t, ht, hnt, htt⟩ := hm.there
  have hn2 : H t = none := I.hok.gone hnt
  have hta : t ≠ a := fun z => by
    rw [z, ht] at htt
    cases htt
  obtain ⟨G, g1, g2⟩ := restrict h' fun b => decide (b ≠ a)
  have gk : ∀ b, b ≠ a → G.get? b = h'.get? b := fun b hb => g1 b (decide_eq_true hb)
  have ga : G.get? a = none := g2 a (decide_eq_false fun z => z rfl)
  have I1 : Inv X pins σ (upd H t (MsT m t)) { s with heap := G, toks := s.toks + 1 } := I.laidN (t' := s.toks + 1) (fun b u e => by
    rw [gk b (fun z => by rw [z, hm.new] at e; cases e)]
    exact hm.keeps b u e) hnt hn2 (msT_ok (tk := s.toks) (by rw [gk t hta]; exact htt))
  have ha1 : upd H t (MsT m t) a = none := by rw [upd_ne (Ne.symm hta)]; exact hn
  have I2 := I1.laidN (h' := h') (t' := s.toks + 1) (o := ExM C t a) (fun b u e => by
    by_cases hb : b = a
    · rw [hb, ga] at e
      cases e
    · rw [← gk b hb]
      exact e) ga ha1 (exM_ok ht)
  exact ⟨.ref a, _, I2, rfl, h a t hn hn2 hta⟩
end
end TM
set_option Elab.async false
set_option linter.all false
set_option maxRecDepth 100000
set_option maxHeartbeats 1000000
/-! Ex3: exceptions as values: asked for their class, their text, their field. -/
namespace TM
open PySem PySem.Spec PyProof.Rows L2
/-- an exception of the class D stands at a -/
def ExAt (H : Hp) (a D : Addr) : Prop := (∃ t, H a = some (ExM D t a)) ∨ ∃ d fs, H a = some (exo a D (some d)) ∧ H d = some (exd d fs)
theorem ExAt.inst {P : Program} {w : World} {H : Hp} {h : Heap} {a D : Addr} (hok : HOk P w H h) (x : ExAt H a D) : ∃ ox od, PySem.W.InstAt h a ox D od := by
  rcases x with ⟨t, e⟩ | ⟨d, fs, e1, e2⟩
  · have z : ObjOk P w H h a (ExM D t a) := hok a _ e
    exact ⟨_, none, z.1, rfl, rfl, trivial⟩
  · obtain ⟨t1, z⟩ := exo_at hok e1
    obtain ⟨mA, ⟨o, es, ep, ho, _⟩, _⟩ := exd_at hok e2
    exact ⟨_, some o, z, rfl, rfl, ho⟩
def rIsV (K : PySem.W.Frag) : List V → Hp → VK → Prop := fun xs H Q => ∃ (a D : Addr) (c : V) (cv : Value) (b : Bool), xs = [.ref a, c] ∧ ExAt H a D ∧ L2.ExcC K D ∧ (∀ u, RelV c u → u = cv) ∧ PySem.W.kitOne K (.ref D) cv = some b ∧ Q (.bl b) H
section
variable {X : Cx}
theorem call_isV : CallR X (.builtin "isinstance") (rIsV X.K) := by
  intro pins s σ H xs us Q I r h
  obtain ⟨a, D, c, cv, b, rfl, hx, C, hcv, e, q⟩ := h
  cases r with
  | cons rx rr =>
    cases rr with
    | cons rt rr =>
      cases rr
      cases rx
      have ec := hcv _ rt
      subst ec
      obtain ⟨ox, od, J⟩ := hx.inst I.hok
      have hcl : (PySem.W.clsIn X.K D).isSome = true := by
        obtain ⟨cd, hc, _⟩ := PySem.W.any_some C.hd
        rw [hc]
        rfl
      exact PySem.W.kia_one (PySem.W.kitx_exc hcl C.hg C.hk C.hs C.ha C.hn C.ht C.hm) I.kIn J e (fun z => nomatch z) fun tk => ⟨.bl b, H, I.kept (t' := tk) fun _ _ z => z, rfl, q⟩
/-- str(e) of a plain one -/
def rStrV (K : PySem.W.Frag) : List V → Hp → VK → Prop := fun xs H Q => ∃ (a D t : Addr) (m : Str), xs = [.ref a] ∧ H a = some (ExM D t a) ∧ H t = some (MsT m t) ∧ PySem.W.findIn K (.ref D) "__str__" = some (some (.builtin "BaseException.__str__")) ∧ PySem.W.subIn K (.ref D) (.type "BaseException") = some true ∧ Q (.str m) H
theorem call_strV (hu : X.A.units + 2 < cLine) : CallR X (.type "str") (rStrV X.K) := by
  intro pins s σ H xs us Q I r h
  obtain ⟨a, D, t, m, rfl, ha, ht, h1, h2, q⟩ := h
  obtain rfl := Vals.ref1 r
  have za : ObjOk X.prog X.w H s.heap a (ExM D t a) := I.hok a _ ha
  have zt : ObjOk X.prog X.w H s.heap t (MsT m t) := I.hok t _ ht
  obtain ⟨tk, e2⟩ := zt.1
  exact PySem.P.str_of_C_one hu ⟨I.kIn, _, _, za.1, rfl, rfl, rfl⟩ ⟨_, _, e2, rfl, rfl⟩ h1 h2 ⟨.str m, H, I, ⟨tk, rfl⟩, q⟩
/-- e.n, e an exception with a dict -/
def tFld (K : PySem.W.Frag) (n : Str) (te : TE) : TE := fun σ H Q => te σ H fun x H1 => ∃ a D d fs v, x = .ref a ∧ H1 a = some (exo a D (some d)) ∧ H1 d = some (exd d fs) ∧ XfC K D ∧ PySem.W.findIn K (.ref D) n = some none ∧ fs.lookup n = some v ∧ Q v H1
theorem pe_fld {e : Expr} {te : TE} {pos : Pos} {n : Str} (he : PE X e te) (hb : attributeBase e n X.env (eval e X.env) = eval e X.env := by rfl) : PE X (.Attribute e n pos) (tFld X.K n te) := by
  refine ⟨fun pins s σ H Q I h => ?_⟩
  refine attr_of hb (thn (he.run pins s σ H _ I h) fun u s1 hh => ?_)
  obtain ⟨x, H1, I1, rx, a, D, d, fs, v, ex, ea, ed, T, hno, l, q⟩ := hh
  subst ex
  obtain rfl : u = Value.ref a := rx
  obtain ⟨t1, ho1⟩ := exo_at I1.hok ea
  obtain ⟨mA, hns, hr⟩ := exd_at I1.hok ed
  obtain ⟨od, ho, hl⟩ := lookIn_ns hns
  obtain ⟨u, hu, ru⟩ := RelO.some_of (v := v) (o := mA n) (by rw [← l]; exact hr n)
  have J : PySem.W.InstAt s1.heap a _ D (some od) := ⟨ho1, rfl, rfl, ho⟩
  exact HandSPX.exc_get I1.kIn J T.ga T.gg T.exC (PySem.W.findObj_own T.hdC hno rfl (by rw [hl, hu])) (handed_of ru) ⟨v, H1, I1.tok _, ru, q⟩
end
end TM
set_option Elab.async false
set_option linter.all false
set_option maxRecDepth 100000
set_option maxHeartbeats 1000000
/-! Ex4: what a head tells of TooMany. -/
namespace TM
open PySem PySem.Spec PyProof.Rows L2
/-- the written __init__: its words, but for the cell -/
abbrev TmV : Type := Option (Str × Str × Arguments × FuncBody × Scope × Addr × Addr × Bool)
def noneB : Value → Bool
  | .none => true
  | _ => false
theorem noneB_ok {v : Value} (h : noneB v = true) : v = .none := by cases v <;> first | rfl | cases h
def tmP : Str × Option Str := ("TooMany", some "__init__")
def tmObs (K : PySem.W.Frag) : TmV := match K.lookup (He.fAd K tmP) with
  | some ⟨_, _, .func fd, _⟩ => some (fd.name, fd.qualname, fd.params, fd.body, fd.scope, fd.globals, fd.builtins, noneB fd.defaults)
  | _ => none
def oexB0 (K : PySem.W.Frag) (C : Addr) : Bool := match K.lookup C with
  | some ⟨.type "type", _, .cls cd, sl⟩ => (match cd.mro, sl.toList with
    | .ref C' :: bm, [_, _, _, _, some (.builtin n), _] => C' == C && n == "ValueError.__new__" && !cd.hasDel && cd.hasDict && PySem.HandSPX.refsVE bm
    | _, _ => false)
  | _ => false
def oexB (K : PySem.W.Frag) (C : Addr) : Bool := oexB0 K C && (He.eqO (PySem.W.findIn K (.ref C) "__setattr__") (some (some (.builtin "object.__setattr__"))) && (decide (PySem.W.subIn K (.ref C) (.type "BaseException") = some true) && (decide (PySem.W.typeIn K (.ref C) = some (.type "type")) && PySem.W.keepIn K (.ref C))))
theorem oexB_ok {K : PySem.W.Frag} {C : Addr} (h : oexB K C = true) : OexC K C := by
  obtain ⟨q, h⟩ := He.ba h
  obtain ⟨h2, h⟩ := He.ba h
  obtain ⟨h3, h⟩ := He.ba h
  obtain ⟨h4, h5⟩ := He.ba h
  refine ⟨?_, He.eqO_ok h2, of_decide_eq_true h3, of_decide_eq_true h4, h5⟩
  unfold oexB0 at q
  split at q
  · rename_i dd cd sl ho
    split at q
    · rename_i C' bm k0 k1 k2 k3 n k5 hm hs
      simp only [Bool.and_eq_true, beq_iff_eq, Bool.not_eq_true'] at q
      obtain ⟨⟨⟨⟨rfl, rfl⟩, hdel⟩, hd'⟩, ht⟩ := q
      obtain ⟨nm, bs, mro, ns, qn, hd, sn, sub, ab, col, del⟩ := cd
      dsimp only at hm hdel hd'
      subst hm hdel hd'
      have hsl : sl = #[k0, k1, k2, k3, some (.builtin "ValueError.__new__"), k5] := by
        obtain ⟨l⟩ := sl
        simp only at hs
        rw [hs]
      subst hsl
      exact ⟨nm, qn, ns, bs, bm, sn, sub, ab, col, dd, k0, k1, k2, k3, k5, ho, ht⟩
    · cases q
  · cases q
/-- the class and its cell -/
def tmCl (K : PySem.W.Frag) : List (Str × Addr) := match K.lookup (He.fAd K tmP) with
  | some ⟨_, _, .func fd, _⟩ => fd.closure
  | _ => []
def tmCc (K : PySem.W.Frag) : Addr := match tmCl K with
  | [(_, c)] => c
  | _ => 0
def tmCd (K : PySem.W.Frag) : Value := match K.lookup (He.fAd K tmP) with
  | some ⟨_, _, .func fd, _⟩ => fd.code
  | _ => .none
def tmFile (file : Str) (K : PySem.W.Frag) (cd : Value) : Bool := match cd with
  | .ref c => (match K.lookup c with
    | some ⟨_, _, .fields vs, _⟩ => (match (vs[2]? : Option Value) with
      | some (.str fl _) => file == fl
      | _ => false)
    | _ => false)
  | _ => false
def tmCell (K : PySem.W.Frag) (cc C : Addr) : Bool := match K.lookup cc with
  | some ⟨_, _, .cell (some (.ref D)), _⟩ => D == C
  | _ => false
def tmB (file : Str) (K : PySem.W.Frag) : Bool :=
  oexB K (He.ga K "TooMany") && (PySem.W.codeIn K (tmCd K) "TooMany.__init__" && (tmFile file K (tmCd K) && (tmCell K (tmCc K) (He.ga K "TooMany") && ((PySem.W.clsIn K (He.ga K "TooMany")).isSome && (decide (PySem.W.mroIn K (He.ga K "TooMany") (.ref (He.ga K "TooMany")) = some true) &&
  (He.eqO (PySem.W.nsIn K cStatics "thirdparty.any") (some none) && (He.eqO (PySem.W.ks_superIn K (He.ga K "TooMany") (He.ga K "TooMany") "__init__") (some (some (.builtin "ValueError.__init__"))) && (decide (PySem.W.subIn K (.ref (He.ga K "TooMany")) (.type "ValueError") = some true) &&
  (He.eqO (PySem.W.findIn K (.ref (He.ga K "TooMany")) "limit") (some none) && (decide (tmCl K = [(("__class__" : Str), tmCc K)])))))))))))
theorem tmB_ok {P : Program} {K : PySem.W.Frag} {mg : Str → Option Value} (h : tmB P.main.file K = true) (hs : mg "super" = none) (ht : (P.main.scope.names.lookup ("super" : Str)).isSome = false) :
    TmC P K mg (He.ga K "TooMany") (tmCc K) (tmCd K) "TooMany.__init__" ∧ tmCl K = [(("__class__" : Str), tmCc K)] := by
  obtain ⟨h1, h⟩ := He.ba h
  obtain ⟨h2, h⟩ := He.ba h
  obtain ⟨h3, h⟩ := He.ba h
  obtain ⟨h4, h⟩ := He.ba h
  obtain ⟨h5, h⟩ := He.ba h
  obtain ⟨h6, h⟩ := He.ba h
  obtain ⟨h7, h⟩ := He.ba h
  obtain ⟨h8, h⟩ := He.ba h
  obtain ⟨h9, h⟩ := He.ba h
  obtain ⟨h10, h11⟩ := He.ba h
  refine ⟨⟨oexB_ok h1, h2, ?_, ?_, h5, of_decide_eq_true h6, hs, ht, He.eqO_ok h7, He.eqO_ok h8, of_decide_eq_true h9, He.eqO_ok h10⟩, of_decide_eq_true h11⟩
  · unfold tmFile at h3
    split at h3
    · rename_i c e
      split at h3
      · rename_i oc od vs osl q
        split at h3
        · rename_i fl tf z
          exact ⟨c, _, _, vs, _, fl, tf, e, q, z, h3⟩
        · cases h3
      · cases h3
    · cases h3
  · unfold tmCell at h4
    split at h4
    · rename_i oc od D osl q
      rw [beq_iff_eq.mp h4] at q
      exact ⟨_, _, _, q⟩
    · cases h4
end TM
set_option Elab.async false
set_option linter.all false
set_option maxRecDepth 100000
set_option maxHeartbeats 1000000
/-! Ex5: a Hook that tells one thing more of the written part. -/
namespace TM
open PySem PySem.Spec PyProof.Rows L2
def asT (g : Addr → Option Obj) (n : Nat) : List Addr := cStatics :: He.asD g n
def obsT {β : Type} (n : Nat) (fa : List He.Fa) (fn : List He.DefD) (o : PySem.W.Frag → β) (g : Addr → Option Obj) : He.AlD × β := (He.obsD fa fn (He.frG g (asT g n)), o (He.frG g (asT g n)))
def hookT {β : Type} (n : Nat) (fa : List He.Fa) (fn : List He.DefD) (o : PySem.W.Frag → β) (v : β) : PySem.W.Hook where
  α := He.AlD × β
  obs := fun s => obsT n fa fn o s.heap.get?
  val := fun _ => (He.valD fn, v)
  says := fun _ h => ∃ K : PySem.W.Frag, K.In h ∧ He.SaysD fa fn K ∧ o K = v
  of := fun _ _ e => ⟨_, He.frG_in, congrArg (fun z : He.AlD × β => z.1) e, congrArg (fun z : He.AlD × β => z.2) e⟩
  keeps := fun _ _ _ ⟨K, hK, c⟩ k => ⟨K, PySem.W.Frag.In.keeps hK k, c⟩
theorem obsT_eq {β : Type} {n : Nat} {fa : List He.Fa} {fn : List He.DefD} {o : PySem.W.Frag → β} {v : β} {g : Addr → Option Obj} {s : Shared} (h : ∀ a, g a = s.heap.get? a) : obsT n fa fn o g = (hookT n fa fn o v).obs s := by
  have e : g = s.heap.get? := funext h
  rw [e] <;> rfl
end TM
set_option Elab.async false
set_option linter.all false
set_option maxRecDepth 100000
set_option maxHeartbeats 1000000
/-! Ex6: rows of exceptions. -/
namespace TM
open PySem PySem.Spec PyProof.Rows L2
def Ext (H H' : Hp) : Prop := ∀ b o, H b = some o → H' b = some o
theorem Ext.refl (H : Hp) : Ext H H := fun _ _ e => e
theorem Ext.trans {H1 H2 H3 : Hp} (a : Ext H1 H2) (b : Ext H2 H3) : Ext H1 H3 := fun x o e => b x o (a x o e)
theorem Ext.upd {H : Hp} {a : Addr} {o : HO} (h : H a = none) : Ext H (upd H a o) := fun b u e => by
  rw [upd_ne (fun z => by rw [z, h] at e; cases e)]
  exact e
/-- a plain exception of the class C at a, its message m -/
def PlAt (H : Hp) (m : Str) (C a : Addr) : Prop := ∃ t, H a = some (ExM C t a) ∧ H t = some (MsT m t)
theorem PlAt.ext {H H' : Hp} {m : Str} {C a : Addr} (h : PlAt H m C a) (e : Ext H H') : PlAt H' m C a := by
  obtain ⟨t, h1, h2⟩ := h
  exact ⟨t, e _ _ h1, e _ _ h2⟩
def PlL (H : Hp) (m : Str) : List Addr → List Addr → Prop := Paired (PlAt H m)
theorem PlL.ext {H H' : Hp} {m : Str} {Cs as : List Addr} (h : PlL H m Cs as) (e : Ext H H') : PlL H' m Cs as := L2.Paired.mapP h fun _ _ z => z.ext e
/-- a row of calls C('m') -/
inductive Exs (m : Str) : List Expr → List Str → Prop
  | nil : Exs m [] []
  | cons {x : Str} {p pc pos : Pos} {j : Nat} {es : List Expr} {xs : List Str} (h : Exs m es xs) : Exs m (.Call (.Name x p) [.Constant (.str m) j pc] [] pos :: es) (x :: xs)
/-- what is wanted of such a class -/
def PlC (X : Cx) (C : Str → Addr) (x : Str) : Prop := (x == ("__debug__" : Str)) = false ∧ PySem.W.excIn X.K (C x) He.veBase "ValueError.__new__" = true ∧ X.mg x = some (.ref (C x)) ∧ PySem.W.keepIn X.K (.ref (C x)) = true
def tExs (m : Str) (Cs : List Addr) : TA := fun σ H Q => ∀ as H', Ext H H' → PlL H' m Cs as → Q (as.map V.ref) H'
theorem pa_exs {X : Cx} {C : Str → Addr} {m : Str} : ∀ {es : List Expr} {xs : List Str}, Exs m es xs → (∀ x ∈ xs, PlC X C x ∧ Gl X x) → PA X es (tExs m (xs.map C))
  | _, _, .nil, _ => ⟨fun pos pins s σ H Q I h => pa_nil.run pos pins s σ H Q I (h [] H (Ext.refl H) .nil)⟩
  | _, _, .cons (x := x) h, hx => by
    obtain ⟨⟨h1, h2, h3, h4⟩, hg⟩ := hx x List.mem_cons_self
    have ih := pa_exs h fun y hy => hx y (List.mem_cons_of_mem _ hy)
    refine ⟨fun pos pins s σ H Q I hq => (pa_cons (pe_exm F.excBase_ValueError h2 h3 h4 hg h1) ih).run pos pins s σ H Q I ?_⟩
    intro a t ha ht hta as H' he hl
    have e1 : Ext H (L2.upd (L2.upd H t (MsT m t)) a (ExM (C x) t a)) := (Ext.upd ht).trans (Ext.upd (by rw [upd_ne (Ne.symm hta)]; exact ha))
    refine hq (a :: as) H' (e1.trans he) (.cons ⟨t, he _ _ upd_same, he _ _ ?_⟩ hl)
    rw [upd_ne hta, upd_same]
end TM
set_option Elab.async false
set_option linter.all false
set_option maxRecDepth 100000
set_option maxHeartbeats 1000000
/-! Ex7: rows of isinstance. -/
namespace TM
open PySem PySem.Spec PyProof.Rows L2
/-- a row of isinstance(v, C) -/
inductive Iss (v : Str) : List Expr → List Str → Prop
  | nil : Iss v [] []
  | cons {y : Str} {p p1 p2 pos : Pos} {es : List Expr} {ys : List Str} (h : Iss v es ys) : Iss v (.Call (.Name "isinstance" p) [.Name v p1, .Name y p2] [] pos :: es) (y :: ys)
def tIss (K : PySem.W.Frag) (C : Str → Addr) (i : Nat) (ys : List Str) : TA := fun σ H Q => ∃ a D, ∃ bit : Str → Bool, σ[i]? = some (some (V.ref a)) ∧ ExAt H a D ∧ L2.ExcC K D ∧ (∀ y ∈ ys, PySem.W.kitOne K (.ref D) (.ref (C y)) = some (bit y)) ∧ Q (ys.map fun y => V.bl (bit y)) H
theorem pa_iss {X : Cx} {C : Str → Addr} {v : Str} {i : Nat} (hN : X.N[i]? = some v) (hv : Vis X.env.scope v) (hd : (v == ("__debug__" : Str)) = false) (hcd : (v == ("__classdict__" : Str)) = false) (hg : Gl X "isinstance") (hm : X.mg "isinstance" = none) :
    ∀ {es : List Expr} {ys : List Str}, Iss v es ys → (∀ y ∈ ys, (y == ("__debug__" : Str)) = false ∧ X.mg y = some (.ref (C y)) ∧ Gl X y) → PA X es (tIss X.K C i ys)
  | _, _, .nil, _ => ⟨fun pos pins s σ H Q I h => by
    obtain ⟨a, D, bit, _, _, _, _, q⟩ := h
    exact pa_nil.run pos pins s σ H Q I q⟩
  | _, _, .cons (y := y) h, hx => by
    obtain ⟨h1, h2, h3⟩ := hx y List.mem_cons_self
    have ih := pa_iss hN hv hd hcd hg hm h fun z hz => hx z (List.mem_cons_of_mem _ hz)
    refine ⟨fun pos pins s σ H Q I hq => (pa_cons (pe_callB call_isV hg hm (by boot_by_name) (pa_cons (pe_var hN hv hd hcd) (pa_cons (pe_glob (v := .ref (C y)) h3 h2 rfl h1) pa_nil))) ih).run pos pins s σ H Q I ?_⟩
    obtain ⟨a, D, bit, e, hx, hc, hk, q⟩ := hq
    exact ⟨_, e, a, D, .ref (C y), .ref (C y), bit y, rfl, hx, hc, fun u r => r, hk y List.mem_cons_self, a, D, bit, e, hx, hc, fun z hz => hk z (List.mem_cons_of_mem _ hz), q⟩
end TM
set_option Elab.async false
set_option maxRecDepth 1000000
set_option maxHeartbeats 0
namespace HK12
open PySem PySem.Spec PyProof.Rows L2 TM
abbrev Pg : Program := PySem.Challenge.pw_cutbodies_k12_classes_of_errors
def top (i : Nat) : Stmt := Pg.main.body.getD i (.Pass ⟨0, 0, 0, 0⟩)
def mk (x : Str) (i : Nat) : He.DefD := ⟨(x, none), x, x, defArgs (top i), defBody (top i), defScope (top i), [], []⟩
def fn : List He.DefD := [mk (.ofString "_law_plain") 17, mk (.ofString "_law_kinds") 18, mk (.ofString "law") 19]
def plainN : List Str := [.ofString "InvalidBody", .ofString "InvalidFace", .ofString "InvalidSpot", .ofString "InvalidSpots", .ofString "InvalidSeam", .ofString "InvalidCounts", .ofString "InvalidNumber", .ofString "InvalidTurning", .ofString "InvalidFacts", .ofString "InvalidWay", .ofString "InvalidText", .ofString "Unlike", .ofString "NothingToUndo"]
def kindN : List Str := plainN ++ [.ofString "TooMany"]
def fa : List He.Fa := [.glo (.ofString "_law_plain"), .glo (.ofString "_law_kinds"), .glo (.ofString "law"), .glo (.ofString "BodyError"), .glo (.ofString "TooMany"), .free (.ofString "len"), .free (.ofString "range"), .free (.ofString "isinstance"), .free (.ofString "str"), .free (.ofString "ValueError"), .free (.ofString "super"), .exc (.ofString "BodyError"), .meth (.ofString "TooMany") (.ofString "__init__")]
def exB (K : PySem.W.Frag) (D : Addr) : Bool :=
  He.eqO (PySem.W.findIn K (.ref D) "__getattribute__") (some (some (.builtin "BaseException.__getattribute__"))) && (He.eqO (PySem.W.findIn K (.ref D) "__getattr__") (some none) && (decide (PySem.W.subIn K (.ref D) (.type "BaseException") = some true) && (PySem.W.hasDictIn K D && (He.eqO (PySem.W.findIn K (.ref D) "__class__") (some (some (.builtin "object.__class__"))) && (He.eqO (PySem.W.specialIn K (.builtin "object.__class__") "__get__") (some (some (.builtin "getset_descriptor.__get__"))) && (decide (PySem.W.takesIn K (.builtin "object.__class__") = some true) && (decide (PySem.W.mroIn K D (.type "object") = some true))))))))
def kitB (K : PySem.W.Frag) (x : Str) : Bool := exB K (He.ga K x) && ((kindN.all fun y => decide (PySem.W.kitOne K (.ref (He.ga K x)) (.ref (He.ga K y)) = some (decide (x = y)))) && (decide (PySem.W.kitOne K (.ref (He.ga K x)) (.ref (He.ga K (.ofString "BodyError"))) = some true) && decide (PySem.W.kitOne K (.ref (He.ga K x)) (.type "ValueError") = some true)))
def plB (K : PySem.W.Frag) (x : Str) : Bool := (He.Fa.glo x).ok K && ((He.Fa.exc x).ok K && He.eqO (PySem.W.findIn K (.ref (He.ga K x)) "__str__") (some (some (.builtin "BaseException.__str__"))))
def more (K : PySem.W.Frag) : Bool := tmB Pg.main.file K && (kitB K (.ofString "BodyError") && ((kindN.all fun x => kitB K x) && (plainN.all fun x => plB K x)))
def tmV : TmV := match top 15 with
  | .ClassDef (body := [.FunctionDef (name := n) (args := a) (body := b) (scope := s) ..]) .. => some (n, "TooMany.__init__", a, .stmts b, s, mainGlobals, builtinsNs, true)
  | _ => none
def ot (K : PySem.W.Frag) : Bool × TmV := (more K, tmObs K)
def loose : List Str := [.ofString "__name__", .ofString "BodyError", .ofString "TooMany", .ofString "_law_plain", .ofString "_law_kinds"] ++ plainN
abbrev R : PySem.W.OpenRow := PySem.W.OpenLaw.row PySem.Challenge.rw_cutbodies_k12_classes_of_errors
abbrev hk : PySem.W.Hook := hookT 4 fa fn ot (true, tmV)
def ob (s : PySem.W.SharedT) : He.AlD × (Bool × TmV) := obsT 4 fa fn ot (HandSHeadRun.getT s)
theorem ob_eq (s : PySem.W.SharedT) : ob s = hk.obs s.abs := obsT_eq (HandSHeadRun.getT_eq s)
theorem run (w : World) : HandSHeadRun.RunEq R (PySem.W.view R.prog [19]) hk ob 20000 loose w := by
  intro os
  kernel_rfl
end HK12
set_option Elab.async false
set_option linter.all false
set_option maxRecDepth 1000000
set_option maxHeartbeats 0
namespace HK12
open PySem PySem.Spec PyProof.Rows L2 TM
section
variable {P : Program} {w : World} {K : PySem.W.Frag} {mg : Str → Option Value} {base : Heap} {f : Addr} {fd : FuncData}
abbrev gA (K : PySem.W.Frag) (x : Str) : Addr := He.ga K x
/-- what the head tells of the plain classes -/
def PlF (K : PySem.W.Frag) (mg : Str → Option Value) : Prop := ∀ x ∈ plainN, (x == ("__debug__" : Str)) = false ∧ PySem.W.excIn K (gA K x) He.veBase "ValueError.__new__" = true ∧ mg x = some (.ref (gA K x)) ∧ PySem.W.keepIn K (.ref (gA K x)) = true
theorem sc0 : FnScope ["some"] [] (defScope (top 17)) := ⟨rfl, rfl, rfl, by decide +kernel, rfl, by decide +kernel, by decide +kernel⟩
/-- _law_plain() -/
def spPlain (K : PySem.W.Frag) : Sp := fun vs H Q _ => vs = [] ∧ ∀ l as H', H l = none → Ext H H' → H' l = some (.lst (as.map V.ref)) → PlL H' "m" (plainN.map (gA K)) as → Q (.ref l) H'
def t_plain (K : PySem.W.Frag) : TS :=
  tSeq (tAsg (tLst (tExs "m" ((plainN.take 5).map (gA K)))) (gName 0))
    (tSeq (tAsg (tOp rCat (tVar 0) (tLst (tExs "m" (((plainN.drop 5).take 5).map (gA K))))) (gName 0))
      (tRet (tOp rCat (tVar 0) (tLst (tExs "m" ((plainN.drop 10).map (gA K)))))))
theorem pss_plain {X : Cx} (hK : X.K = K) (hmg : X.mg = mg) (F : PlF K mg) (hs : X.env.scope = defScope (top 17)) (hN : X.N = [("some" : Str)]) : PSs X (defBody (top 17)) (t_plain K) := by
  subst hK hmg
  have hx : ∀ x ∈ plainN, PlC X (gA X.K) x ∧ Gl X x := fun x h => ⟨F x h, by
    show X.env.scope.names.lookup x = _
    rw [hs]
    revert x
    decide +kernel⟩
  have hx1 : ∀ x ∈ plainN.take 5, PlC X (gA X.K) x ∧ Gl X x := fun x h => hx x (List.mem_of_mem_take h)
  have hx2 : ∀ x ∈ (plainN.drop 5).take 5, PlC X (gA X.K) x ∧ Gl X x := fun x h => hx x (List.mem_of_mem_drop (List.mem_of_mem_take h))
  have hx3 : ∀ x ∈ plainN.drop 10, PlC X (gA X.K) x ∧ Gl X x := fun x h => hx x (List.mem_of_mem_drop h)
  have v : Vis X.env.scope "some" := .inl (by rw [hs]; rfl)
  have lv : Loc X.env.scope "some" := .inl (by rw [hs]; rfl)
  have hf : X.fn "some" = true ∨ X.env.scope.names.lookup ("some" : Str) = some NameKind.local := .inr (by rw [hs]; rfl)
  have nd : X.N.Nodup := by rw [hN]; decide +kernel
  have h0 : X.N[0]? = some ("some" : Str) := by rw [hN]; rfl
  exact pss_cons (ps_set (i := 0) nd h0 lv (pe_lst (pa_exs (.cons (.cons (.cons (.cons (.cons .nil))))) hx1)))
    (pss_cons (ps_set (i := 0) nd h0 lv (pe_op op_cat (pe_var h0 v) (pe_lst (pa_exs (.cons (.cons (.cons (.cons (.cons .nil))))) hx2))))
      (pss_one (ps_ret (pe_op op_cat (pe_var h0 v) (pe_lst (pa_exs (.cons (.cons (.cons .nil))) hx3))))))
theorem plL_app {H : Hp} {m : Str} : ∀ {Cs as Ds bs : List Addr}, PlL H m Cs as → PlL H m Ds bs → PlL H m (Cs ++ Ds) (as ++ bs)
  | _, _, _, _, .nil, h => h
  | _, _, _, _, .cons a r, h => .cons a (plL_app r h)
theorem ext_none {H H' : Hp} {b : Addr} (e : Ext H H') (h : H' b = none) : H b = none := by
  cases q : H b with
  | none => rfl
  | some o =>
    rw [e _ _ q] at h
    cases h
theorem pl_len {H : Hp} {m : Str} {xs : List Str} {as : List Addr} (h : PlL H m (xs.map (gA K)) as) : as.length = xs.length := by
  rw [← Paired.length h, List.length_map]
theorem pure_plain {vs : List V} {H : Hp} {Q : VK} {E : XK} (h : spPlain K vs H Q E) : t_plain K { nx := fun _ H' => Q .non H', rt := Q } (start [("some" : Str)] vs) H := by
  obtain ⟨rfl, hq⟩ := h
  intro as1 H1 e1 p1
  have n1 := pl_len p1
  have m1 : (plainN.take 5).length = 5 := by decide +kernel
  have m2 : ((plainN.drop 5).take 5).length = 5 := by decide +kernel
  have m3 : (plainN.drop 10).length = 3 := by decide +kernel
  have zl := sizeLine_eq
  refine ⟨by rw [List.length_map]; omega, fun l1 hl1 => ?_⟩
  refine ⟨_, rfl, ?_⟩
  intro as2 H2 e2 p2
  have n2 := pl_len p2
  refine ⟨by rw [List.length_map]; omega, fun l2 hl2 => ?_⟩
  have c1 : upd H2 l2 (.lst (as2.map V.ref)) l1 = some (.lst (as1.map V.ref)) := Ext.upd hl2 _ _ (e2 _ _ upd_same)
  refine ⟨l1, l2, _, _, rfl, rfl, c1, upd_same, by rw [List.length_map, List.length_map]; omega, fun l3 hl3 => ?_⟩
  refine ⟨_, rfl, ?_⟩
  intro as3 H3 e3 p3
  have n3 := pl_len p3
  refine ⟨by rw [List.length_map]; omega, fun l4 hl4 => ?_⟩
  have c2 : upd H3 l4 (.lst (as3.map V.ref)) l3 = some (.lst (as1.map V.ref ++ as2.map V.ref)) := Ext.upd hl4 _ _ (e3 _ _ upd_same)
  refine ⟨l3, l4, _, _, rfl, rfl, c2, upd_same, by rw [List.length_append, List.length_map, List.length_map, List.length_map]; omega, fun l5 hl5 => ?_⟩
  have x4 : Ext H3 (upd (upd H3 l4 (.lst (as3.map V.ref))) l5 (.lst (as1.map V.ref ++ as2.map V.ref ++ as3.map V.ref))) := (Ext.upd hl4).trans (Ext.upd hl5)
  have x3 : Ext H2 _ := ((Ext.upd hl2).trans (Ext.upd hl3)).trans (e3.trans x4)
  have x2 : Ext H1 _ := ((Ext.upd hl1).trans e2).trans x3
  have e : plainN = plainN.take 5 ++ (plainN.drop 5).take 5 ++ plainN.drop 10 := by decide +kernel
  have hn : H l5 = none := ext_none ((((e1.trans (Ext.upd hl1)).trans e2).trans ((Ext.upd hl2).trans (Ext.upd hl3))).trans (e3.trans (Ext.upd hl4))) hl5
  refine hq l5 (as1 ++ as2 ++ as3) _ hn (e1.trans x2) ?_ ?_
  · rw [upd_same, List.map_append, List.map_append]
  · rw [e, List.map_append, List.map_append]
    exact plL_app (plL_app (p1.ext x2) (p2.ext x3)) (p3.ext x4)
/-- what the head tells of the classes' names -/
def KdF (K : PySem.W.Frag) (mg : Str → Option Value) : Prop := ∀ y ∈ kindN, (y == ("__debug__" : Str)) = false ∧ mg y = some (.ref (gA K y))
theorem sc1 : FnScope ["e", "some"] ["e"] (defScope (top 18)) := ⟨rfl, rfl, rfl, by decide +kernel, rfl, by decide +kernel, by decide +kernel⟩
/-- _law_kinds(e) -/
def spKinds (K : PySem.W.Frag) : Sp := fun vs H Q _ => ∃ a D, ∃ bit : Str → Bool, vs = [.ref a] ∧ ExAt H a D ∧ L2.ExcC K D ∧ (∀ y ∈ kindN, PySem.W.kitOne K (.ref D) (.ref (gA K y)) = some (bit y)) ∧
  ∀ l H', H l = none → Ext H H' → H' l = some (.lst (kindN.map fun y => V.bl (bit y))) → Q (.ref l) H'
abbrev k3 (i : Nat) : List Str := (kindN.drop i).take 3
def t_kinds (K : PySem.W.Frag) : TS :=
  tSeq (tAsg (tLst (tIss K (gA K) 0 (k3 0))) (gName 1))
    (tSeq (tAsg (tOp rCat (tVar 1) (tLst (tIss K (gA K) 0 (k3 3)))) (gName 1))
      (tSeq (tAsg (tOp rCat (tVar 1) (tLst (tIss K (gA K) 0 (k3 6)))) (gName 1))
        (tSeq (tAsg (tOp rCat (tVar 1) (tLst (tIss K (gA K) 0 (k3 9)))) (gName 1))
          (tRet (tOp rCat (tVar 1) (tLst (tIss K (gA K) 0 (k3 12))))))))
theorem pss_kinds {X : Cx} (hK : X.K = K) (hmg : X.mg = mg) (F : KdF K mg) (hI : mg "isinstance" = none) (hs : X.env.scope = defScope (top 18)) (hN : X.N = [("e" : Str), ("some" : Str)]) : PSs X (defBody (top 18)) (t_kinds K) := by
  subst hK hmg
  have hx : ∀ x ∈ kindN, (x == ("__debug__" : Str)) = false ∧ X.mg x = some (.ref (gA X.K x)) ∧ Gl X x := fun x h => ⟨(F x h).1, (F x h).2, by
    show X.env.scope.names.lookup x = _
    rw [hs]
    revert x
    decide +kernel⟩
  have hxi : ∀ i, ∀ x ∈ k3 i, (x == ("__debug__" : Str)) = false ∧ X.mg x = some (.ref (gA X.K x)) ∧ Gl X x := fun i x h => hx x (List.mem_of_mem_drop (List.mem_of_mem_take h))
  have hg : Gl X "isinstance" := by
    show X.env.scope.names.lookup _ = _
    rw [hs]
    rfl
  have v0 : Vis X.env.scope "e" := .inl (by rw [hs]; rfl)
  have v : Vis X.env.scope "some" := .inl (by rw [hs]; rfl)
  have lv : Loc X.env.scope "some" := .inl (by rw [hs]; rfl)
  have hf : X.fn "some" = true ∨ X.env.scope.names.lookup ("some" : Str) = some NameKind.local := .inr (by rw [hs]; rfl)
  have nd : X.N.Nodup := by rw [hN]; decide +kernel
  have h0 : X.N[0]? = some ("e" : Str) := by rw [hN]; rfl
  have h1 : X.N[1]? = some ("some" : Str) := by rw [hN]; rfl
  have pi : ∀ {es : List Expr} {i : Nat}, Iss "e" es (k3 i) → PA X es (tIss X.K (gA X.K) 0 (k3 i)) := fun {es i} h => pa_iss h0 v0 (by decide) (by decide) hg hI h (hxi i)
  exact pss_cons (ps_set (i := 1) nd h1 lv (pe_lst (pi (i := 0) (.cons (.cons (.cons .nil))))))
    (pss_cons (ps_set (i := 1) nd h1 lv (pe_op op_cat (pe_var h1 v) (pe_lst (pi (i := 3) (.cons (.cons (.cons .nil)))))))
      (pss_cons (ps_set (i := 1) nd h1 lv (pe_op op_cat (pe_var h1 v) (pe_lst (pi (i := 6) (.cons (.cons (.cons .nil)))))))
        (pss_cons (ps_set (i := 1) nd h1 lv (pe_op op_cat (pe_var h1 v) (pe_lst (pi (i := 9) (.cons (.cons (.cons .nil)))))))
          (pss_one (ps_ret (pe_op op_cat (pe_var h1 v) (pe_lst (pi (i := 12) (.cons (.cons .nil))))))))))
theorem ExAt.ext {H H' : Hp} {a D : Addr} (h : ExAt H a D) (e : Ext H H') : ExAt H' a D := by
  rcases h with ⟨t, h⟩ | ⟨d, fs, h1, h2⟩
  · exact .inl ⟨t, e _ _ h⟩
  · exact .inr ⟨d, fs, e _ _ h1, e _ _ h2⟩
theorem pure_kinds {vs : List V} {H : Hp} {Q : VK} {E : XK} (h : spKinds K vs H Q E) : t_kinds K { nx := fun _ H' => Q .non H', rt := Q } (start [("e" : Str), ("some" : Str)] vs) H := by
  obtain ⟨a, D, bit, rfl, hx, hc, hk, hq⟩ := h
  have hki : ∀ i, ∀ y ∈ k3 i, PySem.W.kitOne K (.ref D) (.ref (gA K y)) = some (bit y) := fun i y h => hk y (List.mem_of_mem_drop (List.mem_of_mem_take h))
  have m0 : (k3 0).length = 3 := by decide +kernel
  have m3 : (k3 3).length = 3 := by decide +kernel
  have m6 : (k3 6).length = 3 := by decide +kernel
  have m9 : (k3 9).length = 3 := by decide +kernel
  have m12 : (k3 12).length = 2 := by decide +kernel
  have zl := sizeLine_eq
  refine ⟨a, D, bit, rfl, hx, hc, hki 0, by rw [List.length_map]; omega, fun l1 hl1 => ⟨_, rfl, ?_⟩⟩
  have x1 : Ext H _ := Ext.upd (o := .lst ((k3 0).map fun y => V.bl (bit y))) hl1
  refine ⟨a, D, bit, rfl, (ExAt.ext hx x1), hc, hki 3, by rw [List.length_map]; omega, fun l2 hl2 => ?_⟩
  refine ⟨l1, l2, _, _, rfl, rfl, Ext.upd hl2 _ _ upd_same, upd_same, by simp only [List.length_append, List.length_map]; omega, fun l3 hl3 => ?_⟩
  have x3 : Ext H _ := (x1.trans (Ext.upd hl2)).trans (Ext.upd (o := .lst (((k3 0).map fun y => V.bl (bit y)) ++ ((k3 3).map fun y => V.bl (bit y)))) hl3)
  refine ⟨_, rfl, ?_⟩
  refine ⟨a, D, bit, rfl, (ExAt.ext hx x3), hc, hki 6, by rw [List.length_map]; omega, fun l4 hl4 => ?_⟩
  refine ⟨l3, l4, _, _, rfl, rfl, Ext.upd hl4 _ _ upd_same, upd_same, by simp only [List.length_append, List.length_map]; omega, fun l5 hl5 => ?_⟩
  have x5 : Ext H _ := (x3.trans (Ext.upd hl4)).trans (Ext.upd (o := .lst (((k3 0).map fun y => V.bl (bit y)) ++ ((k3 3).map fun y => V.bl (bit y)) ++ ((k3 6).map fun y => V.bl (bit y)))) hl5)
  refine ⟨_, rfl, ?_⟩
  refine ⟨a, D, bit, rfl, (ExAt.ext hx x5), hc, hki 9, by rw [List.length_map]; omega, fun l6 hl6 => ?_⟩
  refine ⟨l5, l6, _, _, rfl, rfl, Ext.upd hl6 _ _ upd_same, upd_same, by simp only [List.length_append, List.length_map]; omega, fun l7 hl7 => ?_⟩
  have x7 : Ext H _ := (x5.trans (Ext.upd hl6)).trans (Ext.upd (o := .lst (((k3 0).map fun y => V.bl (bit y)) ++ ((k3 3).map fun y => V.bl (bit y)) ++ ((k3 6).map fun y => V.bl (bit y)) ++ ((k3 9).map fun y => V.bl (bit y)))) hl7)
  refine ⟨_, rfl, ?_⟩
  refine ⟨a, D, bit, rfl, (ExAt.ext hx x7), hc, hki 12, by rw [List.length_map]; omega, fun l8 hl8 => ?_⟩
  refine ⟨l7, l8, _, _, rfl, rfl, Ext.upd hl8 _ _ upd_same, upd_same, by simp only [List.length_append, List.length_map]; omega, fun l9 hl9 => ?_⟩
  have x9 : Ext H _ := (x7.trans (Ext.upd hl8)).trans (Ext.upd (o := .lst (((k3 0).map fun y => V.bl (bit y)) ++ ((k3 3).map fun y => V.bl (bit y)) ++ ((k3 6).map fun y => V.bl (bit y)) ++ ((k3 9).map fun y => V.bl (bit y)) ++ ((k3 12).map fun y => V.bl (bit y)))) hl9)
  have e : kindN = k3 0 ++ k3 3 ++ k3 6 ++ k3 9 ++ k3 12 := by decide +kernel
  have hn : H l9 = none := ext_none (x7.trans (Ext.upd hl8)) hl9
  refine hq l9 _ hn x9 ?_
  rw [upd_same, e]
  simp only [List.map_append]
end
end HK12
set_option Elab.async false
set_option linter.all false
set_option maxRecDepth 1000000
set_option maxHeartbeats 0
namespace HK12
open PySem PySem.Spec PyProof.Rows L2 TM
abbrev TMs : Str := .ofString "TooMany"
abbrev BEs : Str := .ofString "BodyError"
/-- what the head tells of the errors' classes -/
structure LawF (K : PySem.W.Frag) (mg : Str → Option Value) (fI : Addr) : Prop where
  pl : PlF K mg
  kd : KdF K mg
  gB : mg "BodyError" = some (.ref (gA K BEs))
  xB : PySem.W.excIn K (gA K BEs) He.veBase "ValueError.__new__" = true
  kB : PySem.W.keepIn K (.ref (gA K BEs)) = true
  gT : mg "TooMany" = some (.ref (gA K TMs))
  oT : OexC K (gA K TMs)
  xT : XfC K (gA K TMs)
  lT : PySem.W.findIn K (.ref (gA K TMs)) "limit" = some none
  iT : PySem.W.findIn K (.ref (gA K TMs)) "__init__" = some (some (.ref fI))
  tI : PySem.W.typeIn K (.ref fI) = some (.type "function")
  nLen : mg "len" = none
  nRng : mg "range" = none
  nIs : mg "isinstance" = none
  nStr : mg "str" = none
  nVE : mg "ValueError" = none
  exc : ∀ x ∈ kindN, L2.ExcC K (gA K x)
  excB : L2.ExcC K (gA K BEs)
  kit : ∀ x ∈ kindN, ∀ y ∈ kindN, PySem.W.kitOne K (.ref (gA K x)) (.ref (gA K y)) = some (decide (x = y))
  kitB : ∀ y ∈ kindN, PySem.W.kitOne K (.ref (gA K BEs)) (.ref (gA K y)) = some false
  toB : ∀ x ∈ kindN, PySem.W.kitOne K (.ref (gA K x)) (.ref (gA K BEs)) = some true
  toV : ∀ x ∈ kindN, PySem.W.kitOne K (.ref (gA K x)) (.type "ValueError") = some true
  bV : PySem.W.kitOne K (.ref (gA K BEs)) (.type "ValueError") = some true
  str : ∀ x ∈ plainN, PySem.W.findIn K (.ref (gA K x)) "__str__" = some (some (.builtin "BaseException.__str__"))
abbrev lawN : List Str := ["script", "some", "at", "cell", "other", "one", "e"]
theorem sc2 : FnScope lawN ["script"] (defScope (top 19)) := ⟨rfl, rfl, rfl, by decide +kernel, rfl, by decide +kernel, by decide +kernel⟩
def spLaw (K : PySem.W.Frag) : Sp := fun vs H Q _ => ∃ (a : Addr) (ns : List Int), vs = [.ref a] ∧ SqL K H a (ns.map V.int) ∧ ns.length ≤ 63 ∧ ∀ H', Q (.bl true) H'

theorem kind_row : ∀ i, i < 14 → (kindN.map fun y => decide (kindN.getD i .empty = y)) = (List.range 14).map fun o => decide (o = i) := by decide +kernel
theorem kind_shaped : ∀ i, i < 14 → SeqAt.shaped (.list (((List.range 14).map fun o => decide (o = i)).map PyData.bool)) = true := by decide +kernel
theorem kind_none : (kindN.map fun _ => false) = List.replicate 14 false := by decide +kernel
theorem none_shaped : SeqAt.shaped (.list ((List.replicate 14 false).map PyData.bool)) = true := by decide +kernel
theorem m_shaped : SeqAt.shaped (.list ((List.replicate 13 (Str.ofString "m")).map PyData.str)) = true := by decide +kernel
theorem dpa_bl {K : PySem.W.Frag} {H : Hp} : ∀ bs : List Bool, L2.DpAll K H (bs.map V.bl) (bs.map PyData.bool)
  | [] => .nil
  | b :: bs => .cons (.bl b) (dpa_bl bs)
theorem dpa_strs {K : PySem.W.Frag} {H : Hp} : ∀ bs : List Str, L2.DpAll K H (bs.map V.str) (bs.map PyData.str)
  | [] => .nil
  | b :: bs => .cons (.str b) (dpa_strs bs)
theorem paired_get {α β : Type} {F : α → β → Prop} : ∀ {l1 : List α} {l2 : List β}, Paired F l1 l2 → ∀ (i : Nat) (x : α), l1[i]? = some x → ∃ y, l2[i]? = some y ∧ F x y
  | _, _, .nil, i, x, h => by simp at h
  | _, _, .cons h t, 0, x, e => by simp at e; subst e; exact ⟨_, rfl, h⟩
  | _, _, .cons h t, i + 1, x, e => by simpa using paired_get t i x (by simpa using e)
theorem kind_lt {i : Nat} (h : i < 13) : plainN[i]? = some (kindN.getD i .empty) := by
  revert i
  decide +kernel
theorem kind_mem {i : Nat} (h : i < 14) : kindN.getD i .empty ∈ kindN := by
  revert i
  decide +kernel
theorem kind_last : kindN.getD 13 .empty = TMs := by decide +kernel
section
variable {P : Program} {w : World} {K : PySem.W.Frag} {mg : Str → Option Value} {base : Heap} {f fP fK fI : Addr} {fd fdP fdK fdI : FuncData}
theorem ext_tm {H : Hp} {C t d : Addr} {fs : List (Str × V)} {u : HO} (ht : H t = none) (hd : upd H t u d = none) (hdt : d ≠ t) : Ext H (upd (upd (upd H t u) d (exd d fs)) t (exo t C (some d))) := fun b o e => by
  have h1 : b ≠ t := ne_of_none e ht
  have h2 : b ≠ d := fun z => by
    rw [z] at e
    rw [upd_ne hdt, e] at hd
    cases hd
  rw [upd_ne h1, upd_ne h2, upd_ne h1]
  exact e
theorem SqL.ext' {H H' : Hp} {a : Addr} {xs : List V} (h : SqL K H a xs) (e : Ext H H') : SqL K H' a xs :=
  h.elim (fun h => .inl (h.elim (fun h => .inl (e _ _ h)) fun ⟨o, h⟩ => .inr ⟨o, e _ _ h⟩)) fun h => .inr h
/-- the list some -/
structure SomeAt (K : PySem.W.Frag) (p : Addr) (as : List Addr) (H : Hp) : Prop where
  lst : H p = some (.lst (as.map V.ref))
  len : as.length = 14
  at_ : ∀ i (h : i < 14), ∃ a, as[i]? = some a ∧ ExAt H a (gA K (kindN.getD i .empty))
theorem SomeAt.ext {p : Addr} {as : List Addr} {H H' : Hp} (s : SomeAt K p as H) (e : Ext H H') : SomeAt K p as H' := ⟨e _ _ s.lst, s.len, fun i h => by
  obtain ⟨a, h1, h2⟩ := s.at_ i h
  exact ⟨a, h1, ExAt.ext h2 e⟩⟩
theorem ok_law (F : FunD K "law" "law" (defArgs (top 19)) (defBody (top 19)) (defScope (top 19)) [] [] f fd) (L : LawF K mg fI)
    (GI : FnOk P w K mg base CX0 1 fI fdI ["self", "limit"] (spTm (gA K TMs))) (bI : Binds K fdI ["self", "limit"] [])
    (GP : FnOk P w K mg base CX0 2 fP fdP [] (spPlain K)) (bP : Binds K fdP [] []) (mP : mg "_law_plain" = some (.ref fP)) (kP : PySem.W.keepIn K (.ref fP) = true)
    (GK : FnOk P w K mg base CX0 2 fK fdK ["e"] (spKinds K)) (bK : Binds K fdK ["e"] []) (mK : mg "_law_kinds" = some (.ref fK)) (kK : PySem.W.keepIn K (.ref fK) = true) :
    FnOk P w K mg base CX0 5 f fd ["script"] (spLaw K) := by
  refine F.ok sc2 (fun vs H Q E h => ?_) (fun cdv A outer s H vs Q E hr h => ?_)
  · obtain ⟨a, ns, rfl, _⟩ := h
    rfl
  have hr2 : Room 2 _ := hr.mono (by decide)
  have hu2 : (A.deeper (envOfC (Str.ofString "law") (defScope (top 19)) s.heap.objs.size f cdv)).units + 2 < cLine := Nat.lt_of_le_of_lt (Nat.add_le_add_left (by decide : 2 ≤ 64) _) hr.units
  refine ⟨_, PSs.nox (pss_cons (ps_set (i := 1) sc2.nd rfl (.inl rfl) (pe_op op_cat (pe_call0 GP hr2 rfl mP kP bP .nil pass0) (pe_lst (pa_cons (pe_mkV L.oT L.iT L.tI GI hr2 bI pass0 rfl L.gT (pa_cons pe_int pa_nil)) pa_nil))))
      (pss_cons (ps_for PassesOwn.never rfl (pi_range1 rfl L.nRng (pa_cons (pe_callB call_len_seq rfl L.nLen boot_len (pa_cons (pv 1) pa_nil)) pa_nil)) (pg_name (i := 2) sc2.nd rfl (.inr rfl))
        (pss_cons (ps_if (PW.pt (pw_or (pt_not (pt_val (pe_callB call_isV rfl L.nIs (by boot_by_name) (pa_cons (pe_ix ix_list (pv 1) (pv 2) (fun _ _ => rfl)) (pa_cons (pe_glob (v := .ref (gA K BEs)) rfl L.gB rfl) pa_nil)))))
            (pw_or1 (pt_not (pt_val (pe_callB call_isV rfl L.nIs (by boot_by_name) (pa_cons (pe_ix ix_list (pv 1) (pv 2) (fun _ _ => rfl)) (pa_cons (pe_bltn (v := .ty "ValueError") rfl L.nVE (by boot_by_name) rfl) pa_nil)))))))) (pss_one (ps_ret pe_bl)) pss_nil)
          (pss_one (ps_if (pt_cmpR (op_neD hr.units) (pe_call GK hr2 rfl mK kK bK .nil pass0 (pa_cons (pe_ix ix_list (pv 1) (pv 2) (fun _ _ => rfl)) pa_nil))
            (pe_lc (own := [("other", 4)]) (g := gName 4) (tt := tYes) rfl sc2.nd (pi_range1 rfl L.nRng (pa_cons (pe_callB call_len_seq rfl L.nLen boot_len (pa_cons (pv 1) pa_nil)) pa_nil)) (blkOk_by (N := lawN) (sc := defScope (top 19)) (by decide +kernel)) (fun _ _ _ _ _ => pg_name (i := 4) sc2.nd rfl (.inl rfl)) (fun _ _ _ _ _ => pts_nil) (fun _ _ _ _ _ => pe_cmpR op_eq (pv 4) (pv 2) (nomark _))) (nomark _)) (pss_one (ps_ret pe_bl)) pss_nil))))
      (pss_cons (ps_if (PW.pt (pw_or (pt_cmpR (op_neD hr.units) (pe_call GK hr2 rfl mK kK bK .nil pass0 (pa_cons (pe_exm PySem.F.excBase_ValueError L.xB L.gB L.kB rfl) pa_nil)) (pe_op op_rep (pe_lst (pa_cons pe_bl pa_nil)) pe_int) (nomark _))
          (pw_or1 (pt_not (pt_val (pe_callB call_isV rfl L.nIs (by boot_by_name) (pa_cons (pe_exm PySem.F.excBase_ValueError L.xB L.gB L.kB rfl) (pa_cons (pe_bltn (v := .ty "ValueError") rfl L.nVE (by boot_by_name) rfl) pa_nil)))))))) (pss_one (ps_ret pe_bl)) pss_nil)
      (pss_cons (ps_for PassesOwn.never rfl (pi_list (pe_op op_cat (pe_lst (pa_cons pe_int pa_nil))
          (pe_lc (own := [("one", 5)]) (g := gName 5) rfl sc2.nd (pi_list (pv 0)) (blkOk_by (N := lawN) (sc := defScope (top 19)) (by decide +kernel)) (fun _ _ _ _ _ => pg_name (i := 5) sc2.nd rfl (.inl rfl))
            (fun _ _ _ _ _ => pts_one (pt_chain op_lt op_lt (pe_op op_sub pe_int (pe_op op_pow pe_int pe_int)) (pv 5) (pe_op op_pow pe_int pe_int))) (fun _ _ _ _ _ => pv 5)))) (pg_name (i := 3) sc2.nd rfl (.inl rfl))
        (pss_one (ps_if (pt_cmpR op_ne (TM.pe_fld (pe_mkV L.oT L.iT L.tI GI hr2 bI pass0 rfl L.gT (pa_cons (pv 3) pa_nil)) rfl) (pv 3) (nomark _)) (pss_one (ps_ret pe_bl)) pss_nil)))
      (pss_one (ps_ret (pe_cmpR (op_eqD hr.units) (pe_lc (own := [("e", 6)]) (g := gName 6) (tt := tYes) rfl sc2.nd (pi_list (pe_call0 GP hr2 rfl mP kP bP .nil pass0)) (blkOk_by (N := lawN) (sc := defScope (top 19)) (by decide +kernel)) (fun _ _ _ _ _ => pg_name (i := 6) sc2.nd rfl (.inl rfl)) (fun _ _ _ _ _ => pts_nil)
          (fun _ _ _ _ _ => pe_callTy (r := rStrV K) (by exact call_strV (by exact hu2)) rfl L.nStr (by boot_by_name) (pa_cons (pv 6) pa_nil))) (pe_op op_rep (pe_lst (pa_cons pe_str pa_nil)) pe_int) (nomark _)))))))), ?_⟩
  obtain ⟨a, ns, rfl, hS, hlen, hQ⟩ := h
  have zl := sizeLine_eq
  refine ⟨rfl, fun l as H1 hl e1 hH1 hp => ⟨by decide, fun t ht => ⟨t, .int 12, rfl, upd_same, fun d hd hdt => ⟨rfl, ?_⟩⟩⟩⟩
  have n1 := pl_len hp
  have m13 : plainN.length = 13 := by decide +kernel
  have eT := ext_tm (C := gA K TMs) (fs := [("limit", V.int 12)]) ht hd hdt
  refine ⟨by show 1 ≤ sizeLine; decide, fun q hq => ⟨l, q, as.map V.ref, [V.ref t], rfl, rfl, (eT.trans (Ext.upd hq)) _ _ hH1, upd_same, by simp only [List.length_map, List.length_cons, List.length_nil]; omega, fun p hp' => ?_⟩⟩
  have eP := (eT.trans (Ext.upd (o := .lst [V.ref t]) hq)).trans (Ext.upd (o := .lst (as.map V.ref ++ [V.ref t])) hp')
  have SA : SomeAt K p (as ++ [t]) (upd (upd (upd (upd (upd H1 t (exo t (gA K TMs) none)) d (exd d [("limit", V.int 12)])) t (exo t (gA K TMs) (some d))) q (.lst [V.ref t])) p (.lst (as.map V.ref ++ [V.ref t]))) := by
    refine ⟨by rw [upd_same, List.map_append]; rfl, by simp only [List.length_append, List.length_cons, List.length_nil]; omega, fun i hi => ?_⟩
    by_cases h13 : i < 13
    · obtain ⟨x, hx, hxp⟩ := paired_get hp i (gA K (kindN.getD i .empty)) (by rw [List.getElem?_map, kind_lt h13]; rfl)
      obtain ⟨tt, y1, y2⟩ := hxp
      exact ⟨x, by rw [List.getElem?_append_left (by omega)]; exact hx, .inl ⟨tt, eP _ _ y1⟩⟩
    · have e13 : i = 13 := by omega
      subst e13
      refine ⟨t, by rw [List.getElem?_append_right (by omega), show 13 - as.length = 0 by omega]; rfl, .inr ⟨d, [("limit", V.int 12)], ?_, ?_⟩⟩
      · rw [kind_last]
        exact (Ext.upd hp') _ _ ((Ext.upd hq) _ _ upd_same)
      · exact (Ext.upd hp') _ _ ((Ext.upd hq) _ _ (by rw [upd_ne hdt, upd_same]))
  have SS := SqL.ext' (SqL.ext' hS e1) eP
  have nP : H1 l = some (.lst (as.map V.ref)) := hH1
  generalize upd (upd (upd (upd (upd H1 t (exo t (gA K TMs) none)) d (exd d [("limit", V.int 12)])) t (exo t (gA K TMs) (some d))) q (.lst [V.ref t])) p (.lst (as.map V.ref ++ [V.ref t])) = H4 at SA SS
  have l14 : ((as ++ [t]).map V.ref).length = 14 := by rw [List.length_map]; exact SA.len
  -- the loop over the list
  refine ⟨.ref p, rfl, p, _, rfl, .inl (SqL.of SA.lst), 14, by rw [l14]; rfl, by decide, by decide, ?_⟩
  refine for_range (lo := 0) (n := 14) (fun i σ H' => (∃ v, σ = [some (.ref a), some (.ref p), v, none, none, none, none]) ∧ Ext H4 H') ⟨⟨none, rfl⟩, Ext.refl _⟩ ?_ ?_
  · rintro i σ H' hi ⟨⟨v, rfl⟩, e⟩
    have SA' := SA.ext e
    obtain ⟨x, hx, hxa⟩ := SA'.at_ i hi
    have hat : atI ((as ++ [t]).map V.ref) (0 + (i : Int)) = some (V.ref x) := by
      rw [Int.zero_add]
      exact atI_nat (by rw [List.getElem?_map, hx]; rfl)
    have hk := kind_mem hi
    refine ⟨.ref p, rfl, .int (0 + i), rfl, p, _, _, .ref x, rfl, rfl, SqL.of SA'.lst, hat, x, _, .ref (gA K BEs), .ref (gA K BEs), true, rfl, hxa, L.exc _ hk, fun u r => r, L.toB _ hk, true, rfl, iteF ?_⟩
    refine ⟨.ref p, rfl, .int (0 + i), rfl, p, _, _, .ref x, rfl, rfl, SqL.of SA'.lst, hat, x, _, .ty "ValueError", .type "ValueError", true, rfl, hxa, L.exc _ hk, fun u r => r, L.toV _ hk, true, rfl, iteF ?_⟩
    refine ⟨.ref p, rfl, .int (0 + i), rfl, p, _, _, .ref x, rfl, rfl, SqL.of SA'.lst, hat, x, _, fun y => decide (kindN.getD i .empty = y), rfl, hxa, L.exc _ hk, fun y hy => L.kit _ hk y hy, fun l5 H5 hl5 e5 h5 => ?_⟩
    have SA5 := SA'.ext e5
    refine ⟨.ref p, rfl, p, _, rfl, .inl (SqL.of SA5.lst), 14, by rw [l14]; rfl, by decide, by decide, fun D hD => ?_⟩
    refine lc_range (lo := 0) (n := 14) (fun j H => H D = some (.lst (((List.range j).map fun o => decide (o = i)).map V.bl)) ∧ Ext H5 H) ⟨upd_same, Ext.upd hD⟩ ?_ ?_
    · rintro j H6 hj ⟨h6, e6⟩
      refine ⟨rfl, ?_⟩
      show tOp rEq (tVar 4) (tVar 2) _ _ _
      refine ⟨_, rfl, _, rfl, rfl, _, h6, by rw [List.length_map, List.length_map, List.length_range]; omega, ?_, ?_⟩
      · rw [upd_same, List.range_succ, List.map_append, List.map_append]
        have ej : decide (V.int (0 + (j : Int)) = V.int (0 + (i : Int))) = decide (j = i) := by
          rw [dec_int]
          rw [Bool.eq_iff_iff]
          simp
          omega
        rw [ej]
        rfl
      · intro b o hb
        have hbD : b ≠ D := ne_of_none hb hD
        rw [upd_ne hbD]
        exact e6 _ _ hb
    · rintro H6 ⟨h6, e6⟩
      have ed : (kindN.map fun y => V.bl (decide (kindN.getD i .empty = y))) = ((List.range 14).map fun o => decide (o = i)).map V.bl := by
        rw [← kind_row i hi, List.map_map]
        rfl
      refine ⟨.list (((List.range 14).map fun o => decide (o = i)).map PyData.bool), .list (((List.range 14).map fun o => decide (o = i)).map PyData.bool), .lst (SqL.of (e6 _ _ (by rw [h5, ed]))) (dpa_bl _), .lst (SqL.of h6) (dpa_bl _), kind_shaped i hi, kind_shaped i hi, _, rfl, ?_⟩
      rw [SeqAt.eqv_refl _ (SeqAt.canLay_of_shaped (kind_shaped i hi))]
      exact iteF ⟨⟨_, rfl⟩, e.trans (e5.trans e6)⟩
  rintro σ H' ⟨⟨v, rfl⟩, e⟩
  -- an error of the base class
  intro b tb hb htb hbt
  have eB : Ext H' (upd (upd H' tb (MsT "m" tb)) b (ExM (gA K BEs) tb b)) := (Ext.upd htb).trans (Ext.upd (by rw [upd_ne (Ne.symm hbt)]; exact hb))
  refine ⟨b, gA K BEs, fun _ => false, rfl, .inl ⟨tb, upd_same⟩, L.excB, fun y hy => L.kitB y hy, fun l6 H6 hl6 e6 h6 => ?_⟩
  refine ⟨by decide, fun q7 hq7 => ⟨q7, 14, _, rfl, rfl, upd_same, by decide, by decide, by decide, fun r7 hr7 => ?_⟩⟩
  refine ⟨.list ((List.replicate 14 false).map PyData.bool), .list ((List.replicate 14 false).map PyData.bool), .lst (SqL.of ((Ext.upd hr7) _ _ ((Ext.upd hq7) _ _ (by rw [h6, ← kind_none, List.map_map]; rfl)))) (dpa_bl _), .lst (SqL.of upd_same) (dpa_bl (List.replicate 14 false)), none_shaped, none_shaped, _, rfl, ?_⟩
  rw [SeqAt.eqv_refl _ (SeqAt.canLay_of_shaped none_shaped)]
  refine iteF ?_
  intro b2 tb2 hb2 htb2 hbt2
  refine ⟨b2, gA K BEs, .ty "ValueError", .type "ValueError", true, rfl, .inl ⟨tb2, upd_same⟩, L.excB, fun u r => r, L.bV, true, rfl, iteF ?_⟩
  have e8 := (((e.trans eB).trans e6).trans ((Ext.upd (o := .lst [V.bl false]) hq7).trans (Ext.upd (o := .lst (List.replicate (Int.toNat 14) [V.bl false]).flatten) hr7))).trans ((Ext.upd (o := MsT "m" tb2) htb2).trans (Ext.upd (o := ExM (gA K BEs) tb2 b2) (by rw [upd_ne (Ne.symm hbt2)]; exact hb2)))
  have SS8 := SqL.ext' SS e8
  generalize upd (upd (upd (upd H6 q7 (.lst [V.bl false])) r7 (.lst (List.replicate (Int.toNat 14) [V.bl false]).flatten)) tb2 (MsT "m" tb2)) b2 (ExM (gA K BEs) tb2 b2) = H8 at SS8
  -- the loop over the script
  refine ⟨by decide, fun q9 hq9 => ⟨.ref a, rfl, a, rfl, ⟨_, SqL.ext' SS8 (Ext.upd hq9)⟩, fun D hD => ?_⟩⟩
  refine lc_list (xs := ns.map V.int) (fun i H => (∃ zs : List Int, H D = some (.lst (zs.map V.int)) ∧ zs.length ≤ i) ∧ Ext (upd H8 q9 (.lst [V.int 40])) H) ⟨⟨[], upd_same, Nat.le_refl _⟩, Ext.upd hD⟩ (fun i H _ hP => SqL.ext' SS8 ((Ext.upd hq9).trans hP.2)) ?_ ?_
  · rintro i x H9 hx ⟨⟨zs, hz, hzl⟩, e9⟩
    have hil : i < ns.length := by
      have := (List.getElem?_eq_some_iff.mp hx).1
      rwa [List.length_map] at this
    obtain ⟨z, rfl⟩ : ∃ z, x = V.int z := by
      rw [List.getElem?_map] at hx
      cases en : ns[i]? with
      | none => rw [en] at hx; cases hx
      | some z => rw [en] at hx; exact ⟨z, (Option.some.inj hx).symm⟩
    refine ⟨rfl, 10, 40, rfl, rfl, ⟨by decide, by decide, by decide⟩, 0, _, rfl, rfl, ?_⟩
    refine ⟨_, rfl, _, _, rfl, rfl, _, rfl, ?_⟩
    have put : ∃ acc, H9 D = some (.lst acc) ∧ acc.length < sizeLine ∧ ((∃ zs : List Int, upd H9 D (.lst (acc ++ [V.int z])) D = some (.lst (zs.map V.int)) ∧ zs.length ≤ i + 1) ∧ Ext (upd H8 q9 (.lst [V.int 40])) (upd H9 D (.lst (acc ++ [V.int z])))) := by
      refine ⟨_, hz, by rw [List.length_map]; omega, ⟨zs ++ [z], by rw [upd_same, List.map_append]; rfl, by rw [List.length_append]; simp; omega⟩, fun b o hb => ?_⟩
      rw [upd_ne (ne_of_none hb hD)]
      exact e9 _ _ hb
    refine ite2 (fun _ => ⟨10, 40, rfl, rfl, ⟨by decide, by decide, by decide⟩, _, _, rfl, rfl, _, rfl, ?_⟩) (fun _ => ⟨_, rfl, iteF ⟨⟨zs, hz, by omega⟩, e9⟩⟩)
    exact ite2 (fun _ => ⟨_, rfl, put⟩) (fun _ => ⟨⟨zs, hz, by omega⟩, e9⟩)
  rintro H9 ⟨⟨zs, hz, hzl⟩, e9⟩
  rw [List.length_map] at hzl
  refine ⟨q9, D, _, _, rfl, rfl, e9 _ _ upd_same, hz, by rw [List.length_map]; simp; omega, fun p10 hp10 => ?_⟩
  have h10 : upd H9 p10 (.lst ([V.int 40] ++ zs.map V.int)) p10 = some (.lst ((40 :: zs).map V.int)) := by rw [upd_same]; rfl
  refine ⟨p10, rfl, ⟨_, SqL.of h10⟩, ?_⟩
  generalize upd H9 p10 (.lst ([V.int 40] ++ zs.map V.int)) = H10 at h10
  refine for_list (xs := (40 :: zs).map V.int) (fun i σ H => (∃ v u, σ = [some (.ref a), some (.ref p), v, u, none, none, none]) ∧ Ext H10 H) ⟨⟨v, none, rfl⟩, Ext.refl _⟩ (fun i σ H _ hP => SqL.of (hP.2 _ _ h10)) ?_ ?_
  · rintro i x σ H11 hx ⟨⟨v', u', rfl⟩, e11⟩
    obtain ⟨z, rfl⟩ : ∃ z, x = V.int z := by
      rw [List.getElem?_map] at hx
      cases en : (40 :: zs)[i]? with
      | none => rw [en] at hx; cases hx
      | some z => rw [en] at hx; exact ⟨z, (Option.some.inj hx).symm⟩
    refine ⟨.int z, rfl, by show 1 ≤ 1000; decide, fun t2 ht2 => ⟨t2, .int z, rfl, upd_same, fun d2 hd2 hdt2 => ⟨rfl, ?_⟩⟩⟩
    refine ⟨t2, gA K TMs, d2, _, .int z, rfl, upd_same, by rw [upd_ne hdt2, upd_same], L.xT, L.lT, rfl, .int z, rfl, rfl, _, rfl, iteNS rfl ⟨⟨_, _, rfl⟩, e11.trans (ext_tm ht2 hd2 hdt2)⟩⟩
  rintro σ H11 ⟨⟨v', u', rfl⟩, e11⟩
  -- the texts
  refine ⟨rfl, fun l2 as2 H12 hl2 e12 hH12 hp2 => ?_⟩
  have n2 := pl_len hp2
  refine ⟨l2, rfl, ⟨_, SqL.of hH12⟩, fun D2 hD2 => ?_⟩
  refine lc_list (xs := as2.map V.ref) (fun i H => H D2 = some (.lst ((List.replicate i (Str.ofString "m")).map V.str)) ∧ Ext H12 H) ⟨upd_same, Ext.upd hD2⟩ (fun i H _ hP => SqL.of (hP.2 _ _ hH12)) ?_ ?_
  · rintro i x H13 hx ⟨h13, e13⟩
    rw [List.getElem?_map] at hx
    cases en : as2[i]? with
    | none => rw [en] at hx; cases hx
    | some y =>
      rw [en] at hx
      cases hx
      have hi : i < 13 := by
        have := (List.getElem?_eq_some_iff.mp en).1
        omega
      obtain ⟨y', hy', tt, y1, y2⟩ := paired_get hp2 i (gA K (kindN.getD i .empty)) (by rw [List.getElem?_map, kind_lt hi]; rfl)
      rw [en] at hy'
      cases hy'
      have hk : kindN.getD i .empty ∈ plainN := List.mem_of_getElem? (kind_lt hi)
      refine ⟨rfl, ?_⟩
      show tCB (rStrV K) (tCons (tVar 6) tNil) _ _ _
      refine ⟨_, rfl, y, _, tt, "m", rfl, e13 _ _ y1, e13 _ _ y2, L.str _ hk, (L.exc _ (kind_mem (by omega))).hs, _, h13, by rw [List.length_map, List.length_replicate]; omega, ?_, ?_⟩
      · rw [upd_same, List.replicate_succ', List.map_append]
        rfl
      · intro b o hb
        rw [upd_ne (ne_of_none hb hD2)]
        exact e13 _ _ hb
  rintro H13 ⟨h13, e13⟩
  rw [List.length_map, n2, m13] at h13
  refine ⟨by decide, fun q14 hq14 => ⟨q14, 13, _, rfl, rfl, upd_same, by decide, by decide, by decide, fun r14 hr14 => ?_⟩⟩
  refine ⟨.list ((List.replicate 13 (Str.ofString "m")).map PyData.str), .list ((List.replicate 13 (Str.ofString "m")).map PyData.str), .lst (SqL.of ((Ext.upd hr14) _ _ ((Ext.upd hq14) _ _ h13))) (dpa_strs _), .lst (SqL.of upd_same) (dpa_strs (List.replicate 13 (Str.ofString "m"))), m_shaped, m_shaped, ?_⟩
  rw [SeqAt.eqv_refl _ (SeqAt.canLay_of_shaped m_shaped)]
  exact hQ _
end
end HK12
set_option Elab.async false
set_option linter.all false
set_option maxRecDepth 1000000
set_option maxHeartbeats 0
namespace HK12
open PySem PySem.Spec PyProof.Rows L2 TM
def tmSt : Stmt := match top 15 with
  | .ClassDef (body := [s]) .. => s
  | s => s
theorem tmV_eq : tmV = some (.ofString "__init__", .ofString "TooMany.__init__", defArgs tmSt, .stmts (defBody tmSt), defScope tmSt, mainGlobals, builtinsNs, true) := by rfl
section
variable {P : Program} {w : World} {K : PySem.W.Frag} {mg : Str → Option Value} {base : Heap} {f : Addr} {fd : FuncData}
theorem ok_plain (F : FunD K "_law_plain" "_law_plain" (defArgs (top 17)) (defBody (top 17)) (defScope (top 17)) [] [] f fd) (PF : PlF K mg) : FnOk P w K mg base CX0 2 f fd [] (spPlain K) := by
  refine F.ok sc0 (fun vs H Q E h => ?_) (fun cdv A outer s H vs Q E hr h => ⟨t_plain K, PSs.nox (pss_plain rfl rfl PF rfl rfl), pure_plain h⟩)
  obtain ⟨rfl, _⟩ := h
  rfl
theorem ok_kinds (F : FunD K "_law_kinds" "_law_kinds" (defArgs (top 18)) (defBody (top 18)) (defScope (top 18)) [] [] f fd) (KF : KdF K mg) (hI : mg "isinstance" = none) : FnOk P w K mg base CX0 2 f fd ["e"] (spKinds K) := by
  refine F.ok sc1 (fun vs H Q E h => ?_) (fun cdv A outer s H vs Q E hr h => ⟨t_kinds K, PSs.nox (pss_kinds rfl rfl KF hI rfl rfl), pure_kinds h⟩)
  obtain ⟨a, D, bit, rfl, _⟩ := h
  rfl
/-- TooMany.__init__ by its words -/
theorem ok_tm {cc : Addr} {cd : Value} (T : TmC Pg K mg (gA K TMs) cc cd "TooMany.__init__") (hv : tmObs K = tmV) (hcl : tmCl K = [(("__class__" : Str), cc)]) (hcd : tmCd K = cd) :
    ∃ fdI : FuncData, Binds K fdI ["self", "limit"] [] ∧ ∀ base : Heap, FnOk Pg w K mg base CX0 1 (He.fAd K tmP) fdI ["self", "limit"] (spTm (gA K TMs)) := by
  rw [tmV_eq] at hv
  unfold tmObs at hv
  unfold tmCl at hcl
  unfold tmCd at hcd
  cases q : K.lookup (He.fAd K tmP) with
  | none => rw [q] at hv; cases hv
  | some o =>
    obtain ⟨oc, od, dt, osl⟩ := o
    rw [q] at hv hcl hcd
    cases dt with
    | func fd =>
      obtain ⟨n1, n2, n3, n4, n5, n6, n7, n8, n9, n10, n11, n12, n13, n14, n15⟩ := fd
      simp only [Option.some.injEq, Prod.mk.injEq] at hv hcl hcd
      obtain ⟨h1, h2, h3, h4, h5, h6, h7, h8⟩ := hv
      have h8 := noneB_ok h8
      subst h1 h2 h3 h4 h5 h6 h7 h8 hcl hcd
      refine ⟨_, ?_, fun base => fn_tm (k := 0) (name := .ofString "__init__") (qual := .ofString "TooMany.__init__") (params := defArgs tmSt) (scope := defScope tmSt) (cc := cc) (cd := n13) (dV := .none) (kV := n9) (doc := n10) (pm := n11) (an := n12) (ct := n14) T q rfl rfl rfl rfl rfl rfl (fun env => ⟨_, rfl⟩)⟩
      exact .all fun us hl => match us, hl with
        | [_, _], _ => rfl
    | _ => cases hv
end
end HK12
set_option Elab.async false
set_option linter.all false
set_option maxRecDepth 1000000
set_option maxHeartbeats 0
namespace HK12
open PySem PySem.Spec PyProof.Rows L2 TM
theorem exB_ok {K : PySem.W.Frag} {D : Addr} (h : exB K D = true) : L2.ExcC K D := by
  obtain ⟨h1, h⟩ := He.ba h
  obtain ⟨h2, h⟩ := He.ba h
  obtain ⟨h3, h⟩ := He.ba h
  obtain ⟨h4, h⟩ := He.ba h
  obtain ⟨h5, h⟩ := He.ba h
  obtain ⟨h6, h⟩ := He.ba h
  obtain ⟨h7, h8⟩ := He.ba h
  exact ⟨He.eqO_ok h1, He.eqO_ok h2, of_decide_eq_true h3, h4, He.eqO_ok h5, He.eqO_ok h6, of_decide_eq_true h7, of_decide_eq_true h8⟩
theorem kitB_ok {K : PySem.W.Frag} {x : Str} (h : kitB K x = true) : L2.ExcC K (gA K x) ∧ (∀ y ∈ kindN, PySem.W.kitOne K (.ref (gA K x)) (.ref (gA K y)) = some (decide (x = y))) ∧ PySem.W.kitOne K (.ref (gA K x)) (.ref (gA K BEs)) = some true ∧ PySem.W.kitOne K (.ref (gA K x)) (.type "ValueError") = some true := by
  obtain ⟨h1, h⟩ := He.ba h
  obtain ⟨h2, h⟩ := He.ba h
  obtain ⟨h3, h4⟩ := He.ba h
  exact ⟨exB_ok h1, fun y hy => of_decide_eq_true (List.all_eq_true.mp h2 y hy), of_decide_eq_true h3, of_decide_eq_true h4⟩
theorem be_no : ∀ y ∈ kindN, decide (BEs = y) = false := by decide +kernel
theorem plain_dbg : ∀ y ∈ kindN, (y == ("__debug__" : Str)) = false := by decide +kernel
theorem plain_kind : ∀ x ∈ plainN, x ∈ kindN := by decide +kernel
theorem kind_split : ∀ x ∈ kindN, x ∈ plainN ∨ x = TMs := by decide +kernel
theorem facts {w : World} {K : PySem.W.Frag} {h : Heap} {mg : Str → Option Value} {f : Addr} (X : K.In h) (G : h.Ns mainGlobals mg) (hfa : mg ("law" : Str) = some (.ref f)) (c : He.SaysD fa fn K) (o : ot K = (true, tmV)) :
    ∃ fd : FuncData, (∀ (s : Shared) (v : Value), BindsTo s fd ⟨[v], []⟩ [("script", v)]) ∧ ∀ base : Heap, K.In base → base.Ns mainGlobals mg → FnOk Pg w K mg base CX0 5 f fd ["script"] (spLaw K) := by
  have om : more K = true := congrArg (·.1) o
  have ov : tmObs K = tmV := congrArg (·.2) o
  obtain ⟨o1, om⟩ := He.ba om
  obtain ⟨o2, om⟩ := He.ba om
  obtain ⟨o3, o4⟩ := He.ba om
  have kits : ∀ x ∈ kindN, kitB K x = true := fun x hx => List.all_eq_true.mp o3 x hx
  have pls : ∀ x ∈ plainN, plB K x = true := fun x hx => List.all_eq_true.mp o4 x hx
  obtain ⟨fdP, FP⟩ := c.def_ 0 rfl
  obtain ⟨fdK, FK⟩ := c.def_ 1 rfl
  obtain ⟨fd, F⟩ := c.def_ 2 rfl
  have e := hfa.symm.trans (He.glo_ok X G (c.fact 2 (f := .glo (.ofString "law")) rfl))
  cases e
  have nIs := He.free_ok X G (c.fact 7 (f := .free (.ofString "isinstance")) rfl)
  have mTM := He.glo_ok X G (c.fact 4 (f := .glo (.ofString "TooMany")) rfl)
  obtain ⟨tm, hcl⟩ := tmB_ok (P := Pg) (mg := mg) o1 (He.free_ok X G (c.fact 10 (f := .free (.ofString "super")) rfl)) (by decide +kernel)
  obtain ⟨fdI, bI, GI⟩ := ok_tm (w := w) tm ov hcl rfl
  have mI := He.meth_ok (c.fact 12 (f := .meth (.ofString "TooMany") (.ofString "__init__")) rfl)
  have PF : PlF K mg := fun x hx => by
    obtain ⟨p1, p2⟩ := He.ba (pls x hx)
    obtain ⟨p2, p3⟩ := He.ba p2
    obtain ⟨q1, q2, q3, q4⟩ := He.exc_ok p2
    exact ⟨plain_dbg x (plain_kind x hx), q1, He.glo_ok X G p1, q2⟩
  have KF : KdF K mg := fun x hx => by
    refine ⟨plain_dbg x hx, ?_⟩
    rcases kind_split x hx with hx | rfl
    · exact (PF x hx).2.2.1
    · exact mTM
  obtain ⟨b1, b2, b3, b4⟩ := He.exc_ok (c.fact 11 (f := .exc (.ofString "BodyError")) rfl)
  have tk := (kitB_ok (kits TMs (by decide +kernel))).1
  have L : LawF K mg (He.fAd K tmP) := {
    pl := PF
    kd := KF
    gB := He.glo_ok X G (c.fact 3 (f := .glo (.ofString "BodyError")) rfl)
    xB := b1
    kB := b2
    gT := mTM
    oT := tm.oex
    xT := ⟨tk.hg, tk.hk, tk.hs, tk.hd⟩
    lT := tm.lim
    iT := mI.at_
    tI := eq_of_beq mI.fn
    nLen := He.free_ok X G (c.fact 5 (f := .free (.ofString "len")) rfl)
    nRng := He.free_ok X G (c.fact 6 (f := .free (.ofString "range")) rfl)
    nIs := nIs
    nStr := He.free_ok X G (c.fact 8 (f := .free (.ofString "str")) rfl)
    nVE := He.free_ok X G (c.fact 9 (f := .free (.ofString "ValueError")) rfl)
    exc := fun x hx => (kitB_ok (kits x hx)).1
    excB := (kitB_ok o2).1
    kit := fun x hx y hy => (kitB_ok (kits x hx)).2.1 y hy
    kitB := fun y hy => by rw [(kitB_ok o2).2.1 y hy, be_no y hy]
    toB := fun x hx => (kitB_ok (kits x hx)).2.2.1
    toV := fun x hx => (kitB_ok (kits x hx)).2.2.2
    bV := (kitB_ok o2).2.2.2
    str := fun x hx => He.eqO_ok (He.ba (He.ba (pls x hx)).2).2 }
  have b := FunD.bindsA (ps := ["script"]) F fun _ _ _ _ _ _ us hl => match us, hl with | [_], _ => rfl
  have bP : Binds K fdP [] [] := FP.bindsN fun _ _ _ _ _ _ us hl => match us, hl with | [], _ => rfl
  have bK : Binds K fdK ["e"] [] := FK.bindsN fun _ _ _ _ _ _ us hl => match us, hl with | [_], _ => rfl
  exact ⟨fd, fun s v => b s [v] rfl, fun base _ _ => ok_law F L (GI base) bI (ok_plain FP PF) bP (He.glo_ok X G (c.fact 0 (f := .glo (.ofString "_law_plain")) rfl)) FP.kp (ok_kinds FK KF nIs) bK (He.glo_ok X G (c.fact 1 (f := .glo (.ofString "_law_kinds")) rfl)) FK.kp⟩
end HK12
open PySem PySem.W PySem.Calls PyProof.Rows
theorem PySem.Challenge.cw_cutbodies_k12_classes_of_errors_holds : PySem.Challenge.rw_cutbodies_k12_classes_of_errors.Holds := by
  w_on; o_law
  refine HandSHeadRun.head_any (r := OpenLaw.row PySem.Challenge.rw_cutbodies_k12_classes_of_errors) (q := view (OpenLaw.row PySem.Challenge.rw_cutbodies_k12_classes_of_errors).prog [19]) (H := HK12.hk) (ob := HK12.ob) (M := 20000) (loose := HK12.loose) (d := HandSHeadRun.topDef (OpenLaw.row PySem.Challenge.rw_cutbodies_k12_classes_of_errors).prog 19) (kwd := []) HK12.ob_eq
    (by kernel_rfl) (fun s => by kernel_rfl) HK12.run (by kernel_rfl) (by kernel_rfl) (by kernel_rfl) (by rfl) (by first | assumption | decide +kernel) (by decide +kernel) ⟨rfl, rfl, rfl, rfl, rfl, by decide +kernel⟩ ?hw ?hc
  case hw => w_witness2
  case hc =>
    refine L2.walk_ofE (l := PySem.Challenge.rw_cutbodies_k12_classes_of_errors) (n := 63) (k := 5) (x := "script") (CX := L2.CX0) rfl (by decide) (by kernel_rfl) ⟨rfl, by decide, by decide⟩ ?F (fun _ _ _ _ z => z)
    intro w mg fa h Y G hmg0
    obtain ⟨K, KX, c, o⟩ := Y
    have hmg : mg ("law" : PySem.Str) = some (.ref fa) := by
      have e : (HandSHeadRun.topDef (OpenLaw.row PySem.Challenge.rw_cutbodies_k12_classes_of_errors).prog 19).name = ("law" : PySem.Str) := by kernel_rfl
      rw [← e]
      exact hmg0
    obtain ⟨fd, hb, hF⟩ := HK12.facts (w := w) KX G hmg c o
    exact ⟨K, fd, HK12.spLaw K, KX, hb, fun H a ns hl _ hS => ⟨a, ns, rfl, hS, hl, fun _ => rfl⟩, hF⟩
