import PyProof.Rows.All
import HandS.ForMost
import HandS.ExcInit
import HandS.WordsExc
import HandS.Defaults
import KE.KSuper
import KE.KExcSuper
import HandS.List
import HandS.TupAny
import HandS.SortInts
import HandS.Exc
import HandS.ExcOwn
import HandS.Style
import HandS.Deep
import HandS.TupLe
import HandS.IsInst
import HandS.CallSlots
import HandS.RevTup
import HandS.Rev
import HandS.SetFor
import HandS.Strs
import HandS.Conv
import HandS.Iter
import HandS.Star
import HandS.ExcField
import HandS.ExcIs
import HandS.Head0
import HandS.Head1
import HandS.Head2
import HandS.HeadEnd
import HandS.HeadHook1
import HandS.HeadHook2
import PySem.Challenge.RW_leastshelf_k07_narrower_kinds
section
set_option Elab.async false
set_option linter.all false
set_option maxRecDepth 100000
/-! QX: an own exception's __init__ that says super().__init__('..'), then self.f = f. -/
namespace QL
open PySem PySem.Spec PyProof.Rows L2 PySem.W

/-- the wrapper of ValueError.__init__ is called: nothing of it is told -/
theorem mw_call {X : Cx} {pins : List (Addr × Obj)} {σ : L2.St} {H : Hp} {s : Shared} {a C u : Addr} {E : Value → Shared → Prop} {A : Around} {us : List Value} {Q : Value → Shared → Prop} (T : OexC X.K C) (I : L2.Inv X pins σ H s) (e : H a = some (exo a C none)) (hu : s.heap.get? u = some (kxs_mw "ValueError.__init__" a)) (hl : us.length ≤ sizeLine)
    (h : ∀ s', L2.Inv X pins σ H s' → Q .none s') : wpAny (model X.prog X.w) A (call (.ref u) us) Q E s := by
  obtain ⟨nm, q, N, bs, bm, sn, sub, ab, col, dd, k0, k1, k2, k3, k5, hC, hbm⟩ := T.cls
  obtain ⟨t1, ho⟩ := exo_at I.hok e
  obtain ⟨hp, g, d, t, os⟩ := s
  have FB := F.excBase_ValueError
  refine wpAny_call (codeAny_of_tree ?_)
  show wpAny _ A.in1 (callAny (.ref u) ⟨us, []⟩) _ _ _
  simp only [callAny]
  refine wpAny_bind (wpAny_load hu ?_)
  simp only [kxs_mw, show (Value.type "method-wrapper" == Value.type "method" || Value.type "method-wrapper" == Value.type "builtin_function_or_method" || Value.type "method-wrapper" == Value.type "method-wrapper") = true by decide, if_true]
  refine KFB.if_so (by decide) ?_
  refine wpAny_bind (check_bound_init FB.toExcCallFacts (I.kIn _ _ hC) ho rfl ?_)
  refine wpAny_bind (wpAny_pure (wpAny_pure ?_))
  refine ⟨plainId_quiet FB.init.plain _, codeAny_builtin FB.initEntry ?_⟩
  refine exc_init_tree (cls := .ref C) (t0 := t1) (dv := none) (c2 := .none) (c3 := .none) (b4 := .bool false) ho hl fun h' k hx ht => ?_
  have J := I.write (t' := t) (x := a) (e := a) (o := exo a C none) (by rw [e]; exact True.intro) (.inl rfl) k ⟨_, hx⟩ (exo_ok hx)
  have eu : upd H a (exo a C none) = H := by
    funext b
    by_cases hb : b = a
    · rw [hb, upd_same, e]
    · rw [upd_ne hb]
  rw [eu] at J
  exact h _ J

/-- the context of a body with the free name __class__ -/
def cxS (P : Program) (w : World) (K : PySem.W.Frag) (mg : Str → Option Value) (base : Heap) (N : List Str) (qual : Str) (scope : Scope) (f : Addr) (cd : Value) (cc : Addr) (A : Around) (outer : List PySem.Env) (s : Shared) (H : Hp) (xe : Value → Shared → Prop) : Cx where
  prog := P
  w := w
  K := K
  mg := mg
  base := base
  A := A.deeper (ksEnv qual scope s.heap.objs.size f cd cc)
  N := N
  s_0 := s
  H_0 := H
  env := ksEnv qual scope s.heap.objs.size f cd cc
  outer := outer
  stack := ksEnv qual scope s.heap.objs.size f cd cc :: outer
  ex := []
  calm := true
  fn := fun _ => false
  pn := []
  xe := xe

/-- what the text says of a class's __init__ of this shape, in K -/
structure SupD (P : Program) (K : PySem.W.Frag) (mg : Str → Option Value) (D f : Addr) (fd : FuncData) (fld : Str) : Prop where
  ex : ∃ (name qual : Str) (params : Arguments) (scope : Scope) (dV kV doc pm ct oc : Value) (an od : Option Addr) (osl : Array (Option Value)) (cda cc : Addr) (ccl : Value) (cdd : Option Addr) (vs : Array Value) (ccs : Array (Option Value)) (file : Str) (tf : Tok) (cl : Value) (cld : Option Addr) (csl : Array (Option Value)) (cdD : ClassData)
    (ar : Arg) (txt : Str) (j : Nat) (p0 p1 p2 p3 p4 p5 p6 p7 p8 p9 : Pos),
    fd = ksFn name qual params [.Expr (.Call (.Attribute (.Call (.Name "super" p0) [] [] p1) "__init__" p2) [.Constant (.str txt) j p3] [] p4) p5, .Assign [.Attribute (.Name "self" p6) fld p7] (.Name fld p8) p9] scope dV kV doc pm an (.ref cda) ct cc ∧
    K.lookup f = some ⟨oc, od, .func fd, osl⟩ ∧ codeIn K (.ref cda) qual = true ∧ (params.posonlyargs ++ params.args).head? = some ar ∧ ar.arg = "self" ∧
    K.lookup cda = some ⟨ccl, cdd, .fields vs, ccs⟩ ∧ vs[2]? = some (.str file tf) ∧ ((P.main.file : Str) == file) = true ∧ K.lookup cc = some ⟨cl, cld, .cell (some (.ref D)), csl⟩ ∧ clsIn K D = some cdD ∧
    scope.kind = .function ∧ scope.isCoroutine = false ∧ scope.isGenerator = false ∧ scope.names.lookup ("super" : Str) = some .globalImplicit ∧ scope.names.lookup ("__class__" : Str) = some .free ∧ scope.names.lookup ("self" : Str) = some .local ∧ scope.names.lookup fld = some .local ∧
    (∀ y ∈ scope.names, y.2 ≠ .cell) ∧ (∀ y ∈ scope.names, y.2 = .free → y.1 = "__class__") ∧ (p2.endLine == p4.line) = true
  top : (P.main.scope.names.lookup ("super" : Str)).isSome = false
  sup : mg "super" = none
  th : nsIn K cStatics "thirdparty.any" = some none
  ne : fld ≠ "self"
  dbg : (fld == ("__debug__" : Str)) = false ∧ (fld == ("__classdict__" : Str)) = false

theorem mcall {o : Expr} {name : Str} {p2 p4 : Pos} {e : Expr} {env : PySem.Env} (hpl : (p2.endLine == p4.line) = true) (hs : methodCallForm 1 (backTo p4 (starEach [e] env)) [] = true) : eval (.Call (.Attribute o name p2) [e] [] p4) env = (do
      let ov ← attributeBase o name env (eval o env)
      standAt p2.atName
      let (f, first) ← holding [ov] (getMethod ov name (do return (← importBound o env).getD true))
      callWith p4 f first (backTo p4 (starEach [e] env)) []) := by
  have e2 : methodCallPos true o env p2 p4 = pure p4 := by unfold methodCallPos; rw [hpl]; rfl
  have e3 : ∀ ov, methodCall o name p2 p4 env ov 1 (backTo p4 (starEach [e] env)) [] = (do
      let (f, first) ← holding [ov] (getMethod ov name (do return (← importBound o env).getD true))
      callWith p4 f first (backTo p4 (starEach [e] env)) []) := fun ov => by
    unfold methodCall
    rw [hs, e2]
    rfl
  show (do
      let ov ← attributeBase o name env (eval o env)
      standAt p2.atName
      methodCall o name p2 p4 env ov 1 (backTo p4 (starEach [e] env)) []) = _
  simp only [e3]
/-- what it does: self's dict is made, with the one field -/
def spS (K : PySem.W.Frag) (D : Addr) (fld : Str) : Sp := fun vs H Q _ => ∃ (a C : Addr) (v : V), vs = [.ref a, v] ∧ OexC K C ∧ findIn K (.ref C) fld = some none ∧ mroIn K C (.ref D) = some true ∧ ks_superIn K C D "__init__" = some (some (.builtin "ValueError.__init__")) ∧ subIn K (.ref C) (.type "ValueError") = some true ∧
  H a = some (exo a C none) ∧ ∀ dx, H dx = none → dx ≠ a → Q .non (upd (upd H dx (exd dx [(fld, v)])) a (exo a C (some dx)))

theorem sup_ok {P : Program} {w : World} {K : PySem.W.Frag} {mg : Str → Option Value} {base : Heap} {D f : Addr} {fd : FuncData} {fld : Str} (S : SupD P K mg D f fd fld) : FnOk P w K mg base (L2.CX P w) 1 f fd ["self", fld] (spS K D fld) := by
  obtain ⟨name, qual, params, scope, dV, kV, doc, pm, ct, oc, an, od, osl, cda, cc, ccl, cdd, vsA, ccs, file, tf, cl, cld, csl, cdD, ar, txt, j, p0, p1, p2, p3, p4, p5, p6, p7, p8, p9, rfl, lk, hcd, hp, har, hcode, hvs, hfile, hcell, hD, hk, hco, hgen, hks, hkc, hka, hkf, hnc, hfr, hpl⟩ := S.ex
  refine ⟨fun vs H Q E h => ?_, fun A outer s H args us vs Q E hr e0 hb r hsp => ?_⟩
  · obtain ⟨a, C, v, rfl, _⟩ := h
    rfl
  obtain ⟨a, C, v, rfl, T, hno, hmro, hsi, hve, ea, q⟩ := hsp
  obtain ⟨u0, u1, rfl⟩ : ∃ u0 u1, us = [u0, u1] := by
    have := r.length
    match us, this with
    | [x, y], _ => exact ⟨x, y, rfl⟩
  have ru0 : u0 = .ref a := by
    cases r with
    | cons r0 _ => exact r0
  have ru1 : RelV v u1 := by
    cases r with
    | cons _ r1 => cases r1 with
      | cons r1 _ => exact r1
  subst ru0
  have KX : K.In s.heap := e0.mod.kin.keeps fun b o e => (e0.bs b o e).1
  have lim : s.heap.NoLimit := e0.mod.nolimit.keeps fun b o e => (e0.bs b o e).1
  refine ks_codeAny_call_defAt (binds := [("self", .ref a), (fld, u1)]) hr.depth (KX _ _ lk) rfl lim (codeRec_of KX hcd) rfl hb hnc (fun y hy => ?_) (fun h₀ hns hk₀ => ?_) hco hgen hk
  · rcases List.mem_cons.mp hy with rfl | hy
    · exact hka
    · rcases List.mem_cons.mp hy with rfl | hy
      · exact hkf
      · cases hy
  have hm1 : ([(("self" : Str), Value.ref a), (fld, u1)] : List (Str × Value)).reverse.lookup ("self" : Str) = some (Value.ref a) := by
    show (match ("self" : Str) == fld with | true => some u1 | false => List.lookup ("self" : Str) [(("self" : Str), Value.ref a)]) = _
    rw [show (("self" : Str) == fld) = false by simpa using fun z => S.ne z.symm]
    rfl
  have hm2 : ([(("self" : Str), Value.ref a), (fld, u1)] : List (Str × Value)).reverse.lookup fld = some u1 := by
    show (match fld == fld with | true => some u1 | false => _) = _
    rw [show (fld == fld) = true by simp]
  let xe : Value → Shared → Prop := fun e s' => wpAny (model P w) (A.deeper (ksEnv qual scope s.heap.objs.size f (.ref cda) cc)) (leaving (ksEnv qual scope s.heap.objs.size f (.ref cda) cc) e) (fun _ s'' => CR (L2.CX P w) outer P w H s Q E (.error e) s'') (fun e' s'' => CR (L2.CX P w) outer P w H s Q E (.error e') s'') s'
  let X : Cx := cxS P w K mg base ["self", fld] qual scope f (.ref cda) cc A outer s H xe
  have I0 : L2.Inv X [] [some (.ref a), some v] H { s with heap := h₀, toks := s.toks + 2 } := by
    have noA : ∀ b : Addr, b ∉ X.ex := fun b z => absurd (show b ∈ ([] : List Addr) from z) (by simp)
    have cel : ∀ y c, X.env.cells.lookup y = some c → y = "__class__" ∧ c = cc := fun y c e => by
      have e : ([(("__class__" : Str), cc)] : List (Str × Addr)).lookup y = some c := e
      rw [List.lookup_cons] at e
      split at e
      · rename_i z
        exact ⟨by simpa using z, (Option.some.inj e).symm⟩
      · cases e
    have ccb : base.get? cc = some ⟨cl, cld, .cell (some (.ref D)), csl⟩ := e0.mod.kin _ _ hcell
    refine ⟨⟨e0.mod, hk, rfl, rfl, Nat.le_refl _, fun y z c h1 h2 => ?_, fun y hy => ?_, fun y c h _ => ?_, fun _ => hr.hd, Around.frames_deeper e0.frames, .inr ⟨rfl, rfl⟩, fun b z => absurd z (noA b), e0.bs, e0.bsz, fun b _ _ => noA b, fun b z => absurd z (noA b), e0.funs, e0.frf⟩,
      rfl, e0.bare, Un.kept hk₀, ⟨_, hns, fun i y z h1 h2 h3 => ?_⟩, fun y c h => ?_, e0.hok.fresh (Nat.le_refl _), fun y c h => ?_, fun p hp => absurd (show p ∈ ([] : List (Addr × Obj)) from hp) (by simp), e0.hok.kept hk₀, rfl⟩
    · rw [(cel y c h1).1, (cel z c h2).1]
    · have hy : scope.names.lookup y = some .cell ∨ scope.names.lookup y = some .free := hy
      rcases hy with hy | hy
      · exact absurd rfl (hnc _ (PySem.mem_of_lookup hy))
      · have := hfr _ (PySem.mem_of_lookup hy) rfl
        dsimp only at this
        subst this
        exact ⟨cc, rfl⟩
    · cases h
    · match i, h1, h2 with
      | 0, h1, h2 =>
        cases h1; cases h2
        exact ⟨_, rfl, .inl ⟨hka, hm1⟩⟩
      | 1, h1, h2 =>
        cases h1; cases h2
        exact ⟨u1, ru1, .inl ⟨hkf, hm2⟩⟩
      | i + 2, h1, h2 => simp at h2
    · obtain ⟨_, rfl⟩ := cel y c h
      exact ⟨_, _, hk₀ _ _ ((e0.bs _ _ ccb).1), rfl⟩
    · obtain ⟨_, rfl⟩ := cel y c h
      exact (e0.bs _ _ ccb).2
  show PySem.wpAt (model P w) X.A (.func _ X.env) (execs _ X.env) _ xe { s with heap := h₀, toks := s.toks + 2 }
  obtain ⟨cdC, hcC⟩ : ∃ cdC, clsIn K C = some cdC := by
    unfold ks_superIn at hsi
    cases z : clsIn K C with
    | none => rw [z] at hsi; cases hsi
    | some c => exact ⟨c, rfl⟩
  obtain ⟨oD, hD1, hD2⟩ : ∃ oD, h₀.get? D = some oD ∧ oD.data = .cls cdD := by
    unfold clsIn at hD
    split at hD
    · rename_i c d cd' sl ho
      cases hD
      exact ⟨_, I0.kIn _ _ ho, rfl⟩
    · cases hD
  have hint : interactive X.env = false := by
    show (scope.kind == .module && _) = false
    rw [hk]; rfl
  refine ks_wpAt_execs_cons (ks_wpAt_Expr_any (ks_wpAt_MethodCall ?_ (mcall hpl rfl)) hint rfl)
  refine ks_wpAt_super_base (env := X.env) hks hkc (by decide) rfl (I0.kIn _ _ lk) rfl hp rfl (I0.kIn _ _ hcode) rfl hvs hfile S.top ?_
  obtain ⟨mb, b1, b2⟩ := e0.mod.blt
  refine ks_loadName_global hk hks (Calls.loadGlobal_builtin (env := X.env) (e0.mod.glob.keeps I0.bk) S.sup (b1.keeps I0.bk) ((b2 _ (by decide)).trans PyProof.Rows.Boot.«super») ⟨rfl, ?_⟩)
  refine wpAny_loadName_free hk hkc rfl ⟨_, I0.kIn _ _ hcell, rfl⟩ ?_
  rw [har]
  refine wpAny_loadName_local hk hka hns hm1 ?_
  obtain ⟨t1, ho⟩ := exo_at I0.hok ea
  obtain ⟨sh, sg, sd, st, so⟩ := s
  refine ks_wpAny_isType_cls hD1 hD2 ⟨rfl, ?_⟩
  refine ks_wpAny_call_super hD1 hD2 ho rfl (fun c e => by cases e) (looks_mroIn I0.kIn hmro) (fun h1 e1 k1 => ?_)
  have I1 := I0.kept (t' := st + 2) k1
  have InA : InstAt h1 a _ C none := ⟨k1 _ _ ho, rfl, rfl, trivial⟩
  have hI : Looks (model P w) h1 (isInstance (.ref a) (.type "ValueError")) true := InA.type.andThen (looks_subIn I1.kIn hve)
  have hsi2 : alongIn K "__init__" ((cdC.mro.dropWhile (· != .ref D)).drop 1) = some (some (.builtin "ValueError.__init__")) := by
    unfold ks_superIn at hsi
    rw [hcC] at hsi
    exact hsi
  refine kxs_getMethod kxs_ValueError e1 (looks_opaque I1.kIn S.th) (l₀ := cdC.mro) ?_ rfl I1.kIn hsi2 hI (ks_ne I1.kIn InA hcC) (by decide) ?_
  · exact fun A Q E s k q => wpAny_bind ((looks_clsIn I1.kIn hcC) A _ E s k (wpAny_pure q))
  have I2 := I1.kept (t' := st + 2 + 1) (h' := h1.push (kxs_mw "ValueError.__init__" a)) (fun b o e => Heap.get?_push_of_some _ e)
  have hu : (h1.push (kxs_mw "ValueError.__init__" a)).get? h1.objs.size = some (kxs_mw "ValueError.__init__" a) := Heap.get?_push_at rfl rfl
  have I3 : L2.Inv X [(h1.objs.size, kxs_mw "ValueError.__init__" a)] [some (.ref a), some v] H _ := I2.pins_of fun p hp => by
    have hp : p = (h1.objs.size, kxs_mw "ValueError.__init__" a) := by simpa using hp
    subst hp
    exact ⟨hu, I1.hok.fresh (Nat.le_refl _), Nat.ne_of_gt I1.lt, I1.nofs (Nat.le_refl _), fun v z => by cases z⟩
  have pa : PA X [.Constant (.str txt) j p3] _ := pa_cons pe_str pa_nil rfl
  refine kxs_callWith (i := "ValueError.__init__") (x := a) rfl (Calls.evalArgs_plain (thn (pa.run p4 _ _ _ H (fun vs H1 => H1 = H ∧ vs.length = 1) I3 ⟨rfl, rfl⟩) fun us s4 hq => ?_))
  obtain ⟨vs, H1, I4, rv, eH, el⟩ := hq
  subst eH
  have hu4 := (I4.pin _ (List.mem_append_right _ (List.mem_singleton.mpr rfl))).1
  have I4' : L2.Inv X [] [some (.ref a), some v] H1 s4 := I4.pins_of (pins' := []) fun p hp => by cases hp
  refine ⟨hu4, mw_call (X := X) (A := X.A) T I4' ea hu4 ?_ fun s5 I5 => ?_⟩
  · rw [List.nil_append, ← Paired.length rv, el, sizeLine_eq]
    omega
  refine PySem.wpAt_of_wpAny (thn ((pss_cons (ps_ost (X := X) (p' := p7) (pos := p9) (pe_var (pos := p6) (i := 0) (x := "self") rfl (.inl hka) (by decide) (by decide)) (pe_var (pos := p8) (i := 1) (x := fld) rfl (.inl hkf) S.dbg.1 S.dbg.2)) pss_nil).run [] s5 _ H1 { nx := fun _ H' => Q .non H', rt := Q } I5 ?_) fun fl s' hs => ?_)
  · exact ⟨v, rfl, .ref a, rfl, a, C, rfl, T, hno, .inl ⟨ea, fun dx n ne => q dx n ne⟩⟩
  · have fin : ∀ {σ' : L2.St} {H' : Hp} {v : V} {u : Value}, L2.Inv X [] σ' H' s' → RelV v u → Q v H' → CE outer P w H1 ⟨sh, sg, sd, st, so⟩ Q u s' :=
      fun {σ' H' v u} J rv q => ⟨v, H', J.os, J.bare, J.base, J.hok, rv, q⟩
    cases fl with
    | ret u =>
      obtain ⟨v, σ', H', J, rv, q⟩ := hs
      exact fin J rv q
    | next =>
      obtain ⟨σ', H', J, q⟩ := hs
      exact fin (v := V.non) (u := Value.none) J rfl q
    | brk =>
      obtain ⟨_, _, _, q⟩ := hs
      exact False.elim q
    | cont =>
      obtain ⟨_, _, _, q⟩ := hs
      exact False.elim q
end QL

end
section
set_option Elab.async false
set_option linter.all false
set_option maxRecDepth 100000
namespace QL
open PySem PySem.Spec PyProof.Rows L2 PySem.W HT

/-! ### sorted(tuple) -/
section
variable {prog : Program} {w : World} {A : Around} {E : Value → Shared → Prop} {s : Shared}
theorem collect_tup {l : Addr} {vs : List Value} {Q : List Value → Shared → Prop} (hl : IsTup s.heap l vs.toArray)
    (h : Q vs { s with heap := (s.heap.push (seqObj "list" #[] 0)).update s.heap.objs.size (Obj.mapSeq (· ++ vs.toArray)) }) (hsz : vs.length ≤ sizeLine) :
    wpAny (model prog w) A (collect (.ref l)) Q E s := by
  obtain ⟨o, ho, hc, n, hd⟩ := id hl
  unfold collect
  refine wpAny_bind (wpAny_runValue (codeAny_builtin entry_proto_collect' ?_))
  show wpAny _ _ (do again (.builtin "list.__iadd__" ⟨[← newList [], .ref l], []⟩)) _ _ s
  refine wpAny_bind (wpAny_newList (wpAny_pure ⟨Code.quiet_builtin _ (by decide +kernel), codeAny_builtin entry_list_iadd' ?_⟩))
  show wpAny _ _ (Builtin.List.listExtendWith (.ref s.heap.objs.size) (.ref l) (.ref s.heap.objs.size)) _ _ { s with heap := s.heap.push (seqObj "list" #[] 0) }
  unfold Builtin.List.listExtendWith
  have ho' : (s.heap.push (seqObj "list" #[] 0)).get? l = some o := Heap.get?_push_of_some _ ho
  refine wpAny_bind (wpAny_typeOf (T := "tuple") ⟨o, ho', hc⟩ ?_)
  have ht : (Value.type "tuple" == Value.type "tuple") = true := by rfl
  rw [if_pos (by rw [ht]; simp)]
  refine wpAny_bind (listItems_at ho' hd ?_)
  refine wpAny_bind (listItems_at (xs := #[]) (n := 0) (Heap.get?_push_size _ rfl) rfl ?_)
  rw [if_neg (by simp)]
  refine wpAny_bind (listUpdate_at (xs := #[]) (n := 0) (Heap.get?_push_size _ rfl) rfl ?_ (Nat.zero_le _) (by show (#[] ++ vs.toArray).size ≤ sizeLine + 1; simp only [Array.size_append, List.size_toArray, List.length_nil]; omega))
  refine wpAny_pure ?_
  show wpAny (model prog w) A (do
      let o ← load s.heap.objs.size
      match o.data with
      | .seq xs _ => pure xs.toList
      | _ => unsupported "internal:collect") Q E { s with heap := (s.heap.push (seqObj "list" #[] 0)).update s.heap.objs.size (Obj.mapSeq (· ++ vs.toArray)) }
  refine wpAny_bind (wpAny_load (get?_update_seq (Heap.get?_push_size _ rfl) _) ?_)
  show wpAny _ _ (pure ((#[] : Array Value) ++ vs.toArray).toList) Q E _
  rw [show ((#[] : Array Value) ++ vs.toArray).toList = vs by simp]
  exact wpAny_pure h
/-- sorted(tuple), ints, any number of them -/
theorem sorted_tupO {l : Addr} {vs : List Value} {ltv : Value → Value → Bool} {Q : Value → Shared → Prop} (O : SrtO.Swo ltv) (tl : IsTup s.heap l vs.toArray) (few : vs.length ≤ sizeLine)
    (sb : 2 ≤ vs.length → ∀ (h₁ : Heap) (a : Addr), SrtO.SortableO prog w A.in1.in1 { s with heap := h₁ } a vs ltv)
    (fin : ∀ out : List Value, SrtO.Srtd ltv out → SrtO.Stb ltv out vs → Q (.ref (s.heap.objs.size + 1)) { s with heap := sortedAll s.heap vs out.toArray }) :
    wpAny (model prog w) A (call (.builtin "sorted") [.ref l]) Q E s := by
  refine Calls.call_function_entry kind_sorted plain_sorted entry_sorted (args_sorted1 _) ?_
  unfold Builtin.«sorted»
  refine wpAny_bind (m := checkCount "sorted" 1 1 _) (wpAny_pure ?_)
  refine wpAny_bind (collect_tup tl (wpAny_bind (wpAny_newList ?_ few)) few)
  have e1 : ((s.heap.push (seqObj "list" #[] 0)).update s.heap.objs.size (Obj.mapSeq (· ++ vs.toArray))).objs.size = s.heap.objs.size + 1 := by rw [Heap.size_update, size_push']
  have e2 : (((s.heap.push (seqObj "list" #[] 0)).update s.heap.objs.size (Obj.mapSeq (· ++ vs.toArray))).push (seqObj "list" vs.toArray 0)).get? (s.heap.objs.size + 1) = some (seqObj "list" vs.toArray 0) := by
    rw [← e1]; exact Heap.get?_push_size _ rfl
  show wpAny _ _ _ _ _ { s with heap := ((s.heap.push (seqObj "list" #[] 0)).update s.heap.objs.size (Obj.mapSeq (· ++ vs.toArray))).push (seqObj "list" vs.toArray 0) }
  rw [e1]
  refine wpAny_bind (wpAny_holding (wpAny_call_entry slot_list_sort ⟨_, e2, rfl⟩ entry_list_sort (SrtO.list_sort_ord O e2 few (fun h2 => sb h2 _ _) fun out a b => ⟨_, rfl, wpAny_pure ⟨_, rfl, fin out a b⟩⟩) (args_list_sort _)))
end
section
variable {X : Cx}
def rSortedTu (K : PySem.W.Frag) : List V → Hp → VK → Prop := fun vs H Q => ∃ (a : Addr) (ns : List Int), vs = [V.ref a] ∧ SqT K H a (ns.map V.int) ∧
  ∀ (ns' : List Int) (p : Addr), ns'.Perm ns → ns'.Pairwise (· ≤ ·) → H p = none → Q (.ref p) (upd H p (.lst (ns'.map V.int)))
theorem cr_sortedTu : CallR X (.builtin "sorted") (rSortedTu X.K) := by
  intro pins s σ H vs us Q I r h
  obtain ⟨a, ns, rfl, hs, q⟩ := h
  obtain ⟨its, rv, hl, hz⟩ := I.tuple hs
  rw [Vals.ref1 r]
  have hi := rv.ints
  refine sorted_tupO SrtO.swo_int hl (by rw [← rv.length]; exact hz) (fun h2 _ _ => SrtO.ints_sortable hi h2) fun out h1 h2 => ?_
  obtain ⟨k1, k2, k3⟩ := SrtO.ints_out hi h1 h2
  obtain ⟨ep, he'⟩ := PyProof.Rows.sortedAll_at s.heap its out.toArray
  have hlen : ((out.map SrtO.iv).map V.int).length ≤ sizeLine := by
    rw [List.length_map, k2.length_eq]
    rw [List.length_map] at hz
    exact hz
  exact ⟨.ref _, upd H (s.heap.objs.size + 1) (.lst ((out.map SrtO.iv).map V.int)), I.laid (t' := s.toks) (fun _ _ => PyProof.Rows.sortedAll_old) (Nat.le_succ _) ⟨hlen, out, ep, vals_of_ints k1, he'⟩, rfl, q _ _ k2 k3 (I.hok.fresh (Nat.le_succ _))⟩
theorem CallR.or {g : Value} {r r' : List V → Hp → VK → Prop} (h : CallR X g r) (h' : CallR X g r') : CallR X g (fun vs H Q => r vs H Q ∨ r' vs H Q) := fun pins s σ H xs us Q I rv q => by
  rcases q with q | q
  · exact h pins s σ H xs us Q I rv q
  · exact h' pins s σ H xs us Q I rv q
end
end QL

end
section
set_option Elab.async false
set_option linter.all false
/-! Q1: plain data, the small syntax, its meaning as total functions. -/
namespace QL
open PySem L2

/-- plain data -/
inductive D where
  | non
  | bl (b : Bool)
  | int (i : Int)
  | str (x : Str)
  | tup (ds : List D)
  | lst (ds : List D)
  | dic (ks : List Key) (ds : List D)
  | ob (c : Nat) (fs : List Nat) (ds : List D)
  /-- a list that is read alone (the script) -/
  | rol (ds : List D)

/-- a slot: unset, settled data, an own list (a parameter's: lp), an own dict -/
inductive Sl where
  | un
  | fz (d : D)
  | lv (ds : List D)
  | lp (ds : List D)
  | dv (ks : List Key) (ds : List D)

abbrev Env := List Sl

/-- an error in flight: its class, its field -/
structure Xn where
  c : Nat
  d : Option D

inductive Rs (α : Type) where
  | ok (a : α) (δ : Env)
  | er (x : Xn) (δ : Env)
  | no

def Rs.bind {α β : Type} : Rs α → (α → Env → Rs β) → Rs β
  | .ok a δ, f => f a δ
  | .er x δ, _ => .er x δ
  | .no, _ => .no

/-- a value: settled, or an own list, an own dict that nothing else holds -/
inductive Rv where
  | fz (d : D)
  | lv (ds : List D)
  | dv (ks : List Key) (ds : List D)

def Rv.d : Rv → D
  | .fz d => d
  | .lv ds => .lst ds
  | .dv ks ds => .dic ks ds
def Rv.sl : Rv → Sl
  | .fz d => .fz d
  | .lv ds => .lv ds
  | .dv ks ds => .dv ks ds

inductive Fl where
  | nx
  | rt (r : Rv)
  | bk
  | ct

/-- an argument: data, or a slot's own list handed in -/
inductive Ag where
  | d (x : D)
  | r (i : Nat)

inductive FR where
  | ok (r : Rv) (outs : List Sl)
  | er (x : Xn) (outs : List Sl)
  | no

/-- what a parameter gets: an argument, a constant, a constant of the module -/
inductive Sel where
  | a (i : Nat)
  | c (d : D)
  | g (j : Nat) (x : Str)
/-- a shape of calls: n arguments, the keywords' names, what each parameter gets -/
structure Shp where
  n : Nat
  ks : List Str
  sel : List Sel
/-- what a def is worth: the number of its parameters, its defaults, its run -/
structure Fn where
  np : Nat
  dfl : List D
  run : List Sl → FR
  /-- the shapes of its calls with keywords -/
  shs : List Shp := []

/-- what the text's names are worth -/
structure Pr where
  fn : List Fn
  gl : List D
  /-- class, method: the def's number -/
  mt : Nat → Nat → Option Nat
  /-- the first class is a subclass of the second one -/
  sub : Nat → Nat → Bool
  /-- the first own class is a subclass of the second one -/
  kin : Nat → Nat → Bool := fun _ _ => false
  /-- class, constant of it -/
  ca : Nat → Nat → Option D := fun _ _ => none

inductive BOp where
  | add | sub | mul | mod | fdv | pow
  deriving DecidableEq
inductive COp where
  | eq | ne | lt | le | gt | ge | isn | nisn | isb | nisb | isin | nin
  deriving DecidableEq
inductive Bi where
  | len | max2 | min2 | abs | int1 | tuple | list | sorted | all | any | sum
  deriving DecidableEq
/-- the built-in classes that isinstance asks for -/
inductive Ty where
  | int | bool | str | tuple | list
  deriving DecidableEq

mutual
/-- a target: a slot, a tuple of targets -/
inductive Pt where
  | n (i : Nat)
  | t (ps : Pts)
inductive Pts where
  | nil
  | cons (p : Pt) (ps : Pts)
end
mutual
inductive E where
  | v (i : Nat)
  | c (d : D)
  | g (k : Nat)
  | neg (a : E)
  | bin (o : BOp) (a b : E)
  | cmp (o : COp) (a b : E)
  | ch2 (o p : COp) (a b c : E)
  | ch3 (o p q : COp) (a b c d : E)
  | and_ (a b : E)
  | or_ (a b : E)
  | not_ (a : E)
  | ife (c a b : E)
  | tup (es : Es)
  | lst (es : Es)
  | ix (a i : E)
  | ixv (s : Nat) (i : E)
  | sl (a : E) (lo hi : E)
  /-- a slot's row, cut -/
  | slv (s : Nat) (lo hi : E)
  | rev (a : E)
  | call (k : Nat) (es : Es)
  | bi (b : Bi) (es : Es)
  | lenv (s : Nat)
  | inv (neg : Bool) (a : E) (s : Nat)
  | isi (a : E) (ts : List Ty)
  | lc (i : Nat) (it : I) (c : E) (e : E)
  /-- a comprehension over a tuple target -/
  | lct (p : Pt) (it : I) (c : E) (e : E)
  | meth (o : E) (m : Nat) (es : Es)
  | new (c : Nat)
  /-- isinstance(a, the own class c) -/
  | isk (a : E) (c : Nat)
  /-- o.A, a constant of the class -/
  | cat (o : E) (a : Nat)
  /-- super().m(..) in a method of the class d: the def j -/
  | sup (d j : Nat) (es : Es)
  /-- a call of a def with n parameters and a star parameter -/
  | cls (k n : Nat) (es : Es)
  /-- a call of a shape: arguments, keywords' values -/
  | callk (j i : Nat) (nms : List Str) (es ks : Es)
  | dic0
  /-- list(d), the slot's own dict -/
  | keys (s : Nat)
  /-- sorted(set(..)) -/
  | sset (e : E)
  /-- xs.count(x), the slot's list -/
  | cntl (s : Nat) (a : E)
  | lr (s : Nat)
inductive Es where
  | nil
  | cons (e : E) (es : Es)
/-- what is walked -/
inductive I where
  | seq (e : E)
  | rng1 (e : E)
  | rng2 (a b : E)
  /-- range(a, b, -1) -/
  | rngd (a b : E)
  /-- a tuple -/
  | tsq (e : E)
end

/-- what a handler tells: the error's field, isinstance of it (isv: of ValueError), a constant, a slot -/
inductive HI where
  | fld
  | is1 (c : Nat)
  | is (cs : List Nat)
  | isv
  | cst (d : D)
  | vr (i : Nat)
  | and_ (a b : HI)
  | or_ (a b : HI)
  | not_ (a : HI)
/-- a handler's statement: (slot i) = the part (sh 0), the tuple (1), the list (2) of the parts -/
structure HS where
  i : Nat
  sh : Nat
  its : List HI

mutual
inductive S where
  | pass
  | set (i : Nat) (e : E)
  | tset (is : List Nat) (e : E)
  | six (i : Nat) (k e : E)
  | app (i : Nat) (e : E)
  /-- d[k] = e, the slot's own dict -/
  | dput (i : Nat) (k e : E)
  /-- xs.extend(list) -/
  | ext (i : Nat) (e : E)
  /-- xs.remove(int) -/
  | rem (i : Nat) (e : E)
  | ex (e : E)
  | aug (i : Nat) (o : BOp) (e : E)
  | ret (e : E)
  | retN
  | ift (c : E) (a b : Ss)
  | for_ (is : List Nat) (it : I) (b : Ss)
  | forp (p : Pt) (it : I) (b : Ss)
  | whl (c : E) (b : Ss)
  | brk
  | cnt
  | rse (c : Nat) (e : E)
  /-- try b except c as (slot ie): hs -/
  | try_ (b : Ss) (ie c : Nat) (hs : List HS)
  | mtc (e : E) (cs : Ms)
inductive Ss where
  | nil
  | cons (s : S) (ss : Ss)
/-- a match statement's cases -/
inductive Ms where
  | nil
  | val (d : D) (b : Ss) (cs : Ms)
  | any (b : Ss)
end

/-! ### operations on data -/
/-- the bound of sizes -/
def LIM : Nat := 100000

mutual
def eqD : D → D → Bool
  | .non, .non => true
  | .bl a, .bl b => a == b
  | .bl a, .int j => (if a then 1 else 0) == j
  | .int i, .bl b => i == (if b then 1 else 0)
  | .int i, .int j => i == j
  | .str x, .str y => x == y
  | .lst xs, .lst ys => eqDs xs ys
  | .tup xs, .tup ys => eqDs xs ys
  | _, _ => false
def eqDs : List D → List D → Bool
  | [], [] => true
  | x :: xs, y :: ys => eqD x y && eqDs xs ys
  | _, _ => false
end
mutual
/-- data that == serves: nothing but None, bools, ints, texts, lists, tuples; not deeper than n -/
def eqOk : Nat → D → Bool
  | _, .non => true
  | _, .bl _ => true
  | _, .int _ => true
  | _, .str x => PyData.strOk x
  | n, .lst ds => decide (0 < n) && eqOks (n - 1) ds
  | n, .tup ds => decide (0 < n) && eqOks (n - 1) ds
  | _, .dic _ _ => false
  | _, .ob _ _ _ => false
  | _, .rol _ => false
def eqOks : Nat → List D → Bool
  | _, [] => true
  | n, d :: ds => eqOk n d && eqOks n ds
end

def addD : D → D → Option Rv
  | .int i, .int j => some (.fz (.int (i + j)))
  | .tup a, .tup b => if a.length + b.length ≤ LIM then some (.fz (.tup (a ++ b))) else none
  | .lst a, .lst b => if a.length + b.length ≤ LIM then some (.lv (a ++ b)) else none
  | _, _ => none
def subD : D → D → Option Rv
  | .int i, .int j => some (.fz (.int (i - j)))
  | _, _ => none
def mulD : D → D → Option Rv
  | .int i, .int j => if (-(2 ^ 64) < i ∧ i < 2 ^ 64) ∨ (-(2 ^ 64) < j ∧ j < 2 ^ 64) then some (.fz (.int (i * j))) else none
  | _, _ => none
def modD : D → D → Option Rv
  | .int i, .int j => if 0 < j then some (.fz (.int (i % j))) else none
  | _, _ => none
def fdvD : D → D → Option Rv
  | .int i, .int j => if 0 < j ∧ j < 1073741824 then some (.fz (.int (i / j))) else none
  | _, _ => none
def powD : D → D → Option Rv
  | .int i, .int j => if 0 ≤ j ∧ j ≤ 1000000 ∧ i.natAbs < 2 ^ 64 then some (.fz (.int (i ^ j.toNat))) else none
  | _, _ => none
def binD : BOp → D → D → Option Rv
  | .add => addD
  | .sub => subD
  | .mul => mulD
  | .mod => modD
  | .fdv => fdvD
  | .pow => powD

def flatD : D → Bool
  | .non => true
  | .bl _ => true
  | .int _ => true
  | .str _ => true
  | _ => false

def inD (x : D) (ds : List D) : Bool := ds.any fun y => eqD y x

def itemsOf : D → Option (List D)
  | .lst ds => some ds
  | .tup ds => some ds
  | .rol ds => some ds
  | _ => none

def ltD (p : Int → Int → Bool) : D → D → Option Bool
  | .int i, .int j => some (p i j)
  | _, _ => none
def isN (d : D) : Bool := match d with
  | .non => true
  | _ => false
def isND (n : Bool) : D → D → Option Bool
  | d, .non => some (if n then !isN d else isN d)
  | _, _ => none
def isBD (n : Bool) : D → D → Option Bool
  | .bl a, .bl b => some (if n then !(a == b) else a == b)
  | _, _ => none
/-- data that in serves -/
def inOk (x : D) (ds : List D) : Bool := (flatD x && ds.all flatD) || (eqOk 60 x && eqOks 59 ds)
def inSD (n : Bool) (x y : D) : Option Bool := match y with
  | .lst ds => if inOk x ds then some (if n then !inD x ds else inD x ds) else none
  | .tup ds => if inOk x ds then some (if n then !inD x ds else inD x ds) else none
  | _ => none
def eqED (n : Bool) (a b : D) : Option Bool := if eqOk 60 a && eqOk 60 b then some (if n then !eqD a b else eqD a b) else none
def cmpD : COp → D → D → Option Bool
  | .eq => eqED false
  | .ne => eqED true
  | .lt => ltD fun i j => decide (i < j)
  | .le => ltD fun i j => decide (i ≤ j)
  | .gt => ltD fun i j => decide (j < i)
  | .ge => ltD fun i j => decide (j ≤ i)
  | .isn => isND false
  | .nisn => isND true
  | .isb => isBD false
  | .nisb => isBD true
  | .isin => inSD false
  | .nin => inSD true

def ixD : D → D → Option D
  | .lst ds, .int i => atI ds i
  | .tup ds, .int i => atI ds i
  | _, _ => none

def cutD (ds : List D) (lo hi : Option Int) : List D := (ds.drop (HT.sIx ds.length 0 lo)).take (HT.sIx ds.length ds.length hi - HT.sIx ds.length 0 lo)
def slD : D → Option Int → Option Int → Option Rv
  | .lst ds, lo, hi => some (.lv (cutD ds lo hi))
  | .tup ds, lo, hi => some (.fz (.tup (cutD ds lo hi)))
  | .rol ds, lo, hi => some (.lv (cutD ds lo hi))
  | _, _, _ => none
def revD : D → Option Rv
  | .lst ds => some (.lv ds.reverse)
  | .tup ds => some (.fz (.tup ds.reverse))
  | _ => none

def insI (x : Int) : List Int → List Int
  | [] => [x]
  | y :: ys => if x ≤ y then x :: y :: ys else y :: insI x ys
def sortI : List Int → List Int
  | [] => []
  | x :: xs => insI x (sortI xs)

def insU (x : Int) : List Int → List Int
  | [] => [x]
  | y :: ys => if x < y then x :: y :: ys else if x = y then y :: ys else y :: insU x ys
def sortU : List Int → List Int
  | [] => []
  | x :: xs => insU x (sortU xs)
def keyD : Key → D
  | .inl i => .int i
  | .inr x => .str x
def dKey : D → Option Key
  | .int i => some (.inl i)
  | .str x => some (.inr x)
  | _ => none
/-- an own dict with a key more, or a key's worth changed -/
def dputD (ks : List Key) (ds : List D) (k : Key) (d : D) : List Key × List D := if (ks.any fun j => decide (j = k)) = true then (ks, List.zipWith (fun j y => if j = k then d else y) ks ds) else (ks ++ [k], ds ++ [d])
def intsOf : List D → Option (List Int)
  | [] => some []
  | .int i :: r => (intsOf r).map (i :: ·)
  | _ => none
def boolsOf : List D → Option (List Bool)
  | [] => some []
  | .bl b :: r => (boolsOf r).map (b :: ·)
  | _ => none

def biD : Bi → List D → Option Rv
  | .len, [.lst ds] => some (.fz (.int ds.length))
  | .len, [.tup ds] => some (.fz (.int ds.length))
  | .max2, [.int i, .int j] => some (.fz (.int (if j > i then j else i)))
  | .min2, [.int i, .int j] => some (.fz (.int (if j < i then j else i)))
  | .abs, [.int i] => some (.fz (.int (if i < 0 then -i else i)))
  | .int1, [.int i] => some (.fz (.int i))
  | .int1, [.bl b] => some (.fz (.int (if b then 1 else 0)))
  | .tuple, [.lst ds] => some (.fz (.tup ds))
  | .tuple, [.tup ds] => some (.fz (.tup ds))
  | .list, [.lst ds] => some (.lv ds)
  | .list, [.tup ds] => some (.lv ds)
  | .sorted, [.lst ds] => (intsOf ds).map fun l => .lv ((sortI l).map D.int)
  | .sorted, [.tup ds] => (intsOf ds).map fun l => .lv ((sortI l).map D.int)
  | .all, [.lst ds] => (boolsOf ds).map fun l => .fz (.bl (l.all id))
  | .any, [.lst ds] => (boolsOf ds).map fun l => .fz (.bl (l.any id))
  | .sum, [.lst ds] => (intsOf ds).map fun l => .fz (.int l.sum)
  | _, _ => none

/-- sorted(set(..)) of a list of ints -/
def ssetD : D → Option Rv
  | .lst ds => (intsOf ds).bind fun l => if l.length ≤ 1000 ∧ (sortU l).length < 64 then some (.lv ((sortU l).map D.int)) else none
  | _ => none
def cntD : D → D → Option Rv
  | .lst ds, .int k => (intsOf ds).map fun l => .fz (.int (l.count k))
  | _, _ => none
/-- xs.remove(int): the first one -/
def remD (ds : List D) (x : D) : Option (List D) := match intsOf ds, x with
  | some l, .int k => if k ∈ l then some ((l.erase k).map D.int) else none
  | _, _ => none

def isTy : D → Ty → Option Bool
  | .non, _ => some false
  | .bl _, .int => some true
  | .bl _, .bool => some true
  | .bl _, _ => some false
  | .int _, .int => some true
  | .int _, _ => some false
  | .str _, .str => some true
  | .str _, _ => some false
  | .tup _, .tuple => some true
  | .tup _, _ => some false
  | .lst _, .list => some true
  | .lst _, _ => some false
  | _, _ => none
def isTys (d : D) : List Ty → Option Bool
  | [] => some false
  | t :: ts => (isTy d t).bind fun b => (isTys d ts).map fun c => b || c

/-! ### slots -/
def useSl (δ : Env) (i : Nat) : Rs Rv := match δ[i]? with
  | some (.fz d) => .ok (.fz d) δ
  | some (.lv ds) => .ok (.fz (.lst ds)) (δ.set i (.fz (.lst ds)))
  | _ => .no
def moveSl (δ : Env) (i : Nat) : Rs Rv := match δ[i]? with
  | some (.fz d) => .ok (.fz d) δ
  | some (.lv ds) => .ok (.lv ds) (δ.set i .un)
  | some (.dv ks ds) => .ok (.dv ks ds) (δ.set i .un)
  | _ => .no
/-- the list that a slot holds, settled or own -/
def lookSl (δ : Env) (i : Nat) : Option D := match δ[i]? with
  | some (.fz d) => some d
  | some (.lv ds) => some (.lst ds)
  | some (.lp ds) => some (.lst ds)
  | _ => none
/-- .. a list -/
def lookLs (δ : Env) (i : Nat) : Option (List D) := match lookSl δ i with
  | some (.lst ds) => some ds
  | _ => none
/-- an own list in a slot -/
def liveSl (δ : Env) (i : Nat) : Option (List D) := match δ[i]? with
  | some (.lv ds) => some ds
  | some (.lp ds) => some ds
  | _ => none
/-- an own dict in a slot -/
def dicSl (δ : Env) (i : Nat) : Option (List Key × List D) := match δ[i]? with
  | some (.dv ks ds) => some (ks, ds)
  | _ => none
/-- a store to a slot: a parameter's own list can't be left -/
def putSl (δ : Env) (i : Nat) (r : Rv) : Option Env := match δ[i]? with
  | some (.lp _) => none
  | some _ => some (δ.set i r.sl)
  | none => none
/-- an own list changed in place -/
def chgSl (δ : Env) (i : Nat) (f : List D → Option (List D)) : Option Env := match δ[i]? with
  | some (.lv ds) => (f ds).map fun ds' => δ.set i (.lv ds')
  | some (.lp ds) => (f ds).map fun ds' => δ.set i (.lp ds')
  | _ => none

def argSl (δ : Env) : Ag → Option Sl
  | .d x => some (.fz x)
  | .r i => match δ[i]? with
    | some (.lv ds) => some (.lp ds)
    | some (.lp ds) => some (.lp ds)
    | _ => none
def argSls (δ : Env) : List Ag → Option (List Sl)
  | [] => some []
  | a :: as => (argSl δ a).bind fun s => (argSls δ as).map fun r => s :: r
def putBack (δ : Env) : List Ag → List Sl → Option Env
  | [], _ => some δ
  | .d _ :: as, _ :: os => putBack δ as os
  | .r i :: as, .lp ds :: os => (chgSl δ i fun _ => some ds).bind fun δ' => putBack δ' as os
  | _, _ => none
def noDup : List Ag → Bool
  | [] => true
  | .d _ :: as => noDup as
  | .r i :: as => (as.all fun a => match a with | .r j => decide (i ≠ j) | .d _ => true) && noDup as
/-- a call of a def: the arguments, then the defaults that fill up -/
def callF (f : Fn) (as : List Ag) (δ : Env) : Rs Rv :=
  match decide (as.length ≤ f.np ∧ f.np - as.length ≤ f.dfl.length) && noDup as, argSls δ as with
  | true, some ss => match f.run (ss ++ (f.dfl.drop (f.dfl.length - (f.np - as.length))).map Sl.fz) with
    | .ok r outs => (match putBack δ as outs with | some δ' => .ok r δ' | none => .no)
    | .er x outs => (match putBack δ as outs with | some δ' => .er x δ' | none => .no)
    | .no => .no
  | _, _ => .no

def optR {α : Type} (o : Option α) (δ : Env) : Rs α := match o with
  | some a => .ok a δ
  | none => .no

/-- range(a, .., -1) -/
def rangeDn (a : Int) : Nat → List D
  | 0 => []
  | n + 1 => .int a :: rangeDn (a - 1) n
def selD (gl xs : List D) : Sel → Option D
  | .a i => xs[i]?
  | .c d => some d
  | .g j _ => match gl[j]? with
    | some (.tup ds) => some (.tup ds)
    | _ => none
def selDs (gl xs : List D) : List Sel → Option (List D)
  | [] => some []
  | s :: ss => (selD gl xs s).bind fun d => (selDs gl xs ss).map fun ds => d :: ds
def rangeD (a : Int) : Nat → List D
  | 0 => []
  | n + 1 => .int a :: rangeD (a + 1) n

/-- a row of names is stored from data -/
def putAll (δ : Env) : List Nat → List D → Option Env
  | [], [] => some δ
  | i :: is, d :: ds => (putSl δ i (.fz d)).bind fun δ' => putAll δ' is ds
  | _, _ => none
def bindT (δ : Env) : List Nat → D → Option Env
  | [i], d => putSl δ i (.fz d)
  | is, .tup ds => putAll δ is ds
  | _, _ => none

def tupOf : D → Option (List D)
  | .tup ds => some ds
  | _ => none
/-- no error leaves -/
def Rs.ne {α : Type} : Rs α → Rs α
  | .er _ _ => .no
  | r => r
/-- a comprehension's turns over the items: tst, elt are run in the environment; no error leaves it -/
def lcGo (i : Nat) (tst : Env → Rs Rv) (elt : Env → Rs Rv) : List D → List D → Env → Rs (List D)
  | [], acc, δ => .ok acc δ
  | x :: xs, acc, δ =>
    (tst (δ.set i (.fz x))).ne.bind fun b δ1 => match b with
      | .fz (.bl true) => (elt δ1).ne.bind fun r δ2 => if acc.length < LIM then lcGo i tst elt xs (acc ++ [r.d]) (δ2.set i .un) else .no
      | .fz (.bl false) => lcGo i tst elt xs acc (δ1.set i .un)
      | _ => .no
/-- the slot of a comprehension's own name: nothing own stands there -/
def lcSl (δ : Env) (i : Nat) : Option Sl := match δ[i]? with
  | some .un => some .un
  | some (.fz d) => some (.fz d)
  | _ => none
def lcRun (i : Nat) (tst elt : Env → Rs Rv) (xs : List D) (δ : Env) : Rs Rv := match lcSl δ i with
  | some s => (lcGo i tst elt xs [] (δ.set i .un)).bind fun acc δ' => .ok (.lv acc) (δ'.set i s)
  | none => .no

mutual
def putPt (δ : Env) : Pt → D → Option Env
  | .n i, d => putSl δ i (.fz d)
  | .t ps, d => match d with
    | .tup ds => putPts δ ps ds
    | _ => none
def putPts (δ : Env) : Pts → List D → Option Env
  | .nil, ds => match ds with
    | [] => some δ
    | _ => none
  | .cons p ps, ds => match ds with
    | d :: ds => (putPt δ p d).bind fun δ' => putPts δ' ps ds
    | [] => none
end
mutual
def Pt.is : Pt → List Nat
  | .n i => [i]
  | .t ps => ps.is
def Pts.is : Pts → List Nat
  | .nil => []
  | .cons p ps => p.is ++ ps.is
end
def wipeE (δ : Env) : List Nat → Env
  | [] => δ
  | i :: is => (wipeE δ is).set i .un
def backE (δ : Env) : List Nat → List Sl → Env
  | i :: is, s :: ss => (backE δ is ss).set i s
  | _, _ => δ
def lcSls (δ : Env) : List Nat → Option (List Sl)
  | [] => some []
  | i :: is => (lcSl δ i).bind fun s => (lcSls δ is).map fun r => s :: r
def lctGo (p : Pt) (tst : Env → Rs Rv) (elt : Env → Rs Rv) : List D → List D → Env → Rs (List D)
  | [], acc, δ => .ok acc δ
  | x :: xs, acc, δ => match putPt δ p x with
    | none => .no
    | some δ0 => (tst δ0).ne.bind fun b δ1 => match b with
      | .fz (.bl true) => (elt δ1).ne.bind fun r δ2 => if acc.length < LIM then lctGo p tst elt xs (acc ++ [r.d]) (wipeE δ2 p.is) else .no
      | .fz (.bl false) => lctGo p tst elt xs acc (wipeE δ1 p.is)
      | _ => .no
def lctRun (p : Pt) (tst elt : Env → Rs Rv) (xs : List D) (δ : Env) : Rs Rv := match lcSls δ p.is with
  | some ss => (lctGo p tst elt xs [] (wipeE δ p.is)).bind fun acc δ' => .ok (.lv acc) (backE δ' p.is ss)
  | none => .no
def forpGo (p : Pt) (body : Env → Rs Fl) : List D → Env → Rs Fl
  | [], δ => .ok .nx δ
  | x :: xs, δ => match putPt δ p x with
    | none => .no
    | some δ1 => (body δ1).bind fun f δ2 => match f with
      | .nx => forpGo p body xs δ2
      | .ct => forpGo p body xs δ2
      | .bk => .ok .nx δ2
      | .rt r => .ok (.rt r) δ2
def forGo (is : List Nat) (body : Env → Rs Fl) : List D → Env → Rs Fl
  | [], δ => .ok .nx δ
  | x :: xs, δ => match bindT δ is x with
    | none => .no
    | some δ1 => (body δ1).bind fun f δ2 => match f with
      | .nx => forGo is body xs δ2
      | .ct => forGo is body xs δ2
      | .bk => .ok .nx δ2
      | .rt r => .ok (.rt r) δ2

/-- the bound of a while's turns -/
def WH : Nat := 1000000
def whlGo (tst : Env → Rs Rv) (body : Env → Rs Fl) : Nat → Env → Rs Fl
  | 0, _ => .no
  | n + 1, δ => (tst δ).bind fun b δ1 => match b with
    | .fz (.bl true) => (body δ1).bind fun f δ2 => match f with
      | .nx => whlGo tst body n δ2
      | .ct => whlGo tst body n δ2
      | .bk => .ok .nx δ2
      | .rt r => .ok (.rt r) δ2
    | .fz (.bl false) => .ok .nx δ1
    | _ => .no

def isNonE : E → Bool
  | .c .non => true
  | _ => false
def intP (r : Rv) (δ : Env) : Rs (Option Int) := match r with
  | .fz (.int i) => .ok (some i) δ
  | _ => .no
def isLr : E → Option Nat
  | .lr s => some s
  | _ => none

def hiD (P : Pr) (x : Xn) (δ : Env) : HI → Option D
  | .fld => x.d
  | .is1 c => some (.bl (P.sub x.c c))
  | .is cs => some (.bl (cs.any (P.sub x.c)))
  | .isv => some (.bl true)
  | .cst d => some d
  | .vr i => match δ[i]? with
    | some (.fz d) => some d
    | _ => none
  | .and_ a b => match hiD P x δ a with
    | some (.bl true) => hiD P x δ b
    | some (.bl false) => some (.bl false)
    | _ => none
  | .or_ a b => match hiD P x δ a with
    | some (.bl true) => some (.bl true)
    | some (.bl false) => hiD P x δ b
    | _ => none
  | .not_ a => match hiD P x δ a with
    | some (.bl b) => some (.bl (!b))
    | _ => none
def hiDs (P : Pr) (x : Xn) (δ : Env) : List HI → Option (List D)
  | [] => some []
  | h :: hs => (hiD P x δ h).bind fun d => (hiDs P x δ hs).map fun ds => d :: ds
def hsD (P : Pr) (x : Xn) (δ : Env) (h : HS) : Option Rv := match h.sh, h.its with
  | 0, [a] => (hiD P x δ a).map Rv.fz
  | 1, its => (hiDs P x δ its).bind fun ds => if ds.length ≤ LIM then some (.fz (.tup ds)) else none
  | 2, its => (hiDs P x δ its).bind fun ds => if ds.length ≤ LIM then some (.lv ds) else none
  | _, _ => none
/-- a handler's statements -/
def hsGo (P : Pr) (x : Xn) : List HS → Env → Option Env
  | [], δ => some δ
  | h :: hs, δ => (hsD P x δ h).bind fun r => (putSl δ h.i r).bind fun δ' => hsGo P x hs δ'
/-- a handler's run -/
def hand (P : Pr) (x : Xn) (ie : Nat) (hs : List HS) (δ : Env) : Rs Fl := match lcSl δ ie with
  | some _ => (optR (hsGo P x hs (δ.set ie .un)) δ).bind fun δ' _ => .ok .nx (δ'.set ie .un)
  | none => .no

section
variable (P : Pr)
mutual
def ev : E → Env → Rs Rv
  | .v i, δ => useSl δ i
  | .c d, δ => .ok (.fz d) δ
  | .g k, δ => optR ((P.gl[k]?).map Rv.fz) δ
  | .neg a, δ => (ev a δ).bind fun x δ => match x.d with | .int i => .ok (.fz (.int (-i))) δ | _ => .no
  | .bin o a b, δ => (ev a δ).bind fun x δ => (ev b δ).bind fun y δ => optR (binD o x.d y.d) δ
  | .cmp o a b, δ => (ev a δ).bind fun x δ => (ev b δ).bind fun y δ => optR ((cmpD o x.d y.d).map fun c => .fz (.bl c)) δ
  | .ch2 o p a b c, δ => (ev a δ).bind fun x δ => (ev b δ).bind fun y δ => match cmpD o x.d y.d with
    | some true => (ev c δ).bind fun z δ => optR ((cmpD p y.d z.d).map fun c => .fz (.bl c)) δ
    | some false => .ok (.fz (.bl false)) δ
    | none => .no
  | .ch3 o p q a b c d, δ => (ev a δ).bind fun x δ => (ev b δ).bind fun y δ => match cmpD o x.d y.d with
    | some true => (ev c δ).bind fun z δ => (match cmpD p y.d z.d with
      | some true => (ev d δ).bind fun w δ => optR ((cmpD q z.d w.d).map fun c => .fz (.bl c)) δ
      | some false => .ok (.fz (.bl false)) δ
      | none => .no)
    | some false => .ok (.fz (.bl false)) δ
    | none => .no
  | .and_ a b, δ => (ev a δ).bind fun x δ => match x with | .fz (.bl true) => ev b δ | .fz (.bl false) => .ok (.fz (.bl false)) δ | _ => .no
  | .or_ a b, δ => (ev a δ).bind fun x δ => match x with | .fz (.bl true) => .ok (.fz (.bl true)) δ | .fz (.bl false) => ev b δ | _ => .no
  | .not_ a, δ => (ev a δ).bind fun x δ => match x with | .fz (.bl b) => .ok (.fz (.bl (!b))) δ | _ => .no
  | .ife c a b, δ => (ev c δ).bind fun x δ => match x with | .fz (.bl true) => ev a δ | .fz (.bl false) => ev b δ | _ => .no
  | .tup es, δ => (evs es δ).bind fun xs δ => if xs.length ≤ LIM then .ok (.fz (.tup xs)) δ else .no
  | .lst es, δ => (evs es δ).bind fun xs δ => if xs.length ≤ LIM then .ok (.lv xs) δ else .no
  | .ix a i, δ => (ev a δ).bind fun x δ => (ev i δ).bind fun y δ => optR ((ixD x.d y.d).map Rv.fz) δ
  | .ixv s i, δ => (optR (lookSl δ s) δ).bind fun _ δ => (ev i δ).bind fun y δ => optR ((lookSl δ s).bind fun x => (ixD x y.d).map Rv.fz) δ
  | .sl a lo hi, δ => (ev a δ).bind fun x δ => (if isNonE lo then .ok none δ else (ev lo δ).bind intP).bind fun l δ => (if isNonE hi then .ok none δ else (ev hi δ).bind intP).bind fun h δ => optR (slD x.d l h) δ
  | .slv s lo hi, δ => (optR (lookSl δ s) δ).bind fun _ δ => (if isNonE lo then .ok none δ else (ev lo δ).bind intP).bind fun l δ => (if isNonE hi then .ok none δ else (ev hi δ).bind intP).bind fun h δ => optR ((lookSl δ s).bind fun x => slD x l h) δ
  | .rev a, δ => (ev a δ).bind fun x δ => optR (revD x.d) δ
  | .call k es, δ => match P.fn[k]? with
    | some f => (evA es δ).bind fun as δ => callF f as δ
    | none => .no
  | .bi b es, δ => (evs es δ).bind fun xs δ => optR (biD b xs) δ
  | .lenv s, δ => optR ((lookSl δ s).bind fun x => biD .len [x]) δ
  | .inv n a s, δ => (ev a δ).bind fun x δ => optR ((lookSl δ s).bind fun y => (cmpD (if n then .nin else .isin) x.d y).map fun c => .fz (.bl c)) δ
  | .isi a ts, δ => (ev a δ).bind fun x δ => optR ((isTys x.d ts).map fun b => .fz (.bl b)) δ
  | .lc i it c e, δ => (evI it δ).bind fun xs δ => lcRun i (ev c) (ev e) xs δ
  | .lct p it c e, δ => (evI it δ).bind fun xs δ => lctRun p (ev c) (ev e) xs δ
  | .meth o m es, δ => (ev o δ).bind fun x δ => match x.d with
    | .ob c fs ds => (match (P.mt c m).bind fun k => P.fn[k]? with
      | some f => (evA es δ).bind fun as δ => callF f (.d (.ob c fs ds) :: as) δ
      | none => .no)
    | _ => .no
  | .new c, δ => .ok (.fz (.ob c [] [])) δ
  | .isk a c, δ => (ev a δ).bind fun x δ => match x.d with
    | .ob c' _ _ => optR (if P.kin c' c' = true then some (.fz (.bl (P.kin c' c))) else none) δ
    | _ => .no
  | .cat o a, δ => (ev o δ).bind fun x δ => match x.d with
    | .ob c _ _ => optR ((P.ca c a).map Rv.fz) δ
    | _ => .no
  | .sup d j es, δ => match (δ[0]? : Option Sl), P.fn[j]? with
    | some (.fz (.ob c fs ds)), some f => if P.kin c d then (evA es δ).bind fun as δ => callF f (.d (.ob c fs ds) :: as) δ else .no
    | _, _ => .no
  | .cls k n es, δ => match P.fn[k]? with
    | some f => (evs es δ).bind fun xs δ => if n ≤ xs.length ∧ xs.length ≤ LIM then callF f ((xs.take n).map Ag.d ++ [.d (.tup (xs.drop n))]) δ else .no
    | none => .no
  | .callk j i nms es ks, δ => match P.fn[j]? with
    | some f => (match f.shs[i]? with
      | some h => if h.ks = nms then (evs es δ).bind fun xs δ => (evs ks δ).bind fun zs δ => if xs.length = h.n ∧ zs.length = h.ks.length then (optR (selDs P.gl (xs ++ zs) h.sel) δ).bind fun as δ => callF f (as.map Ag.d) δ else .no else .no
      | none => .no)
    | none => .no
  | .dic0, δ => .ok (.dv [] []) δ
  | .keys s, δ => optR ((dicSl δ s).map fun q => .lv (q.1.map keyD)) δ
  | .sset e, δ => (ev e δ).bind fun x δ => optR (ssetD x.d) δ
  | .cntl s a, δ => (optR (lookLs δ s) δ).bind fun _ δ => (ev a δ).bind fun y δ => optR ((lookLs δ s).bind fun ds => cntD (.lst ds) y.d) δ
  | .lr _, _ => .no
def evs : Es → Env → Rs (List D)
  | .nil, δ => .ok [] δ
  | .cons e es, δ => (ev e δ).bind fun x δ => (evs es δ).bind fun xs δ => .ok (x.d :: xs) δ
def evA : Es → Env → Rs (List Ag)
  | .nil, δ => .ok [] δ
  | .cons e es, δ => match isLr e with
    | some s => (optR (lookSl δ s) δ).bind fun _ δ => (evA es δ).bind fun xs δ => .ok (.r s :: xs) δ
    | none => (ev e δ).bind fun x δ => (evA es δ).bind fun xs δ => .ok (.d x.d :: xs) δ
def evI : I → Env → Rs (List D)
  | .seq e, δ => (ev e δ).bind fun x δ => optR (itemsOf x.d) δ
  | .rng1 e, δ => (ev e δ).bind fun x δ => match x.d with
    | .int j => if -(2 ^ 62) ≤ j ∧ j < 2 ^ 62 then .ok (rangeD 0 j.toNat) δ else .no
    | _ => .no
  | .rng2 a b, δ => (ev a δ).bind fun x δ => (ev b δ).bind fun y δ => match x.d, y.d with
    | .int i, .int j => if -(2 ^ 62) ≤ i ∧ i < 2 ^ 62 ∧ -(2 ^ 62) ≤ j ∧ j < 2 ^ 62 then .ok (rangeD i (j - i).toNat) δ else .no
    | _, _ => .no
  | .rngd a b, δ => (ev a δ).bind fun x δ => (ev b δ).bind fun y δ => match x.d, y.d with
    | .int i, .int j => if -(2 ^ 62) ≤ i ∧ i < 2 ^ 62 ∧ -(2 ^ 62) ≤ j ∧ j < 2 ^ 62 then .ok (rangeDn i (i - j).toNat) δ else .no
    | _, _ => .no
  | .tsq e, δ => (ev e δ).bind fun x δ => optR (tupOf x.d) δ
end

mutual
def ex : S → Env → Rs Fl
  | .pass, δ => .ok .nx δ
  | .set i e, δ => (ev P e δ).bind fun r δ => (optR (putSl δ i r) δ).bind fun δ' _ => .ok .nx δ'
  | .tset is e, δ => (ev P e δ).bind fun r δ => match r.d with
    | .tup ds => (optR (putAll δ is ds) δ).bind fun δ' _ => .ok .nx δ'
    | _ => .no
  | .six i k e, δ => (ev P e δ).bind fun y δ => (optR (liveSl δ i) δ).bind fun _ δ => (ev P k δ).bind fun x δ => match x.d with
    | .int j => (optR (chgSl δ i fun ds => (ixN ds.length j).map fun n => ds.set n y.d) δ).bind fun δ' _ => .ok .nx δ'
    | _ => .no
  | .app i e, δ => (optR (liveSl δ i) δ).bind fun _ δ => (ev P e δ).bind fun y δ => (optR (chgSl δ i fun ds => if ds.length < LIM then some (ds ++ [y.d]) else none) δ).bind fun δ' _ => .ok .nx δ'
  | .dput i k e, δ => (ev P e δ).bind fun y δ => (optR (dicSl δ i) δ).bind fun _ δ => (ev P k δ).bind fun x δ => match dicSl δ i, dKey x.d with
    | some (ks, ds), some k => if ks.length < LIM then .ok .nx (δ.set i (.dv (dputD ks ds k y.d).1 (dputD ks ds k y.d).2)) else .no
    | _, _ => .no
  | .ext i e, δ => (optR (liveSl δ i) δ).bind fun _ δ => (ev P e δ).bind fun y δ => match y with
    | .lv zs => (optR (chgSl δ i fun ds => if ds.length + zs.length ≤ LIM then some (ds ++ zs) else none) δ).bind fun δ' _ => .ok .nx δ'
    | _ => .no
  | .rem i e, δ => (optR (liveSl δ i) δ).bind fun _ δ => (ev P e δ).bind fun y δ => (optR (chgSl δ i fun ds => remD ds y.d) δ).bind fun δ' _ => .ok .nx δ'
  | .ex e, δ => (ev P e δ).bind fun _ δ => .ok .nx δ
  | .aug i o e, δ => match δ[i]? with
    | some (.fz d) => (ev P e δ).bind fun y δ => match d, binD o d y.d with
      | .int _, some r => (optR (putSl δ i r) δ).bind fun δ' _ => .ok .nx δ'
      | _, _ => .no
    | _ => .no
  | .ret e, δ => (match e with
    | .v i => moveSl δ i
    | e => ev P e δ).bind fun r δ => .ok (.rt r) δ
  | .retN, δ => .ok (.rt (.fz .non)) δ
  | .ift c a b, δ => (ev P c δ).bind fun x δ => match x with
    | .fz (.bl true) => exs a δ
    | .fz (.bl false) => exs b δ
    | _ => .no
  | .for_ is it b, δ => (evI P it δ).bind fun xs δ => forGo is (exs b) xs δ
  | .forp p it b, δ => (evI P it δ).bind fun xs δ => forpGo p (exs b) xs δ
  | .whl c b, δ => whlGo (ev P c) (exs b) WH δ
  | .brk, δ => .ok .bk δ
  | .cnt, δ => .ok .ct δ
  | .rse c e, δ => (ev P e δ).bind fun r δ => .er ⟨c, some r.d⟩ δ
  | .try_ b ie c hs, δ => match exs b δ with
    | .er x δ' => if P.sub x.c c then hand P x ie hs δ' else .er x δ'
    | r => r
  | .mtc e cs, δ => (ev P e δ).bind fun r δ => exm cs r.d δ
def exs : Ss → Env → Rs Fl
  | .nil, δ => .ok .nx δ
  | .cons s ss, δ => (ex s δ).bind fun f δ => match f with
    | .nx => exs ss δ
    | f => .ok f δ
def exm : Ms → D → Env → Rs Fl
  | .nil, _, δ => .ok .nx δ
  | .val d b cs, x, δ => match eqED false x d with
    | some true => exs b δ
    | some false => exm cs x δ
    | none => .no
  | .any b, _, δ => exs b δ
end
end

/-- the parameters' own lists still stand in their slots -/
def lpOk : List Sl → Env → Bool
  | [], _ => true
  | .lp _ :: as, .lp _ :: δ => lpOk as δ
  | .lp _ :: _, _ => false
  | _ :: as, _ :: δ => lpOk as δ
  | _ :: _, [] => false
def fin (as : List Sl) : Rs Fl → FR
  | .ok .nx δ => if lpOk as δ then .ok (.fz .non) (δ.take as.length) else .no
  | .ok (.rt r) δ => if lpOk as δ then .ok r (δ.take as.length) else .no
  | .ok _ _ => .no
  | .er x δ => if lpOk as δ then .er x (δ.take as.length) else .no
  | .no => .no
/-- a def by its body: n slots in all -/
def mk (P : Pr) (np n : Nat) (dfl : List D) (b : Ss) (shs : List Shp := []) : Fn where
  np := np
  dfl := dfl
  shs := shs
  run := fun as => fin as (exs P b (as ++ List.replicate (n - as.length) .un))
end QL

end
section
set_option Elab.async false
set_option linter.all false
/-! Q2: how data lies in the abstract heap; states. -/
namespace QL
open PySem L2

structure Gd where
  K : PySem.W.Frag
  cl : Nat → Addr
  fl : Nat → Str

mutual
/-- the value v is the data d in the part C of the heap -/
def Rp (G : Gd) (C : Hp) : D → V → Prop
  | .non, v => v = .non
  | .bl b, v => v = .bl b
  | .int i, v => v = .int i
  | .str x, v => v = .str x
  | .tup ds, v => ∃ a xs, v = .ref a ∧ SqT G.K C a xs ∧ Rps G C ds xs
  | .lst ds, v => ∃ a xs, v = .ref a ∧ C a = some (.lst xs) ∧ Rps G C ds xs
  | .rol ds, v => ∃ a xs, v = .ref a ∧ SqL G.K C a xs ∧ Rps G C ds xs
  | .dic ks ds, v => ∃ a xs, v = .ref a ∧ C a = some (.dK (ks.zip xs)) ∧ ks.length = ds.length ∧ Rps G C ds xs
  | .ob c fs ds, v => ∃ a dx xs, v = .ref a ∧ C a = some (.ins (G.cl c) dx ((fs.map G.fl).zip xs)) ∧ fs.length = ds.length ∧ Rps G C ds xs
def Rps (G : Gd) (C : Hp) : List D → List V → Prop
  | [], xs => xs = []
  | d :: ds, xs => ∃ x r, xs = x :: r ∧ Rp G C d x ∧ Rps G C ds r
end

theorem same_upd {H : Hp} {p : Addr} {o : HO} (h : H p = none) : Same H (upd H p o) := fun b x e => by
  rw [upd_ne (ne_of_none e h)]
  exact e
theorem Same.rd {H H' : Hp} (e : Same H H') {a : Addr} {u : HO} (h : Rd H a u) : Rd H' a u := by
  rcases h with h | ⟨o, h⟩
  · exact .inl (e a _ h)
  · exact .inr ⟨o, e a _ h⟩
theorem Same.sqL {K : PySem.W.Frag} {H H' : Hp} (e : Same H H') {a : Addr} {xs : List V} (h : SqL K H a xs) : SqL K H' a xs := h.imp (QL.Same.rd e) id
theorem Same.sqT {K : PySem.W.Frag} {H H' : Hp} (e : Same H H') {a : Addr} {xs : List V} (h : SqT K H a xs) : SqT K H' a xs := h.imp (QL.Same.rd e) id

section
variable {G : Gd} {C C' : Hp}
mutual
theorem Rp.mono (e : Same C C') : ∀ (d : D) (v : V), Rp G C d v → Rp G C' d v
  | .non, _, h => h
  | .bl _, _, h => h
  | .int _, _, h => h
  | .str _, _, h => h
  | .tup ds, v, h => by
    unfold Rp at h ⊢
    obtain ⟨a, xs, h1, h2, h3⟩ := h
    exact ⟨a, xs, h1, QL.Same.sqT e h2, Rps.mono e ds xs h3⟩
  | .lst ds, v, h => by
    unfold Rp at h ⊢
    obtain ⟨a, xs, h1, h2, h3⟩ := h
    exact ⟨a, xs, h1, e _ _ h2, Rps.mono e ds xs h3⟩
  | .rol ds, v, h => by
    unfold Rp at h ⊢
    obtain ⟨a, xs, h1, h2, h3⟩ := h
    exact ⟨a, xs, h1, QL.Same.sqL e h2, Rps.mono e ds xs h3⟩
  | .dic ks ds, v, h => by
    unfold Rp at h ⊢
    obtain ⟨a, xs, h1, h2, h4, h3⟩ := h
    exact ⟨a, xs, h1, e _ _ h2, h4, Rps.mono e ds xs h3⟩
  | .ob c fs ds, v, h => by
    unfold Rp at h ⊢
    obtain ⟨a, dx, xs, h1, h2, h4, h3⟩ := h
    exact ⟨a, dx, xs, h1, e _ _ h2, h4, Rps.mono e ds xs h3⟩
theorem Rps.mono (e : Same C C') : ∀ (ds : List D) (xs : List V), Rps G C ds xs → Rps G C' ds xs
  | [], _, h => h
  | d :: ds, xs, h => by
    unfold Rps at h ⊢
    obtain ⟨x, r, h1, h2, h3⟩ := h
    exact ⟨x, r, h1, Rp.mono e d x h2, Rps.mono e ds r h3⟩
end

theorem Rp.non {v : V} : Rp G C .non v ↔ v = .non := by unfold Rp; exact Iff.rfl
theorem Rp.bl {b : Bool} {v : V} : Rp G C (.bl b) v ↔ v = .bl b := by unfold Rp; exact Iff.rfl
theorem Rp.int {i : Int} {v : V} : Rp G C (.int i) v ↔ v = .int i := by unfold Rp; exact Iff.rfl
theorem Rp.str {x : Str} {v : V} : Rp G C (.str x) v ↔ v = .str x := by unfold Rp; exact Iff.rfl
theorem Rp.tup {ds : List D} {v : V} : Rp G C (.tup ds) v ↔ ∃ a xs, v = .ref a ∧ SqT G.K C a xs ∧ Rps G C ds xs := by conv => lhs; unfold Rp
theorem Rp.lst {ds : List D} {v : V} : Rp G C (.lst ds) v ↔ ∃ a xs, v = .ref a ∧ C a = some (.lst xs) ∧ Rps G C ds xs := by conv => lhs; unfold Rp
theorem Rp.rol {ds : List D} {v : V} : Rp G C (.rol ds) v ↔ ∃ a xs, v = .ref a ∧ SqL G.K C a xs ∧ Rps G C ds xs := by conv => lhs; unfold Rp
theorem Rp.ob {c : Nat} {fs : List Nat} {ds : List D} {v : V} : Rp G C (.ob c fs ds) v ↔ ∃ a dx xs, v = .ref a ∧ C a = some (.ins (G.cl c) dx ((fs.map G.fl).zip xs)) ∧ fs.length = ds.length ∧ Rps G C ds xs := by conv => lhs; unfold Rp
theorem Rps.nil {xs : List V} : Rps G C [] xs ↔ xs = [] := by unfold Rps; exact Iff.rfl
theorem Rps.cons {d : D} {ds : List D} {xs : List V} : Rps G C (d :: ds) xs ↔ ∃ x r, xs = x :: r ∧ Rp G C d x ∧ Rps G C ds r := by conv => lhs; unfold Rps
theorem Rps.len : ∀ {ds : List D} {xs : List V}, Rps G C ds xs → ds.length = xs.length
  | [], _, h => by rw [Rps.nil.mp h]; rfl
  | d :: ds, _, h => by
    obtain ⟨x, r, rfl, _, h2⟩ := Rps.cons.mp h
    rw [List.length_cons, List.length_cons, Rps.len h2]
theorem Rps.get : ∀ {ds : List D} {xs : List V} {i : Nat} {d : D}, Rps G C ds xs → ds[i]? = some d → ∃ x, xs[i]? = some x ∧ Rp G C d x
  | [], _, _, _, _, e => by simp at e
  | d :: ds, _, 0, d', h, e => by
    obtain ⟨x, r, rfl, h1, _⟩ := Rps.cons.mp h
    cases (Option.some.inj e)
    exact ⟨x, rfl, h1⟩
  | d :: ds, _, i + 1, d', h, e => by
    obtain ⟨x, r, rfl, _, h2⟩ := Rps.cons.mp h
    exact Rps.get (i := i) h2 e
theorem Rps.get' : ∀ {ds : List D} {xs : List V} {i : Nat} {x : V}, Rps G C ds xs → xs[i]? = some x → ∃ d, ds[i]? = some d ∧ Rp G C d x
  | [], _, _, _, h, e => by rw [Rps.nil.mp h] at e; simp at e
  | d :: ds, _, 0, _, h, e => by
    obtain ⟨x, r, rfl, h1, _⟩ := Rps.cons.mp h
    cases (Option.some.inj e)
    exact ⟨d, rfl, h1⟩
  | d :: ds, _, i + 1, _, h, e => by
    obtain ⟨x, r, rfl, _, h2⟩ := Rps.cons.mp h
    exact Rps.get' (i := i) h2 e
theorem Rps.append : ∀ {ds es : List D} {xs ys : List V}, Rps G C ds xs → Rps G C es ys → Rps G C (ds ++ es) (xs ++ ys)
  | [], _, _, _, h, h' => by rw [Rps.nil.mp h]; exact h'
  | d :: ds, _, _, _, h, h' => by
    obtain ⟨x, r, rfl, h1, h2⟩ := Rps.cons.mp h
    exact Rps.cons.mpr ⟨x, _, rfl, h1, Rps.append h2 h'⟩
theorem Rps.take : ∀ (n : Nat) {ds : List D} {xs : List V}, Rps G C ds xs → Rps G C (ds.take n) (xs.take n)
  | 0, _, _, _ => Rps.nil.mpr rfl
  | _ + 1, [], _, h => by rw [Rps.nil.mp h]; exact Rps.nil.mpr rfl
  | n + 1, d :: ds, _, h => by
    obtain ⟨x, r, rfl, h1, h2⟩ := Rps.cons.mp h
    exact Rps.cons.mpr ⟨x, _, rfl, h1, Rps.take n h2⟩
theorem Rps.drop : ∀ (n : Nat) {ds : List D} {xs : List V}, Rps G C ds xs → Rps G C (ds.drop n) (xs.drop n)
  | 0, _, _, h => h
  | _ + 1, [], _, h => by rw [Rps.nil.mp h]; exact Rps.nil.mpr rfl
  | n + 1, d :: ds, _, h => by
    obtain ⟨x, r, rfl, h1, h2⟩ := Rps.cons.mp h
    exact Rps.drop n h2
theorem Rps.set {d : D} {x : V} (hd : Rp G C d x) : ∀ (n : Nat) {ds : List D} {xs : List V}, Rps G C ds xs → Rps G C (ds.set n d) (xs.set n x)
  | _, [], _, h => by rw [Rps.nil.mp h]; exact Rps.nil.mpr rfl
  | 0, _ :: ds, _, h => by
    obtain ⟨y, r, rfl, h1, h2⟩ := Rps.cons.mp h
    exact Rps.cons.mpr ⟨x, _, rfl, hd, h2⟩
  | n + 1, _ :: ds, _, h => by
    obtain ⟨y, r, rfl, h1, h2⟩ := Rps.cons.mp h
    exact Rps.cons.mpr ⟨y, _, rfl, h1, Rps.set hd n h2⟩
theorem Rps.one {d : D} {x : V} (h : Rp G C d x) : Rps G C [d] [x] := Rps.cons.mpr ⟨x, [], rfl, h, Rps.nil.mpr rfl⟩
theorem Rps.reverse : ∀ {ds : List D} {xs : List V}, Rps G C ds xs → Rps G C ds.reverse xs.reverse
  | [], _, h => by rw [Rps.nil.mp h]; exact Rps.nil.mpr rfl
  | d :: ds, _, h => by
    obtain ⟨x, r, rfl, h1, h2⟩ := Rps.cons.mp h
    rw [List.reverse_cons, List.reverse_cons]
    exact Rps.append (Rps.reverse h2) (Rps.one h1)
end

/-! ### states -/
/-- what stays fixed while a body runs: the heap at its entry, the part that it may look at there, the parameters' own lists (by slot) -/
structure Bd where
  G : Gd
  H0 : Hp
  C0 : Hp
  L0 : Addr → Prop
  pa : Nat → Option Addr

def isLv : Sl → Bool
  | .lv _ => true
  | .lp _ => true
  | .dv _ _ => true
  | _ => false

/-- one slot -/
def SlotR (B : Bd) (H C : Hp) (i : Nat) (s : Sl) (o : Option V) : Prop := match s with
  | .un => True
  | .fz d => ∃ v, o = some v ∧ Rp B.G C d v
  | .lv ds => ∃ a xs, o = some (V.ref a) ∧ H a = some (.lst xs) ∧ C a = none ∧ B.H0 a = none ∧ Rps B.G C ds xs
  | .lp ds => ∃ a xs, o = some (V.ref a) ∧ H a = some (.lst xs) ∧ C a = none ∧ (B.L0 a ∧ B.pa i = some a) ∧ Rps B.G C ds xs
  | .dv ks ds => ∃ a xs, o = some (V.ref a) ∧ H a = some (.dK (ks.zip xs)) ∧ C a = none ∧ B.H0 a = none ∧ ks.length = ds.length ∧ Rps B.G C ds xs

/-- no slot holds the own thing at a -/
def Off (σ : L2.St) (δ : Env) (a : Addr) : Prop := ∀ (i : Nat) (s : Sl), δ[i]? = some s → isLv s = true → σ[i]? ≠ some (some (V.ref a))

/-- the state: σ the slots' values, H the heap, C its settled part, δ what the slots are -/
structure Rl (B : Bd) (σ : L2.St) (H C : Hp) (δ : Env) : Prop where
  len : σ.length = δ.length
  slot : ∀ (i : Nat) (s : Sl) (o : Option V), δ[i]? = some s → σ[i]? = some o → SlotR B H C i s o
  sub : Same C H
  conf : ∀ a o, C a = some o → B.C0 a = some o ∨ B.H0 a = none
  vis : Same B.C0 C
  keep : ∀ a o, B.H0 a = some o → ¬ B.L0 a → H a = some o
  al0 : ∀ a, H a = none → B.H0 a = none
  apart : ∀ (i j : Nat) (s t : Sl) (a : Addr), i ≠ j → δ[i]? = some s → δ[j]? = some t → isLv s = true → isLv t = true → σ[i]? = some (some (V.ref a)) → σ[j]? ≠ some (some (V.ref a))

/-- from a state to a later one -/
structure Stp (σ : L2.St) (H C : Hp) (δ : Env) (H' C' : Hp) (δ' : Env) : Prop where
  cs : Same C C'
  fr : ∀ a o, H a = some o → Off σ δ a → H' a = some o
  off : ∀ a o, H a = some o → Off σ δ a → Off σ δ' a
  cn : ∀ a o, H a = some o → C a = none → Off σ δ a → C' a = none
  al : ∀ a, H' a = none → H a = none

/-- a value; Hb the heap ahead of it -/
def RvR (B : Bd) (σ : L2.St) (Hb H C : Hp) (δ : Env) (r : Rv) (v : V) : Prop := match r with
  | .fz d => Rp B.G C d v
  | .lv ds => ∃ a xs, v = V.ref a ∧ H a = some (.lst xs) ∧ C a = none ∧ (B.H0 a = none ∧ Hb a = none) ∧ Off σ δ a ∧ Rps B.G C ds xs
  | .dv ks ds => ∃ a xs, v = V.ref a ∧ H a = some (.dK (ks.zip xs)) ∧ C a = none ∧ (B.H0 a = none ∧ Hb a = none) ∧ Off σ δ a ∧ ks.length = ds.length ∧ Rps B.G C ds xs

section
variable {B : Bd} {σ : L2.St} {H C H' C' H2 C2 : Hp} {δ δ' δ2 : Env}
theorem Stp.refl : Stp σ H C δ H C δ := ⟨L2.Same.refl _, fun _ _ h _ => h, fun _ _ _ h => h, fun _ _ _ h _ => h, fun _ h => h⟩
theorem Stp.trans (a : Stp σ H C δ H' C' δ') (b : Stp σ H' C' δ' H2 C2 δ2) : Stp σ H C δ H2 C2 δ2 :=
  ⟨a.cs.trans b.cs, fun x o h f => b.fr x o (a.fr x o h f) (a.off x o h f), fun x o h f => b.off x o (a.fr x o h f) (a.off x o h f), fun x o h n f => b.cn x o (a.fr x o h f) (a.cn x o h n f) (a.off x o h f), fun x h => a.al x (b.al x h)⟩

theorem Rl.at_ (R : Rl B σ H C δ) {i : Nat} {s : Sl} (h : δ[i]? = some s) : ∃ o, σ[i]? = some o ∧ SlotR B H C i s o := by
  have hi : i < δ.length := (List.getElem?_eq_some_iff.mp h).1
  have hs : i < σ.length := by rw [R.len]; exact hi
  exact ⟨σ[i], List.getElem?_eq_getElem hs, R.slot i s _ h (List.getElem?_eq_getElem hs)⟩
/-- an own thing's object is there, not settled -/
theorem SlotR.obj {s : Sl} {i : Nat} {o : Option V} (h : SlotR B H C i s o) (l : isLv s = true) : ∃ a u, o = some (V.ref a) ∧ H a = some u ∧ C a = none := by
  cases s with
  | un => cases l
  | fz d => cases l
  | lv ds => obtain ⟨a, xs, h1, h2, h3, _⟩ := h; exact ⟨a, _, h1, h2, h3⟩
  | lp ds => obtain ⟨a, xs, h1, h2, h3, _⟩ := h; exact ⟨a, _, h1, h2, h3⟩
  | dv ks ds => obtain ⟨a, xs, h1, h2, h3, _⟩ := h; exact ⟨a, _, h1, h2, h3⟩
theorem Rl.offNone (R : Rl B σ H C δ) {a : Addr} (h : H a = none) : Off σ δ a := fun i s hs l e => by
  obtain ⟨o, ho, q⟩ := R.at_ hs
  obtain ⟨b, u, e1, e2, _⟩ := q.obj l
  rw [ho, e1] at e
  cases e
  rw [h] at e2
  cases e2
theorem Rl.offC (R : Rl B σ H C δ) {a : Addr} {u : HO} (h : C a = some u) : Off σ δ a := fun i s hs l e => by
  obtain ⟨o, ho, q⟩ := R.at_ hs
  obtain ⟨b, u, e1, _, e2⟩ := q.obj l
  rw [ho, e1] at e
  cases e
  rw [h] at e2
  cases e2
/-- a slot under a later heap in which the settled part has grown and the own things stand -/
theorem SlotR.mono {s : Sl} {i : Nat} {o : Option V} (h : SlotR B H C i s o) (cs : Same C C') (fr : ∀ a u, isLv s = true → o = some (V.ref a) → H a = some u → C a = none → H' a = some u ∧ C' a = none) : SlotR B H' C' i s o := by
  cases s with
  | un => exact h
  | fz d => obtain ⟨v, h1, h2⟩ := h; exact ⟨v, h1, Rp.mono cs _ _ h2⟩
  | lv ds =>
    obtain ⟨a, xs, h1, h2, h3, h4, h5⟩ := h
    obtain ⟨q1, q2⟩ := fr a _ rfl h1 h2 h3
    exact ⟨a, xs, h1, q1, q2, h4, Rps.mono cs _ _ h5⟩
  | lp ds =>
    obtain ⟨a, xs, h1, h2, h3, h4, h5⟩ := h
    obtain ⟨q1, q2⟩ := fr a _ rfl h1 h2 h3
    exact ⟨a, xs, h1, q1, q2, h4, Rps.mono cs _ _ h5⟩
  | dv ks ds =>
    obtain ⟨a, xs, h1, h2, h3, h4, h6, h5⟩ := h
    obtain ⟨q1, q2⟩ := fr a _ rfl h1 h2 h3
    exact ⟨a, xs, h1, q1, q2, h4, h6, Rps.mono cs _ _ h5⟩
theorem Rl.cNone (R : Rl B σ H C δ) {p : Addr} (hp : H p = none) : C p = none := by
  cases e : C p with
  | none => rfl
  | some u => rw [R.sub _ _ e] at hp; cases hp
/-- a new object, settled at once -/
theorem Rl.new (R : Rl B σ H C δ) {p : Addr} (o : HO) (hp : H p = none) : Rl B σ (upd H p o) (upd C p o) δ ∧ Stp σ H C δ (upd H p o) (upd C p o) δ := by
  have cp := R.cNone hp
  have ne : ∀ {a : Addr} {u : HO}, H a = some u → a ≠ p := fun h => ne_of_none h hp
  refine ⟨⟨R.len, fun i s o' h1 h2 => (R.slot i s o' h1 h2).mono (same_upd cp) fun a u _ _ h3 h4 => ?_, fun a u h => ?_, fun a u h => ?_, R.vis.trans (same_upd cp), fun a u h1 h2 => ?_, fun a h => ?_, R.apart⟩, ⟨same_upd cp, fun a u h _ => ?_, fun _ _ _ h => h, fun a u h n _ => ?_, fun a h => ?_⟩⟩
  · rw [upd_ne (ne h3), upd_ne (ne h3)]; exact ⟨h3, h4⟩
  · by_cases e : a = p
    · subst e; rw [upd_same] at h ⊢; exact h
    · rw [upd_ne e] at h ⊢; exact R.sub _ _ h
  · by_cases e : a = p
    · subst e; exact .inr (R.al0 _ hp)
    · rw [upd_ne e] at h; exact R.conf _ _ h
  · have h3 := R.keep _ _ h1 h2
    rw [upd_ne (ne h3)]; exact h3
  · by_cases e : a = p
    · subst e; exact R.al0 _ hp
    · rw [upd_ne e] at h; exact R.al0 _ h
  · rw [upd_ne (ne h)]; exact h
  · rw [upd_ne (ne h)]; exact n
  · by_cases e : a = p
    · subst e; exact hp
    · rw [upd_ne e] at h; exact h
/-- a new object, an own one -/
theorem Rl.newO (R : Rl B σ H C δ) {p : Addr} (o : HO) (hp : H p = none) : Rl B σ (upd H p o) C δ ∧ Stp σ H C δ (upd H p o) C δ ∧ C p = none ∧ B.H0 p = none ∧ Off σ δ p := by
  have cp := R.cNone hp
  have ne : ∀ {a : Addr} {u : HO}, H a = some u → a ≠ p := fun h => ne_of_none h hp
  refine ⟨⟨R.len, fun i s o' h1 h2 => (R.slot i s o' h1 h2).mono (L2.Same.refl _) fun a u _ _ h3 h4 => ?_, fun a u h => ?_, R.conf, R.vis, fun a u h1 h2 => ?_, fun a h => ?_, R.apart⟩, ⟨L2.Same.refl _, fun a u h _ => ?_, fun _ _ _ h => h, fun a u h n _ => n, fun a h => ?_⟩, cp, R.al0 _ hp, R.offNone hp⟩
  · rw [upd_ne (ne h3)]; exact ⟨h3, h4⟩
  · rw [upd_ne (ne (R.sub _ _ h))]; exact R.sub _ _ h
  · have h3 := R.keep _ _ h1 h2
    rw [upd_ne (ne h3)]; exact h3
  · by_cases e : a = p
    · subst e; exact R.al0 _ hp
    · rw [upd_ne e] at h; exact R.al0 _ h
  · rw [upd_ne (ne h)]; exact h
  · by_cases e : a = p
    · subst e; exact hp
    · rw [upd_ne e] at h; exact h
/-- an own thing that no slot holds is settled -/
theorem Rl.settle (R : Rl B σ H C δ) {p : Addr} {o : HO} (hp : H p = some o) (cp : C p = none) (h0 : B.H0 p = none) (hf : Off σ δ p) : Rl B σ H (upd C p o) δ := by
  refine ⟨R.len, fun i s o' h1 h2 => (R.slot i s o' h1 h2).mono (same_upd cp) fun a u l e h3 h4 => ⟨h3, ?_⟩, fun a u h => ?_, fun a u h => ?_, R.vis.trans (same_upd cp), R.keep, R.al0, R.apart⟩
  · have ne : a ≠ p := fun z => by
      subst z
      exact hf i s h1 l (by rw [h2, e])
    rw [upd_ne ne]; exact h4
  · by_cases e : a = p
    · subst e; rw [upd_same] at h; cases h; exact hp
    · rw [upd_ne e] at h; exact R.sub _ _ h
  · by_cases e : a = p
    · subst e; exact .inr h0
    · rw [upd_ne e] at h; exact R.conf _ _ h
/-- a value is settled: it is its data -/
theorem Rl.frz {r : Rv} {v : V} {Hb Cb : Hp} {δb : Env} (R : Rl B σ H C δ) (s : Stp σ Hb Cb δb H C δ) (h : RvR B σ Hb H C δ r v) : ∃ C1, Rl B σ H C1 δ ∧ Stp σ Hb Cb δb H C1 δ ∧ Rp B.G C1 r.d v := by
  have go : ∀ {p : Addr} {o : HO}, H p = some o → C p = none → B.H0 p = none → Hb p = none → Off σ δ p → Rl B σ H (upd C p o) δ ∧ Stp σ Hb Cb δb H (upd C p o) δ ∧ Same C (upd C p o) := fun {p o} h1 h2 h3 h4 h5 =>
    ⟨R.settle h1 h2 h3 h5, ⟨s.cs.trans (same_upd h2), s.fr, s.off, fun a u e n f => by rw [upd_ne (ne_of_none e h4)]; exact s.cn a u e n f, s.al⟩, same_upd h2⟩
  cases r with
  | fz d => exact ⟨C, R, s, h⟩
  | lv ds =>
    obtain ⟨p, xs, rfl, h1, h2, ⟨h3, h4⟩, h5, h6⟩ := h
    obtain ⟨q1, q2, q3⟩ := go h1 h2 h3 h4 h5
    exact ⟨_, q1, q2, Rp.lst.mpr ⟨p, xs, rfl, upd_same, Rps.mono q3 _ _ h6⟩⟩
  | dv ks ds =>
    obtain ⟨p, xs, rfl, h1, h2, ⟨h3, h4⟩, h5, h7, h6⟩ := h
    obtain ⟨q1, q2, q3⟩ := go h1 h2 h3 h4 h5
    refine ⟨_, q1, q2, ?_⟩
    unfold Rp Rv.d
    exact ⟨p, xs, rfl, upd_same, h7, Rps.mono q3 _ _ h6⟩
end

/-! ### readings -/
structure Xg where
  /-- the error classes by number, the field's name -/
  xc : Nat → Addr
  xf : Nat → Str
  /-- those that are raised -/
  rs : List Nat
/-- an error -/
def XnR (G : Gd) (Y : Xg) (H C : Hp) (x : Xn) (cls : Value) (dd : Option Addr) : Prop := x.c ∈ Y.rs ∧ cls = .ref (Y.xc x.c) ∧ match x.d with
  | none => False
  | some d => ∃ da v, dd = some da ∧ C da = some (.xd [(Y.xf x.c, v)]) ∧ Rp G C d v

/-- the context of readings: the body's ground, the errors' classes, the wish about errors -/
structure Tx where
  B : Bd
  Y : Xg
  W : WX

def Out {α : Type} (T : Tx) (σ : L2.St) (H C : Hp) (δ : Env) (S : α → Hp → Hp → Env → Prop) : Rs α → Prop
  | .ok a δ' => ∀ H' C', Rl T.B σ H' C' δ' → Stp σ H C δ H' C' δ' → S a H' C' δ'
  | .er x δ' => ∀ cls dd H' C', Rl T.B σ H' C' δ' → Same C C' → XnR T.B.G T.Y H' C' x cls dd → T.W cls dd σ H'
  | .no => False
theorem Out.base {α : Type} {T : Tx} {σ : L2.St} {H C H1 C1 : Hp} {δ δ1 : Env} {S : α → Hp → Hp → Env → Prop} : ∀ {r : Rs α}, Out T σ H C δ S r → Stp σ H C δ H1 C1 δ1 → Out T σ H1 C1 δ1 S r
  | .ok a δ', h, s => fun H' C' R q => h H' C' R (s.trans q)
  | .er x δ', h, s => fun cls dd H' C' R q => h cls dd H' C' R (s.cs.trans q)
  | .no, h, _ => h
theorem Out.here {α : Type} {T : Tx} {σ : L2.St} {H C : Hp} {δ : Env} {S : α → Hp → Hp → Env → Prop} {a : α} (h : Out T σ H C δ S (.ok a δ)) (R : Rl T.B σ H C δ) : S a H C δ := h H C R .refl

/-- an expression that f tells -/
def tE (T : Tx) (f : Env → Rs Rv) : TE := fun σ H Q => ∃ C δ, Rl T.B σ H C δ ∧ Out T σ H C δ (fun r H' C' δ' => ∀ v, RvR T.B σ H H' C' δ' r v → Q v H') (f δ)
def tAs (T : Tx) (f : Env → Rs (List D)) : TA := fun σ H Q => ∃ C δ, Rl T.B σ H C δ ∧ Out T σ H C δ (fun ds H' C' δ' => ∀ vs, Rps T.B.G C' ds vs → Q vs H') (f δ)

section
variable {T : Tx} {σ : L2.St} {H C : Hp} {δ : Env}
/-- a part first, its value settled, then the rest -/
theorem tE.then {β : Type} {S : β → Hp → Hp → Env → Prop} {fa : Env → Rs Rv} {k : Rv → Env → Rs β} {Q : VK} (R : Rl T.B σ H C δ) (h : Out T σ H C δ S ((fa δ).bind k))
    (hk : ∀ r δ1 H1 C1 v, Rl T.B σ H1 C1 δ1 → Stp σ H C δ H1 C1 δ1 → Rp T.B.G C1 r.d v → Out T σ H1 C1 δ1 S (k r δ1) → Q v H1) : tE T fa σ H Q := by
  refine ⟨C, δ, R, ?_⟩
  cases e : fa δ with
  | ok r δ1 =>
    rw [e] at h
    intro H1 C1 R1 s1 v hv
    obtain ⟨C2, R2, s2, hp⟩ := R1.frz s1 hv
    exact hk r δ1 H1 C2 v R2 s2 hp (Out.base h s2)
  | er x δ1 =>
    rw [e] at h
    exact h
  | no =>
    rw [e] at h
    exact h
/-- .. its value as it is -/
theorem tE.thenR {β : Type} {S : β → Hp → Hp → Env → Prop} {fa : Env → Rs Rv} {k : Rv → Env → Rs β} {Q : VK} (R : Rl T.B σ H C δ) (h : Out T σ H C δ S ((fa δ).bind k))
    (hk : ∀ r δ1 H1 C1 v, Rl T.B σ H1 C1 δ1 → Stp σ H C δ H1 C1 δ1 → RvR T.B σ H H1 C1 δ1 r v → Out T σ H1 C1 δ1 S (k r δ1) → Q v H1) : tE T fa σ H Q := by
  refine ⟨C, δ, R, ?_⟩
  cases e : fa δ with
  | ok r δ1 =>
    rw [e] at h
    intro H1 C1 R1 s1 v hv
    exact hk r δ1 H1 C1 v R1 s1 hv (Out.base h s1)
  | er x δ1 =>
    rw [e] at h
    exact h
  | no =>
    rw [e] at h
    exact h
theorem tAs.then {β : Type} {S : β → Hp → Hp → Env → Prop} {fa : Env → Rs (List D)} {k : List D → Env → Rs β} {Q : List V → Hp → Prop} (R : Rl T.B σ H C δ) (h : Out T σ H C δ S ((fa δ).bind k))
    (hk : ∀ ds δ1 H1 C1 vs, Rl T.B σ H1 C1 δ1 → Stp σ H C δ H1 C1 δ1 → Rps T.B.G C1 ds vs → Out T σ H1 C1 δ1 S (k ds δ1) → Q vs H1) : tAs T fa σ H Q := by
  refine ⟨C, δ, R, ?_⟩
  cases e : fa δ with
  | ok r δ1 =>
    rw [e] at h
    intro H1 C1 R1 s1 v hv
    exact hk r δ1 H1 C1 v R1 s1 hv (Out.base h s1)
  | er x δ1 =>
    rw [e] at h
    exact h
  | no =>
    rw [e] at h
    exact h
end
theorem PE.imp {X : Cx} {e : Expr} {t t' : TE} (h : PE X e t) (i : ∀ σ H Q, t' σ H Q → t σ H Q) : PE X e t' := ⟨fun pins s σ H Q I q => h.run pins s σ H Q I (i σ H Q q)⟩
theorem PT.imp {X : Cx} {e : Expr} {t t' : TT} (h : PT X e t) (i : ∀ σ H Q, t' σ H Q → t σ H Q) : PT X e t' := ⟨fun pins s σ H Q I q => h.run pins s σ H Q I (i σ H Q q)⟩
theorem PA.imp {X : Cx} {e : List Expr} {t t' : TA} (h : PA X e t) (i : ∀ σ H Q, t' σ H Q → t σ H Q) : PA X e t' := ⟨fun pos pins s σ H Q I q => h.run pos pins s σ H Q I (i σ H Q q)⟩
theorem PS.imp {X : Cx} {e : Stmt} {t t' : TS} (h : PS X e t) (i : ∀ D σ H, t' D σ H → t D σ H) : PS X e t' := ⟨fun pins s σ H D I q => h.run pins s σ H D I (i D σ H q)⟩
theorem PSs.imp {X : Cx} {e : List Stmt} {t t' : TS} (h : PSs X e t) (i : ∀ D σ H, t' D σ H → t D σ H) : PSs X e t' := ⟨fun pins s σ H D I q => h.run pins s σ H D I (i D σ H q)⟩
end QL

end
section
set_option Elab.async false
set_option linter.all false
/-! Q3: expressions keep what the small syntax tells. -/
namespace QL
open PySem PySem.Spec L2

theorem len_sz {n : Nat} (h : n ≤ LIM) : n ≤ sizeLine := Nat.le_trans h (by decide)
theorem len_szlt {n : Nat} (h : n < LIM) : n < sizeLine := Nat.lt_of_lt_of_le h (by decide)

section
variable {T : Tx} {X : Cx} {σ : L2.St} {H C : Hp} {δ : Env} {pos : Pos}

/-! ### names, constants -/
theorem set_get {α : Type} {l : List α} {i j : Nat} {a b : α} (h : (l.set i a)[j]? = some b) : (i = j ∧ b = a ∧ i < l.length) ∨ (i ≠ j ∧ l[j]? = some b) := by
  by_cases e : i = j
  · subst e
    by_cases hl : i < l.length
    · rw [List.getElem?_set_self hl] at h
      exact .inl ⟨rfl, (Option.some.inj h).symm, hl⟩
    · rw [List.getElem?_eq_none (by rw [List.length_set]; omega)] at h
      cases h
  · rw [List.getElem?_set_ne e] at h
    exact .inr ⟨e, h⟩
/-- an own list is settled in its slot -/
theorem Rl.useLv {B : Bd} (R : Rl B σ H C δ) {i : Nat} {ds : List D} (h : δ[i]? = some (.lv ds)) : ∃ a xs, σ[i]? = some (some (V.ref a)) ∧ Rl B σ H (upd C a (.lst xs)) (δ.set i (.fz (.lst ds))) ∧ Stp σ H C δ H (upd C a (.lst xs)) (δ.set i (.fz (.lst ds))) ∧ Rp B.G (upd C a (.lst xs)) (.lst ds) (V.ref a) := by
  obtain ⟨o, ho, a, xs, rfl, h1, h2, h3, h4⟩ := R.at_ h
  have cs : Same C (upd C a (.lst xs)) := same_upd h2
  have hr : Rp B.G (upd C a (.lst xs)) (.lst ds) (V.ref a) := Rp.lst.mpr ⟨a, xs, rfl, upd_same, Rps.mono cs _ _ h4⟩
  have od : ∀ b, Off σ δ b → Off σ (δ.set i (.fz (.lst ds))) b := fun b f j s hs l => by
    rcases set_get hs with ⟨_, e, _⟩ | ⟨_, e⟩
    · subst e; cases l
    · exact f j s e l
  refine ⟨a, xs, ho, ⟨by rw [List.length_set]; exact R.len, fun j s o' hs ho' => ?_, fun b u e => ?_, fun b u e => ?_, R.vis.trans cs, R.keep, R.al0, fun j k s t b jk hs ht ls lt ej => ?_⟩, ⟨cs, fun _ _ h _ => h, fun b _ _ f => od b f, fun b u e n f => ?_, fun _ h => h⟩, hr⟩
  · rcases set_get hs with ⟨rfl, e, _⟩ | ⟨ne, e⟩
    · subst e
      rw [ho] at ho'
      cases ho'
      exact ⟨_, rfl, hr⟩
    · refine (R.slot j s o' e ho').mono cs fun b u l eb hb cb => ⟨hb, ?_⟩
      have nb : b ≠ a := fun z => by
        subst z
        exact R.apart i j _ _ b ne h e rfl l ho (by rw [ho', eb])
      rw [upd_ne nb]; exact cb
  · by_cases z : b = a
    · subst z; rw [upd_same] at e; cases e; exact h1
    · rw [upd_ne z] at e; exact R.sub _ _ e
  · by_cases z : b = a
    · subst z; exact .inr h3
    · rw [upd_ne z] at e; exact R.conf _ _ e
  · rcases set_get hs with ⟨_, e, _⟩ | ⟨_, e⟩
    · subst e; cases ls
    · rcases set_get ht with ⟨_, e', _⟩ | ⟨_, e'⟩
      · subst e'; cases lt
      · exact R.apart j k s t b jk e e' ls lt ej
  · have nb : b ≠ a := fun z => by
      subst z
      exact f i _ h rfl ho
    rw [upd_ne nb]; exact n

theorem s_var {i : Nat} {x : Str} (hN : X.N[i]? = some x) (hv : Vis X.env.scope x) (hd : (x == ("__debug__" : Str)) = false) (hcd : (x == ("__classdict__" : Str)) = false) : PE X (.Name x pos) (tE T fun δ => useSl δ i) := by
  refine QL.PE.imp (pe_var hN hv hd hcd) fun σ H Q h => ?_
  obtain ⟨C, δ, R, h⟩ := h
  unfold useSl at h
  dsimp only at h
  cases e : δ[i]? with
  | none => rw [e] at h; exact h.elim
  | some s =>
    rw [e] at h
    cases s with
    | fz d =>
      obtain ⟨o, ho, v, rfl, hv⟩ := R.at_ e
      exact ⟨v, ho, h H C R .refl v hv⟩
    | lv ds =>
      obtain ⟨a, xs, ho, R2, s2, hp⟩ := R.useLv e
      exact ⟨_, ho, h H _ R2 s2 _ hp⟩
    | un => exact h.elim
    | lp ds => exact h.elim
    | dv ks ds => exact h.elim

theorem s_cst {e : Expr} {d : D} {v : V} (h : PE X e (tC v)) (r : ∀ C, Rp T.B.G C d v) : PE X e (tE T fun δ => .ok (.fz d) δ) := QL.PE.imp h fun σ H Q h => by
  obtain ⟨C, δ, R, h⟩ := h
  exact h.here R v (r C)
theorem s_int {i : Int} {j : Nat} : PE X (.Constant (.int i) j pos) (tE T fun δ => .ok (.fz (.int i)) δ) := s_cst pe_int fun _ => Rp.int.mpr rfl
theorem s_bl {b : Bool} {j : Nat} : PE X (.Constant (.bool b) j pos) (tE T fun δ => .ok (.fz (.bl b)) δ) := s_cst pe_bl fun _ => Rp.bl.mpr rfl
theorem s_non {j : Nat} : PE X (.Constant .none j pos) (tE T fun δ => .ok (.fz .non) δ) := s_cst pe_non fun _ => Rp.non.mpr rfl
theorem s_str {x : Str} {j : Nat} : PE X (.Constant (.str x) j pos) (tE T fun δ => .ok (.fz (.str x)) δ) := s_cst pe_str fun _ => Rp.str.mpr rfl
/-- the read name of the module: a constant of the written part -/
theorem s_glob {x : Str} {v : V} {u : Value} {d : D} (hg : Gl X x) (hm : X.mg x = some u) (r : RelV v u) (hd : (x == ("__debug__" : Str)) = false) (rp : ∀ C, Rp T.B.G C d v) : PE X (.Name x pos) (tE T fun δ => .ok (.fz d) δ) := s_cst (pe_glob hg hm r hd) rp

/-! ### two parts, then an operation on values -/
variable {a b c : Expr} {fa fb fc : Env → Rs Rv}
/-- an operation that is right on data -/
def OpD (T : Tx) (X : Cx) (g : Value → Value → Sem Value) (f : D → D → Option Rv) : Prop := ∃ r : R2, OpR X g r ∧ ∀ (σ : L2.St) (H C : Hp) (δ : Env) (x y : V) (dx dy : D) (z : Rv) (Q : VK), Rl T.B σ H C δ → Rp T.B.G C dx x → Rp T.B.G C dy y → f dx dy = some z →
  (∀ v H' C', Rl T.B σ H' C' δ → Stp σ H C δ H' C' δ → RvR T.B σ H H' C' δ z v → Q v H') → r x y H Q
theorem optR_some {α : Type} {S : α → Hp → Hp → Env → Prop} {o : Option α} {δ1 : Env} (h : Out T σ H C δ S (optR o δ1)) : ∃ z, o = some z ∧ Out T σ H C δ S (.ok z δ1) := by
  cases o with
  | none => exact h.elim
  | some z => exact ⟨z, rfl, h⟩
/-- what is left to show of a value from a later ground -/
theorem RvR.back {B : Bd} {Hb Hc H C : Hp} {δ : Env} {r : Rv} {v : V} (al : ∀ a, Hc a = none → Hb a = none) (h : RvR B σ Hc H C δ r v) : RvR B σ Hb H C δ r v := by
  cases r with
  | fz d => exact h
  | lv ds => obtain ⟨a, xs, h1, h2, h3, ⟨h4, h5⟩, h6⟩ := h; exact ⟨a, xs, h1, h2, h3, ⟨h4, al _ h5⟩, h6⟩
  | dv ks ds => obtain ⟨a, xs, h1, h2, h3, ⟨h4, h5⟩, h6⟩ := h; exact ⟨a, xs, h1, h2, h3, ⟨h4, al _ h5⟩, h6⟩
theorem s_op {e : Expr} {g : Value → Value → Sem Value} {f : D → D → Option Rv} (ho : OpD T X g f) (hp : ∀ {ta tb : TE} {r : R2}, OpR X g r → PE X a ta → PE X b tb → PE X e (tOp r ta tb)) (ha : PE X a (tE T fa)) (hb : PE X b (tE T fb)) :
    PE X e (tE T fun δ => (fa δ).bind fun x δ => (fb δ).bind fun y δ => optR (f x.d y.d) δ) := by
  obtain ⟨r, hr, hf⟩ := ho
  refine QL.PE.imp (hp hr ha hb) fun σ H Q h => ?_
  obtain ⟨C, δ, R, h⟩ := h
  refine tE.then R h fun x δ1 H1 C1 v R1 s1 p1 h1 => ?_
  refine tE.then R1 h1 fun y δ2 H2 C2 w R2 s2 p2 h2 => ?_
  obtain ⟨z, ez, h3⟩ := optR_some h2
  refine hf σ H2 C2 δ2 v w x.d y.d z Q R2 (Rp.mono s2.cs _ _ p1) p2 ez fun v' H' C' R' s' hv => h3 H' C' R' s' v' ?_
  exact RvR.back (fun a h => s1.al a (s2.al a h)) hv
theorem s_bin {op : Operator} {f : D → D → Option Rv} (ho : OpD T X (binaryOp op) f) (ha : PE X a (tE T fa)) (hb : PE X b (tE T fb)) : PE X (.BinOp a op b pos) (tE T fun δ => (fa δ).bind fun x δ => (fb δ).bind fun y δ => optR (f x.d y.d) δ) :=
  s_op ho (fun hr ha hb => pe_op hr ha hb) ha hb
theorem s_cmp {op : CmpOp} {f : D → D → Option Rv} (ho : OpD T X (compareOp op) f) (hm : behindInMarks op b = false) (ha : PE X a (tE T fa)) (hb : PE X b (tE T fb)) : PE X (.Compare a [op] [b] pos) (tE T fun δ => (fa δ).bind fun x δ => (fb δ).bind fun y δ => optR (f x.d y.d) δ) :=
  s_op ho (fun hr ha hb => pe_cmpR hr ha hb hm) ha hb

/-! ### the operators -/
theorem OpD.int {g : Value → Value → Sem Value} {f : D → D → Option Rv} {P : Int → Int → Prop} {h : Int → Int → V} (r : OpR X g (rI P h)) (hf : ∀ dx dy z, f dx dy = some z → ∃ i j d, dx = .int i ∧ dy = .int j ∧ P i j ∧ z = .fz d ∧ ∀ C, Rp T.B.G C d (h i j)) : OpD T X g f :=
  ⟨_, r, fun σ H C δ x y dx dy z Q R px py e k => by
    obtain ⟨i, j, d, rfl, rfl, hP, rfl, hd⟩ := hf dx dy z e
    exact ⟨i, j, Rp.int.mp px, Rp.int.mp py, hP, k _ H C R .refl (hd C)⟩⟩
theorem OpD.int0 {g : Value → Value → Sem Value} {f : D → D → Option Rv} {h : Int → Int → V} (r : OpR X g (rI0 h)) (hf : ∀ dx dy z, f dx dy = some z → ∃ i j d, dx = .int i ∧ dy = .int j ∧ z = .fz d ∧ ∀ C, Rp T.B.G C d (h i j)) : OpD T X g f :=
  ⟨_, r, fun σ H C δ x y dx dy z Q R px py e k => by
    obtain ⟨i, j, d, rfl, rfl, rfl, hd⟩ := hf dx dy z e
    exact ⟨i, j, Rp.int.mp px, Rp.int.mp py, k _ H C R .refl (hd C)⟩⟩
theorem od_add (hK : X.K = T.B.G.K) : OpD T X (binaryOp .Add) (binD .add) := by
  refine ⟨_, (op_add.or op_catA).or op_cat, fun σ H C δ x y dx dy z Q R px py e k => ?_⟩
  have e : addD dx dy = some z := e
  unfold addD at e
  split at e
  · cases e
    exact .inl (.inl ⟨_, _, Rp.int.mp px, Rp.int.mp py, k _ H C R .refl (show Rp T.B.G C _ _ from Rp.int.mpr rfl)⟩)
  · rename_i xs ys _
    split at e
    · rename_i hl
      cases e
      obtain ⟨a, us, rfl, ha, hu⟩ := Rp.tup.mp px
      obtain ⟨b, ws, rfl, hb, hw⟩ := Rp.tup.mp py
      rw [← hK] at ha hb
      refine .inl (.inr ⟨a, b, us, ws, rfl, rfl, QL.Same.sqT R.sub ha, QL.Same.sqT R.sub hb, ?_, fun e => ?_, fun _ e => ?_, fun _ _ p hp => ?_⟩)
      · rw [← hu.len, ← hw.len]; exact len_sz hl
      · subst e
        have e2 : xs = [] := List.eq_nil_of_length_eq_zero (by rw [hu.len]; rfl)
        subst e2
        exact k _ H C R .refl py
      · subst e
        have e2 : ys = [] := List.eq_nil_of_length_eq_zero (by rw [hw.len]; rfl)
        subst e2
        refine k _ H C R .refl ?_
        show Rp T.B.G C (.tup (xs ++ [])) _
        rw [List.append_nil]
        exact px
      · obtain ⟨R2, s2⟩ := R.new (.tup (us ++ ws)) hp
        exact k _ _ _ R2 s2 (Rp.tup.mpr ⟨p, _, rfl, .of upd_same, Rps.mono s2.cs _ _ (hu.append hw)⟩)
    · cases e
  · rename_i xs ys _
    split at e
    · rename_i hl
      cases e
      obtain ⟨a, us, rfl, ha, hu⟩ := Rp.lst.mp px
      obtain ⟨b, ws, rfl, hb, hw⟩ := Rp.lst.mp py
      refine .inr ⟨a, b, us, ws, rfl, rfl, R.sub _ _ ha, R.sub _ _ hb, ?_, fun p hp => ?_⟩
      · rw [← hu.len, ← hw.len]; exact len_sz hl
      · obtain ⟨R2, s2, h1, h2, h3⟩ := R.newO (.lst (us ++ ws)) hp
        exact k _ _ _ R2 s2 ⟨p, _, rfl, upd_same, h1, ⟨h2, hp⟩, h3, hu.append hw⟩
    · cases e
  all_goals first | cases e | contradiction
theorem od_sub : OpD T X (binaryOp .Sub) (binD .sub) := .int0 op_sub fun dx dy z e => by
  cases dx <;> cases dy <;> cases e
  exact ⟨_, _, _, rfl, rfl, rfl, fun _ => Rp.int.mpr rfl⟩
theorem od_mul : OpD T X (binaryOp .Mult) (binD .mul) := .int op_mul fun dx dy z e => by
  cases dx <;> cases dy <;> first | (cases e; done) | skip
  rename_i i j
  simp only [binD, mulD] at e
  split at e
  · rename_i h
    cases e
    exact ⟨_, _, _, rfl, rfl, h, rfl, fun _ => Rp.int.mpr rfl⟩
  · cases e
theorem od_mod : OpD T X (binaryOp .Mod) (binD .mod) := .int op_mod fun dx dy z e => by
  cases dx <;> cases dy <;> first | (cases e; done) | skip
  rename_i i j
  simp only [binD, modD] at e
  split at e
  · rename_i h
    cases e
    exact ⟨_, _, _, rfl, rfl, h, rfl, fun _ => Rp.int.mpr rfl⟩
  · cases e
theorem od_fdv : OpD T X (binaryOp .FloorDiv) (binD .fdv) := .int op_fdiv fun dx dy z e => by
  cases dx <;> cases dy <;> first | (cases e; done) | skip
  rename_i i j
  simp only [binD, fdvD] at e
  split at e
  · rename_i h
    cases e
    exact ⟨_, _, _, rfl, rfl, h, rfl, fun _ => Rp.int.mpr rfl⟩
  · cases e
theorem od_pow : OpD T X (binaryOp .Pow) (binD .pow) := .int op_pow fun dx dy z e => by
  cases dx <;> cases dy <;> first | (cases e; done) | skip
  rename_i i j
  simp only [binD, powD] at e
  split at e
  · rename_i h
    cases e
    exact ⟨_, _, _, rfl, rfl, h, rfl, fun _ => Rp.int.mpr rfl⟩
  · cases e

def opOf : BOp → Operator
  | .add => .Add
  | .sub => .Sub
  | .mul => .Mult
  | .mod => .Mod
  | .fdv => .FloorDiv
  | .pow => .Pow
theorem od_bin (hK : X.K = T.B.G.K) : ∀ o : BOp, OpD T X (binaryOp (opOf o)) (binD o)
  | .add => od_add hK
  | .sub => od_sub
  | .mul => od_mul
  | .mod => od_mod
  | .fdv => od_fdv
  | .pow => od_pow

/-! ### == -/
mutual
def pyD : D → PyData
  | .non => .none
  | .bl b => .bool b
  | .int i => .int i
  | .str x => .str x
  | .lst ds => .list (pyDs ds)
  | .tup ds => .tuple (pyDs ds)
  | .dic _ _ => .none
  | .ob _ _ _ => .none
  | .rol _ => .none
def pyDs : List D → List PyData
  | [] => []
  | d :: ds => pyD d :: pyDs ds
end
mutual
theorem eqv_pyD : ∀ (n m : Nat) (d e : D), eqOk n d = true → eqOk m e = true → PyData.eqv (pyD d) (pyD e) = eqD d e
  | n, m, d, e, hd, he => by
    cases d <;> cases e <;> first
      | (cases hd; done)
      | (cases he; done)
      | rfl
      | skip
    · rename_i xs ys
      unfold eqOk at hd he
      simp only [Bool.and_eq_true] at hd he
      show PyData.eqvAll (pyDs xs) (pyDs ys) = eqDs xs ys
      exact eqvs_pyD _ _ xs ys hd.2 he.2
    · rename_i xs ys
      unfold eqOk at hd he
      simp only [Bool.and_eq_true] at hd he
      show PyData.eqvAll (pyDs xs) (pyDs ys) = eqDs xs ys
      exact eqvs_pyD _ _ xs ys hd.2 he.2
theorem eqvs_pyD : ∀ (n m : Nat) (ds es : List D), eqOks n ds = true → eqOks m es = true → PyData.eqvAll (pyDs ds) (pyDs es) = eqDs ds es
  | n, m, [], [], _, _ => rfl
  | n, m, [], _ :: _, _, _ => rfl
  | n, m, _ :: _, [], _, _ => rfl
  | n, m, d :: ds, e :: es, hd, he => by
    unfold eqOks at hd he
    simp only [Bool.and_eq_true] at hd he
    show (PyData.eqv (pyD d) (pyD e) && PyData.eqvAll (pyDs ds) (pyDs es)) = (eqD d e && eqDs ds es)
    rw [eqv_pyD n m d e hd.1 he.1, eqvs_pyD n m ds es hd.2 he.2]
end
mutual
theorem lay_pyD : ∀ (n : Nat) (d : D), eqOk n d = true → (pyD d).canLay0 = true ∧ (pyD d).depth ≤ n
  | n, .non, _ => ⟨rfl, Nat.zero_le _⟩
  | n, .bl _, _ => ⟨rfl, Nat.zero_le _⟩
  | n, .int _, _ => ⟨rfl, Nat.zero_le _⟩
  | n, .str x, h => ⟨h, Nat.zero_le _⟩
  | n, .lst ds, h => by
    unfold eqOk at h
    simp only [Bool.and_eq_true, decide_eq_true_eq] at h
    obtain ⟨h1, h2⟩ := lays_pyD (n - 1) ds h.2
    refine ⟨h1, ?_⟩
    show PyData.depthAll (pyDs ds) + 1 ≤ n
    omega
  | n, .tup ds, h => by
    unfold eqOk at h
    simp only [Bool.and_eq_true, decide_eq_true_eq] at h
    obtain ⟨h1, h2⟩ := lays_pyD (n - 1) ds h.2
    refine ⟨h1, ?_⟩
    show PyData.depthAll (pyDs ds) + 1 ≤ n
    omega
  | n, .dic _ _, h => by cases h
  | n, .ob _ _ _, h => by cases h
  | n, .rol _, h => by cases h
theorem lays_pyD : ∀ (n : Nat) (ds : List D), eqOks n ds = true → PyData.canLayAll0 (pyDs ds) = true ∧ PyData.depthAll (pyDs ds) ≤ n
  | n, [], _ => ⟨rfl, Nat.zero_le _⟩
  | n, d :: ds, h => by
    unfold eqOks at h
    simp only [Bool.and_eq_true] at h
    obtain ⟨h1, h2⟩ := lay_pyD n d h.1
    obtain ⟨h3, h4⟩ := lays_pyD n ds h.2
    refine ⟨?_, ?_⟩
    · show ((pyD d).canLay0 && PyData.canLayAll0 (pyDs ds)) = true
      rw [h1, h3]; rfl
    · show max (pyD d).depth (PyData.depthAll (pyDs ds)) ≤ n
      omega
end
theorem shaped_pyD {d : D} (h : eqOk 60 d = true) : SeqAt.shaped (pyD d) = true := by
  obtain ⟨h1, h2⟩ := lay_pyD 60 d h
  unfold SeqAt.shaped
  rw [h1, decide_eq_true (by omega)]; rfl
mutual
theorem dp_of {G : Gd} {C H : Hp} (sub : Same C H) : ∀ (n : Nat) (d : D) (v : V), eqOk n d = true → Rp G C d v → Dp G.K H v (pyD d)
  | n, .non, v, _, r => by rw [Rp.non.mp r]; exact .non
  | n, .bl b, v, _, r => by rw [Rp.bl.mp r]; exact .bl b
  | n, .int i, v, _, r => by rw [Rp.int.mp r]; exact .int i
  | n, .str x, v, _, r => by rw [Rp.str.mp r]; exact .str x
  | n, .lst ds, v, h, r => by
    obtain ⟨a, xs, rfl, h1, h2⟩ := Rp.lst.mp r
    unfold eqOk at h
    simp only [Bool.and_eq_true] at h
    exact .lst (.of (sub _ _ h1)) (dps_of sub (n - 1) ds xs h.2 h2)
  | n, .tup ds, v, h, r => by
    obtain ⟨a, xs, rfl, h1, h2⟩ := Rp.tup.mp r
    unfold eqOk at h
    simp only [Bool.and_eq_true] at h
    exact .tup (QL.Same.sqT sub h1) (dps_of sub (n - 1) ds xs h.2 h2)
  | n, .dic _ _, v, h, r => by cases h
  | n, .ob _ _ _, v, h, r => by cases h
  | n, .rol _, v, h, r => by cases h
theorem dps_of {G : Gd} {C H : Hp} (sub : Same C H) : ∀ (n : Nat) (ds : List D) (vs : List V), eqOks n ds = true → Rps G C ds vs → DpAll G.K H vs (pyDs ds)
  | n, [], vs, _, r => by rw [Rps.nil.mp r]; exact .nil
  | n, d :: ds, vs, h, r => by
    obtain ⟨x, xs, rfl, h1, h2⟩ := Rps.cons.mp r
    unfold eqOks at h
    simp only [Bool.and_eq_true] at h
    exact .cons (dp_of sub n d x h.1 h1) (dps_of sub n ds xs h.2 h2)
end

/-! ### comparisons -/
def bR (o : Option Bool) : Option Rv := o.map fun c => .fz (.bl c)
theorem bR_some {o : Option Bool} {z : Rv} (h : bR o = some z) : ∃ c, o = some c ∧ z = .fz (.bl c) := by
  cases o with
  | none => cases h
  | some c => exact ⟨c, rfl, (Option.some.inj h).symm⟩
theorem oc_eq (hK : X.K = T.B.G.K) (hu : X.A.units + 64 < cLine) : OpD T X (compareOp .Eq) fun x y => bR (eqED false x y) :=
  ⟨_, op_eqD hu, fun σ H C δ x y dx dy z Q R px py e k => by
    obtain ⟨c, e1, rfl⟩ := bR_some e
    unfold eqED at e1
    split at e1
    · rename_i h
      simp only [Bool.and_eq_true] at h
      cases e1
      refine ⟨pyD dx, pyD dy, hK ▸ dp_of R.sub 60 dx x h.1 px, hK ▸ dp_of R.sub 60 dy y h.2 py, shaped_pyD h.1, shaped_pyD h.2, ?_⟩
      rw [eqv_pyD 60 60 dx dy h.1 h.2]
      exact k _ H C R .refl (Rp.bl.mpr rfl : Rp T.B.G C _ _)
    · cases e1⟩
theorem oc_ne (hK : X.K = T.B.G.K) (hu : X.A.units + 64 < cLine) : OpD T X (compareOp .NotEq) fun x y => bR (eqED true x y) :=
  ⟨_, op_neD hu, fun σ H C δ x y dx dy z Q R px py e k => by
    obtain ⟨c, e1, rfl⟩ := bR_some e
    unfold eqED at e1
    split at e1
    · rename_i h
      simp only [Bool.and_eq_true] at h
      cases e1
      refine ⟨pyD dx, pyD dy, hK ▸ dp_of R.sub 60 dx x h.1 px, hK ▸ dp_of R.sub 60 dy y h.2 py, shaped_pyD h.1, shaped_pyD h.2, ?_⟩
      rw [eqv_pyD 60 60 dx dy h.1 h.2]
      exact k _ H C R .refl (Rp.bl.mpr rfl : Rp T.B.G C _ _)
    · cases e1⟩
theorem oc_lt {op : CmpOp} {p : Int → Int → Bool} (r : OpR X (compareOp op) (rI0 fun i j => .bl (p i j))) : OpD T X (compareOp op) fun x y => bR (ltD p x y) := .int0 r fun dx dy z e => by
  obtain ⟨c, e1, rfl⟩ := bR_some e
  cases dx <;> cases dy <;> cases e1
  exact ⟨_, _, _, rfl, rfl, rfl, fun _ => Rp.bl.mpr rfl⟩
theorem isN_iff {G : Gd} {C : Hp} {d : D} {v : V} (r : Rp G C d v) : decide (v = .non) = isN d := by
  cases d with
  | non => rw [Rp.non.mp r]; rfl
  | bl b => rw [Rp.bl.mp r]; rfl
  | int b => rw [Rp.int.mp r]; rfl
  | str b => rw [Rp.str.mp r]; rfl
  | tup ds => obtain ⟨a, _, rfl, _⟩ := Rp.tup.mp r; rfl
  | lst ds => obtain ⟨a, _, rfl, _⟩ := Rp.lst.mp r; rfl
  | rol ds => obtain ⟨a, _, rfl, _⟩ := Rp.rol.mp r; rfl
  | ob c fs ds => obtain ⟨a, _, _, rfl, _⟩ := Rp.ob.mp r; rfl
  | dic ks ds =>
    unfold Rp at r
    obtain ⟨a, _, rfl, _⟩ := r; rfl
theorem isND_some {n : Bool} {x y : D} {c : Bool} (h : isND n x y = some c) : y = .non ∧ c = (if n then !isN x else isN x) := by
  cases y <;> first | exact ⟨rfl, (Option.some.inj h).symm⟩ | cases h
theorem oc_isn : OpD T X (compareOp .Is) fun x y => bR (isND false x y) :=
  ⟨_, op_isN, fun σ H C δ x y dx dy z Q R px py e k => by
    obtain ⟨c, e1, rfl⟩ := bR_some e
    obtain ⟨rfl, rfl⟩ := isND_some e1
    refine ⟨Rp.non.mp py, ?_⟩
    rw [isN_iff px]
    exact k _ H C R .refl (Rp.bl.mpr rfl : Rp T.B.G C _ _)⟩
theorem oc_nisn : OpD T X (compareOp .IsNot) fun x y => bR (isND true x y) :=
  ⟨_, op_notN, fun σ H C δ x y dx dy z Q R px py e k => by
    obtain ⟨c, e1, rfl⟩ := bR_some e
    obtain ⟨rfl, rfl⟩ := isND_some e1
    refine ⟨Rp.non.mp py, ?_⟩
    rw [isN_iff px]
    exact k _ H C R .refl (Rp.bl.mpr rfl : Rp T.B.G C _ _)⟩
theorem isBD_some {n : Bool} {x y : D} {c : Bool} (h : isBD n x y = some c) : ∃ a b, x = .bl a ∧ y = .bl b ∧ c = (if n then !(a == b) else a == b) := by
  cases x <;> cases y <;> first | exact ⟨_, _, rfl, rfl, (Option.some.inj h).symm⟩ | cases h
theorem dec_beq (a b : Bool) : decide (a = b) = (a == b) := by cases a <;> cases b <;> rfl
theorem oc_isb : OpD T X (compareOp .Is) fun x y => bR (isBD false x y) :=
  ⟨_, op_isBl, fun σ H C δ x y dx dy z Q R px py e k => by
    obtain ⟨c, e1, rfl⟩ := bR_some e
    obtain ⟨a, b, rfl, rfl, rfl⟩ := isBD_some e1
    refine ⟨a, b, Rp.bl.mp px, Rp.bl.mp py, ?_⟩
    rw [dec_beq]
    exact k _ H C R .refl (Rp.bl.mpr rfl : Rp T.B.G C _ _)⟩
theorem oc_nisb : OpD T X (compareOp .IsNot) fun x y => bR (isBD true x y) :=
  ⟨_, op_notBl, fun σ H C δ x y dx dy z Q R px py e k => by
    obtain ⟨c, e1, rfl⟩ := bR_some e
    obtain ⟨a, b, rfl, rfl, rfl⟩ := isBD_some e1
    refine ⟨a, b, Rp.bl.mp px, Rp.bl.mp py, ?_⟩
    rw [dec_beq]
    exact k _ H C R .refl (Rp.bl.mpr rfl : Rp T.B.G C _ _)⟩
theorem flat_of {G : Gd} {C : Hp} {d : D} {v : V} (h : flatD d = true) (r : Rp G C d v) : flatV v = true := by
  cases d <;> first | (cases h; done) | skip
  · rw [Rp.non.mp r]; rfl
  · rw [Rp.bl.mp r]; rfl
  · rw [Rp.int.mp r]; rfl
  · rw [Rp.str.mp r]; rfl
theorem eqV_of {G : Gd} {C : Hp} {d e : D} {v w : V} (hd : flatD d = true) (he : flatD e = true) (r : Rp G C d v) (q : Rp G C e w) : eqV v w = eqD d e := by
  cases d <;> first | (cases hd; done) | skip
  all_goals cases e <;> first | (cases he; done) | skip
  all_goals
    first
      | rw [Rp.non.mp r] | rw [Rp.bl.mp r] | rw [Rp.int.mp r] | rw [Rp.str.mp r]
  all_goals
    first
      | rw [Rp.non.mp q] | rw [Rp.bl.mp q] | rw [Rp.int.mp q] | rw [Rp.str.mp q]
  all_goals rfl
theorem flats_of {G : Gd} {C : Hp} {d : D} {v : V} (hd : flatD d = true) (r : Rp G C d v) : ∀ {ds : List D} {xs : List V}, ds.all flatD = true → Rps G C ds xs → xs.all flatV = true ∧ inV v xs = inD d ds
  | [], xs, _, q => by rw [Rps.nil.mp q]; exact ⟨rfl, rfl⟩
  | e :: ds, xs, h, q => by
    obtain ⟨x, ys, rfl, h1, h2⟩ := Rps.cons.mp q
    rw [List.all_cons, Bool.and_eq_true] at h
    obtain ⟨q1, q2⟩ := flats_of hd r h.2 h2
    refine ⟨?_, ?_⟩
    · rw [List.all_cons, flat_of h.1 h1, q1]; rfl
    · show (eqV x v || inV v ys) = (eqD e d || inD d ds)
      rw [eqV_of h.1 hd h1 r, q2]
theorem inSD_some {n : Bool} {x y : D} {c : Bool} (h : inSD n x y = some c) : ∃ ds, (y = .lst ds ∨ y = .tup ds) ∧ inOk x ds = true ∧ c = (if n then !inD x ds else inD x ds) := by
  unfold inSD at h
  split at h
  · split at h
    · rename_i q
      exact ⟨_, .inl rfl, q, (Option.some.inj h).symm⟩
    · cases h
  · split at h
    · rename_i q
      exact ⟨_, .inr rfl, q, (Option.some.inj h).symm⟩
    · cases h
  · cases h
/-- x in y, flat or deep -/
def rIn2 (K : PySem.W.Frag) (n : Bool) : R2 := fun x y H Q => rIn K n x y H Q ∨ ∃ d c ds, (c = PyData.list ds ∨ c = PyData.tuple ds) ∧ Dp K H x d ∧ Dp K H y c ∧ SeqAt.shaped d = true ∧ PyData.canLayAll0 ds = true ∧ Q (.bl (if n then !(ds.any fun z => PyData.eqv z d) else ds.any fun z => PyData.eqv z d)) H
theorem op_in2 (hu : X.A.units + 65 < cLine) : OpR X (compareOp .In) (rIn2 X.K false) := by
  intro pins s σ H x y v u Q I rx ry h
  rcases h with h | ⟨d, c, ds, hc, hd, he, sd, se, q⟩
  · exact op_in_seq pins s σ H x y v u Q I rx ry h
  · obtain ⟨as, r1⟩ := Dp.reads I d x v hd rx
    obtain ⟨bs, r2⟩ := Dp.reads I c y u he ry
    rcases hc with rfl | rfl
    · exact SeqAt.in_list_reads r2 r1 se (SeqAt.canLay_of_shaped sd) (PyProof.Rows.room_in_shaped sd hu) ⟨.bl _, H, I, rfl, q⟩
    · exact SeqAt.in_tuple_reads r2 r1 se (SeqAt.canLay_of_shaped sd) (PyProof.Rows.room_in_shaped sd hu) ⟨.bl _, H, I, rfl, q⟩
theorem op_nin2 (hu : X.A.units + 65 < cLine) : OpR X (compareOp .NotIn) (rIn2 X.K true) := by
  intro pins s σ H x y v u Q I rx ry h
  rcases h with h | ⟨d, c, ds, hc, hd, he, sd, se, q⟩
  · exact op_notIn_seq pins s σ H x y v u Q I rx ry h
  · obtain ⟨as, r1⟩ := Dp.reads I d x v hd rx
    obtain ⟨bs, r2⟩ := Dp.reads I c y u he ry
    rcases hc with rfl | rfl
    · exact SeqAt.notIn_list_reads r2 r1 se (SeqAt.canLay_of_shaped sd) (PyProof.Rows.room_in_shaped sd hu) ⟨.bl _, H, I, rfl, q⟩
    · exact SeqAt.notIn_tuple_reads r2 r1 se (SeqAt.canLay_of_shaped sd) (PyProof.Rows.room_in_shaped sd hu) ⟨.bl _, H, I, rfl, q⟩
theorem any_pyD {x : D} (hx : eqOk 60 x = true) : ∀ {ds : List D}, eqOks 59 ds = true → ((pyDs ds).any fun z => PyData.eqv z (pyD x)) = inD x ds
  | [], _ => rfl
  | d :: ds, h => by
    unfold eqOks at h
    simp only [Bool.and_eq_true] at h
    show (PyData.eqv (pyD d) (pyD x) || (pyDs ds).any fun z => PyData.eqv z (pyD x)) = (eqD d x || inD x ds)
    rw [eqv_pyD 59 60 d x h.1 hx, any_pyD hx h.2]
/-- both readings of in, the row's parts at hand -/
theorem in_fin {G : Gd} {C H : Hp} (sub : Same C H) (n : Bool) {x : V} {dx : D} {ds : List D} {p : Addr} {xs : List V} {Q : VK} (h1 : inOk dx ds = true) (px : Rp G C dx x) (hs : SqL G.K H p xs ∨ SqT G.K H p xs) (hr : Rps G C ds xs) (k : Q (.bl (if n then !inD dx ds else inD dx ds)) H) : rIn2 G.K n x (.ref p) H Q := by
  rcases (Bool.or_eq_true _ _).mp h1 with h | h
  · simp only [Bool.and_eq_true] at h
    obtain ⟨q1, q2⟩ := flats_of h.1 px h.2 hr
    refine .inl ⟨p, xs, rfl, hs, flat_of h.1 px, q1, ?_⟩
    rw [q2]
    exact k
  · simp only [Bool.and_eq_true] at h
    have e := any_pyD h.1 h.2
    have ds' := dps_of sub 59 ds xs h.2 hr
    have cl := (lays_pyD 59 ds h.2).1
    rcases hs with hs | hs
    · refine .inr ⟨pyD dx, _, pyDs ds, .inl rfl, dp_of sub 60 dx x h.1 px, .lst hs ds', shaped_pyD h.1, cl, ?_⟩
      rw [e]
      exact k
    · refine .inr ⟨pyD dx, _, pyDs ds, .inr rfl, dp_of sub 60 dx x h.1 px, .tup hs ds', shaped_pyD h.1, cl, ?_⟩
      rw [e]
      exact k
theorem in_read (n : Bool) (hK : X.K = T.B.G.K) {σ : L2.St} {H C : Hp} {δ : Env} {x y : V} {dx dy : D} {z : Rv} {Q : VK} (R : Rl T.B σ H C δ) (px : Rp T.B.G C dx x) (py : Rp T.B.G C dy y) (e : bR (inSD n dx dy) = some z)
    (k : ∀ v H' C', Rl T.B σ H' C' δ → Stp σ H C δ H' C' δ → RvR T.B σ H H' C' δ z v → Q v H') : rIn2 X.K n x y H Q := by
  obtain ⟨c, e1, rfl⟩ := bR_some e
  obtain ⟨ds, hy, h1, rfl⟩ := inSD_some e1
  rw [hK]
  rcases hy with rfl | rfl
  · obtain ⟨p, xs, rfl, q1, q2⟩ := Rp.lst.mp py
    exact in_fin R.sub n h1 px (.inl (.of (R.sub _ _ q1))) q2 (k _ H C R .refl (Rp.bl.mpr rfl : Rp T.B.G C _ _))
  · obtain ⟨p, xs, rfl, q1, q2⟩ := Rp.tup.mp py
    exact in_fin R.sub n h1 px (.inr (QL.Same.sqT R.sub q1)) q2 (k _ H C R .refl (Rp.bl.mpr rfl : Rp T.B.G C _ _))
theorem oc_in (hK : X.K = T.B.G.K) (hu : X.A.units + 65 < cLine) : OpD T X (compareOp .In) fun x y => bR (inSD false x y) := ⟨_, op_in2 hu, fun σ H C δ x y dx dy z Q R px py e k => in_read false hK R px py e k⟩
theorem oc_nin (hK : X.K = T.B.G.K) (hu : X.A.units + 65 < cLine) : OpD T X (compareOp .NotIn) fun x y => bR (inSD true x y) := ⟨_, op_nin2 hu, fun σ H C δ x y dx dy z Q R px py e k => in_read true hK R px py e k⟩

def cmpOf : COp → CmpOp
  | .eq => .Eq
  | .ne => .NotEq
  | .lt => .Lt
  | .le => .LtE
  | .gt => .Gt
  | .ge => .GtE
  | .isn => .Is
  | .nisn => .IsNot
  | .isb => .Is
  | .nisb => .IsNot
  | .isin => .In
  | .nin => .NotIn
theorem oc_cmp (hK : X.K = T.B.G.K) (hu : X.A.units + 65 < cLine) : ∀ o : COp, OpD T X (compareOp (cmpOf o)) fun x y => bR (cmpD o x y)
  | .eq => oc_eq hK (Nat.lt_of_succ_lt hu)
  | .ne => oc_ne hK (Nat.lt_of_succ_lt hu)
  | .lt => oc_lt op_lt
  | .le => oc_lt op_le
  | .gt => oc_lt op_gt
  | .ge => oc_lt op_ge
  | .isn => oc_isn
  | .nisn => oc_nisn
  | .isb => oc_isb
  | .nisb => oc_nisb
  | .isin => oc_in hK hu
  | .nin => oc_nin hK hu
end
end QL

end
section
set_option Elab.async false
set_option linter.all false
/-! Q4: chains, and, or, not, tests; argument rows, displays, subscripts, built-ins. -/
namespace QL
open PySem PySem.Spec PyProof.Rows L2

section
variable {T : Tx} {X : Cx} {σ : L2.St} {H C : Hp} {δ : Env} {pos : Pos} {a b c d : Expr} {fa fb fc fd : Env → Rs Rv}

/-- a test that f tells -/
def tT (T : Tx) (f : Env → Rs Rv) : TT := fun σ H Q => ∃ C δ, Rl T.B σ H C δ ∧ Out T σ H C δ (fun r H' _ _ => match r with | .fz (.bl b) => Q b H' | _ => False) (f δ)

/-! ### chains -/
theorem pe_chain3 {op op' op'' : CmpOp} {r r' r'' : R2} {ta tb tc td : TE} (ho : OpR X (compareOp op) r) (ho' : OpR X (compareOp op') r') (ho'' : OpR X (compareOp op'') r'') (ha : PE X a ta) (hb : PE X b tb) (hc : PE X c tc) (hd : PE X d td)
    (hm : lastMarks [op, op', op''] [b, c, d] = false) : PE X (.Compare a [op, op', op''] [b, c, d] pos) (fun σ H Q => ta σ H fun x H1 => tb σ H1 fun y H2 => r x y H2 fun z H3 => ∃ k, z = .bl k ∧
      (if k = true then tc σ H3 fun w' H4 => r' y w' H4 fun z H5 => ∃ k, z = .bl k ∧ (if k = true then td σ H5 fun w'' H6 => r'' w' w'' H6 Q else Q (.bl false) H5) else Q (.bl false) H3)) := by
  refine ⟨fun pins s σ H Q I h => ?_⟩
  refine Compare_chain (thn (ha.run pins s σ H _ I h) fun v s1 ⟨x, H1, I1, r1, q1⟩ => chain_link (thn (hb.run pins s1 σ H1 _ I1 q1) fun u s2 ⟨y, H2, I2, r2, q2⟩ =>
    thn (ho pins s2 σ H2 x y v u _ I2 r1 r2 q2) fun d s3 ⟨z, H3, I3, r3, k, e, q3⟩ => ?_)) hm
  subst e
  cases r3
  refine wpAny_truthy_bool ?_
  cases k with
  | false => exact ite_ff ⟨.bl false, H3, I3, rfl, q3⟩
  | true =>
    refine ite_tt (chain_link (thn (hc.run pins s3 σ H3 _ I3 q3) fun u' s4 ⟨y', H4, I4, r4, q4⟩ => thn (ho' pins s4 σ H4 y y' u u' _ I4 r2 r4 q4) fun d s5 ⟨z', H5, I5, r5, k', e', q5⟩ => ?_))
    subst e'
    cases r5
    refine wpAny_truthy_bool ?_
    cases k' with
    | false => exact ite_ff ⟨.bl false, H5, I5, rfl, q5⟩
    | true => exact ite_tt (chain_last (thn (hd.run pins s5 σ H5 _ I5 q5) fun w' s6 ⟨z'', H6, I6, r6, q6⟩ => ho'' pins s6 σ H6 y' z'' u' w' Q I6 r4 r6 q6))
theorem pt_chain3 {op op' op'' : CmpOp} {r r' r'' : R2} {ta tb tc td : TE} (ho : OpR X (compareOp op) r) (ho' : OpR X (compareOp op') r') (ho'' : OpR X (compareOp op'') r'') (ha : PE X a ta) (hb : PE X b tb) (hc : PE X c tc) (hd : PE X d td)
    (hm : lastMarks [op, op', op''] [b, c, d] = false) : PT X (.Compare a [op, op', op''] [b, c, d] pos) (fun σ H Q => ta σ H fun x H1 => tb σ H1 fun y H2 => r x y H2 fun z H3 => ∃ k, z = .bl k ∧
      (if k = true then tc σ H3 fun w' H4 => r' y w' H4 fun z H5 => ∃ k, z = .bl k ∧ (if k = true then td σ H5 fun w'' H6 => r'' w' w'' H6 fun z H7 => ∃ k, z = .bl k ∧ Q k H7 else Q false H5) else Q false H3)) := by
  refine ⟨fun pins s σ H Q I h => ?_⟩
  refine isTrue_chain (thn (ha.run pins s σ H _ I h) fun v s1 ⟨x, H1, I1, r1, q1⟩ => test_link (thn (hb.run pins s1 σ H1 _ I1 q1) fun u s2 ⟨y, H2, I2, r2, q2⟩ =>
    thn (ho pins s2 σ H2 x y v u _ I2 r1 r2 q2) fun d s3 ⟨z, H3, I3, r3, k, e, q3⟩ => ?_)) hm
  subst e
  cases r3
  refine wpAny_truthy_bool ?_
  cases k with
  | false => exact ite_ff ⟨H3, I3, q3⟩
  | true =>
    refine ite_tt (test_link (thn (hc.run pins s3 σ H3 _ I3 q3) fun u' s4 ⟨y', H4, I4, r4, q4⟩ => thn (ho' pins s4 σ H4 y y' u u' _ I4 r2 r4 q4) fun d s5 ⟨z', H5, I5, r5, k', e', q5⟩ => ?_))
    subst e'
    cases r5
    refine wpAny_truthy_bool ?_
    cases k' with
    | false => exact ite_ff ⟨H5, I5, q5⟩
    | true =>
      refine ite_tt (test_last (thn (hd.run pins s5 σ H5 _ I5 q5) fun w' s6 ⟨z'', H6, I6, r6, q6⟩ => thn (ho'' pins s6 σ H6 y' z'' u' w' _ I6 r4 r6 q6) fun d' s7 ⟨z2, H7, I7, r7, k2, e2, q7⟩ => ?_))
      subst e2
      cases r7
      exact wpAny_truthy_bool ⟨H7, I7, q7⟩

/-- what a comparison on data gives: its reading, with a bool -/
theorem OpD.cmp {g : Value → Value → Sem Value} {f : D → D → Option Bool} (ho : OpD T X g fun x y => bR (f x y)) : ∃ r : R2, OpR X g r ∧ ∀ (σ : L2.St) (H C : Hp) (δ : Env) (x y : V) (dx dy : D) (c : Bool) (Q : VK), Rl T.B σ H C δ → Rp T.B.G C dx x → Rp T.B.G C dy y → f dx dy = some c →
    (∀ H' C', Rl T.B σ H' C' δ → Stp σ H C δ H' C' δ → Q (.bl c) H') → r x y H Q := by
  obtain ⟨r, hr, hf⟩ := ho
  refine ⟨r, hr, fun σ H C δ x y dx dy c Q R px py e k => hf σ H C δ x y dx dy (.fz (.bl c)) Q R px py (by show bR (f dx dy) = _; rw [e]; rfl) fun v H' C' R' s' hv => ?_⟩
  have e2 : v = .bl c := Rp.bl.mp (show Rp T.B.G C' (.bl c) v from hv)
  subst e2
  exact k H' C' R' s'
abbrev fCh2 (g g' : D → D → Option Bool) (fa fb fc : Env → Rs Rv) : Env → Rs Rv := fun δ => (fa δ).bind fun x δ => (fb δ).bind fun y δ => match g x.d y.d with
    | some true => (fc δ).bind fun z δ => optR ((g' y.d z.d).map fun c => .fz (.bl c)) δ
    | some false => .ok (.fz (.bl false)) δ
    | none => .no
theorem map_some {o : Option Bool} {z : Rv} (h : (o.map fun c => Rv.fz (.bl c)) = some z) : ∃ c, o = some c ∧ z = .fz (.bl c) := bR_some h
theorem s_ch2 {op op' : CmpOp} {g g' : D → D → Option Bool} (ho : OpD T X (compareOp op) fun x y => bR (g x y)) (ho' : OpD T X (compareOp op') fun x y => bR (g' x y)) (ha : PE X a (tE T fa)) (hb : PE X b (tE T fb)) (hc : PE X c (tE T fc)) (hm : lastMarks [op, op'] [b, c] = false) :
    PE X (.Compare a [op, op'] [b, c] pos) (tE T (fCh2 g g' fa fb fc)) := by
  obtain ⟨r, hr, hf⟩ := ho.cmp
  obtain ⟨r', hr', hf'⟩ := ho'.cmp
  refine QL.PE.imp (pe_chain hr hr' ha hb hc hm) fun σ H Q h => ?_
  obtain ⟨C, δ, R, h⟩ := h
  refine tE.then R h fun x δ1 H1 C1 v R1 s1 p1 h1 => ?_
  refine tE.then R1 h1 fun y δ2 H2 C2 w R2 s2 p2 h2 => ?_
  cases e : g x.d y.d with
  | none => rw [e] at h2; exact h2.elim
  | some k =>
    rw [e] at h2
    refine hf σ H2 C2 δ2 v w x.d y.d k _ R2 (Rp.mono s2.cs _ _ p1) p2 e fun H3 C3 R3 s3 => ⟨k, rfl, ?_⟩
    cases k with
    | false => exact h2 H3 C3 R3 s3 _ (Rp.bl.mpr rfl : Rp T.B.G C3 _ _)
    | true =>
      refine tE.then R3 (Out.base h2 s3) fun z δ4 H4 C4 w' R4 s4 p4 h4 => ?_
      obtain ⟨z', ez, h5⟩ := optR_some h4
      obtain ⟨c', e', rfl⟩ := map_some ez
      exact hf' σ H4 C4 δ4 w w' y.d z.d c' Q R4 (Rp.mono s4.cs _ _ (Rp.mono s3.cs _ _ p2)) p4 e' fun H5 C5 R5 s5 => h5 H5 C5 R5 s5 _ (Rp.bl.mpr rfl : Rp T.B.G C5 _ _)
theorem s_tch2 {op op' : CmpOp} {g g' : D → D → Option Bool} (ho : OpD T X (compareOp op) fun x y => bR (g x y)) (ho' : OpD T X (compareOp op') fun x y => bR (g' x y)) (ha : PE X a (tE T fa)) (hb : PE X b (tE T fb)) (hc : PE X c (tE T fc)) (hm : lastMarks [op, op'] [b, c] = false) :
    PT X (.Compare a [op, op'] [b, c] pos) (tT T (fCh2 g g' fa fb fc)) := by
  obtain ⟨r, hr, hf⟩ := ho.cmp
  obtain ⟨r', hr', hf'⟩ := ho'.cmp
  refine QL.PT.imp (pt_chain hr hr' ha hb hc hm) fun σ H Q h => ?_
  obtain ⟨C, δ, R, h⟩ := h
  refine tE.then R h fun x δ1 H1 C1 v R1 s1 p1 h1 => ?_
  refine tE.then R1 h1 fun y δ2 H2 C2 w R2 s2 p2 h2 => ?_
  cases e : g x.d y.d with
  | none => rw [e] at h2; exact h2.elim
  | some k =>
    rw [e] at h2
    refine hf σ H2 C2 δ2 v w x.d y.d k _ R2 (Rp.mono s2.cs _ _ p1) p2 e fun H3 C3 R3 s3 => ⟨k, rfl, ?_⟩
    cases k with
    | false => exact ⟨_, rfl, h2 H3 C3 R3 s3⟩
    | true =>
      refine tE.then R3 (Out.base h2 s3) fun z δ4 H4 C4 w' R4 s4 p4 h4 => ?_
      obtain ⟨z', ez, h5⟩ := optR_some h4
      obtain ⟨c', e', rfl⟩ := map_some ez
      exact hf' σ H4 C4 δ4 w w' y.d z.d c' _ R4 (Rp.mono s4.cs _ _ (Rp.mono s3.cs _ _ p2)) p4 e' fun H5 C5 R5 s5 => ⟨_, rfl, h5 H5 C5 R5 s5⟩
abbrev fCh3 (g g' g'' : D → D → Option Bool) (fa fb fc fd : Env → Rs Rv) : Env → Rs Rv := fun δ => (fa δ).bind fun x δ => (fb δ).bind fun y δ => match g x.d y.d with
    | some true => (fc δ).bind fun z δ => (match g' y.d z.d with
      | some true => (fd δ).bind fun w δ => optR ((g'' z.d w.d).map fun c => .fz (.bl c)) δ
      | some false => .ok (.fz (.bl false)) δ
      | none => .no)
    | some false => .ok (.fz (.bl false)) δ
    | none => .no
theorem s_ch3 {op op' op'' : CmpOp} {g g' g'' : D → D → Option Bool} (ho : OpD T X (compareOp op) fun x y => bR (g x y)) (ho' : OpD T X (compareOp op') fun x y => bR (g' x y)) (ho'' : OpD T X (compareOp op'') fun x y => bR (g'' x y)) (ha : PE X a (tE T fa)) (hb : PE X b (tE T fb)) (hc : PE X c (tE T fc)) (hd : PE X d (tE T fd)) (hm : lastMarks [op, op', op''] [b, c, d] = false) :
    PE X (.Compare a [op, op', op''] [b, c, d] pos) (tE T (fCh3 g g' g'' fa fb fc fd)) := by
  obtain ⟨r, hr, hf⟩ := ho.cmp
  obtain ⟨r', hr', hf'⟩ := ho'.cmp
  obtain ⟨r'', hr'', hf''⟩ := ho''.cmp
  refine QL.PE.imp (pe_chain3 hr hr' hr'' ha hb hc hd hm) fun σ H Q h => ?_
  obtain ⟨C, δ, R, h⟩ := h
  refine tE.then R h fun x δ1 H1 C1 v R1 s1 p1 h1 => ?_
  refine tE.then R1 h1 fun y δ2 H2 C2 w R2 s2 p2 h2 => ?_
  cases e : g x.d y.d with
  | none => rw [e] at h2; exact h2.elim
  | some k =>
    rw [e] at h2
    refine hf σ H2 C2 δ2 v w x.d y.d k _ R2 (Rp.mono s2.cs _ _ p1) p2 e fun H3 C3 R3 s3 => ⟨k, rfl, ?_⟩
    cases k with
    | false => exact h2 H3 C3 R3 s3 _ (Rp.bl.mpr rfl : Rp T.B.G C3 _ _)
    | true =>
      refine tE.then R3 (Out.base h2 s3) fun z δ4 H4 C4 w' R4 s4 p4 h4 => ?_
      cases e' : g' y.d z.d with
      | none => rw [e'] at h4; exact h4.elim
      | some k =>
        rw [e'] at h4
        refine hf' σ H4 C4 δ4 w w' y.d z.d k _ R4 (Rp.mono s4.cs _ _ (Rp.mono s3.cs _ _ p2)) p4 e' fun H5 C5 R5 s5 => ⟨k, rfl, ?_⟩
        cases k with
        | false => exact h4 H5 C5 R5 s5 _ (Rp.bl.mpr rfl : Rp T.B.G C5 _ _)
        | true =>
          refine tE.then R5 (Out.base h4 s5) fun u δ6 H6 C6 w'' R6 s6 p6 h6 => ?_
          obtain ⟨z', ez, h7⟩ := optR_some h6
          obtain ⟨c', e'', rfl⟩ := map_some ez
          exact hf'' σ H6 C6 δ6 w' w'' z.d u.d c' Q R6 (Rp.mono s6.cs _ _ (Rp.mono s5.cs _ _ p4)) p6 e'' fun H7 C7 R7 s7 => h7 H7 C7 R7 s7 _ (Rp.bl.mpr rfl : Rp T.B.G C7 _ _)
theorem s_tch3 {op op' op'' : CmpOp} {g g' g'' : D → D → Option Bool} (ho : OpD T X (compareOp op) fun x y => bR (g x y)) (ho' : OpD T X (compareOp op') fun x y => bR (g' x y)) (ho'' : OpD T X (compareOp op'') fun x y => bR (g'' x y)) (ha : PE X a (tE T fa)) (hb : PE X b (tE T fb)) (hc : PE X c (tE T fc)) (hd : PE X d (tE T fd)) (hm : lastMarks [op, op', op''] [b, c, d] = false) :
    PT X (.Compare a [op, op', op''] [b, c, d] pos) (tT T (fCh3 g g' g'' fa fb fc fd)) := by
  obtain ⟨r, hr, hf⟩ := ho.cmp
  obtain ⟨r', hr', hf'⟩ := ho'.cmp
  obtain ⟨r'', hr'', hf''⟩ := ho''.cmp
  refine QL.PT.imp (pt_chain3 hr hr' hr'' ha hb hc hd hm) fun σ H Q h => ?_
  obtain ⟨C, δ, R, h⟩ := h
  refine tE.then R h fun x δ1 H1 C1 v R1 s1 p1 h1 => ?_
  refine tE.then R1 h1 fun y δ2 H2 C2 w R2 s2 p2 h2 => ?_
  cases e : g x.d y.d with
  | none => rw [e] at h2; exact h2.elim
  | some k =>
    rw [e] at h2
    refine hf σ H2 C2 δ2 v w x.d y.d k _ R2 (Rp.mono s2.cs _ _ p1) p2 e fun H3 C3 R3 s3 => ⟨k, rfl, ?_⟩
    cases k with
    | false => exact h2 H3 C3 R3 s3
    | true =>
      refine tE.then R3 (Out.base h2 s3) fun z δ4 H4 C4 w' R4 s4 p4 h4 => ?_
      cases e' : g' y.d z.d with
      | none => rw [e'] at h4; exact h4.elim
      | some k =>
        rw [e'] at h4
        refine hf' σ H4 C4 δ4 w w' y.d z.d k _ R4 (Rp.mono s4.cs _ _ (Rp.mono s3.cs _ _ p2)) p4 e' fun H5 C5 R5 s5 => ⟨k, rfl, ?_⟩
        cases k with
        | false => exact h4 H5 C5 R5 s5
        | true =>
          refine tE.then R5 (Out.base h4 s5) fun u δ6 H6 C6 w'' R6 s6 p6 h6 => ?_
          obtain ⟨z', ez, h7⟩ := optR_some h6
          obtain ⟨c', e'', rfl⟩ := map_some ez
          exact hf'' σ H6 C6 δ6 w' w'' z.d u.d c' _ R6 (Rp.mono s6.cs _ _ (Rp.mono s5.cs _ _ p4)) p6 e'' fun H7 C7 R7 s7 => ⟨_, rfl, h7 H7 C7 R7 s7⟩
abbrev fCmp (g : D → D → Option Bool) (fa fb : Env → Rs Rv) : Env → Rs Rv := fun δ => (fa δ).bind fun x δ => (fb δ).bind fun y δ => optR ((g x.d y.d).map fun c => .fz (.bl c)) δ
theorem s_tcmp {op : CmpOp} {g : D → D → Option Bool} (ho : OpD T X (compareOp op) fun x y => bR (g x y)) (hm : behindInMarks op b = false) (ha : PE X a (tE T fa)) (hb : PE X b (tE T fb)) : PT X (.Compare a [op] [b] pos) (tT T (fCmp g fa fb)) := by
  obtain ⟨r, hr, hf⟩ := ho.cmp
  refine QL.PT.imp (pt_cmpR hr ha hb hm) fun σ H Q h => ?_
  obtain ⟨C, δ, R, h⟩ := h
  refine tE.then R h fun x δ1 H1 C1 v R1 s1 p1 h1 => ?_
  refine tE.then R1 h1 fun y δ2 H2 C2 w R2 s2 p2 h2 => ?_
  obtain ⟨z, ez, h3⟩ := optR_some h2
  obtain ⟨c', e', rfl⟩ := map_some ez
  exact hf σ H2 C2 δ2 v w x.d y.d c' _ R2 (Rp.mono s2.cs _ _ p1) p2 e' fun H3 C3 R3 s3 => ⟨_, rfl, h3 H3 C3 R3 s3⟩

/-! ### and, or, not -/
/-- a value that must be a bool -/
theorem tE.bool {β : Type} {S : β → Hp → Hp → Env → Prop} {k : Rv → Env → Rs β} {Q : VK} (R : Rl T.B σ H C δ) (h : Out T σ H C δ S ((fa δ).bind k)) (hn : ∀ r δ, (∀ b, r ≠ .fz (.bl b)) → k r δ = .no)
    (hk : ∀ b δ1 H1 C1, Rl T.B σ H1 C1 δ1 → Stp σ H C δ H1 C1 δ1 → Out T σ H1 C1 δ1 S (k (.fz (.bl b)) δ1) → Q (.bl b) H1) : tE T fa σ H Q := by
  refine tE.thenR R h fun r δ1 H1 C1 v R1 s1 hv h1 => ?_
  by_cases q : ∃ b, r = .fz (.bl b)
  · obtain ⟨b, rfl⟩ := q
    have e : v = .bl b := Rp.bl.mp (show Rp T.B.G C1 (.bl b) v from hv)
    subst e
    exact hk b δ1 H1 C1 R1 s1 h1
  · rw [hn r δ1 fun b e => q ⟨b, e⟩] at h1
    exact h1.elim
theorem tT.bool {β : Type} {S : β → Hp → Hp → Env → Prop} {k : Rv → Env → Rs β} {Q : Bool → Hp → Prop} (R : Rl T.B σ H C δ) (h : Out T σ H C δ S ((fa δ).bind k)) (hn : ∀ r δ, (∀ b, r ≠ .fz (.bl b)) → k r δ = .no)
    (hk : ∀ b δ1 H1 C1, Rl T.B σ H1 C1 δ1 → Stp σ H C δ H1 C1 δ1 → Out T σ H1 C1 δ1 S (k (.fz (.bl b)) δ1) → Q b H1) : tT T fa σ H Q := by
  refine ⟨C, δ, R, ?_⟩
  cases e : fa δ with
  | ok r δ1 =>
    rw [e] at h
    intro H1 C1 R1 s1
    by_cases q : ∃ b, r = .fz (.bl b)
    · obtain ⟨b, rfl⟩ := q
      exact hk b δ1 H1 C1 R1 s1 (Out.base h s1)
    · have h' : Out T σ H C δ S (k r δ1) := h
      rw [hn r δ1 fun b e => q ⟨b, e⟩] at h'
      exact h'.elim
  | er x δ1 =>
    rw [e] at h
    exact h
  | no =>
    rw [e] at h
    exact h
abbrev fAnd (fa fb : Env → Rs Rv) : Env → Rs Rv := fun δ => (fa δ).bind fun x δ => match x with | .fz (.bl true) => fb δ | .fz (.bl false) => .ok (.fz (.bl false)) δ | _ => .no
abbrev fOr (fa fb : Env → Rs Rv) : Env → Rs Rv := fun δ => (fa δ).bind fun x δ => match x with | .fz (.bl true) => .ok (.fz (.bl true)) δ | .fz (.bl false) => fb δ | _ => .no
abbrev fNot (fa : Env → Rs Rv) : Env → Rs Rv := fun δ => (fa δ).bind fun x δ => match x with | .fz (.bl b) => .ok (.fz (.bl (!b))) δ | _ => .no
abbrev fIfe (fc fa fb : Env → Rs Rv) : Env → Rs Rv := fun δ => (fc δ).bind fun x δ => match x with | .fz (.bl true) => fa δ | .fz (.bl false) => fb δ | _ => .no
theorem no_bool {α : Type} {f g : Env → Rs α} : ∀ (r : Rv) (δ : Env), (∀ b, r ≠ .fz (.bl b)) → (match r with | .fz (.bl true) => f δ | .fz (.bl false) => g δ | _ => (.no : Rs α)) = .no := by
  intro r δ h
  split
  · exact absurd rfl (h true)
  · exact absurd rfl (h false)
  · rfl
theorem no_bool1 {α : Type} {f : Bool → Env → Rs α} : ∀ (r : Rv) (δ : Env), (∀ b, r ≠ .fz (.bl b)) → (match r with | .fz (.bl b) => f b δ | _ => (.no : Rs α)) = .no := by
  intro r δ h
  split
  · exact absurd rfl (h _)
  · rfl
/-- the value of a part stands for the whole -/
theorem tE.last {Q : VK} (R : Rl T.B σ H C δ) {Hb : Hp} (al : ∀ a, H a = none → Hb a = none) (h : Out T σ H C δ (fun r H' C' δ' => ∀ v, RvR T.B σ Hb H' C' δ' r v → Q v H') (fa δ)) : tE T fa σ H Q := by
  refine ⟨C, δ, R, ?_⟩
  cases e : fa δ with
  | ok r δ1 =>
    rw [e] at h
    exact fun H1 C1 R1 s1 v hv => h H1 C1 R1 s1 v (RvR.back al hv)
  | er x δ1 => rw [e] at h; exact h
  | no => rw [e] at h; exact h
theorem tT.last {Q : Bool → Hp → Prop} (R : Rl T.B σ H C δ) (h : Out T σ H C δ (fun r H' _ _ => match r with | .fz (.bl b) => Q b H' | _ => False) (fa δ)) : tT T fa σ H Q := ⟨C, δ, R, h⟩
theorem s_and {rest : List Expr} (ha : PE X a (tE T fa)) (hb : PE X (.BoolOp .And (b :: rest) pos) (tE T fb)) : PE X (.BoolOp .And (a :: b :: rest) pos) (tE T (fAnd fa fb)) := by
  refine QL.PE.imp (pe_and ha hb) fun σ H Q h => ?_
  obtain ⟨C, δ, R, h⟩ := h
  refine tE.bool R h no_bool fun c δ1 H1 C1 R1 s1 h1 => ⟨c, rfl, ?_⟩
  cases c with
  | true => exact tE.last R1 s1.al h1
  | false => exact h1.here R1 _ (Rp.bl.mpr rfl : Rp T.B.G C1 _ _)
theorem s_or {rest : List Expr} (ha : PE X a (tE T fa)) (hb : PE X (.BoolOp .Or (b :: rest) pos) (tE T fb)) : PE X (.BoolOp .Or (a :: b :: rest) pos) (tE T (fOr fa fb)) := by
  refine QL.PE.imp (pe_or ha hb) fun σ H Q h => ?_
  obtain ⟨C, δ, R, h⟩ := h
  refine tE.bool R h no_bool fun c δ1 H1 C1 R1 s1 h1 => ⟨c, rfl, ?_⟩
  cases c with
  | true => exact h1.here R1 _ (Rp.bl.mpr rfl : Rp T.B.G C1 _ _)
  | false => exact tE.last R1 s1.al h1
theorem s_one {op : BoolOp} (ha : PE X a (tE T fa)) : PE X (.BoolOp op [a] pos) (tE T fa) := pe_one ha
theorem s_not (ha : PE X a (tE T fa)) : PE X (.UnaryOp .Not a pos) (tE T (fNot fa)) := by
  refine QL.PE.imp (pe_not ha) fun σ H Q h => ?_
  obtain ⟨C, δ, R, h⟩ := h
  refine tE.bool R h no_bool1 fun c δ1 H1 C1 R1 s1 h1 => ⟨c, rfl, h1.here R1 _ (Rp.bl.mpr rfl : Rp T.B.G C1 _ _)⟩
theorem s_ife (hc : PT X c (tT T fc)) (ha : PE X a (tE T fa)) (hb : PE X b (tE T fb)) : PE X (.IfExp c a b pos) (tE T (fIfe fc fa fb)) := by
  refine QL.PE.imp (pe_ifExp hc ha hb) fun σ H Q h => ?_
  obtain ⟨C, δ, R, h⟩ := h
  refine tT.bool R h no_bool fun c δ1 H1 C1 R1 s1 h1 => ?_
  cases c with
  | true => exact tE.last R1 s1.al h1
  | false => exact tE.last R1 s1.al h1
/-- a value as a test -/
theorem s_tval (h : PE X a (tE T fa)) (he : ∀ whole, isTrue a X.env whole = (do let v ← whole; standAt a.pos; holding [v] (truthy v))) : PT X a (tT T fa) := by
  refine QL.PT.imp (pt_val h he) fun σ H Q h => ?_
  obtain ⟨C, δ, R, h⟩ := h
  refine ⟨C, δ, R, ?_⟩
  cases e : fa δ with
  | ok r δ1 =>
    rw [e] at h
    intro H1 C1 R1 s1 v hv
    have h1 := h H1 C1 R1 s1
    dsimp only at h1
    split at h1
    · rename_i b
      exact ⟨b, Rp.bl.mp (show Rp T.B.G C1 (.bl b) v from hv), h1⟩
    · exact h1.elim
  | er x δ1 => rw [e] at h; exact h
  | no => rw [e] at h; exact h
theorem s_tnot (ha : PT X a (tT T fa)) : PT X (.UnaryOp .Not a pos) (tT T (fNot fa)) := by
  refine QL.PT.imp (pt_not ha) fun σ H Q h => ?_
  obtain ⟨C, δ, R, h⟩ := h
  refine tT.bool R h no_bool1 fun c δ1 H1 C1 R1 s1 h1 => h1.here R1
theorem pw_of {op : BoolOp} {es : List Expr} {t : TT} (h : PT X (.BoolOp op es pos) t) : PW X (.BoolOp op es pos) t := ⟨fun _ pins s σ H Q I q => h.run pins s σ H Q I q⟩
theorem s_tone {op : BoolOp} (ha : PT X a (tT T fa)) : PT X (.BoolOp op [a] pos) (tT T fa) := by
  cases op with
  | And => exact PW.pt (pw_and1 ha)
  | Or => exact PW.pt (pw_or1 ha)
theorem s_tand {rest : List Expr} (ha : PT X a (tT T fa)) (hb : PT X (.BoolOp .And (b :: rest) pos) (tT T fb)) : PT X (.BoolOp .And (a :: b :: rest) pos) (tT T (fAnd fa fb)) := by
  refine QL.PT.imp (PW.pt (pw_and ha (pw_of hb))) fun σ H Q h => ?_
  obtain ⟨C, δ, R, h⟩ := h
  refine tT.bool R h no_bool fun c δ1 H1 C1 R1 s1 h1 => ?_
  cases c with
  | true => exact tT.last R1 h1
  | false => exact h1.here R1
theorem s_tor {rest : List Expr} (ha : PT X a (tT T fa)) (hb : PT X (.BoolOp .Or (b :: rest) pos) (tT T fb)) : PT X (.BoolOp .Or (a :: b :: rest) pos) (tT T (fOr fa fb)) := by
  refine QL.PT.imp (PW.pt (pw_or ha (pw_of hb))) fun σ H Q h => ?_
  obtain ⟨C, δ, R, h⟩ := h
  refine tT.bool R h no_bool fun c δ1 H1 C1 R1 s1 h1 => ?_
  cases c with
  | true => exact h1.here R1
  | false => exact tT.last R1 h1

/-! ### rows of arguments, displays -/
variable {e : Expr} {es : List Expr} {fs : Env → Rs (List D)}
abbrev fNil : Env → Rs (List D) := fun δ => .ok [] δ
abbrev fCons (fa : Env → Rs Rv) (fs : Env → Rs (List D)) : Env → Rs (List D) := fun δ => (fa δ).bind fun x δ => (fs δ).bind fun xs δ => .ok (x.d :: xs) δ
theorem s_anil : PA X [] (tAs T fNil) := QL.PA.imp pa_nil fun σ H Q h => by
  obtain ⟨C, δ, R, h⟩ := h
  exact h.here R [] (Rps.nil.mpr rfl)
theorem s_acons (ha : PE X e (tE T fa)) (hr : PA X es (tAs T fs)) (hs : starEach (e :: es) X.env = (false, eval e X.env) :: starEach es X.env) : PA X (e :: es) (tAs T (fCons fa fs)) := by
  refine QL.PA.imp (pa_cons ha hr hs) fun σ H Q h => ?_
  obtain ⟨C, δ, R, h⟩ := h
  refine tE.then R h fun x δ1 H1 C1 v R1 s1 p1 h1 => ?_
  refine tAs.then R1 h1 fun ds δ2 H2 C2 vs R2 s2 p2 h2 => ?_
  exact h2.here R2 (v :: vs) (Rps.cons.mpr ⟨v, vs, rfl, Rp.mono s2.cs _ _ p1, p2⟩)
theorem s_tup {x1 : Nat} (h : PA X es (tAs T fs)) : PE X (.Tuple es x1 pos) (tE T fun δ => (fs δ).bind fun xs δ => if xs.length ≤ LIM then .ok (.fz (.tup xs)) δ else .no) := by
  refine QL.PE.imp (pe_tup h) fun σ H Q h => ?_
  obtain ⟨C, δ, R, h⟩ := h
  refine tAs.then R h fun ds δ1 H1 C1 vs R1 s1 p1 h1 => ?_
  split at h1
  · rename_i hl
    refine ⟨by rw [← p1.len]; exact len_sz hl, fun p hp => ?_⟩
    obtain ⟨R2, s2⟩ := R1.new (.tup vs) hp
    exact h1 _ _ R2 s2 _ (Rp.tup.mpr ⟨p, vs, rfl, .of upd_same, Rps.mono s2.cs _ _ p1⟩)
  · exact h1.elim
theorem s_lst (h : PA X es (tAs T fs)) : PE X (.List es pos) (tE T fun δ => (fs δ).bind fun xs δ => if xs.length ≤ LIM then .ok (.lv xs) δ else .no) := by
  refine QL.PE.imp (pe_lst h) fun σ H Q h => ?_
  obtain ⟨C, δ, R, h⟩ := h
  refine tAs.then R h fun ds δ1 H1 C1 vs R1 s1 p1 h1 => ?_
  split at h1
  · rename_i hl
    refine ⟨by rw [← p1.len]; exact len_sz hl, fun p hp => ?_⟩
    obtain ⟨R2, s2, q1, q2, q3⟩ := R1.newO (.lst vs) hp
    exact h1 _ _ R2 s2 _ ⟨p, vs, rfl, upd_same, q1, ⟨q2, s1.al _ hp⟩, q3, p1⟩
  · exact h1.elim

/-! ### subscripts -/
theorem atI_rps {G : Gd} {C : Hp} {ds : List D} {xs : List V} {i : Int} {d : D} (h : Rps G C ds xs) (e : atI ds i = some d) : ∃ x, atI xs i = some x ∧ Rp G C d x := by
  unfold atI at e ⊢
  rw [← h.len]
  cases hj : ixN ds.length i with
  | none => rw [hj] at e; cases e
  | some j =>
    rw [hj] at e
    exact h.get e
theorem ix_read (hK : X.K = T.B.G.K) {x y : V} {dx dy d : D} {Q : VK} (sub : Same C H) (px : Rp T.B.G C dx x) (py : Rp T.B.G C dy y) (e : ixD dx dy = some d) (k : ∀ v, Rp T.B.G C d v → Q v H) : rIxL X.K x y H Q ∨ rIxT X.K x y H Q := by
  unfold ixD at e
  split at e
  · obtain ⟨a, xs, rfl, h1, h2⟩ := Rp.lst.mp px
    obtain ⟨v, h3, h4⟩ := atI_rps h2 e
    exact .inl ⟨a, xs, _, v, rfl, Rp.int.mp py, .of (sub _ _ h1), h3, k v h4⟩
  · obtain ⟨a, xs, rfl, h1, h2⟩ := Rp.tup.mp px
    obtain ⟨v, h3, h4⟩ := atI_rps h2 e
    exact .inr ⟨a, xs, _, v, rfl, Rp.int.mp py, hK ▸ QL.Same.sqT sub h1, h3, k v h4⟩
  · cases e
abbrev fIx (fa fb : Env → Rs Rv) : Env → Rs Rv := fun δ => (fa δ).bind fun x δ => (fb δ).bind fun y δ => optR ((ixD x.d y.d).map Rv.fz) δ
theorem s_ix (hK : X.K = T.B.G.K) (ha : PE X a (tE T fa)) (hb : PE X b (tE T fb)) (hs : PlainIx b) : PE X (.Subscript a b pos) (tE T (fIx fa fb)) := by
  refine QL.PE.imp (pe_ix (ix_list.or ix_tup) ha hb hs) fun σ H Q h => ?_
  obtain ⟨C, δ, R, h⟩ := h
  refine tE.then R h fun x δ1 H1 C1 v R1 s1 p1 h1 => ?_
  refine tE.then R1 h1 fun y δ2 H2 C2 w R2 s2 p2 h2 => ?_
  obtain ⟨z, ez, h3⟩ := optR_some h2
  obtain ⟨d, ed, rfl⟩ := Option.map_eq_some_iff.mp ez
  exact ix_read hK R2.sub (Rp.mono s2.cs _ _ p1) p2 ed fun v' hv => h3.here R2 v' hv
/-- a slot's own list read in place: where it stands -/
theorem look_sl {B : Bd} (R : Rl B σ H C δ) {i : Nat} {x : D} (h : lookSl δ i = some x) : ∃ v, σ[i]? = some (some v) ∧ (Rp B.G C x v ∨ ∃ a xs ds, v = V.ref a ∧ H a = some (.lst xs) ∧ x = .lst ds ∧ Rps B.G C ds xs) := by
  unfold lookSl at h
  split at h
  · rename_i d e
    cases h
    obtain ⟨o, ho, v, rfl, hv⟩ := R.at_ e
    exact ⟨v, ho, .inl hv⟩
  · rename_i ds e
    cases h
    obtain ⟨o, ho, a, xs, rfl, h1, h2, h3, h4⟩ := R.at_ e
    exact ⟨_, ho, .inr ⟨a, xs, ds, rfl, h1, rfl, h4⟩⟩
  · rename_i ds e
    cases h
    obtain ⟨o, ho, a, xs, rfl, h1, h2, h3, h4⟩ := R.at_ e
    exact ⟨_, ho, .inr ⟨a, xs, ds, rfl, h1, rfl, h4⟩⟩
  · cases h
/-- a slot that is read in place keeps its value through an expression -/
theorem s_ixv (hK : X.K = T.B.G.K) {i : Nat} {x : Str} {p : Pos} (hN : X.N[i]? = some x) (hv : Vis X.env.scope x) (hd : (x == ("__debug__" : Str)) = false) (hcd : (x == ("__classdict__" : Str)) = false) (hb : PE X b (tE T fb)) (hs : PlainIx b) :
    PE X (.Subscript (.Name x p) b pos) (tE T fun δ => (optR (lookSl δ i) δ).bind fun _ δ => (fb δ).bind fun y δ => optR ((lookSl δ i).bind fun x => (ixD x y.d).map Rv.fz) δ) := by
  refine QL.PE.imp (pe_ix (ix_list.or ix_tup) (pe_var hN hv hd hcd) hb hs) fun σ H Q h => ?_
  obtain ⟨C, δ, R, h⟩ := h
  dsimp only at h
  cases e0 : lookSl δ i with
  | none => rw [e0] at h; exact h.elim
  | some d0 =>
    rw [e0] at h
    obtain ⟨v, ev, _⟩ := look_sl R e0
    refine ⟨v, ev, ?_⟩
    refine tE.then R h fun y δ2 H2 C2 w R2 s2 p2 h2 => ?_
    obtain ⟨z, ez, h3⟩ := optR_some h2
    obtain ⟨x1, ex, ez⟩ := Option.bind_eq_some_iff.mp ez
    obtain ⟨d, ed, rfl⟩ := Option.map_eq_some_iff.mp ez
    obtain ⟨v2, ev2, q⟩ := look_sl R2 ex
    rw [ev] at ev2
    cases ev2
    rcases q with q | ⟨a, xs, ds, rfl, q1, rfl, q2⟩
    · exact ix_read hK R2.sub q p2 ed fun v' hv => h3.here R2 v' hv
    · cases hy : y.d with
      | int j =>
        rw [hy] at ed p2
        obtain ⟨v', h5, h6⟩ := atI_rps q2 (show atI ds j = some d from ed)
        exact .inl ⟨a, xs, j, v', rfl, Rp.int.mp p2, .of q1, h5, h3.here R2 v' h6⟩
      | _ => rw [hy] at ed; cases ed

/-! ### slices -/
theorem cut_rps {G : Gd} {C : Hp} {ds : List D} {xs : List V} (h : Rps G C ds xs) (lo hi : Option Int) : Rps G C (cutD ds lo hi) (cutV xs lo hi) := by
  unfold cutD cutV
  rw [h.len]
  exact (h.drop _).take _
/-- a part of a slice -/
def tPartQ (T : Tx) (f : Env → Rs (Option Int)) : TO := fun σ H Q => ∃ C δ, Rl T.B σ H C δ ∧ Out T σ H C δ (fun o H' _ _ => Q o H') (f δ)
theorem PO.imp {X : Cx} {o : Option Expr} {t t' : TO} (h : PO X o t) (i : ∀ σ H Q, t' σ H Q → t σ H Q) : PO X o t' := ⟨fun pins s σ H Q I q => h.run pins s σ H Q I (i σ H Q q)⟩
theorem s_pnone : PO X none (tPartQ T fun δ => .ok none δ) := QL.PO.imp po_none fun σ H Q h => by
  obtain ⟨C, δ, R, h⟩ := h
  exact h.here R
theorem s_psome (ha : PE X a (tE T fa)) : PO X (some a) (tPartQ T fun δ => (fa δ).bind intP) := QL.PO.imp (po_some ha) fun σ H Q h => by
  obtain ⟨C, δ, R, h⟩ := h
  refine tE.thenR R h fun r δ1 H1 C1 v R1 s1 hv h1 => ?_
  unfold intP at h1
  split at h1
  · rename_i i
    exact ⟨i, Rp.int.mp (show Rp T.B.G C1 (.int i) v from hv), h1.here R1⟩
  · exact h1.elim
theorem tPartQ.then {β : Type} {S : β → Hp → Hp → Env → Prop} {fo : Env → Rs (Option Int)} {k : Option Int → Env → Rs β} {Q : Option Int → Hp → Prop} (R : Rl T.B σ H C δ) (h : Out T σ H C δ S ((fo δ).bind k))
    (hk : ∀ o δ1 H1 C1, Rl T.B σ H1 C1 δ1 → Stp σ H C δ H1 C1 δ1 → Out T σ H1 C1 δ1 S (k o δ1) → Q o H1) : tPartQ T fo σ H Q := by
  refine ⟨C, δ, R, ?_⟩
  cases e : fo δ with
  | ok r δ1 =>
    rw [e] at h
    intro H1 C1 R1 s1
    exact hk r δ1 H1 C1 R1 s1 (Out.base h s1)
  | er x δ1 => rw [e] at h; exact h
  | no => rw [e] at h; exact h
theorem sl_read (hK : X.K = T.B.G.K) {Hb : Hp} {x : V} {dx : D} {lo hi : Option Int} {z : Rv} {Q : VK} (R : Rl T.B σ H C δ) (al : ∀ a, H a = none → Hb a = none) (px : Rp T.B.G C dx x) (e : slD dx lo hi = some z) (k : ∀ v H' C', Rl T.B σ H' C' δ → Stp σ H C δ H' C' δ → RvR T.B σ Hb H' C' δ z v → Q v H') :
    rSlL X.K x lo hi H Q ∨ rSlA X.K x lo hi H Q := by
  unfold slD at e
  split at e
  · cases e
    obtain ⟨a, xs, rfl, h1, h2⟩ := Rp.lst.mp px
    refine .inl ⟨a, xs, rfl, .of (R.sub _ _ h1), fun p hp => ?_⟩
    obtain ⟨R2, s2, q1, q2, q3⟩ := R.newO (.lst (cutV xs lo hi)) hp
    exact k _ _ _ R2 s2 ⟨p, _, rfl, upd_same, q1, ⟨q2, al _ hp⟩, q3, cut_rps h2 lo hi⟩
  · cases e
    rename_i ds
    obtain ⟨a, xs, rfl, h1, h2⟩ := Rp.tup.mp px
    refine .inr ⟨a, xs, rfl, hK ▸ QL.Same.sqT R.sub h1, fun hw => ?_, fun _ p hp => ?_⟩
    · have e1 : cutV xs lo hi = xs := by
        unfold cutV
        rw [hw.1, hw.2]
        simp
      have e2 := cut_rps h2 lo hi
      rw [e1] at e2
      exact k _ H C R .refl (Rp.tup.mpr ⟨a, xs, rfl, h1, e2⟩ : Rp T.B.G C _ _)
    · obtain ⟨R2, s2⟩ := R.new (.tup (cutV xs lo hi)) hp
      exact k _ _ _ R2 s2 (Rp.tup.mpr ⟨p, _, rfl, .of upd_same, Rps.mono s2.cs _ _ (cut_rps h2 lo hi)⟩)
  · cases e
    obtain ⟨a, xs, rfl, h1, h2⟩ := Rp.rol.mp px
    refine .inl ⟨a, xs, rfl, hK ▸ QL.Same.sqL R.sub h1, fun p hp => ?_⟩
    obtain ⟨R2, s2, q1, q2, q3⟩ := R.newO (.lst (cutV xs lo hi)) hp
    exact k _ _ _ R2 s2 ⟨p, _, rfl, upd_same, q1, ⟨q2, al _ hp⟩, q3, cut_rps h2 lo hi⟩
  · cases e
abbrev rSlAny (K : PySem.W.Frag) : V → Option Int → Option Int → Hp → VK → Prop := fun x lo hi H Q => rSlL K x lo hi H Q ∨ rSlA K x lo hi H Q
theorem sl_rd (hK : X.K = T.B.G.K) {fl fh : Env → Rs (Option Int)} : ∀ σ H Q, tE T (fun δ => (fa δ).bind fun x δ => (fl δ).bind fun l δ => (fh δ).bind fun h δ => optR (slD x.d l h) δ) σ H Q → tSl (rSlAny X.K) (tE T fa) (tPartQ T fl) (tPartQ T fh) σ H Q := fun σ H Q h => by
  obtain ⟨C, δ, R, h⟩ := h
  refine tE.then R h fun x δ1 H1 C1 v R1 s1 p1 h1 => ?_
  refine tPartQ.then R1 h1 fun l δ2 H2 C2 R2 s2 h2 => ?_
  refine tPartQ.then R2 h2 fun u δ3 H3 C3 R3 s3 h3 => ?_
  obtain ⟨z, ez, h4⟩ := optR_some h3
  exact sl_read hK R3 (fun a h => s1.al a (s2.al a (s3.al a h))) (Rp.mono s3.cs _ _ (Rp.mono s2.cs _ _ p1)) ez fun v' H' C' R' s' hv => h4 H' C' R' s' v' hv
theorem s_sl (hK : X.K = T.B.G.K) {lo hi : Option Expr} {p2 : Pos} {fl fh : Env → Rs (Option Int)} (ha : PE X a (tE T fa)) (hl : PO X lo (tPartQ T fl)) (hh : PO X hi (tPartQ T fh)) :
    PE X (.Subscript a (.Slice lo hi none p2) pos) (tE T fun δ => (fa δ).bind fun x δ => (fl δ).bind fun l δ => (fh δ).bind fun h δ => optR (slD x.d l h) δ) := QL.PE.imp (pe_slice (sl_list.or sl_tupA) ha hl hh) (sl_rd hK)

theorem s_slv (hK : X.K = T.B.G.K) {lo hi : Option Expr} {i : Nat} {x : Str} {p p2 : Pos} {fl fh : Env → Rs (Option Int)} (hN : X.N[i]? = some x) (hv : Vis X.env.scope x) (hd : (x == ("__debug__" : Str)) = false) (hcd : (x == ("__classdict__" : Str)) = false) (hl : PO X lo (tPartQ T fl)) (hh : PO X hi (tPartQ T fh)) :
    PE X (.Subscript (.Name x p) (.Slice lo hi none p2) pos) (tE T fun δ => (optR (lookSl δ i) δ).bind fun _ δ => (fl δ).bind fun l δ => (fh δ).bind fun h δ => optR ((lookSl δ i).bind fun x => slD x l h) δ) := by
  refine QL.PE.imp (pe_slice (sl_list.or sl_tupA) (pe_var hN hv hd hcd) hl hh) fun σ H Q h => ?_
  obtain ⟨C, δ, R, h⟩ := h
  dsimp only at h
  cases e0 : lookSl δ i with
  | none => rw [e0] at h; exact h.elim
  | some d0 =>
    rw [e0] at h
    obtain ⟨v, ev, _⟩ := look_sl R e0
    refine ⟨v, ev, ?_⟩
    refine tPartQ.then (k := fun l δ => (fh δ).bind fun h δ => optR ((lookSl δ i).bind fun x => slD x l h) δ) R h fun l δ2 H2 C2 R2 s2 h2 => ?_
    refine tPartQ.then R2 h2 fun u δ3 H3 C3 R3 s3 h3 => ?_
    obtain ⟨z, ez, h4⟩ := optR_some h3
    obtain ⟨x1, ex, ez⟩ := Option.bind_eq_some_iff.mp ez
    obtain ⟨v2, ev2, q⟩ := look_sl R3 ex
    rw [ev] at ev2
    cases ev2
    rcases q with q | ⟨a, xs, ds, rfl, q1, rfl, q2⟩
    · exact sl_read hK R3 (fun a h => s2.al a (s3.al a h)) q ez fun v' H' C' R' s' hv => h4 H' C' R' s' v' hv
    · cases ez
      refine .inl ⟨a, xs, rfl, .of q1, fun p hp => ?_⟩
      obtain ⟨R4, s4, w1, w2, w3⟩ := R3.newO (.lst (cutV xs l u)) hp
      exact h4 _ _ R4 s4 _ ⟨p, _, rfl, upd_same, w1, ⟨w2, s2.al _ (s3.al _ hp)⟩, w3, cut_rps q2 l u⟩

/-! ### built-ins on data -/
/-- a call of a built-in that is right on data -/
def CaD (T : Tx) (X : Cx) (g : Value) (f : List D → Option Rv) : Prop := ∃ r : List V → Hp → VK → Prop, CallR X g r ∧ ∀ (σ : L2.St) (H C : Hp) (δ : Env) (vs : List V) (ds : List D) (z : Rv) (Q : VK), Rl T.B σ H C δ → Rps T.B.G C ds vs → f ds = some z →
  (∀ v H' C', Rl T.B σ H' C' δ → Stp σ H C δ H' C' δ → RvR T.B σ H H' C' δ z v → Q v H') → r vs H Q
abbrev fBi (f : List D → Option Rv) (fs : Env → Rs (List D)) : Env → Rs Rv := fun δ => (fs δ).bind fun xs δ => optR (f xs) δ
theorem ca_read {f : List D → Option Rv} {r : List V → Hp → VK → Prop} (hf : ∀ (σ : L2.St) (H C : Hp) (δ : Env) (vs : List V) (ds : List D) (z : Rv) (Q : VK), Rl T.B σ H C δ → Rps T.B.G C ds vs → f ds = some z →
  (∀ v H' C', Rl T.B σ H' C' δ → Stp σ H C δ H' C' δ → RvR T.B σ H H' C' δ z v → Q v H') → r vs H Q) {Q : VK} (h : tE T (fBi f fs) σ H Q) : tCB r (tAs T fs) σ H Q := by
  obtain ⟨C, δ, R, h⟩ := h
  refine tAs.then R h fun ds δ1 H1 C1 vs R1 s1 p1 h1 => ?_
  obtain ⟨z, ez, h2⟩ := optR_some h1
  exact hf σ H1 C1 δ1 vs ds z Q R1 p1 ez fun v H' C' R' s' hv => h2 H' C' R' s' v (RvR.back s1.al hv)
variable {x : Str} {p : Pos} {id : String}
theorem s_biB {f : List D → Option Rv} (hc : CaD T X (.builtin id) f) (hg : Gl X x) (hm : X.mg x = none) (hv : bootBuiltins x = some (.builtin id)) (ha : PA X (e :: es) (tAs T fs)) (hn : x ≠ "__name__") (hdb : (x == ("__debug__" : Str)) = false)
    (he : starEach (e :: es) X.env = (false, eval e X.env) :: starEach es X.env) (hpl : (backTo pos (starEach es X.env)).any (·.1) = false) : PE X (.Call (.Name x p) (e :: es) [] pos) (tE T (fBi f fs)) := by
  obtain ⟨r, hr, hf⟩ := hc
  exact QL.PE.imp (pe_callB hr hg hm hv ha hn hdb he hpl) fun σ H Q h => ca_read hf h
theorem s_biT {f : List D → Option Rv} (hc : CaD T X (.type id) f) (hg : Gl X x) (hm : X.mg x = none) (hv : bootBuiltins x = some (.type id)) (ha : PA X (e :: es) (tAs T fs)) (hn : x ≠ "__name__") (hdb : (x == ("__debug__" : Str)) = false)
    (he : starEach (e :: es) X.env = (false, eval e X.env) :: starEach es X.env) (hpl : (backTo pos (starEach es X.env)).any (·.1) = false) : PE X (.Call (.Name x p) (e :: es) [] pos) (tE T (fBi f fs)) := by
  obtain ⟨r, hr, hf⟩ := hc
  exact QL.PE.imp (pe_callTy hr hg hm hv ha hn hdb he hpl) fun σ H Q h => ca_read hf h
end
end QL

end
section
set_option Elab.async false
set_option linter.all false
/-! Q5: the built-ins on data. -/
namespace QL
open PySem PySem.Spec PyProof.Rows L2

section
variable {T : Tx} {X : Cx} {σ : L2.St} {H C : Hp} {δ : Env} {pos : Pos} {a b c d e : Expr} {es : List Expr} {fa fb fc fd : Env → Rs Rv} {fs : Env → Rs (List D)}

theorem rps1 {G : Gd} {d : D} {vs : List V} (h : Rps G C [d] vs) : ∃ v, vs = [v] ∧ Rp G C d v := by
  obtain ⟨x, r, rfl, h1, h2⟩ := Rps.cons.mp h
  rw [Rps.nil.mp h2]
  exact ⟨x, rfl, h1⟩
theorem rps2 {G : Gd} {d d' : D} {vs : List V} (h : Rps G C [d, d'] vs) : ∃ v w, vs = [v, w] ∧ Rp G C d v ∧ Rp G C d' w := by
  obtain ⟨x, r, rfl, h1, h2⟩ := Rps.cons.mp h
  obtain ⟨w, rfl, h3⟩ := rps1 h2
  exact ⟨x, w, rfl, h1, h3⟩
theorem ints_rps {G : Gd} : ∀ {ds : List D} {xs : List V} {l : List Int}, intsOf ds = some l → Rps G C ds xs → xs = l.map V.int
  | [], xs, l, e, h => by
    cases e
    exact Rps.nil.mp h
  | d :: ds, xs, l, e, h => by
    obtain ⟨x, r, rfl, h1, h2⟩ := Rps.cons.mp h
    cases d <;> first | (cases e; done) | skip
    rename_i i
    have e : (intsOf ds).map (i :: ·) = some l := e
    obtain ⟨l', e1, rfl⟩ := Option.map_eq_some_iff.mp e
    rw [ints_rps e1 h2, Rp.int.mp h1]
    rfl
theorem bools_rps {G : Gd} : ∀ {ds : List D} {xs : List V} {l : List Bool}, boolsOf ds = some l → Rps G C ds xs → xs = l.map V.bl
  | [], xs, l, e, h => by
    cases e
    exact Rps.nil.mp h
  | d :: ds, xs, l, e, h => by
    obtain ⟨x, r, rfl, h1, h2⟩ := Rps.cons.mp h
    cases d <;> first | (cases e; done) | skip
    rename_i i
    have e : (boolsOf ds).map (i :: ·) = some l := e
    obtain ⟨l', e1, rfl⟩ := Option.map_eq_some_iff.mp e
    rw [bools_rps e1 h2, Rp.bl.mp h1]
    rfl
theorem rps_ints {G : Gd} : ∀ (l : List Int), Rps G C (l.map D.int) (l.map V.int)
  | [] => Rps.nil.mpr rfl
  | i :: l => Rps.cons.mpr ⟨_, _, rfl, Rp.int.mpr rfl, rps_ints l⟩

/-! ### sorting of whole numbers -/
theorem insI_perm (x : Int) : ∀ l : List Int, (insI x l).Perm (x :: l)
  | [] => List.Perm.refl _
  | y :: ys => by
    unfold insI
    split
    · exact List.Perm.refl _
    · exact ((insI_perm x ys).cons y).trans (List.Perm.swap x y ys)
theorem sortI_perm : ∀ l : List Int, (sortI l).Perm l
  | [] => List.Perm.refl _
  | x :: xs => (insI_perm x (sortI xs)).trans ((sortI_perm xs).cons x)
theorem insI_sorted (x : Int) : ∀ l : List Int, l.Pairwise (· ≤ ·) → (insI x l).Pairwise (· ≤ ·)
  | [], _ => List.pairwise_singleton _ _
  | y :: ys, h => by
    unfold insI
    split
    · rename_i hxy
      refine List.pairwise_cons.mpr ⟨fun z hz => ?_, h⟩
      rcases List.mem_cons.mp hz with rfl | hz
      · exact hxy
      · exact Int.le_trans hxy ((List.pairwise_cons.mp h).1 z hz)
    · rename_i hxy
      have h2 := List.pairwise_cons.mp h
      refine List.pairwise_cons.mpr ⟨fun z hz => ?_, insI_sorted x ys h2.2⟩
      rcases List.mem_cons.mp ((insI_perm x ys).mem_iff.mp hz) with rfl | hz
      · omega
      · exact h2.1 z hz
theorem sortI_sorted : ∀ l : List Int, (sortI l).Pairwise (· ≤ ·)
  | [] => List.Pairwise.nil
  | x :: xs => insI_sorted x _ (sortI_sorted xs)
theorem sorted_one : ∀ {l m : List Int}, l.Perm m → l.Pairwise (· ≤ ·) → m.Pairwise (· ≤ ·) → l = m
  | [], m, p, _, _ => (List.Perm.nil_eq p)
  | x :: l, [], p, _, _ => by
    have := p.length_eq
    cases this
  | x :: l, y :: m, p, hl, hm => by
    have h1 := List.pairwise_cons.mp hl
    have h2 := List.pairwise_cons.mp hm
    have e : x = y := by
      have hx : x ∈ y :: m := p.mem_iff.mp List.mem_cons_self
      have hy : y ∈ x :: l := p.mem_iff.mpr List.mem_cons_self
      rcases List.mem_cons.mp hx with e | hx
      · exact e
      · rcases List.mem_cons.mp hy with e | hy
        · exact e.symm
        · exact Int.le_antisymm (h1.1 y hy) (h2.1 x hx)
    subst e
    rw [sorted_one (List.Perm.cons_inv p) h1.2 h2.2]

/-! ### rules -/
theorem lst_new {B : Bd} {Hb : Hp} (R : Rl B σ H C δ) (al : ∀ a, H a = none → Hb a = none) {p : Addr} (hp : H p = none) {ds : List D} {xs : List V} (h : Rps B.G C ds xs) :
    Rl B σ (upd H p (.lst xs)) C δ ∧ Stp σ H C δ (upd H p (.lst xs)) C δ ∧ RvR B σ Hb (upd H p (.lst xs)) C δ (.lv ds) (.ref p) := by
  obtain ⟨R2, s2, q1, q2, q3⟩ := R.newO (.lst xs) hp
  exact ⟨R2, s2, p, xs, rfl, upd_same, q1, ⟨q2, al _ hp⟩, q3, h⟩
theorem tup_new {B : Bd} {Hb : Hp} (R : Rl B σ H C δ) {p : Addr} (hp : H p = none) {ds : List D} {xs : List V} (h : Rps B.G C ds xs) :
    Rl B σ (upd H p (.tup xs)) (upd C p (.tup xs)) δ ∧ Stp σ H C δ (upd H p (.tup xs)) (upd C p (.tup xs)) δ ∧ RvR B σ Hb (upd H p (.tup xs)) (upd C p (.tup xs)) δ (.fz (.tup ds)) (.ref p) := by
  obtain ⟨R2, s2⟩ := R.new (.tup xs) hp
  exact ⟨R2, s2, Rp.tup.mpr ⟨p, xs, rfl, .of upd_same, Rps.mono s2.cs _ _ h⟩⟩
theorem cd_len (hK : X.K = T.B.G.K) : CaD T X (.builtin "len") (biD .len) := ⟨_, call_len_seq, fun σ H C δ vs ds z Q R hr e k => by
  unfold biD at e
  split at e <;> first | (cases e; done) | skip
  · cases e
    obtain ⟨v, rfl, h1⟩ := rps1 hr
    obtain ⟨a, xs, rfl, h2, h3⟩ := Rp.lst.mp h1
    refine ⟨a, xs, rfl, .inl (.of (R.sub _ _ h2)), ?_⟩
    rw [← h3.len]
    exact k _ H C R .refl (Rp.int.mpr rfl : Rp T.B.G C _ _)
  · cases e
    obtain ⟨v, rfl, h1⟩ := rps1 hr
    obtain ⟨a, xs, rfl, h2, h3⟩ := Rp.tup.mp h1
    refine ⟨a, xs, rfl, .inr (hK ▸ QL.Same.sqT R.sub h2), ?_⟩
    rw [← h3.len]
    exact k _ H C R .refl (Rp.int.mpr rfl : Rp T.B.G C _ _)
  all_goals contradiction⟩
theorem cd_max (hc : X.calm = true) : CaD T X (.builtin "max") (biD .max2) := ⟨_, call_max2 hc, fun σ H C δ vs ds z Q R hr e k => by
  unfold biD at e
  split at e <;> first | (cases e; done) | contradiction | skip
  cases e
  obtain ⟨v, w, rfl, h1, h2⟩ := rps2 hr
  rw [Rp.int.mp h1, Rp.int.mp h2]
  exact ⟨_, _, rfl, k _ H C R .refl (Rp.int.mpr rfl : Rp T.B.G C _ _)⟩⟩
theorem cd_min (hc : X.calm = true) : CaD T X (.builtin "min") (biD .min2) := ⟨_, call_min2 hc, fun σ H C δ vs ds z Q R hr e k => by
  unfold biD at e
  split at e <;> first | (cases e; done) | contradiction | skip
  cases e
  obtain ⟨v, w, rfl, h1, h2⟩ := rps2 hr
  rw [Rp.int.mp h1, Rp.int.mp h2]
  exact ⟨_, _, rfl, k _ H C R .refl (Rp.int.mpr rfl : Rp T.B.G C _ _)⟩⟩
theorem cd_abs : CaD T X (.builtin "abs") (biD .abs) := ⟨_, call_abs, fun σ H C δ vs ds z Q R hr e k => by
  unfold biD at e
  split at e <;> first | (cases e; done) | contradiction | skip
  cases e
  obtain ⟨v, rfl, h1⟩ := rps1 hr
  rw [Rp.int.mp h1]
  exact ⟨_, rfl, k _ H C R .refl (Rp.int.mpr rfl : Rp T.B.G C _ _)⟩⟩
theorem cd_int : CaD T X (.type "int") (biD .int1) := ⟨_, call_int1, fun σ H C δ vs ds z Q R hr e k => by
  unfold biD at e
  split at e <;> first | (cases e; done) | contradiction | skip
  · cases e
    obtain ⟨v, rfl, h1⟩ := rps1 hr
    rw [Rp.int.mp h1]
    exact .inl ⟨_, rfl, k _ H C R .refl (Rp.int.mpr rfl : Rp T.B.G C _ _)⟩
  · cases e
    obtain ⟨v, rfl, h1⟩ := rps1 hr
    rw [Rp.bl.mp h1]
    exact .inr ⟨_, rfl, k _ H C R .refl (Rp.int.mpr rfl : Rp T.B.G C _ _)⟩⟩
theorem cd_tuple (hK : X.K = T.B.G.K) : CaD T X (.type "tuple") (biD .tuple) := ⟨_, call_tuple_of, fun σ H C δ vs ds z Q R hr e k => by
  unfold biD at e
  split at e <;> first | (cases e; done) | contradiction | skip
  · cases e
    obtain ⟨v, rfl, h1⟩ := rps1 hr
    obtain ⟨a, xs, rfl, h2, h3⟩ := Rp.lst.mp h1
    refine ⟨a, xs, rfl, .inl ⟨.of (R.sub _ _ h2), fun p hp => ?_⟩⟩
    obtain ⟨R2, s2, q⟩ := tup_new (Hb := H) R hp h3
    exact k _ _ _ R2 s2 q
  · cases e
    obtain ⟨v, rfl, h1⟩ := rps1 hr
    obtain ⟨a, xs, rfl, h2, h3⟩ := Rp.tup.mp h1
    exact ⟨a, xs, rfl, .inr ⟨hK ▸ QL.Same.sqT R.sub h2, k _ H C R .refl h1⟩⟩⟩
theorem cd_list (hK : X.K = T.B.G.K) : CaD T X (.type "list") (biD .list) := ⟨_, call_list_of, fun σ H C δ vs ds z Q R hr e k => by
  unfold biD at e
  split at e <;> first | (cases e; done) | contradiction | skip
  · cases e
    obtain ⟨v, rfl, h1⟩ := rps1 hr
    obtain ⟨a, xs, rfl, h2, h3⟩ := Rp.lst.mp h1
    refine ⟨a, xs, rfl, .inl (.of (R.sub _ _ h2)), fun p hp => ?_⟩
    obtain ⟨R2, s2, q⟩ := lst_new R (fun _ h => h) hp h3
    exact k _ _ _ R2 s2 q
  · cases e
    obtain ⟨v, rfl, h1⟩ := rps1 hr
    obtain ⟨a, xs, rfl, h2, h3⟩ := Rp.tup.mp h1
    refine ⟨a, xs, rfl, .inr (hK ▸ QL.Same.sqT R.sub h2), fun p hp => ?_⟩
    obtain ⟨R2, s2, q⟩ := lst_new R (fun _ h => h) hp h3
    exact k _ _ _ R2 s2 q⟩
theorem cd_sorted (hK : X.K = T.B.G.K) : CaD T X (.builtin "sorted") (biD .sorted) := ⟨_, cr_sortedI.or cr_sortedTu, fun σ H C δ vs ds z Q R hr e k => by
  unfold biD at e
  split at e <;> first | (cases e; done) | contradiction | skip
  · rename_i l _
    have e : ((intsOf l).map fun l => Rv.lv ((sortI l).map D.int)) = some z := e
    obtain ⟨ns, e1, rfl⟩ := Option.map_eq_some_iff.mp e
    obtain ⟨v, rfl, h1⟩ := rps1 hr
    obtain ⟨a, xs, rfl, h2, h3⟩ := Rp.lst.mp h1
    have ex := ints_rps e1 h3
    subst ex
    refine .inl ⟨a, ns, rfl, .of (R.sub _ _ h2), fun ns' p hperm hs hp => ?_⟩
    have e3 : ns' = sortI ns := sorted_one (hperm.trans (sortI_perm ns).symm) hs (sortI_sorted ns)
    subst e3
    obtain ⟨R2, s2, q⟩ := lst_new R (fun _ h => h) hp (rps_ints (C := C) (sortI ns))
    exact k _ _ _ R2 s2 q
  · rename_i l _
    have e : ((intsOf l).map fun l => Rv.lv ((sortI l).map D.int)) = some z := e
    obtain ⟨ns, e1, rfl⟩ := Option.map_eq_some_iff.mp e
    obtain ⟨v, rfl, h1⟩ := rps1 hr
    obtain ⟨a, xs, rfl, h2, h3⟩ := Rp.tup.mp h1
    have ex := ints_rps e1 h3
    subst ex
    refine .inr ⟨a, ns, rfl, hK ▸ QL.Same.sqT R.sub h2, fun ns' p hperm hs hp => ?_⟩
    have e3 : ns' = sortI ns := sorted_one (hperm.trans (sortI_perm ns).symm) hs (sortI_sorted ns)
    subst e3
    obtain ⟨R2, s2, q⟩ := lst_new R (fun _ h => h) hp (rps_ints (C := C) (sortI ns))
    exact k _ _ _ R2 s2 q⟩
theorem cd_all (hc : X.calm = true) : CaD T X (.builtin "all") (biD .all) := ⟨_, cr_all hc, fun σ H C δ vs ds z Q R hr e k => by
  unfold biD at e
  split at e <;> first | (cases e; done) | contradiction | skip
  rename_i l _
  obtain ⟨bs, e1, rfl⟩ := Option.map_eq_some_iff.mp e
  obtain ⟨v, rfl, h1⟩ := rps1 hr
  obtain ⟨a, xs, rfl, h2, h3⟩ := Rp.lst.mp h1
  have ex := bools_rps e1 h3
  subst ex
  exact ⟨a, bs, rfl, .of (R.sub _ _ h2), k _ H C R .refl (Rp.bl.mpr rfl : Rp T.B.G C _ _)⟩⟩
theorem cd_any (hc : X.calm = true) : CaD T X (.builtin "any") (biD .any) := ⟨_, cr_any hc, fun σ H C δ vs ds z Q R hr e k => by
  unfold biD at e
  split at e <;> first | (cases e; done) | contradiction | skip
  rename_i l _
  obtain ⟨bs, e1, rfl⟩ := Option.map_eq_some_iff.mp e
  obtain ⟨v, rfl, h1⟩ := rps1 hr
  obtain ⟨a, xs, rfl, h2, h3⟩ := Rp.lst.mp h1
  have ex := bools_rps e1 h3
  subst ex
  exact ⟨a, bs, rfl, .of (R.sub _ _ h2), k _ H C R .refl (Rp.bl.mpr rfl : Rp T.B.G C _ _)⟩⟩
theorem cd_sum (hc : X.calm = true) : CaD T X (.builtin "sum") (biD .sum) := ⟨_, cr_sum hc, fun σ H C δ vs ds z Q R hr e k => by
  unfold biD at e
  split at e <;> first | (cases e; done) | contradiction | skip
  rename_i l _
  obtain ⟨bs, e1, rfl⟩ := Option.map_eq_some_iff.mp e
  obtain ⟨v, rfl, h1⟩ := rps1 hr
  obtain ⟨a, xs, rfl, h2, h3⟩ := Rp.lst.mp h1
  have ex := ints_rps e1 h3
  subst ex
  exact ⟨a, bs, rfl, .of (R.sub _ _ h2), k _ H C R .refl (Rp.int.mpr rfl : Rp T.B.G C _ _)⟩⟩
end
end QL

end
section
set_option Elab.async false
set_option linter.all false
/-! Q6: isinstance; own lists read in place; own things in slots changed. -/
namespace QL
open PySem PySem.Spec PyProof.Rows L2

def tyN : Ty → String
  | .int => "int"
  | .bool => "bool"
  | .str => "str"
  | .tuple => "tuple"
  | .list => "list"
def tyS : D → String
  | .non => "NoneType"
  | .bl _ => "bool"
  | .int _ => "int"
  | .str _ => "str"
  | .tup _ => "tuple"
  | .lst _ => "list"
  | _ => "object"
section
variable {T : Tx} {X : Cx} {σ : L2.St} {H C : Hp} {δ : Env} {pos : Pos} {a b c d e : Expr} {es : List Expr} {fa fb fc fd : Env → Rs Rv} {fs : Env → Rs (List D)}
theorem kit_is {K : PySem.W.Frag} {d : D} {t : Ty} {b : Bool} (h : isTy d t = some b) : PySem.W.kitOne K (.type (tyS d)) (.type (tyN t)) = some b := by
  cases d <;> cases t <;> first
    | (cases h; done)
    | (cases h; exact kit_ty (by dsimp only [tyS, tyN]; decide +kernel))
theorem kits_is {K : PySem.W.Frag} {d : D} : ∀ {ts : List Ty} {b : Bool}, isTys d ts = some b → PySem.W.kitAny K (.type (tyS d)) (ts.map fun t => .type (tyN t)) = some b
  | [], b, h => by
    cases h
    rfl
  | t :: ts, b, h => by
    obtain ⟨b1, h1, h2⟩ := Option.bind_eq_some_iff.mp (show ((isTy d t).bind fun b => (isTys d ts).map fun c => b || c) = some b from h)
    obtain ⟨c, h3, rfl⟩ := Option.map_eq_some_iff.mp h2
    refine kitAny_cons (kit_is h1) (fun e => ?_) (fun e => ?_)
    · subst e
      exact kits_is h3
    · subst e
      rfl
theorem tyx_sq {K : PySem.W.Frag} {p : Addr} {xs : List V} (h : SqT K H p xs) : TyX K H (.ref p) (.type "tuple") := by
  rcases h with (h | ⟨o, h⟩) | ⟨o, its, n, h, hc, _⟩
  · exact .base (.tup h)
  · exact .fTuple h
  · exact .kTuple h hc
theorem tyx_of {G : Gd} {d : D} {v : V} {t : Ty} {b : Bool} (sub : Same C H) (r : Rp G C d v) (h : isTy d t = some b) : TyX G.K H v (.type (tyS d)) := by
  cases d with
  | non => rw [Rp.non.mp r]; exact .base .non
  | bl b => rw [Rp.bl.mp r]; exact .base (.bl b)
  | int b => rw [Rp.int.mp r]; exact .base (.int b)
  | str b => rw [Rp.str.mp r]; exact .base (.str b)
  | tup ds => obtain ⟨p, xs, rfl, h1, _⟩ := Rp.tup.mp r; exact tyx_sq (QL.Same.sqT sub h1)
  | lst ds => obtain ⟨p, xs, rfl, h1, _⟩ := Rp.lst.mp r; exact .base (.lst (sub _ _ h1))
  | rol ds => cases t <;> cases h
  | ob c fs ds => cases t <;> cases h
  | dic ks ds => cases t <;> cases h
abbrev fIsi (ts : List Ty) (fa : Env → Rs Rv) : Env → Rs Rv := fun δ => (fa δ).bind fun x δ => optR ((isTys x.d ts).map fun b => .fz (.bl b)) δ
variable {p p2 : Pos}
/-- a built-in class as a value -/
theorem s_ty {x : Str} {n : String} (hg : Gl X x) (hm : X.mg x = none) (hv : bootBuiltins x = some (.type n)) (hn : x ≠ "__name__") (hd : (x == ("__debug__" : Str)) = false) : PE X (.Name x pos) (tC (.ty n)) := pe_bltn hg hm hv rfl hn hd
theorem s_isi1 (hK : X.K = T.B.G.K) {t : Ty} (hg : Gl X "isinstance") (hm : X.mg "isinstance" = none) (ha : PE X a (tE T fa)) (hb : PE X b (tC (.ty (tyN t)))) (h1 : starEach [a, b] X.env = (false, eval a X.env) :: starEach [b] X.env) (h2 : starEach [b] X.env = (false, eval b X.env) :: starEach [] X.env) :
    PE X (.Call (.Name "isinstance" p) [a, b] [] pos) (tE T (fIsi [t] fa)) := by
  have hpl : (backTo pos (starEach [b] X.env)).any (·.1) = false := by rw [h2]; rfl
  refine QL.PE.imp (pe_callB call_isi hg hm (by decide +kernel) (pa_cons ha (pa_cons hb pa_nil h2) h1) (by decide) (by decide) h1 hpl) fun σ H Q h => ?_
  obtain ⟨C, δ, R, h⟩ := h
  refine tE.then R h fun x δ1 H1 C1 v R1 s1 p1 h1 => ?_
  obtain ⟨z, ez, h2⟩ := optR_some h1
  obtain ⟨b, eb, rfl⟩ := Option.map_eq_some_iff.mp ez
  have eb' : isTy x.d t = some b := by
    have eb2 : ((isTy x.d t).bind fun b => (some false).map fun c => b || c) = some b := eb
    obtain ⟨b1, h3, h4⟩ := Option.bind_eq_some_iff.mp eb2
    rw [h3]
    simpa using h4
  refine ⟨v, .ty (tyN t), _, _, b, rfl, .ty _, hK ▸ tyx_of R1.sub p1 eb', kit_is eb', ?_⟩
  exact h2.here R1 _ (Rp.bl.mpr rfl : Rp T.B.G C1 _ _)
theorem tys_row {ts : List Ty} : ∀ {bs : List Expr} {ns : List V}, PA X bs (fun _ H Q => Q ns H) → ns = ts.map (fun t => V.ty (tyN t)) → PA X bs (fun _ H Q => Q (ts.map fun t => V.ty (tyN t)) H) := fun h e => by
  subst e
  exact h
theorem isTys_ty {d : D} {t : Ty} {ts : List Ty} {b : Bool} (h : isTys d (t :: ts) = some b) : ∃ b', isTy d t = some b' := by
  obtain ⟨b1, h1, _⟩ := Option.bind_eq_some_iff.mp (show ((isTy d t).bind fun b => (isTys d ts).map fun c => b || c) = some b from h)
  exact ⟨b1, h1⟩
theorem clsv_all (ts : List Ty) : Paired ClsV (ts.map fun t => V.ty (tyN t)) (ts.map fun t => Value.type (tyN t)) := by
  induction ts with
  | nil => exact .nil
  | cons t ts ih => exact .cons (.ty _) ih
theorem s_isiT (hK : X.K = T.B.G.K) {t : Ty} {ts : List Ty} {k : Nat} {bs : List Expr} (hl : (t :: ts).length ≤ 100) (hg : Gl X "isinstance") (hm : X.mg "isinstance" = none) (ha : PE X a (tE T fa)) (hb : PA X bs (fun _ H Q => Q ((t :: ts).map fun t => V.ty (tyN t)) H))
    (h1 : starEach [a, .Tuple bs k p2] X.env = (false, eval a X.env) :: starEach [.Tuple bs k p2] X.env) :
    PE X (.Call (.Name "isinstance" p) [a, .Tuple bs k p2] [] pos) (tE T (fIsi (t :: ts) fa)) := by
  have h2 : starEach [.Tuple bs k p2] X.env = (false, eval (.Tuple bs k p2) X.env) :: starEach [] X.env := rfl
  have hpl : (backTo pos (starEach [.Tuple bs k p2] X.env)).any (·.1) = false := rfl
  refine QL.PE.imp (pe_callB call_isiT hg hm (by decide +kernel) (pa_cons ha (pa_cons (pe_tup hb) pa_nil h2) h1) (by decide) (by decide) h1 hpl) fun σ H Q h => ?_
  obtain ⟨C, δ, R, h⟩ := h
  refine tE.then R h fun x δ1 H1 C1 v R1 s1 p1 h1 => ?_
  obtain ⟨z, ez, h2⟩ := optR_some h1
  obtain ⟨b, eb, rfl⟩ := Option.map_eq_some_iff.mp ez
  obtain ⟨b', eb'⟩ := isTys_ty eb
  refine ⟨by rw [List.length_map]; exact Nat.le_trans hl (by decide), fun q hq => ?_⟩
  obtain ⟨R2, s2, q1, q2, q3⟩ := R1.newO (.tup ((t :: ts).map fun t => V.ty (tyN t))) hq
  refine ⟨v, q, _, _, _, b, rfl, upd_same, clsv_all (t :: ts), hK ▸ tyx_of R2.sub (Rp.mono s2.cs _ _ p1) eb', kits_is eb, ?_⟩
  exact h2 _ _ R2 s2 _ (Rp.bl.mpr rfl : Rp T.B.G C1 _ _)

/-! ### own lists read in place -/
variable {i : Nat} {x : Str}
theorem s_lenv (hK : X.K = T.B.G.K) (hg : Gl X "len") (hm : X.mg "len" = none) (hN : X.N[i]? = some x) (hv : Vis X.env.scope x) (hd : (x == ("__debug__" : Str)) = false) (hcd : (x == ("__classdict__" : Str)) = false) :
    PE X (.Call (.Name "len" p) [.Name x p2] [] pos) (tE T fun δ => optR ((lookSl δ i).bind fun x => biD .len [x]) δ) := by
  refine QL.PE.imp (pe_callB call_len_seq hg hm PySem.boot_len (pa_cons (pe_var hN hv hd hcd) pa_nil rfl) (by decide) (by decide) rfl rfl) fun σ H Q h => ?_
  obtain ⟨C, δ, R, h⟩ := h
  obtain ⟨z, ez, h2⟩ := optR_some h
  obtain ⟨d, ed, ez⟩ := Option.bind_eq_some_iff.mp ez
  obtain ⟨v, ev, q⟩ := look_sl R ed
  refine ⟨v, ev, ?_⟩
  rcases q with q | ⟨a, xs, ds, rfl, q1, rfl, q2⟩
  · cases d <;> first | (cases ez; done) | skip
    · cases ez
      obtain ⟨a, xs, rfl, h3, h4⟩ := Rp.tup.mp q
      refine ⟨a, xs, rfl, .inr (hK ▸ QL.Same.sqT R.sub h3), ?_⟩
      rw [← h4.len]
      exact h2.here R _ (Rp.int.mpr rfl : Rp T.B.G C _ _)
    · cases ez
      obtain ⟨a, xs, rfl, h3, h4⟩ := Rp.lst.mp q
      refine ⟨a, xs, rfl, .inl (.of (R.sub _ _ h3)), ?_⟩
      rw [← h4.len]
      exact h2.here R _ (Rp.int.mpr rfl : Rp T.B.G C _ _)
  · cases ez
    refine ⟨a, xs, rfl, .inl (.of q1), ?_⟩
    rw [← q2.len]
    exact h2.here R _ (Rp.int.mpr rfl : Rp T.B.G C _ _)
theorem in_read0 (n : Bool) (hK : X.K = T.B.G.K) {x y : V} {dx dy : D} {c : Bool} {Q : VK} (sub : Same C H) (px : Rp T.B.G C dx x) (py : Rp T.B.G C dy y) (e1 : inSD n dx dy = some c) (k : Q (.bl c) H) : rIn2 X.K n x y H Q := by
  obtain ⟨ds, hy, h1, rfl⟩ := inSD_some e1
  rw [hK]
  rcases hy with rfl | rfl
  · obtain ⟨p, xs, rfl, q1, q2⟩ := Rp.lst.mp py
    exact in_fin sub n h1 px (.inl (.of (sub _ _ q1))) q2 k
  · obtain ⟨p, xs, rfl, q1, q2⟩ := Rp.tup.mp py
    exact in_fin sub n h1 px (.inr (QL.Same.sqT sub q1)) q2 k
theorem inv_read (hK : X.K = T.B.G.K) {n : Bool} {v w : V} {dx d : D} {c : Bool} {Q : VK} (R : Rl T.B σ H C δ) (px : Rp T.B.G C dx v) (ew : σ[i]? = some (some w)) (ed : lookSl δ i = some d) (ec : inSD n dx d = some c) (q : Q (.bl c) H) : rIn2 X.K n v w H Q := by
  obtain ⟨v2, ev2, l⟩ := look_sl R ed
  rw [ew] at ev2
  cases ev2
  rcases l with l | ⟨a, xs, ds, rfl, q1, rfl, q2⟩
  · exact in_read0 n hK R.sub px l ec q
  · obtain ⟨ds', hy, h1, rfl⟩ := inSD_some ec
    rcases hy with hy | hy
    · cases hy
      rw [hK]
      exact in_fin R.sub n h1 px (.inl (.of q1)) q2 q
    · cases hy
def inOp (n : Bool) : CmpOp := if n then .NotIn else .In
theorem inOp_ok (hu : X.A.units + 65 < cLine) (n : Bool) : OpR X (compareOp (inOp n)) (rIn2 X.K n) := by
  cases n
  · exact op_in2 hu
  · exact op_nin2 hu
abbrev fInv (n : Bool) (fa : Env → Rs Rv) (i : Nat) : Env → Rs Rv := fun δ => (fa δ).bind fun x δ => optR ((lookSl δ i).bind fun y => (cmpD (if n then .nin else .isin) x.d y).map fun c => .fz (.bl c)) δ
theorem inv_cmp {n : Bool} {dx d : D} {c : Bool} (h : cmpD (if n then .nin else .isin) dx d = some c) : inSD n dx d = some c := by cases n <;> exact h
/-- x in, not in a slot's list -/
theorem s_inv (hu : X.A.units + 65 < cLine) (hK : X.K = T.B.G.K) {n : Bool} (ha : PE X a (tE T fa)) (hN : X.N[i]? = some x) (hv : Vis X.env.scope x) (hd : (x == ("__debug__" : Str)) = false) (hcd : (x == ("__classdict__" : Str)) = false) :
    PE X (.Compare a [inOp n] [.Name x p2] pos) (tE T (fInv n fa i)) := by
  refine QL.PE.imp (pe_cmpR (inOp_ok hu n) ha (pe_var hN hv hd hcd) rfl) fun σ H Q h => ?_
  obtain ⟨C, δ, R, h⟩ := h
  refine tE.then R h fun y δ1 H1 C1 v R1 s1 p1 h1 => ?_
  obtain ⟨z, ez, h2⟩ := optR_some h1
  obtain ⟨d, ed, ez⟩ := Option.bind_eq_some_iff.mp ez
  obtain ⟨c, ec, rfl⟩ := Option.map_eq_some_iff.mp ez
  obtain ⟨w, ew, _⟩ := look_sl R1 ed
  exact ⟨w, ew, inv_read hK R1 p1 ew ed (inv_cmp ec) (h2.here R1 _ (Rp.bl.mpr rfl : Rp T.B.G C1 _ _))⟩
theorem s_tinv (hu : X.A.units + 65 < cLine) (hK : X.K = T.B.G.K) {n : Bool} (ha : PE X a (tE T fa)) (hN : X.N[i]? = some x) (hv : Vis X.env.scope x) (hd : (x == ("__debug__" : Str)) = false) (hcd : (x == ("__classdict__" : Str)) = false) :
    PT X (.Compare a [inOp n] [.Name x p2] pos) (tT T (fInv n fa i)) := by
  refine QL.PT.imp (pt_cmpR (inOp_ok hu n) ha (pe_var hN hv hd hcd) rfl) fun σ H Q h => ?_
  obtain ⟨C, δ, R, h⟩ := h
  refine tE.then R h fun y δ1 H1 C1 v R1 s1 p1 h1 => ?_
  obtain ⟨z, ez, h2⟩ := optR_some h1
  obtain ⟨d, ed, ez⟩ := Option.bind_eq_some_iff.mp ez
  obtain ⟨c, ec, rfl⟩ := Option.map_eq_some_iff.mp ez
  obtain ⟨w, ew, _⟩ := look_sl R1 ed
  exact ⟨w, ew, inv_read hK R1 p1 ew ed (inv_cmp ec) ⟨_, rfl, h2.here R1⟩⟩
theorem s_neg (ha : PE X a (tE T fa)) : PE X (.UnaryOp .USub a pos) (tE T fun δ => (fa δ).bind fun x δ => match x.d with | .int i => .ok (.fz (.int (-i))) δ | _ => .no) := by
  refine QL.PE.imp (pe_un un_neg ha) fun σ H Q h => ?_
  obtain ⟨C, δ, R, h⟩ := h
  refine tE.then R h fun y δ1 H1 C1 v R1 s1 p1 h1 => ?_
  split at h1
  · rename_i i ei
    rw [ei] at p1
    exact ⟨i, Rp.int.mp p1, h1.here R1 _ (Rp.int.mpr rfl : Rp T.B.G C1 _ _)⟩
  · exact h1.elim
end
end QL

end
section
set_option Elab.async false
set_option linter.all false
/-! Q7: what a def promises; calls. -/
namespace QL
open PySem PySem.Spec PyProof.Rows L2

/-- a is an own argument's place -/
def lpA (vs : List V) (as : List Sl) (a : Addr) : Prop := ∃ (i : Nat) (ds : List D), as[i]? = some (.lp ds) ∧ vs[i]? = some (V.ref a)
def ArgR (G : Gd) (H C : Hp) (s : Sl) (v : V) : Prop := match s with
  | .fz d => Rp G C d v
  | .lp ds => ∃ a xs, v = V.ref a ∧ H a = some (.lst xs) ∧ C a = none ∧ Rps G C ds xs
  | _ => False
structure ArgsR (G : Gd) (H C : Hp) (vs : List V) (as : List Sl) : Prop where
  len : vs.length = as.length
  sub : Same C H
  arg : ∀ (i : Nat) (s : Sl) (v : V), as[i]? = some s → vs[i]? = some v → ArgR G H C s v
  apart : ∀ (i j : Nat) (ds es : List D) (a : Addr), i ≠ j → as[i]? = some (.lp ds) → as[j]? = some (.lp es) → vs[i]? = some (V.ref a) → vs[j]? ≠ some (V.ref a)
structure EndR (G : Gd) (H C : Hp) (vs : List V) (as : List Sl) (H' C' : Hp) (outs : List Sl) : Prop where
  cs : Same C C'
  sub : Same C' H'
  conf : ∀ a o, C' a = some o → C a = some o ∨ H a = none
  keep : ∀ a o, H a = some o → ¬ lpA vs as a → H' a = some o
  al : ∀ a, H' a = none → H a = none
  out : ∀ (i : Nat) (ds : List D) (a : Addr), as[i]? = some (.lp ds) → vs[i]? = some (V.ref a) → ∃ ds' xs', outs[i]? = some (.lp ds') ∧ H' a = some (.lst xs') ∧ C' a = none ∧ Rps G C' ds' xs'
def RvO (G : Gd) (H H' C' : Hp) (r : Rv) (v : V) : Prop := match r with
  | .fz d => Rp G C' d v
  | .lv ds => ∃ a xs, v = V.ref a ∧ H' a = some (.lst xs) ∧ C' a = none ∧ H a = none ∧ Rps G C' ds xs
  | .dv ks ds => ∃ a xs, v = V.ref a ∧ H' a = some (.dK (ks.zip xs)) ∧ C' a = none ∧ H a = none ∧ ks.length = ds.length ∧ Rps G C' ds xs
/-- the promise of a def that F tells -/
def spF (G : Gd) (Y : Xg) (F : Fn) : Sp := fun vs H Q E => ∃ (as : List Sl) (C : Hp), ArgsR G H C vs as ∧ as.length = F.np ∧ match F.run as with
  | .ok r outs => ∀ v H' C', EndR G H C vs as H' C' outs → RvO G H H' C' r v → Q v H'
  | .er x outs => ∀ cls dd H' C', EndR G H C vs as H' C' outs → XnR G Y H' C' x cls dd → E cls dd H'
  | .no => False

/-- a def stands behind the module's name x and keeps F -/
structure FnK (P : Program) (w : World) (G : Gd) (Y : Xg) (mg : Str → Option Value) (base : Heap) (k : Nat) (f : Addr) (F : Fn) : Prop where
  ex : ∃ (fd : FuncData) (ps : List Str), FnOk P w G.K mg base (L2.CX P w) k f fd ps (spF G Y F) ∧ ps.length = F.np ∧ ∀ n, n ≤ F.np → F.np - n ≤ F.dfl.length → ∃ (dvs : List V) (ds : List Value), Vals dvs ds ∧ Binds G.K fd ps ds ∧ ∀ C, Rps G C (F.dfl.drop (F.dfl.length - (F.np - n))) dvs
  kp : PySem.W.keepIn G.K (.ref f) = true
theorem FnK.mono {P : Program} {w : World} {G : Gd} {Y : Xg} {mg : Str → Option Value} {base : Heap} {j k : Nat} {f : Addr} {F : Fn} (h : FnK P w G Y mg base j f F) (l : j ≤ k) : FnK P w G Y mg base k f F := by
  obtain ⟨⟨fd, ps, h1, h2⟩, h3⟩ := h
  exact ⟨⟨fd, ps, h1.mono l, h2⟩, h3⟩

/-! ### handing back -/
theorem chg_some {δ δ' : Env} {i : Nat} {f : List D → Option (List D)} (h : chgSl δ i f = some δ') : ∃ ds ds', f ds = some ds' ∧ ((δ[i]? = some (.lv ds) ∧ δ' = δ.set i (.lv ds')) ∨ (δ[i]? = some (.lp ds) ∧ δ' = δ.set i (.lp ds'))) := by
  unfold chgSl at h
  split at h
  · rename_i ds e
    obtain ⟨ds', h1, rfl⟩ := Option.map_eq_some_iff.mp h
    exact ⟨ds, ds', h1, .inl ⟨e, rfl⟩⟩
  · rename_i ds e
    obtain ⟨ds', h1, rfl⟩ := Option.map_eq_some_iff.mp h
    exact ⟨ds, ds', h1, .inr ⟨e, rfl⟩⟩
  · cases h
def Kept (δ δ' : Env) (j : Nat) (ds' : List D) : Prop := ∃ ds, (δ[j]? = some (.lv ds) ∧ δ'[j]? = some (.lv ds')) ∨ (δ[j]? = some (.lp ds) ∧ δ'[j]? = some (.lp ds'))
theorem putBack_spec : ∀ {as : List Ag} {os : List Sl} {δ δ' : Env}, putBack δ as os = some δ' → noDup as = true →
    δ'.length = δ.length ∧ (∀ j : Nat, (∀ k : Nat, as[k]? ≠ some (.r j)) → δ'[j]? = δ[j]?) ∧ ∀ k j : Nat, as[k]? = some (.r j) → ∃ ds', os[k]? = some (.lp ds') ∧ Kept δ δ' j ds'
  | [], os, δ, δ', h, _ => by
    have h : some δ = some δ' := by cases os <;> exact h
    cases h
    exact ⟨rfl, fun _ _ => rfl, fun k j e => by simp at e⟩
  | .d x :: as, [], δ, δ', h, _ => by cases h
  | .d x :: as, o :: os, δ, δ', h, n => by
    obtain ⟨h1, h2, h3⟩ := putBack_spec (as := as) (os := os) (show putBack δ as os = some δ' from h) n
    refine ⟨h1, fun j hj => h2 j fun k => hj (k + 1), fun k j e => ?_⟩
    cases k with
    | zero => cases (Option.some.inj e)
    | succ k => exact h3 k j e
  | .r i :: as, [], δ, δ', h, _ => by cases h
  | .r i :: as, o :: os, δ, δ', h, n => by
    cases o with
    | lp ds =>
      obtain ⟨δ1, e1, h⟩ := Option.bind_eq_some_iff.mp (show ((chgSl δ i fun _ => some ds).bind fun δ' => putBack δ' as os) = some δ' from h)
      obtain ⟨n1, n2⟩ := Bool.and_eq_true_iff.mp (show ((as.all fun a => match a with | .r j => decide (i ≠ j) | .d _ => true) && noDup as) = true from n)
      obtain ⟨h1, h2, h3⟩ := putBack_spec (as := as) (os := os) h n2
      have ni : ∀ k : Nat, as[k]? ≠ some (.r i) := fun k e => by
        have q := List.all_eq_true.mp n1 _ (List.mem_of_getElem? e)
        simp at q
      obtain ⟨ds0, ds1, e2, e3⟩ := chg_some e1
      cases e2
      have hi : i < δ.length := by
        rcases e3 with ⟨e, _⟩ | ⟨e, _⟩ <;> exact (List.getElem?_eq_some_iff.mp e).1
      have l1 : δ1.length = δ.length := by rcases e3 with ⟨_, rfl⟩ | ⟨_, rfl⟩ <;> rw [List.length_set]
      have g1 : ∀ j : Nat, i ≠ j → δ1[j]? = δ[j]? := fun j ne => by rcases e3 with ⟨_, rfl⟩ | ⟨_, rfl⟩ <;> rw [List.getElem?_set_ne ne]
      refine ⟨h1.trans l1, fun j hj => ?_, fun k j e => ?_⟩
      · rw [h2 j fun k => hj (k + 1)]
        exact g1 j fun z => hj 0 (by subst z; rfl)
      · cases k with
        | zero =>
          cases (Option.some.inj e)
          refine ⟨ds, rfl, ds0, ?_⟩
          have q := h2 i ni
          rcases e3 with ⟨e3, rfl⟩ | ⟨e3, rfl⟩
          · exact .inl ⟨e3, by rw [q, List.getElem?_set_self hi]⟩
          · exact .inr ⟨e3, by rw [q, List.getElem?_set_self hi]⟩
        | succ k =>
          obtain ⟨ds', q1, ds2, q2⟩ := h3 k j e
          have ij : i ≠ j := fun z => by subst z; exact ni k e
          rw [g1 j ij] at q2
          exact ⟨ds', q1, ds2, q2⟩
    | un => cases h
    | fz d => cases h
    | lv ds => cases h
    | dv ks ds => cases h

def AgR (G : Gd) (σ : L2.St) (C : Hp) (g : Ag) (v : V) : Prop := match g with
  | .d x => Rp G C x v
  | .r i => σ[i]? = some (some v)
def AgsR (G : Gd) (σ : L2.St) (C : Hp) : List Ag → List V → Prop
  | [], vs => vs = []
  | g :: gs, vs => ∃ v r, vs = v :: r ∧ AgR G σ C g v ∧ AgsR G σ C gs r
theorem AgR.mono {G : Gd} {σ : L2.St} {C C' : Hp} (e : Same C C') {g : Ag} {v : V} (h : AgR G σ C g v) : AgR G σ C' g v := by
  cases g with
  | d x => exact Rp.mono e _ _ h
  | r i => exact h
theorem AgsR.len {G : Gd} {σ : L2.St} {C : Hp} : ∀ {gs : List Ag} {vs : List V}, AgsR G σ C gs vs → gs.length = vs.length
  | [], vs, h => by rw [show vs = [] from h]; rfl
  | g :: gs, vs, h => by
    obtain ⟨v, r, rfl, _, h2⟩ := h
    rw [List.length_cons, List.length_cons, AgsR.len h2]
theorem AgsR.get {G : Gd} {σ : L2.St} {C : Hp} : ∀ {gs : List Ag} {vs : List V} {i : Nat} {g : Ag}, AgsR G σ C gs vs → gs[i]? = some g → ∃ v, vs[i]? = some v ∧ AgR G σ C g v
  | [], _, _, _, _, e => by simp at e
  | g :: gs, _, 0, _, h, e => by
    obtain ⟨v, r, rfl, h1, _⟩ := h
    cases (Option.some.inj e)
    exact ⟨v, rfl, h1⟩
  | g :: gs, _, i + 1, _, h, e => by
    obtain ⟨v, r, rfl, _, h2⟩ := h
    exact AgsR.get (i := i) h2 e
theorem argSls_len {δ : Env} : ∀ {as : List Ag} {ss : List Sl}, argSls δ as = some ss → ss.length = as.length
  | [], ss, h => by cases h; rfl
  | a :: as, ss, h => by
    obtain ⟨s, _, h⟩ := Option.bind_eq_some_iff.mp (show ((argSl δ a).bind fun s => (argSls δ as).map fun r => s :: r) = some ss from h)
    obtain ⟨r, h1, rfl⟩ := Option.map_eq_some_iff.mp h
    rw [List.length_cons, List.length_cons, argSls_len h1]
theorem argSls_get {δ : Env} : ∀ {as : List Ag} {ss : List Sl} {i : Nat} {s : Sl}, argSls δ as = some ss → ss[i]? = some s → ∃ a, as[i]? = some a ∧ argSl δ a = some s
  | [], ss, i, s, h, e => by cases h; simp at e
  | a :: as, ss, i, s, h, e => by
    obtain ⟨s0, h0, h⟩ := Option.bind_eq_some_iff.mp (show ((argSl δ a).bind fun s => (argSls δ as).map fun r => s :: r) = some ss from h)
    obtain ⟨r, h1, rfl⟩ := Option.map_eq_some_iff.mp h
    cases i with
    | zero =>
      cases (Option.some.inj e)
      exact ⟨a, rfl, h0⟩
    | succ i => exact argSls_get (i := i) h1 e
theorem argSls_get' {δ : Env} : ∀ {as : List Ag} {ss : List Sl} {i : Nat} {a : Ag}, argSls δ as = some ss → as[i]? = some a → ∃ s, ss[i]? = some s ∧ argSl δ a = some s
  | [], ss, i, s, h, e => by simp at e
  | a :: as, ss, i, s, h, e => by
    obtain ⟨s0, h0, h⟩ := Option.bind_eq_some_iff.mp (show ((argSl δ a).bind fun s => (argSls δ as).map fun r => s :: r) = some ss from h)
    obtain ⟨r, h1, rfl⟩ := Option.map_eq_some_iff.mp h
    cases i with
    | zero =>
      cases (Option.some.inj e)
      exact ⟨s0, rfl, h0⟩
    | succ i => exact argSls_get' (i := i) h1 e
theorem argSl_lp {δ : Env} {a : Ag} {ds : List D} (h : argSl δ a = some (.lp ds)) : ∃ i, a = .r i ∧ (δ[i]? = some (.lv ds) ∨ δ[i]? = some (.lp ds)) := by
  cases a with
  | d x => cases h
  | r i =>
    unfold argSl at h
    dsimp only at h
    split at h
    · rename_i e; cases h; exact ⟨i, rfl, .inl e⟩
    · rename_i e; cases h; exact ⟨i, rfl, .inr e⟩
    · cases h
theorem argSl_fz {δ : Env} {a : Ag} {d : D} (h : argSl δ a = some (.fz d)) : a = .d d := by
  cases a with
  | d x => cases h; rfl
  | r i =>
    unfold argSl at h
    dsimp only at h
    split at h <;> cases h
theorem noDup_ne : ∀ {as : List Ag} {i j k : Nat}, noDup as = true → as[i]? = some (.r k) → as[j]? = some (.r k) → i = j
  | [], i, j, k, _, e, _ => by simp at e
  | .d x :: as, i, j, k, n, e, e' => by
    cases i with
    | zero => cases (Option.some.inj e)
    | succ i =>
      cases j with
      | zero => cases (Option.some.inj e')
      | succ j => rw [noDup_ne (as := as) (i := i) (j := j) n e e']
  | .r m :: as, i, j, k, n, e, e' => by
    obtain ⟨n1, n2⟩ := Bool.and_eq_true_iff.mp (show ((as.all fun a => match a with | .r j => decide (m ≠ j) | .d _ => true) && noDup as) = true from n)
    have ni : ∀ k : Nat, as[k]? ≠ some (.r m) := fun k e => by
      have q := List.all_eq_true.mp n1 _ (List.mem_of_getElem? e)
      simp at q
    cases i with
    | zero =>
      cases (Option.some.inj e)
      cases j with
      | zero => rfl
      | succ j => exact absurd e' (ni j)
    | succ i =>
      cases j with
      | zero =>
        cases (Option.some.inj e')
        exact absurd e (ni i)
      | succ j => rw [noDup_ne (as := as) (i := i) (j := j) n2 e e']

section
variable {B : Bd} {σ : L2.St} {H C H' C' : Hp} {δ δ' : Env}
/-- the arguments as the callee wants them -/
theorem args_ok (R : Rl B σ H C δ) {as : List Ag} {vs dvs : List V} {ss : List Sl} {dfl : List D} (ha : AgsR B.G σ C as vs) (hs : argSls δ as = some ss) (nd : noDup as = true) (hd : Rps B.G C dfl dvs) : ArgsR B.G H C (vs ++ dvs) (ss ++ dfl.map Sl.fz) := by
  have lv : vs.length = ss.length := by rw [← ha.len, argSls_len hs]
  have left : ∀ {i : Nat} {ds : List D}, (ss ++ dfl.map Sl.fz)[i]? = some (.lp ds) → i < ss.length ∧ ss[i]? = some (.lp ds) := fun {i ds} e => by
    by_cases hi : i < ss.length
    · rw [List.getElem?_append_left hi] at e
      exact ⟨hi, e⟩
    · rw [List.getElem?_append_right (by omega), List.getElem?_map] at e
      cases q : dfl[i - ss.length]? with
      | none => rw [q] at e; cases e
      | some d => rw [q] at e; cases e
  refine ⟨by rw [List.length_append, List.length_append, List.length_map, lv, hd.len], R.sub, fun i s v e1 e2 => ?_, fun i j ds es a ne e1 e2 e3 e4 => ?_⟩
  · by_cases hi : i < ss.length
    · rw [List.getElem?_append_left hi] at e1
      rw [List.getElem?_append_left (by omega)] at e2
      obtain ⟨g, h1, h2⟩ := argSls_get hs e1
      obtain ⟨v', h3, h4⟩ := ha.get h1
      rw [e2] at h3
      cases h3
      cases g with
      | d x =>
        cases h2
        exact h4
      | r k =>
        unfold argSl at h2
        dsimp only at h2
        split at h2
        · rename_i ds e
          cases h2
          obtain ⟨o, ho, a, xs, rfl, q1, q2, _, q4⟩ := R.at_ e
          rw [show σ[k]? = some (some v) from h4] at ho
          cases ho
          exact ⟨a, xs, rfl, q1, q2, q4⟩
        · rename_i ds e
          cases h2
          obtain ⟨o, ho, a, xs, rfl, q1, q2, _, q4⟩ := R.at_ e
          rw [show σ[k]? = some (some v) from h4] at ho
          cases ho
          exact ⟨a, xs, rfl, q1, q2, q4⟩
        · cases h2
    · rw [List.getElem?_append_right (by omega), List.getElem?_map] at e1
      rw [List.getElem?_append_right (by omega)] at e2
      cases q : dfl[i - ss.length]? with
      | none => rw [q] at e1; cases e1
      | some d =>
        rw [q] at e1
        cases e1
        obtain ⟨x, h1, h2⟩ := hd.get q
        rw [lv, h1] at e2
        cases e2
        exact h2
  · obtain ⟨hi, e1⟩ := left e1
    obtain ⟨hj, e2⟩ := left e2
    rw [List.getElem?_append_left (by omega)] at e3 e4
    obtain ⟨g, g1, g2⟩ := argSls_get hs e1
    obtain ⟨g', g1', g2'⟩ := argSls_get hs e2
    obtain ⟨k, rfl, hk⟩ := argSl_lp g2
    obtain ⟨k', rfl, hk'⟩ := argSl_lp g2'
    obtain ⟨v, h3, h4⟩ := ha.get g1
    obtain ⟨v', h3', h4'⟩ := ha.get g1'
    rw [e3] at h3
    rw [e4] at h3'
    cases h3
    cases h3'
    have kk : k ≠ k' := fun z => by subst z; exact ne (noDup_ne nd g1 g1')
    have s1 : ∃ s, δ[k]? = some s ∧ isLv s = true := by rcases hk with e | e <;> exact ⟨_, e, rfl⟩
    have s2 : ∃ s, δ[k']? = some s ∧ isLv s = true := by rcases hk' with e | e <;> exact ⟨_, e, rfl⟩
    obtain ⟨s1, u1, u2⟩ := s1
    obtain ⟨s2, w1, w2⟩ := s2
    exact R.apart k k' s1 s2 a kk u1 w1 u2 w2 h4 h4'
/-- behind a call -/
theorem after_call (R : Rl B σ H C δ) {as : List Ag} {vs dvs : List V} {ss outs : List Sl} {dfl : List D} (ha : AgsR B.G σ C as vs) (hs : argSls δ as = some ss) (nd : noDup as = true) (hp : putBack δ as outs = some δ')
    (e : EndR B.G H C (vs ++ dvs) (ss ++ dfl.map Sl.fz) H' C' outs) : Rl B σ H' C' δ' ∧ Stp σ H C δ H' C' δ' := by
  obtain ⟨l, p1, p2⟩ := putBack_spec hp nd
  have lv : vs.length = ss.length := by rw [← ha.len, argSls_len hs]
  -- an own argument's slot
  have inv : ∀ {a : Addr}, lpA (vs ++ dvs) (ss ++ dfl.map Sl.fz) a → ∃ (k j : Nat) (s : Sl), as[k]? = some (Ag.r j) ∧ δ[j]? = some s ∧ isLv s = true ∧ σ[j]? = some (some (V.ref a)) := fun {a} h => by
    obtain ⟨i, ds, e1, e2⟩ := h
    have hi : i < ss.length := by
      by_cases hi : i < ss.length
      · exact hi
      · rw [List.getElem?_append_right (by omega), List.getElem?_map] at e1
        cases q : dfl[i - ss.length]? with
        | none => rw [q] at e1; cases e1
        | some d => rw [q] at e1; cases e1
    rw [List.getElem?_append_left hi] at e1
    rw [List.getElem?_append_left (by omega)] at e2
    obtain ⟨g, g1, g2⟩ := argSls_get hs e1
    obtain ⟨k, rfl, hk⟩ := argSl_lp g2
    obtain ⟨v, h3, h4⟩ := ha.get g1
    rw [e2] at h3
    cases h3
    rcases hk with q | q
    · exact ⟨i, k, _, g1, q, rfl, h4⟩
    · exact ⟨i, k, _, g1, q, rfl, h4⟩
  -- what stands in such a slot
  have out : ∀ {k j : Nat} {a : Addr}, as[k]? = some (Ag.r j) → σ[j]? = some (some (V.ref a)) → ∃ ds' xs', outs[k]? = some (.lp ds') ∧ H' a = some (.lst xs') ∧ C' a = none ∧ Rps B.G C' ds' xs' := fun {k j a} e1 e2 => by
    obtain ⟨s, s1, s2⟩ := argSls_get' hs e1
    obtain ⟨v, v1, v2⟩ := ha.get e1
    have ev : v = V.ref a := by
      have z : σ[j]? = some (some v) := v2
      rw [e2] at z
      cases z
      rfl
    subst ev
    have hk : k < ss.length := (List.getElem?_eq_some_iff.mp s1).1
    have hs2 : ∃ ds, s = .lp ds := by
      unfold argSl at s2
      dsimp only at s2
      split at s2
      · cases s2; exact ⟨_, rfl⟩
      · cases s2; exact ⟨_, rfl⟩
      · cases s2
    obtain ⟨ds, rfl⟩ := hs2
    exact e.out k ds a (by rw [List.getElem?_append_left hk]; exact s1) (by rw [List.getElem?_append_left (by omega)]; exact v1)
  -- liveness is as before
  have live : ∀ {j : Nat} {s : Sl}, δ'[j]? = some s → isLv s = true → ∃ s0, δ[j]? = some s0 ∧ isLv s0 = true := fun {j s} e1 l1 => by
    by_cases q : ∃ k : Nat, as[k]? = some (Ag.r j)
    · obtain ⟨k, q⟩ := q
      obtain ⟨ds', _, ds, q2⟩ := p2 k j q
      rcases q2 with ⟨q2, _⟩ | ⟨q2, _⟩ <;> exact ⟨_, q2, rfl⟩
    · rw [p1 j fun k z => q ⟨k, z⟩] at e1
      exact ⟨s, e1, l1⟩
  have off : ∀ {a : Addr}, Off σ δ a → Off σ δ' a := fun {a} f j s e1 l1 => by
    obtain ⟨s0, q1, q2⟩ := live e1 l1
    exact f j s0 q1 q2
  have notarg : ∀ {a : Addr}, Off σ δ a → ¬ lpA (vs ++ dvs) (ss ++ dfl.map Sl.fz) a := fun {a} f q => by
    obtain ⟨k, j, s, _, q1, q2, q3⟩ := inv q
    exact f j s q1 q2 q3
  have cn : ∀ {a : Addr} {u : HO}, H a = some u → C a = none → C' a = none := fun {a u} h1 h2 => by
    cases q : C' a with
    | none => rfl
    | some o =>
      rcases e.conf a o q with z | z
      · rw [h2] at z; cases z
      · rw [h1] at z; cases z
  refine ⟨⟨R.len.trans l.symm, fun j s o e1 e2 => ?_, e.sub, fun a o h => ?_, R.vis.trans e.cs, fun a o h1 h2 => ?_, fun a h => R.al0 a (e.al a h), fun i j s t a ne e1 e2 l1 l2 e3 => ?_⟩, ⟨e.cs, fun a o h f => e.keep a o h (notarg f), fun a o h f => off f, fun a o h n f => cn h n, e.al⟩⟩
  · by_cases q : ∃ k : Nat, as[k]? = some (Ag.r j)
    · obtain ⟨k, q⟩ := q
      obtain ⟨ds', q1, ds, q2⟩ := p2 k j q
      rcases q2 with ⟨q2, q3⟩ | ⟨q2, q3⟩
      · rw [e1] at q3
        cases q3
        obtain ⟨o', ho, a, xs, rfl, _, _, u3, _⟩ := R.at_ q2
        rw [e2] at ho
        cases ho
        obtain ⟨ds2, xs', w1, w2, w3, w4⟩ := out q e2
        rw [q1] at w1
        cases w1
        exact ⟨a, xs', rfl, w2, w3, u3, w4⟩
      · rw [e1] at q3
        cases q3
        obtain ⟨o', ho, a, xs, rfl, _, _, u3, _⟩ := R.at_ q2
        rw [e2] at ho
        cases ho
        obtain ⟨ds2, xs', w1, w2, w3, w4⟩ := out q e2
        rw [q1] at w1
        cases w1
        exact ⟨a, xs', rfl, w2, w3, u3, w4⟩
    · have q' : ∀ k : Nat, as[k]? ≠ some (Ag.r j) := fun k z => q ⟨k, z⟩
      rw [p1 j q'] at e1
      refine (R.slot j s o e1 e2).mono e.cs fun a u l1 eo h1 h2 => ⟨e.keep a u h1 fun z => ?_, cn h1 h2⟩
      obtain ⟨k, j', s', z0, z1, z2, z3⟩ := inv z
      have jj : j ≠ j' := fun y => by subst y; exact q' k z0
      exact R.apart j j' s s' a jj e1 z1 l1 z2 (by rw [e2, eo]) z3
  · rcases e.conf a o h with z | z
    · exact R.conf a o z
    · exact .inr (R.al0 a z)
  · refine e.keep a o (R.keep a o h1 h2) fun z => ?_
    obtain ⟨k, j, s, z0, z1, z2, z3⟩ := inv z
    obtain ⟨o', ho, q⟩ := R.at_ z1
    rw [z3] at ho
    cases ho
    cases s with
    | un => cases z2
    | fz d => cases z2
    | lv ds => obtain ⟨a', xs, u1, u2, u3, u4, _⟩ := q; cases u1; rw [h1] at u4; cases u4
    | lp ds => obtain ⟨a', xs, u1, u2, u3, u4, _⟩ := q; cases u1; exact h2 u4.1
    | dv ks ds => obtain ⟨a', xs, u1, u2, u3, u4, _⟩ := q; cases u1; rw [h1] at u4; cases u4
  · obtain ⟨s0, q1, q2⟩ := live e1 l1
    obtain ⟨t0, w1, w2⟩ := live e2 l2
    exact R.apart i j s0 t0 a ne q1 w1 q2 w2 e3
end

/-! ### calls -/
def tAg (T : Tx) (f : Env → Rs (List Ag)) : TA := fun σ H Q => ∃ C δ, Rl T.B σ H C δ ∧ Out T σ H C δ (fun as H' C' _ => ∀ vs, AgsR T.B.G σ C' as vs → Q vs H') (f δ)
section
variable {T : Tx} {X : Cx} {σ : L2.St} {H C : Hp} {δ : Env} {pos p p2 : Pos} {a b c d e : Expr} {es : List Expr} {fa fb fc fd : Env → Rs Rv} {fg : Env → Rs (List Ag)} {x : Str} {i : Nat}
theorem tAg.then {β : Type} {S : β → Hp → Hp → Env → Prop} {k : List Ag → Env → Rs β} {Q : List V → Hp → Prop} (R : Rl T.B σ H C δ) (h : Out T σ H C δ S ((fg δ).bind k))
    (hk : ∀ as δ1 H1 C1 vs, Rl T.B σ H1 C1 δ1 → Stp σ H C δ H1 C1 δ1 → AgsR T.B.G σ C1 as vs → Out T σ H1 C1 δ1 S (k as δ1) → fg δ = .ok as δ1 → Q vs H1) : tAg T fg σ H Q := by
  refine ⟨C, δ, R, ?_⟩
  cases e : fg δ with
  | ok r δ1 =>
    rw [e] at h
    intro H1 C1 R1 s1 v hv
    exact hk r δ1 H1 C1 v R1 s1 hv (Out.base h s1) e
  | er x δ1 => rw [e] at h; exact h
  | no => rw [e] at h; exact h
abbrev gNil : Env → Rs (List Ag) := fun δ => .ok [] δ
abbrev gCons (fa : Env → Rs Rv) (fg : Env → Rs (List Ag)) : Env → Rs (List Ag) := fun δ => (fa δ).bind fun x δ => (fg δ).bind fun xs δ => .ok (.d x.d :: xs) δ
abbrev gLr (i : Nat) (fg : Env → Rs (List Ag)) : Env → Rs (List Ag) := fun δ => (optR (lookSl δ i) δ).bind fun _ δ => (fg δ).bind fun xs δ => .ok (.r i :: xs) δ
theorem s_gnil : PA X [] (tAg T gNil) := QL.PA.imp pa_nil fun σ H Q h => by
  obtain ⟨C, δ, R, h⟩ := h
  exact h.here R [] rfl
theorem s_gcons (ha : PE X e (tE T fa)) (hr : PA X es (tAg T fg)) (hs : starEach (e :: es) X.env = (false, eval e X.env) :: starEach es X.env) : PA X (e :: es) (tAg T (gCons fa fg)) := by
  refine QL.PA.imp (pa_cons ha hr hs) fun σ H Q h => ?_
  obtain ⟨C, δ, R, h⟩ := h
  refine tE.then R h fun x δ1 H1 C1 v R1 s1 p1 h1 => ?_
  refine tAg.then R1 h1 fun as δ2 H2 C2 vs R2 s2 p2 h2 _ => ?_
  exact h2.here R2 (v :: vs) ⟨v, vs, rfl, Rp.mono s2.cs _ _ p1, p2⟩
theorem s_glr (hN : X.N[i]? = some x) (hv : Vis X.env.scope x) (hd : (x == ("__debug__" : Str)) = false) (hcd : (x == ("__classdict__" : Str)) = false) (hr : PA X es (tAg T fg)) : PA X (.Name x p :: es) (tAg T (gLr i fg)) := by
  refine QL.PA.imp (pa_cons (pe_var hN hv hd hcd) hr rfl) fun σ H Q h => ?_
  obtain ⟨C, δ, R, h⟩ := h
  dsimp only [gLr] at h
  cases e0 : lookSl δ i with
  | none => rw [e0] at h; exact h.elim
  | some d0 =>
    rw [e0] at h
    obtain ⟨v, ev, _⟩ := look_sl R e0
    refine ⟨v, ev, ?_⟩
    refine tAg.then R h fun as δ2 H2 C2 vs R2 s2 p2 h2 _ => ?_
    exact h2.here R2 (v :: vs) ⟨v, vs, rfl, ev, p2⟩
/-- the callee's promise gives what callF tells -/
theorem call_read {F : Fn} {as : List Ag} {vs dvs : List V} {Q : VK} {Hb : Hp} (R : Rl T.B σ H C δ) (al : ∀ a, H a = none → Hb a = none) (ha : AgsR T.B.G σ C as vs) (hd : Rps T.B.G C (F.dfl.drop (F.dfl.length - (F.np - as.length))) dvs)
    (h : Out T σ H C δ (fun r H' C' δ' => ∀ v, RvR T.B σ Hb H' C' δ' r v → Q v H') (callF F as δ)) : spF T.B.G T.Y F (vs ++ dvs) H Q fun cls dd H' => T.W cls dd σ H' := by
  unfold callF at h
  split at h
  · rename_i ss hc hs
    obtain ⟨h0, nd⟩ := Bool.and_eq_true_iff.mp hc
    have h0 := of_decide_eq_true h0
    refine ⟨_, C, args_ok R ha hs nd hd, ?_, ?_⟩
    · rw [List.length_append, List.length_map, argSls_len hs, List.length_drop]
      omega
    · split
      · rename_i r outs er
        rw [er] at h
        dsimp only at h
        cases hp : putBack δ as outs with
        | none => rw [hp] at h; exact h.elim
        | some δ' =>
          rw [hp] at h
          intro v H' C' e hv
          obtain ⟨R', s'⟩ := after_call R ha hs nd hp e
          refine h H' C' R' s' v ?_
          have off : ∀ {q : Addr}, H q = none → Off σ δ' q := fun {q} hq j s e1 l1 z => by
            obtain ⟨o, ho, sl⟩ := R'.at_ e1
            obtain ⟨b, u, e2, _, _⟩ := sl.obj l1
            have f := R.offNone hq
            obtain ⟨l, p1, p2⟩ := putBack_spec hp nd
            by_cases w : ∃ k : Nat, as[k]? = some (Ag.r j)
            · obtain ⟨k, w⟩ := w
              obtain ⟨ds', _, ds, w2⟩ := p2 k j w
              rcases w2 with ⟨w2, _⟩ | ⟨w2, _⟩
              · exact f j _ w2 rfl z
              · exact f j _ w2 rfl z
            · rw [p1 j fun k y => w ⟨k, y⟩] at e1
              exact f j s e1 l1 z
          cases r with
          | fz d => exact hv
          | lv ds =>
            obtain ⟨q, xs, h1, h2, h3, h4, h5⟩ := hv
            exact ⟨q, xs, h1, h2, h3, ⟨R.al0 _ h4, al _ h4⟩, off h4, h5⟩
          | dv ks ds =>
            obtain ⟨q, xs, h1, h2, h3, h4, h5⟩ := hv
            exact ⟨q, xs, h1, h2, h3, ⟨R.al0 _ h4, al _ h4⟩, off h4, h5⟩
      · rename_i x outs er
        rw [er] at h
        dsimp only at h
        cases hp : putBack δ as outs with
        | none => rw [hp] at h; exact h.elim
        | some δ' =>
          rw [hp] at h
          intro cls dd H' C' e hx
          obtain ⟨R', s'⟩ := after_call R ha hs nd hp e
          exact h cls dd H' C' R' s'.cs hx
      · rename_i er
        rw [er] at h
        exact h
  · exact h.elim
theorem s_call {F : Fn} {k n : Nat} {f : Addr} (hK : X.K = T.B.G.K) (hF : FnK X.prog X.w T.B.G T.Y X.mg X.base k f F) (hr : Room k X.A) (hg : Gl X x) (hm : X.mg x = some (.ref f)) (tk : Takes X T.W) (hl : ∀ δ as δ', fg δ = .ok as δ' → as.length = n) (hn : n ≤ F.np ∧ F.np - n ≤ F.dfl.length) (ha : PA X (e :: es) (tAg T fg))
    (hdb : (x == ("__debug__" : Str)) = false) (he : starEach (e :: es) X.env = (false, eval e X.env) :: starEach es X.env) (hpl : (backTo pos (starEach es X.env)).any (·.1) = false) :
    PE X (.Call (.Name x p) (e :: es) [] pos) (tE T fun δ => (fg δ).bind fun as δ => callF F as δ) := by
  obtain ⟨⟨fd, ps, h1, h2, h3⟩, kp⟩ := hF
  obtain ⟨dvs, ds, hd, hb, hv⟩ := h3 n hn.1 hn.2
  rw [← hK] at h1 hb kp
  refine QL.PE.imp (pe_callSD (E := fun σ => WE T.W σ) h1 hr hg hm kp hb hd (fun σ => passAt tk σ) ha hdb he hpl) fun σ H Q h => ?_
  obtain ⟨C, δ, R, h⟩ := h
  refine tAg.then R h fun as δ1 H1 C1 vs R1 s1 p1 h1 e1 => ?_
  refine call_read R1 s1.al p1 ?_ h1
  rw [hl _ _ _ e1]
  exact hv C1
end
end QL

end
section
set_option Elab.async false
set_option linter.all false
/-! Q8: what is walked; list comprehensions. -/
namespace QL
open PySem PySem.Spec PyProof.Rows L2

/-- J walks the items ds, wherever the part C of the heap stands -/
structure Wk (G : Gd) (C : Hp) (ds : List D) (J : It) : Prop where
  go : ∀ (i : Nat) (H : Hp), Same C H → i < ds.length → J.go i H
  yld : ∀ (i : Nat) (H : Hp) (x : V) (H' : Hp), Same C H → i < ds.length → J.yld i H x H' → H' = H ∧ ∃ d, ds[i]? = some d ∧ Rp G C d x
  stop : ∀ (i : Nat) (H : Hp), Same C H → ds.length ≤ i → J.stop i H
theorem Wk.mono {G : Gd} {C C' : Hp} {ds : List D} {J : It} (w : Wk G C ds J) (e : Same C C') : Wk G C' ds J :=
  ⟨fun i H s => w.go i H (e.trans s), fun i H x H' s h y => by
    obtain ⟨h1, d, h2, h3⟩ := w.yld i H x H' (e.trans s) h y
    exact ⟨h1, d, h2, Rp.mono e _ _ h3⟩, fun i H s => w.stop i H (e.trans s)⟩
theorem wk_list {G : Gd} {C : Hp} {a : Addr} {xs : List V} {ds : List D} (h : SqL G.K C a xs) (r : Rps G C ds xs) : Wk G C ds (Itl G.K a) := by
  refine ⟨fun i H s hi => ?_, fun i H x H' s hi y => ?_, fun i H s hi => ⟨xs, QL.Same.sqL s h, by rw [← r.len]; exact hi⟩⟩
  · obtain ⟨x, e, _⟩ := r.get (List.getElem?_eq_getElem hi)
    exact ⟨xs, x, QL.Same.sqL s h, e⟩
  · obtain ⟨e, y⟩ := y
    have e2 := y xs (QL.Same.sqL s h)
    obtain ⟨d, e3, e4⟩ := r.get' e2
    exact ⟨e, d, e3, e4⟩
theorem wk_tup {G : Gd} {C : Hp} {a : Addr} {xs : List V} {ds : List D} (h : SqT G.K C a xs) (r : Rps G C ds xs) : Wk G C ds (Itt G.K a) := by
  refine ⟨fun i H s hi => ?_, fun i H x H' s hi y => ?_, fun i H s hi => ⟨xs, QL.Same.sqT s h, by rw [← r.len]; exact hi⟩⟩
  · obtain ⟨x, e, _⟩ := r.get (List.getElem?_eq_getElem hi)
    exact ⟨xs, x, QL.Same.sqT s h, e⟩
  · obtain ⟨e, y⟩ := y
    have e2 := y xs (QL.Same.sqT s h)
    obtain ⟨d, e3, e4⟩ := r.get' e2
    exact ⟨e, d, e3, e4⟩
theorem rangeD_len : ∀ (a : Int) (n : Nat), (rangeD a n).length = n
  | _, 0 => rfl
  | a, n + 1 => by rw [rangeD, List.length_cons, rangeD_len]
theorem rangeD_get : ∀ (a : Int) (n i : Nat), i < n → (rangeD a n)[i]? = some (.int (a + i))
  | _, 0, _, h => absurd h (Nat.not_lt_zero _)
  | a, n + 1, 0, _ => by simp [rangeD]
  | a, n + 1, i + 1, h => by
    rw [rangeD, List.getElem?_cons_succ, rangeD_get (a + 1) n i (by omega)]
    congr 2
    omega
theorem wk_rng {G : Gd} {C : Hp} {lo : Int} {n : Nat} : Wk G C (rangeD lo n) (Itr lo n) := by
  refine ⟨fun i H s hi => ?_, fun i H x H' s hi y => ?_, fun i H s hi => ?_⟩
  · rw [rangeD_len] at hi; exact hi
  · obtain ⟨e, rfl⟩ := y
    rw [rangeD_len] at hi
    exact ⟨e, _, rangeD_get lo n i hi, Rp.int.mpr rfl⟩
  · rw [rangeD_len] at hi; exact hi

def tI (T : Tx) (f : Env → Rs (List D)) : TI := fun σ H R => ∃ C δ, Rl T.B σ H C δ ∧ Out T σ H C δ (fun ds H' C' _ => ∀ J, Wk T.B.G C' ds J → R J H') (f δ)
theorem PI.imp {X : Cx} {tg e : Expr} {t t' : TI} (h : PI X tg e t) (i : ∀ σ H Q, t' σ H Q → t σ H Q) : PI X tg e t' := ⟨fun pins s σ H Q I q => h.run pins s σ H Q I (i σ H Q q)⟩
theorem PI.or {X : Cx} {tg e : Expr} {t t' : TI} (h : PI X tg e t) (h' : PI X tg e t') : PI X tg e (fun σ H R => t σ H R ∨ t' σ H R) := ⟨fun pins s σ H Q I q => by
  rcases q with q | q
  · exact h.run pins s σ H Q I q
  · exact h'.run pins s σ H Q I q⟩
section
variable {T : Tx} {X : Cx} {σ : L2.St} {H C : Hp} {δ : Env} {pos p p2 : Pos} {a b c d e tg : Expr} {es : List Expr} {fa fb fc fd : Env → Rs Rv} {fi : Env → Rs (List D)} {x : Str} {i : Nat}
abbrev fSeq (fa : Env → Rs Rv) : Env → Rs (List D) := fun δ => (fa δ).bind fun x δ => optR (itemsOf x.d) δ
theorem s_iseq (hK : X.K = T.B.G.K) (ha : PE X a (tE T fa)) : PI X tg a (tI T (fSeq fa)) := by
  refine QL.PI.imp (QL.PI.or (pi_list ha) (pi_tup ha)) fun σ H R h => ?_
  obtain ⟨C, δ, Rl0, h⟩ := h
  have lst : (∀ r δ1, fa δ = .ok r δ1 → ∀ ds, r.d ≠ .tup ds) → iList X.K (tE T fa) σ H R := fun hn => by
    refine ⟨C, δ, Rl0, ?_⟩
    cases e : fa δ with
    | ok r δ1 =>
      have h1 : Out T σ H C δ (fun ds H' C' _ => ∀ J, Wk T.B.G C' ds J → R J H') (optR (itemsOf r.d) δ1) := by
        have h' := h
        dsimp only [fSeq] at h'
        rw [e] at h'
        exact h'
      intro H1 C1 R1 s1 v hv
      obtain ⟨C2, R2, s2, hp⟩ := R1.frz s1 hv
      obtain ⟨ds, ed, h2⟩ := optR_some h1
      have h3 := h2 H1 C2 R2 s2
      cases hd : r.d with
      | lst l =>
        rw [hd] at ed hp
        cases ed
        obtain ⟨q, xs, rfl, q1, q2⟩ := Rp.lst.mp hp
        exact ⟨q, rfl, ⟨xs, .of (R2.sub _ _ q1)⟩, h3 _ (hK ▸ wk_list (.of q1) q2)⟩
      | rol l =>
        rw [hd] at ed hp
        cases ed
        obtain ⟨q, xs, rfl, q1, q2⟩ := Rp.rol.mp hp
        exact ⟨q, rfl, ⟨xs, hK ▸ QL.Same.sqL R2.sub q1⟩, h3 _ (hK ▸ wk_list q1 q2)⟩
      | tup l => exact absurd hd (hn r δ1 e l)
      | _ => rw [hd] at ed; cases ed
    | er x δ1 =>
      dsimp only [fSeq] at h
      rw [e] at h
      exact h
    | no =>
      dsimp only [fSeq] at h
      rw [e] at h
      exact h
  cases e : fa δ with
  | ok r δ1 =>
    cases hd : r.d with
    | tup l =>
      refine .inr ⟨C, δ, Rl0, ?_⟩
      have h1 : Out T σ H C δ (fun ds H' C' _ => ∀ J, Wk T.B.G C' ds J → R J H') (optR (itemsOf r.d) δ1) := by
        have h' := h
        dsimp only [fSeq] at h'
        rw [e] at h'
        exact h'
      rw [e]
      intro H1 C1 R1 s1 v hv
      obtain ⟨C2, R2, s2, hp⟩ := R1.frz s1 hv
      obtain ⟨ds, ed, h2⟩ := optR_some h1
      have h3 := h2 H1 C2 R2 s2
      rw [hd] at ed hp
      cases ed
      obtain ⟨q, xs, rfl, q1, q2⟩ := Rp.tup.mp hp
      exact ⟨q, rfl, ⟨xs, hK ▸ QL.Same.sqT R2.sub q1⟩, h3 _ (hK ▸ wk_tup q1 q2)⟩
    | _ => exact .inl (lst fun r' δ' e' ds z => by rw [e] at e'; cases e'; rw [hd] at z; cases z)
  | er x δ1 => exact .inl (lst fun r' δ' e' ds z => by rw [e] at e'; cases e')
  | no => exact .inl (lst fun r' δ' e' ds z => by rw [e] at e'; cases e')
abbrev fRng1 (fa : Env → Rs Rv) : Env → Rs (List D) := fun δ => (fa δ).bind fun x δ => match x.d with
    | .int j => if -(2 ^ 62) ≤ j ∧ j < 2 ^ 62 then .ok (rangeD 0 j.toNat) δ else .no
    | _ => .no
theorem s_irng1 (hg : Gl X "range") (hm : X.mg "range" = none) (ha : PE X a (tE T fa)) (hs : starEach [a] X.env = [(false, eval a X.env)]) : PI X tg (.Call (.Name "range" p) [a] [] pos) (tI T (fRng1 fa)) := by
  refine QL.PI.imp (pi_range1 hg hm (pa_cons ha pa_nil hs) hs) fun σ H R h => ?_
  obtain ⟨C, δ, Rl0, h⟩ := h
  refine tE.then Rl0 h fun x δ1 H1 C1 v R1 s1 p1 h1 => ?_
  split at h1
  · rename_i j ej
    split at h1
    · rename_i hj
      rw [ej] at p1
      rw [Rp.int.mp p1]
      exact ⟨j, rfl, hj.1, hj.2, h1.here R1 _ wk_rng⟩
    · exact h1.elim
  · exact h1.elim
abbrev fRng2 (fa fb : Env → Rs Rv) : Env → Rs (List D) := fun δ => (fa δ).bind fun x δ => (fb δ).bind fun y δ => match x.d, y.d with
    | .int i, .int j => if -(2 ^ 62) ≤ i ∧ i < 2 ^ 62 ∧ -(2 ^ 62) ≤ j ∧ j < 2 ^ 62 then .ok (rangeD i (j - i).toNat) δ else .no
    | _, _ => .no
theorem s_irng2 (hg : Gl X "range") (hm : X.mg "range" = none) (ha : PE X a (tE T fa)) (hb : PE X b (tE T fb)) (hs : starEach [a, b] X.env = [(false, eval a X.env), (false, eval b X.env)]) (hs2 : starEach [b] X.env = [(false, eval b X.env)]) : PI X tg (.Call (.Name "range" p) [a, b] [] pos) (tI T (fRng2 fa fb)) := by
  refine QL.PI.imp (pi_range2 hg hm (pa_cons ha (pa_cons hb pa_nil hs2) (by rw [hs, hs2])) hs hs2) fun σ H R h => ?_
  obtain ⟨C, δ, Rl0, h⟩ := h
  refine tE.then Rl0 h fun x δ1 H1 C1 v R1 s1 p1 h1 => ?_
  refine tE.then R1 h1 fun y δ2 H2 C2 w R2 s2 p2 h2 => ?_
  split at h2
  · rename_i i j ei ej
    split at h2
    · rename_i hj
      rw [ei] at p1
      rw [ej] at p2
      rw [Rp.int.mp p1, Rp.int.mp p2]
      exact ⟨i, j, rfl, hj, h2.here R2 _ wk_rng⟩
    · exact h2.elim
  · exact h2.elim

/-! ### slots set -/
/-- two states that differ in one slot that holds nothing own -/
theorem Off.set {a : Addr} {i : Nat} {s : Sl} {o : Option V} (hs : isLv s = false) (f : Off σ δ a) : Off (σ.set i o) (δ.set i s) a := fun j t e l => by
  rcases set_get e with ⟨rfl, rfl, _⟩ | ⟨ne, e⟩
  · rw [hs] at l; cases l
  · rw [List.getElem?_set_ne ne]
    exact f j t e l
theorem Off.unset {a : Addr} {i : Nat} {s t : Sl} {o : Option V} (ht : δ[i]? = some t) (hl : isLv t = false) (f : Off (σ.set i o) (δ.set i s) a) : Off σ δ a := fun j u e l => by
  by_cases ne : i = j
  · subst ne
    rw [ht] at e
    cases e
    rw [hl] at l
    cases l
  · have q := f j u (by rw [List.getElem?_set_ne ne]; exact e) l
    rwa [List.getElem?_set_ne ne] at q
/-- a slot that holds nothing own (no parameter's own list) gets settled data -/
theorem Rl.put {B : Bd} (R : Rl B σ H C δ) {i : Nat} {s : Sl} {o : Option V} (hs : isLv s = false) (h : SlotR B H C i s o) : Rl B (σ.set i o) H C (δ.set i s) := by
  refine ⟨by rw [List.length_set, List.length_set]; exact R.len, fun j t o' e1 e2 => ?_, R.sub, R.conf, R.vis, R.keep, R.al0, fun j k t u a ne e1 e2 l1 l2 e3 e4 => ?_⟩
  · rcases set_get e1 with ⟨rfl, rfl, _⟩ | ⟨ne, e1⟩
    · rcases set_get e2 with ⟨_, rfl, _⟩ | ⟨ne, _⟩
      · exact h
      · exact absurd rfl ne
    · rw [List.getElem?_set_ne ne] at e2
      exact R.slot j t o' e1 e2
  · rcases set_get e1 with ⟨rfl, rfl, _⟩ | ⟨n1, e1⟩
    · rw [hs] at l1; cases l1
    · rcases set_get e2 with ⟨rfl, rfl, _⟩ | ⟨n2, e2⟩
      · rw [hs] at l2; cases l2
      · rw [List.getElem?_set_ne n1] at e3
        rw [List.getElem?_set_ne n2] at e4
        exact R.apart j k t u a ne e1 e2 l1 l2 e3 e4
/-- an own thing that no slot holds is changed -/
theorem Rl.chgO {B : Bd} (R : Rl B σ H C δ) {q : Addr} {o o' : HO} (h1 : H q = some o) (h2 : C q = none) (h3 : B.H0 q = none) (hf : Off σ δ q) : Rl B σ (upd H q o') C δ := by
  have ne : ∀ {a : Addr} {u : HO}, C a = some u → a ≠ q := fun h => ne_of_none h h2
  refine ⟨R.len, fun j t o'' e1 e2 => (R.slot j t o'' e1 e2).mono (L2.Same.refl _) fun a u l eo h4 h5 => ⟨?_, h5⟩, fun a u h => ?_, R.conf, R.vis, fun a u h4 h5 => ?_, fun a h => ?_, R.apart⟩
  · have na : a ≠ q := fun z => by
      subst z
      exact hf j t e1 l (by rw [e2, eo])
    rw [upd_ne na]; exact h4
  · rw [upd_ne (ne h)]; exact R.sub _ _ h
  · rw [upd_ne (ne_of_none h4 h3)]; exact R.keep _ _ h4 h5
  · by_cases z : a = q
    · subst z; rw [upd_same] at h; cases h
    · rw [upd_ne z] at h; exact R.al0 _ h

/-! ### a comprehension -/
/-- the same readings where no error is wished for -/
def Tx.nx (T : Tx) : Tx := { T with W := fun _ _ _ _ => False }
theorem ne_ok {α : Type} {r : Rs α} {a : α} {δ : Env} (h : r.ne = .ok a δ) : r = .ok a δ := by
  cases r with
  | ok b δ' => exact h
  | er x δ' => cases h
  | no => cases h
theorem ne_out {α : Type} {S : α → Hp → Hp → Env → Prop} {r : Rs α} (h : Out T σ H C δ S r.ne) : Out T.nx σ H C δ S r := by
  cases r with
  | ok a δ' => exact h
  | er x δ' => exact h.elim
  | no => exact h.elim
/-- where no error is wished for -/
theorem nx_bind {α β : Type} {S : β → Hp → Hp → Env → Prop} {r : Rs α} {k : α → Env → Rs β} (h : Out T σ H C δ S (r.ne.bind k)) : ∃ a δ', r = .ok a δ' ∧ Out T σ H C δ S (k a δ') := by
  cases r with
  | ok a δ' => exact ⟨a, δ', rfl, h⟩
  | er x δ' => exact h.elim
  | no => exact h.elim

/-- between two turns: acc made so far at q, from the rest xs to come the same end -/
def LcI (T : Tx) (σ : L2.St) (Hb Cb : Hp) (δb : Env) (i : Nat) (tst elt : Env → Rs Rv) (q : Addr) (ds : List D) (j : Nat) (H : Hp) : Prop :=
  ∃ (C : Hp) (δ : Env) (acc : List D) (av : List V), Rl T.B (σ.set i none) H C δ ∧ Stp (σ.set i none) Hb Cb δb H C δ ∧ H q = some (.lst av) ∧ C q = none ∧ Off (σ.set i none) δ q ∧ Rps T.B.G C acc av ∧ δ[i]? = some .un ∧
    lcGo i tst elt (ds.drop j) acc δ = lcGo i tst elt ds [] δb
theorem upd_stp {B : Bd} {Hb Cb : Hp} {δb : Env} {q : Addr} {o o' : HO} (s : Stp σ Hb Cb δb H C δ) (h : H q = some o) (hb : Hb q = none) : Stp σ Hb Cb δb (upd H q o') C δ :=
  ⟨s.cs, fun a u e f => by rw [upd_ne (ne_of_none e hb)]; exact s.fr a u e f, s.off, s.cn, fun a e => by
    by_cases z : a = q
    · subst z; exact hb
    · rw [upd_ne z] at e; exact s.al a e⟩
variable {tt : TT} {fe : Env → Rs Rv}
/-- the comprehension's reading, from what the small syntax tells; tt the tests' reading, te the element's, both where no error is wished for -/
theorem lc_read {Q : VK} (htt : ∀ σ H Q, tT T.nx fc σ H Q → tt σ H Q) (h : tE T (fun δ => (fi δ).bind fun xs δ => lcRun i fc fe xs δ) σ H Q) : tLc (tI T fi) (L2.gName i) tt (tE T.nx fe) [i] σ H Q := by
  obtain ⟨C, δ, R, h⟩ := h
  refine ⟨C, δ, R, ?_⟩
  cases ei : fi δ with
  | er x δ1 => dsimp only at h; rw [ei] at h; exact h
  | no => dsimp only at h; rw [ei] at h; exact h
  | ok ds δ1 =>
    dsimp only at h
    rw [ei] at h
    intro H1 C1 R1 s1 J wk
    have h : Out T σ H C δ (fun r H' C' δ' => ∀ v, RvR T.B σ H H' C' δ' r v → Q v H') (lcRun i fc fe ds δ1) := h
    have h := Out.base h s1
    unfold lcRun at h
    cases es : lcSl δ1 i with
    | none => rw [es] at h; exact h.elim
    | some s =>
      rw [es] at h
      dsimp only at h
      have hs : δ1[i]? = some s ∧ isLv s = false := by
        unfold lcSl at es
        split at es
        · rename_i e; cases es; exact ⟨e, rfl⟩
        · rename_i d e; cases es; exact ⟨e, rfl⟩
        · cases es
      obtain ⟨o0, ho0, slot0⟩ := R1.at_ hs.1
      have hi : i < δ1.length := (List.getElem?_eq_some_iff.mp hs.1).1
      have R1w : Rl T.B (σ.set i none) H1 C1 (δ1.set i .un) := R1.put (s := .un) (o := none) rfl trivial
      intro q hq
      obtain ⟨R2, s2, q1, q2, q3⟩ := R1w.newO (.lst []) hq
      -- from the wiped slots back
      have back : ∀ {H' C' : Hp} {δ' : Env} {acc : List D} {av : List V}, Rl T.B (σ.set i none) H' C' δ' → Stp (σ.set i none) H1 C1 (δ1.set i .un) H' C' δ' → H' q = some (.lst av) → C' q = none → Off (σ.set i none) δ' q → Rps T.B.G C' acc av → δ'[i]? = some .un →
          Rl T.B σ H' C' (δ'.set i s) ∧ Stp σ H1 C1 δ1 H' C' (δ'.set i s) ∧ RvR T.B σ H H' C' (δ'.set i s) (.lv acc) (.ref q) := fun {H' C' δ' acc av} R' s' h1 h2 h3 h4 h5 => by
        have sw : (σ.set i none).set i o0 = σ := by
          rw [List.set_set]
          apply List.ext_getElem?
          intro j
          by_cases ne : i = j
          · subst ne
            rw [List.getElem?_set_self (by rw [R1.len]; exact hi), ho0]
          · rw [List.getElem?_set_ne ne]
        have hslot : SlotR T.B H' C' i s o0 := slot0.mono s'.cs fun a u l _ _ _ => by rw [hs.2] at l; cases l
        have Rn := R'.put (s := s) (o := o0) hs.2 hslot
        rw [sw] at Rn
        have of1 : ∀ {a : Addr}, Off σ δ1 a → Off (σ.set i none) (δ1.set i .un) a := fun f => Off.set rfl f
        have of2 : ∀ {a : Addr}, Off (σ.set i none) δ' a → Off σ (δ'.set i s) a := fun {a} f => by
          have z := Off.set (i := i) (s := s) (o := o0) hs.2 f
          rwa [sw] at z
        refine ⟨Rn, ⟨s'.cs, fun a u e f => s'.fr a u e (of1 f), fun a u e f => of2 (s'.off a u e (of1 f)), fun a u e n f => s'.cn a u e n (of1 f), s'.al⟩, q, av, rfl, h1, h2, ⟨q2, s1.al _ hq⟩, of2 h3, h4⟩
      have hL : lcGo i fc fe ds [] (δ1.set i .un) ≠ .no := fun z => by
        rw [z] at h
        exact h
      refine ⟨fun j m H' => m = ds.length - j ∧ j ≤ ds.length ∧ LcI T σ H1 C1 (δ1.set i .un) i fc fe q ds j H', ⟨ds.length, by simp, Nat.zero_le _, C1, _, [], [], R2, s2, upd_same, q1, q3, Rps.nil.mpr rfl, by rw [List.getElem?_set_self hi], rfl⟩, ?_⟩
      rintro j m H' ⟨rfl, hj, C', δ', acc, av, R', s', h1, h2, h3, h4, h5, h6⟩
      have sm : Same C1 H' := s'.cs.trans R'.sub
      by_cases hlt : j < ds.length
      · refine .inr ⟨wk.go j H' sm hlt, fun H'' => LcI T σ H1 C1 (δ1.set i .un) i fc fe q ds (j + 1) H'', fun H'' z => ⟨ds.length - (j + 1), by omega, rfl, hlt, z⟩, fun x H'' y => ?_⟩
        obtain ⟨rfl, d, ed, rd⟩ := wk.yld j H' x H'' sm hlt y
        have edr : ds.drop j = d :: ds.drop (j + 1) := by
          rw [List.drop_eq_getElem_cons hlt]
          rw [List.getElem?_eq_getElem hlt] at ed
          cases ed
          rfl
        rw [edr] at h6
        have hi' : i < δ'.length := (List.getElem?_eq_some_iff.mp h5).1
        have Rx : Rl T.B ((σ.set i none).set i (some x)) H'' C' (δ'.set i (.fz d)) := R'.put (s := .fz d) (o := some x) rfl ⟨x, rfl, Rp.mono s'.cs _ _ rd⟩
        have hsw : ((σ.set i none).set i (some x)).set i none = σ.set i none := by rw [List.set_set, List.set_set]
        have offx : ∀ {a : Addr}, Off (σ.set i none) δ' a → Off ((σ.set i none).set i (some x)) (δ'.set i (.fz d)) a := fun f => Off.set rfl f
        refine ⟨hsw, htt _ _ _ ⟨C', _, Rx, ?_⟩⟩
        have h6 : ((fc (δ'.set i (.fz d))).ne.bind fun b δ1 => match b with
            | .fz (.bl true) => (fe δ1).ne.bind fun r δ2 => if acc.length < LIM then lcGo i fc fe (ds.drop (j + 1)) (acc ++ [r.d]) (δ2.set i .un) else .no
            | .fz (.bl false) => lcGo i fc fe (ds.drop (j + 1)) acc (δ1.set i .un)
            | _ => .no) = lcGo i fc fe ds [] (δ1.set i .un) := h6
        cases et : fc (δ'.set i (.fz d)) with
        | er x δ3 => rw [et] at h6; exact absurd h6.symm hL
        | no => rw [et] at h6; exact absurd h6.symm hL
        | ok r δ3 =>
          rw [et] at h6
          intro H3 C3 R3 s3
          -- what the turn leaves behind, with the slot forgotten
          have turn : ∀ {H4 C4 : Hp} {δ4 : Env}, Rl T.B ((σ.set i none).set i (some x)) H4 C4 δ4 → Stp ((σ.set i none).set i (some x)) H'' C' (δ'.set i (.fz d)) H4 C4 δ4 → Rl T.B (σ.set i none) H4 C4 (δ4.set i .un) ∧ Stp (σ.set i none) H1 C1 (δ1.set i .un) H4 C4 (δ4.set i .un) ∧ H4 q = some (.lst av) ∧ C4 q = none ∧ Off (σ.set i none) (δ4.set i .un) q ∧ (δ4.set i .un)[i]? = some .un := fun {H4 C4 δ4} R4 s4 => by
            have Rn := R4.put (i := i) (s := .un) (o := none) rfl trivial
            rw [hsw] at Rn
            have l4 : i < δ4.length := by rw [← R4.len, List.length_set, List.length_set, R1.len]; exact hi
            have of2 : ∀ {a : Addr}, Off ((σ.set i none).set i (some x)) δ4 a → Off (σ.set i none) (δ4.set i .un) a := fun {a} f => by
              have z := Off.set (i := i) (s := .un) (o := none) rfl f
              rwa [hsw] at z
            have st : Stp (σ.set i none) H'' C' δ' H4 C4 (δ4.set i .un) := ⟨s4.cs, fun a u e f => s4.fr a u e (offx f), fun a u e f => of2 (s4.off a u e (offx f)), fun a u e n f => s4.cn a u e n (offx f), s4.al⟩
            exact ⟨Rn, s'.trans st, s4.fr q _ h1 (offx h3), s4.cn q _ h1 h2 (offx h3), of2 (s4.off q _ h1 (offx h3)), by rw [List.getElem?_set_self l4]⟩
          cases r with
          | lv _ => exact absurd h6.symm hL
          | dv _ _ => exact absurd h6.symm hL
          | fz dd =>
            cases dd with
            | bl bb =>
              cases bb with
              | false =>
                obtain ⟨Rn, st, n1, n2, n3, n4⟩ := turn R3 s3
                refine iteF ?_
                exact ⟨C3, _, acc, av, Rn, st, n1, n2, n3, Rps.mono s3.cs _ _ h4, n4, h6⟩
              | true =>
                refine iteT ⟨C3, δ3, R3, ?_⟩
                have h7 : ((fe δ3).ne.bind fun r δ2 => if acc.length < LIM then lcGo i fc fe (ds.drop (j + 1)) (acc ++ [r.d]) (δ2.set i .un) else .no) = lcGo i fc fe ds [] (δ1.set i .un) := h6
                cases ee : fe δ3 with
                | er x δ4 => rw [ee] at h7; exact absurd h7.symm hL
                | no => rw [ee] at h7; exact absurd h7.symm hL
                | ok r4 δ4 =>
                  rw [ee] at h7
                  intro H4 C4 R4 s4 v hv
                  obtain ⟨C5, R5, s5, rv⟩ := R4.frz s4 hv
                  obtain ⟨Rn, st, n1, n2, n3, n4⟩ := turn R5 (s3.trans s5)
                  have h8 : (if acc.length < LIM then lcGo i fc fe (ds.drop (j + 1)) (acc ++ [r4.d]) (δ4.set i .un) else .no) = lcGo i fc fe ds [] (δ1.set i .un) := h7
                  split at h8
                  · rename_i hl
                    refine ⟨av, n1, by rw [← h4.len]; exact len_szlt hl, C5, _, acc ++ [r4.d], av ++ [v], Rn.chgO n1 n2 q2 n3, upd_stp (B := T.B) st n1 hq, upd_same, n2, n3, ?_, n4, h8⟩
                    exact (Rps.mono s5.cs _ _ (Rps.mono s3.cs _ _ h4)).append (.one rv)
                  · exact absurd h8.symm hL
            | _ => exact absurd h6.symm hL
      · refine .inl ⟨wk.stop j H' sm (by omega), ?_⟩
        have e0 : ds.drop j = [] := List.drop_eq_nil_of_le (by omega)
        rw [e0] at h6
        have h6 : Rs.ok acc δ' = lcGo i fc fe ds [] (δ1.set i .un) := h6
        rw [← h6] at h
        obtain ⟨Rn, sn, rv⟩ := back R' s' h1 h2 h3 h4 h5
        exact h H' C' Rn sn _ rv

theorem yes_read : ∀ σ H Q, tT T.nx (fun δ => .ok (.fz (.bl true)) δ) σ H Q → tYes σ H Q := fun σ H Q h => by
  obtain ⟨C, δ, R, h⟩ := h
  exact h.here R
variable {elt iter : Expr} {ifs : List Expr} {scope : Scope}
abbrev fLc (i : Nat) (fi : Env → Rs (List D)) (fc fe : Env → Rs Rv) : Env → Rs Rv := fun δ => (fi δ).bind fun xs δ => lcRun i fc fe xs δ
theorem s_lc (hc : X.calm = true) (hN : X.N.Nodup) (hi : PI X tg iter (tI T fi)) (ok : BlkOk X.N X.env.scope scope [(x, i)]) (htt : ∀ σ H Q, tT T.nx fc σ H Q → tt σ H Q)
    (hg : ∀ (s : Shared) (H : Hp) (C : Addr) (cl : List (Str × Addr)) (fp : List Addr), PG (X.blk s H scope (compEnvC scope cl C X.env) fp) tg (L2.gName i)) (ht : ∀ (s : Shared) (H : Hp) (C : Addr) (cl : List (Str × Addr)) (fp : List Addr), PTs (X.blk s H scope (compEnvC scope cl C X.env) fp) ifs tt)
    (he : ∀ (s : Shared) (H : Hp) (C : Addr) (cl : List (Str × Addr)) (fp : List Addr), PE (X.blk s H scope (compEnvC scope cl C X.env) fp) elt (tE T.nx fe)) (hs : ∀ x, foldedSetIterable iter X.env x = pure x) :
    PE X (.ListComp elt [⟨tg, iter, ifs, 0⟩] scope pos) (tE T (fLc i fi fc fe)) := QL.PE.imp (pe_lc hc hN hi ok hg ht he hs) fun σ H Q h => lc_read htt h
end
end QL

end
section
set_option Elab.async false
set_option linter.all false
/-! Q9: statements keep what the small syntax tells. -/
namespace QL
open PySem PySem.Spec PyProof.Rows L2

def OutS (T : Tx) (C : Hp) (D : Ends) : Rs Fl → Prop
  | .ok .nx δ' => ∀ σ' H' C', Rl T.B σ' H' C' δ' → Same C C' → D.nx σ' H'
  | .ok .bk δ' => ∀ σ' H' C', Rl T.B σ' H' C' δ' → Same C C' → D.bk σ' H'
  | .ok .ct δ' => ∀ σ' H' C', Rl T.B σ' H' C' δ' → Same C C' → D.ct σ' H'
  | .ok (.rt r) δ' => ∀ v σ' H' C', Rl T.B σ' H' C' δ' → Same C C' → RvR T.B σ' T.B.H0 H' C' δ' r v → D.rt v H'
  | .er x δ' => ∀ cls dd σ' H' C', Rl T.B σ' H' C' δ' → Same C C' → XnR T.B.G T.Y H' C' x cls dd → T.W cls dd σ' H'
  | .no => False
theorem OutS.base {T : Tx} {C C1 : Hp} {D : Ends} {r : Rs Fl} (h : OutS T C D r) (e : Same C C1) : OutS T C1 D r := by
  cases r with
  | ok f δ' =>
    cases f with
    | nx => exact fun σ' H' C' R s => h σ' H' C' R (e.trans s)
    | bk => exact fun σ' H' C' R s => h σ' H' C' R (e.trans s)
    | ct => exact fun σ' H' C' R s => h σ' H' C' R (e.trans s)
    | rt r => exact fun v σ' H' C' R s => h v σ' H' C' R (e.trans s)
  | er x δ' => exact fun cls dd σ' H' C' R s => h cls dd σ' H' C' R (e.trans s)
  | no => exact h
def tS (T : Tx) (f : Env → Rs Fl) : TS := fun D σ H => ∃ C δ, Rl T.B σ H C δ ∧ OutS T C D (f δ)
section
variable {T : Tx} {X : Cx} {σ : L2.St} {H C : Hp} {δ : Env} {D : Ends} {pos p p2 : Pos} {a b c d e tg : Expr} {es : List Expr} {fa fb fc fd : Env → Rs Rv} {fi : Env → Rs (List QL.D)} {x : Str} {i : Nat}
theorem tE.thenS {k : Rv → Env → Rs Fl} {Q : VK} (R : Rl T.B σ H C δ) (h : OutS T C D ((fa δ).bind k))
    (hk : ∀ r δ1 H1 C1 v, Rl T.B σ H1 C1 δ1 → Stp σ H C δ H1 C1 δ1 → RvR T.B σ H H1 C1 δ1 r v → OutS T C1 D (k r δ1) → Q v H1) : tE T fa σ H Q := by
  refine ⟨C, δ, R, ?_⟩
  cases e : fa δ with
  | ok r δ1 =>
    rw [e] at h
    intro H1 C1 R1 s1 v hv
    exact hk r δ1 H1 C1 v R1 s1 hv (OutS.base h s1.cs)
  | er x δ1 =>
    rw [e] at h
    exact fun cls dd H' C' R' hx => h cls dd σ H' C' R' hx
  | no => rw [e] at h; exact h
/-- .. its value settled -/
theorem tE.thenD {k : Rv → Env → Rs Fl} {Q : VK} (R : Rl T.B σ H C δ) (h : OutS T C D ((fa δ).bind k))
    (hk : ∀ r δ1 H1 C1 v, Rl T.B σ H1 C1 δ1 → Stp σ H C δ H1 C1 δ1 → Rp T.B.G C1 r.d v → OutS T C1 D (k r δ1) → Q v H1) : tE T fa σ H Q := by
  refine ⟨C, δ, R, ?_⟩
  cases e : fa δ with
  | ok r δ1 =>
    rw [e] at h
    intro H1 C1 R1 s1 v hv
    obtain ⟨C2, R2, s2, hp⟩ := R1.frz s1 hv
    exact hk r δ1 H1 C2 v R2 s2 hp (OutS.base h s2.cs)
  | er x δ1 =>
    rw [e] at h
    exact fun cls dd H' C' R' hx => h cls dd σ H' C' R' hx
  | no => rw [e] at h; exact h
theorem tT.thenS {k : Rv → Env → Rs Fl} {Q : Bool → Hp → Prop} (R : Rl T.B σ H C δ) (h : OutS T C D ((fa δ).bind k)) (hn : ∀ r δ, (∀ b, r ≠ .fz (.bl b)) → k r δ = .no)
    (hk : ∀ b δ1 H1 C1, Rl T.B σ H1 C1 δ1 → Stp σ H C δ H1 C1 δ1 → OutS T C1 D (k (.fz (.bl b)) δ1) → Q b H1) : tT T fa σ H Q := by
  refine ⟨C, δ, R, ?_⟩
  cases e : fa δ with
  | ok r δ1 =>
    rw [e] at h
    intro H1 C1 R1 s1
    by_cases q : ∃ b, r = .fz (.bl b)
    · obtain ⟨b, rfl⟩ := q
      exact hk b δ1 H1 C1 R1 s1 (OutS.base h s1.cs)
    · have h' : OutS T C D (k r δ1) := h
      rw [hn r δ1 fun b e => q ⟨b, e⟩] at h'
      exact h'.elim
  | er x δ1 =>
    rw [e] at h
    exact fun cls dd H' C' R' hx => h cls dd σ H' C' R' hx
  | no => rw [e] at h; exact h
theorem optS {α : Type} {o : Option α} {k : α → Env → Rs Fl} {δ1 : Env} (h : OutS T C D ((optR o δ1).bind k)) : ∃ z, o = some z ∧ OutS T C D (k z δ1) := by
  cases o with
  | none => exact h.elim
  | some z => exact ⟨z, rfl, h⟩

/-! ### a value into a slot -/
theorem Rl.putRv {B : Bd} {Hb : Hp} (R : Rl B σ H C δ) {δ' : Env} {r : Rv} {v : V} (hr : RvR B σ Hb H C δ r v) (h : putSl δ i r = some δ') : Rl B (σ.set i (some v)) H C δ' := by
  unfold putSl at h
  split at h
  · cases h
  · rename_i s0 hlp h0
    cases h
    -- the new slot
    have new : SlotR B H C i r.sl (some v) := by
      cases r with
      | fz d => exact ⟨v, rfl, hr⟩
      | lv ds => obtain ⟨q, xs, rfl, h1, h2, h3, _, h5⟩ := hr; exact ⟨q, xs, rfl, h1, h2, h3.1, h5⟩
      | dv ks ds => obtain ⟨q, xs, rfl, h1, h2, h3, _, h5⟩ := hr; exact ⟨q, xs, rfl, h1, h2, h3.1, h5⟩
    have off : ∀ {q : Addr}, isLv r.sl = true → v = V.ref q → Off σ δ q := fun {q} l ev => by
      cases r with
      | fz d => cases l
      | lv ds => obtain ⟨q', xs, e, _, _, _, h4, _⟩ := hr; rw [ev] at e; cases e; exact h4
      | dv ks ds => obtain ⟨q', xs, e, _, _, _, h4, _⟩ := hr; rw [ev] at e; cases e; exact h4
    refine ⟨by rw [List.length_set, List.length_set]; exact R.len, fun j t o' e1 e2 => ?_, R.sub, R.conf, R.vis, R.keep, R.al0, fun j k t u q ne e1 e2 l1 l2 e3 e4 => ?_⟩
    · rcases set_get e1 with ⟨rfl, rfl, _⟩ | ⟨ne, e1⟩
      · rcases set_get e2 with ⟨_, rfl, _⟩ | ⟨ne, _⟩
        · exact new
        · exact absurd rfl ne
      · rw [List.getElem?_set_ne ne] at e2
        exact R.slot j t o' e1 e2
    · rcases set_get e1 with ⟨rfl, rfl, _⟩ | ⟨n1, e1⟩
      · rcases set_get e2 with ⟨rfl, rfl, _⟩ | ⟨n2, e2⟩
        · exact ne rfl
        · rcases set_get e3 with ⟨_, e3, _⟩ | ⟨n3, _⟩
          · rw [List.getElem?_set_ne n2] at e4
            exact off l1 (Option.some.inj e3.symm) k u e2 l2 e4
          · exact n3 rfl
      · rcases set_get e2 with ⟨rfl, rfl, _⟩ | ⟨n2, e2⟩
        · rcases set_get e4 with ⟨_, e4, _⟩ | ⟨n4, _⟩
          · rw [List.getElem?_set_ne n1] at e3
            exact off l2 (Option.some.inj e4.symm) j t e1 l1 e3
          · exact n4 rfl
        · rw [List.getElem?_set_ne n1] at e3
          rw [List.getElem?_set_ne n2] at e4
          exact R.apart j k t u q ne e1 e2 l1 l2 e3 e4
  · cases h
/-- an own list in a slot is changed -/
theorem Rl.chg {B : Bd} (R : Rl B σ H C δ) {δ' : Env} {f : List QL.D → Option (List QL.D)} (h : chgSl δ i f = some δ') : ∃ q xs ds ds', σ[i]? = some (some (V.ref q)) ∧ H q = some (.lst xs) ∧ Rps B.G C ds xs ∧ f ds = some ds' ∧ (liveSl δ i = some ds) ∧ ∀ xs', Rps B.G C ds' xs' → Rl B σ (upd H q (.lst xs')) C δ' := by
  obtain ⟨ds, ds', ef, hh⟩ := chg_some h
  clear h
  have key : ∀ {s s' : Sl}, δ[i]? = some s → isLv s = true → isLv s' = true → ∀ {q : Addr}, σ[i]? = some (some (V.ref q)) → H q ≠ none → C q = none → (∀ o, B.H0 q = some o → B.L0 q) → ∀ xs', SlotR B (upd H q (.lst xs')) C i s' (some (V.ref q)) → Rl B σ (upd H q (.lst xs')) C (δ.set i s') := fun {s s'} e1 l1 l1' {q} e2 hq cq h0 xs' sl => by
    have ne : ∀ {b : Addr} {u : HO}, C b = some u → b ≠ q := fun h => ne_of_none h cq
    refine ⟨by rw [List.length_set]; exact R.len, fun j t o' g1 g2 => ?_, fun b u hb => ?_, R.conf, R.vis, fun b u g1 g2 => ?_, fun b hb => ?_, fun j k t u b nj g1 g2 k1 k2 g3 g4 => ?_⟩
    · rcases set_get g1 with ⟨rfl, rfl, _⟩ | ⟨nj, g1⟩
      · rw [e2] at g2
        cases g2
        exact sl
      · refine (R.slot j t o' g1 g2).mono (L2.Same.refl _) fun b u l eo h4 h5 => ⟨?_, h5⟩
        have nb : b ≠ q := fun z => by
          subst z
          exact R.apart i j s t b nj e1 g1 l1 l e2 (by rw [g2, eo])
        rw [upd_ne nb]; exact h4
    · rw [upd_ne (ne hb)]; exact R.sub _ _ hb
    · by_cases z : b = q
      · subst z; exact absurd (h0 _ g1) g2
      · rw [upd_ne z]; exact R.keep _ _ g1 g2
    · by_cases z : b = q
      · subst z; rw [upd_same] at hb; cases hb
      · rw [upd_ne z] at hb; exact R.al0 _ hb
    · have live : ∀ {m : Nat} {w : Sl}, (δ.set i s')[m]? = some w → isLv w = true → ∃ w0, δ[m]? = some w0 ∧ isLv w0 = true := fun {m w} g l => by
        rcases set_get g with ⟨rfl, _, _⟩ | ⟨_, g⟩
        · exact ⟨s, e1, l1⟩
        · exact ⟨w, g, l⟩
      obtain ⟨w1, x1, x2⟩ := live g1 k1
      obtain ⟨w2, y1, y2⟩ := live g2 k2
      exact R.apart j k w1 w2 b nj x1 y1 x2 y2 g3 g4
  rcases hh with ⟨h, rfl⟩ | ⟨h, rfl⟩
  · obtain ⟨o, ho, q, xs, rfl, h1, h2, h3, h4⟩ := R.at_ h
    refine ⟨q, xs, ds, ds', ho, h1, h4, ef, by unfold liveSl; rw [h], fun xs' hr => key h rfl rfl ho (by rw [h1]; exact fun z => by cases z) h2 (fun o e => by rw [h3] at e; cases e) xs' ⟨q, xs', rfl, upd_same, h2, h3, hr⟩⟩
  · obtain ⟨o, ho, q, xs, rfl, h1, h2, h3, h4⟩ := R.at_ h
    refine ⟨q, xs, ds, ds', ho, h1, h4, ef, by unfold liveSl; rw [h], fun xs' hr => key h rfl rfl ho (by rw [h1]; exact fun z => by cases z) h2 (fun o e => h3.1) xs' ⟨q, xs', rfl, upd_same, h2, h3, hr⟩⟩
/-- a slot is forgotten -/
theorem Rl.forget {B : Bd} (R : Rl B σ H C δ) : Rl B σ H C (δ.set i .un) := by
  refine ⟨by rw [List.length_set]; exact R.len, fun j t o' e1 e2 => ?_, R.sub, R.conf, R.vis, R.keep, R.al0, fun j k t u q ne e1 e2 l1 l2 e3 e4 => ?_⟩
  · rcases set_get e1 with ⟨rfl, rfl, _⟩ | ⟨ne, e1⟩
    · trivial
    · exact R.slot j t o' e1 e2
  · rcases set_get e1 with ⟨rfl, rfl, _⟩ | ⟨n1, e1⟩
    · cases l1
    · rcases set_get e2 with ⟨rfl, rfl, _⟩ | ⟨n2, e2⟩
      · cases l2
      · exact R.apart j k t u q ne e1 e2 l1 l2 e3 e4
theorem Rl.moved {B : Bd} (R : Rl B σ H C δ) {r : Rv} {δ' : Env} (h : moveSl δ i = .ok r δ') : ∃ v, σ[i]? = some (some v) ∧ Rl B σ H C δ' ∧ RvR B σ B.H0 H C δ' r v := by
  unfold moveSl at h
  have off : ∀ {s : Sl} {q : Addr}, δ[i]? = some s → isLv s = true → σ[i]? = some (some (V.ref q)) → Off σ (δ.set i .un) q := fun {s q} e l e2 j t e3 l3 e4 => by
    rcases set_get e3 with ⟨rfl, rfl, _⟩ | ⟨n, e3⟩
    · cases l3
    · exact R.apart i j s t q n e e3 l l3 e2 e4
  split at h
  · rename_i d e
    cases h
    obtain ⟨o, ho, v, rfl, hv⟩ := R.at_ e
    exact ⟨v, ho, R, hv⟩
  · rename_i ds e
    cases h
    obtain ⟨o, ho, q, xs, rfl, h1, h2, h3, h4⟩ := R.at_ e
    exact ⟨_, ho, R.forget, q, xs, rfl, h1, h2, ⟨h3, h3⟩, off e rfl ho, h4⟩
  · rename_i ks ds e
    cases h
    obtain ⟨o, ho, q, xs, rfl, h1, h2, h3, h4⟩ := R.at_ e
    exact ⟨_, ho, R.forget, q, xs, rfl, h1, h2, ⟨h3, h3⟩, off e rfl ho, h4⟩
  · cases h

/-! ### plain statements -/
theorem s_pass : PS X (.Pass pos) (tS T fun δ => .ok .nx δ) := QL.PS.imp ps_pass fun D σ H h => by
  obtain ⟨C, δ, R, h⟩ := h
  exact h σ H C R (L2.Same.refl _)
theorem s_brk : PS X (.Break pos) (tS T fun δ => .ok .bk δ) := QL.PS.imp ps_break fun D σ H h => by
  obtain ⟨C, δ, R, h⟩ := h
  exact h σ H C R (L2.Same.refl _)
theorem s_cnt : PS X (.Continue pos) (tS T fun δ => .ok .ct δ) := QL.PS.imp ps_continue fun D σ H h => by
  obtain ⟨C, δ, R, h⟩ := h
  exact h σ H C R (L2.Same.refl _)
theorem s_retN : PS X (.Return none pos) (tS T fun δ => .ok (.rt (.fz .non)) δ) := QL.PS.imp ps_retN fun D σ H h => by
  obtain ⟨C, δ, R, h⟩ := h
  exact h _ σ H C R (L2.Same.refl _) (Rp.non.mpr rfl : Rp T.B.G C _ _)
abbrev fSet (i : Nat) (fa : Env → Rs Rv) : Env → Rs Fl := fun δ => (fa δ).bind fun r δ => (optR (putSl δ i r) δ).bind fun δ' _ => .ok .nx δ'
theorem set_read {te : TE} (hte : ∀ σ H Q, tE T fa σ H Q → te σ H Q) : ∀ D σ H, tS T (fSet i fa) D σ H → tAsg te (L2.gName i) D σ H := fun D σ H h => by
  obtain ⟨C, δ, R, h⟩ := h
  refine hte _ _ _ (tE.thenS R h fun r δ1 H1 C1 v R1 s1 hv h1 => ?_)
  obtain ⟨δ', e, h2⟩ := optS h1
  exact h2 _ _ _ (R1.putRv hv e) (L2.Same.refl _)
theorem s_set (hN : X.N.Nodup) (hi : X.N[i]? = some x) (hx : Loc X.env.scope x) (he : PE X e (tE T fa)) (hs : swapsWith e (some (.Name x p)) pos.line X.env = pure false) (hf : X.fn x = true ∨ X.env.scope.names.lookup x = some .local) :
    PS X (.Assign [.Name x p] e pos) (tS T (fSet i fa)) := QL.PS.imp (ps_set hN hi hx he hs hf) (set_read fun _ _ _ h => h)
theorem s_ex (he : PE X e (tE T fa)) (hs : swapsWith e none pos.line X.env = pure false) : PS X (.Expr e pos) (tS T fun δ => (fa δ).bind fun _ δ => .ok .nx δ) := QL.PS.imp (ps_expr he hs) fun D σ H h => by
  obtain ⟨C, δ, R, h⟩ := h
  exact tE.thenS R h fun r δ1 H1 C1 v R1 s1 hv h1 => h1 σ H1 C1 R1 (L2.Same.refl _)
theorem s_ret (he : PE X e (tE T fa)) : PS X (.Return (some e) pos) (tS T fun δ => (fa δ).bind fun r δ => .ok (.rt r) δ) := QL.PS.imp (ps_ret he) fun D σ H h => by
  obtain ⟨C, δ, R, h⟩ := h
  exact tE.thenS R h fun r δ1 H1 C1 v R1 s1 hv h1 => h1 v σ H1 C1 R1 (L2.Same.refl _) (RvR.back (R.al0) hv)
theorem s_retv (hN : X.N[i]? = some x) (hv : Vis X.env.scope x) (hd : (x == ("__debug__" : Str)) = false) (hcd : (x == ("__classdict__" : Str)) = false) : PS X (.Return (some (.Name x p)) pos) (tS T fun δ => (moveSl δ i).bind fun r δ => .ok (.rt r) δ) := by
  refine QL.PS.imp (ps_ret (pe_var hN hv hd hcd)) fun D σ H h => ?_
  obtain ⟨C, δ, R, h⟩ := h
  dsimp only at h
  cases e : moveSl δ i with
  | ok r δ' =>
    rw [e] at h
    obtain ⟨v, ev, R', hv⟩ := R.moved e
    exact ⟨v, ev, h v σ H C R' (L2.Same.refl _) hv⟩
  | er x δ' =>
    unfold moveSl at e
    split at e <;> cases e
  | no => rw [e] at h; exact h.elim
variable {ga gb : Env → Rs Fl} {sa sb : List Stmt} {st : Stmt}
abbrev fIf (fc : Env → Rs Rv) (ga gb : Env → Rs Fl) : Env → Rs Fl := fun δ => (fc δ).bind fun x δ => match x with
    | .fz (.bl true) => ga δ
    | .fz (.bl false) => gb δ
    | _ => .no
theorem s_if (hc : PT X c (tT T fc)) (ha : PSs X sa (tS T ga)) (hb : PSs X sb (tS T gb)) : PS X (.If c sa sb pos) (tS T (fIf fc ga gb)) := QL.PS.imp (ps_if hc ha hb) fun D σ H h => by
  obtain ⟨C, δ, R, h⟩ := h
  refine tT.thenS R h no_bool fun b δ1 H1 C1 R1 s1 h1 => ?_
  cases b with
  | true => exact iteT ⟨C1, δ1, R1, h1⟩
  | false => exact iteF ⟨C1, δ1, R1, h1⟩
theorem s_nil : PSs X [] (tS T fun δ => .ok .nx δ) := QL.PSs.imp pss_nil fun D σ H h => by
  obtain ⟨C, δ, R, h⟩ := h
  exact h σ H C R (L2.Same.refl _)
abbrev fSq (ga gb : Env → Rs Fl) : Env → Rs Fl := fun δ => (ga δ).bind fun f δ => match f with
    | .nx => gb δ
    | f => .ok f δ
theorem cons_rd : ∀ D σ H, tS T (fSq ga gb) D σ H → tSeq (tS T ga) (tS T gb) D σ H := fun D σ H h => by
  obtain ⟨C, δ, R, h⟩ := h
  refine ⟨C, δ, R, ?_⟩
  dsimp only [fSq] at h
  cases e : ga δ with
  | ok f δ1 =>
    rw [e] at h
    cases f with
    | nx => exact fun σ' H' C' R' s' => ⟨C', δ1, R', OutS.base h s'⟩
    | bk => exact h
    | ct => exact h
    | rt r => exact h
  | er x δ1 => rw [e] at h; exact h
  | no => rw [e] at h; exact h

theorem s_cons (ha : PS X st (tS T ga)) (hb : PSs X sb (tS T gb)) : PSs X (st :: sb) (tS T (fSq ga gb)) := QL.PSs.imp (pss_cons ha hb) cons_rd

/-! ### own lists changed in place -/
theorem live_sl {B : Bd} (R : Rl B σ H C δ) {ds : List QL.D} (h : liveSl δ i = some ds) : ∃ q xs, σ[i]? = some (some (V.ref q)) ∧ H q = some (.lst xs) ∧ Rps B.G C ds xs := by
  unfold liveSl at h
  split at h
  · rename_i e
    cases h
    obtain ⟨o, ho, q, xs, rfl, h1, _, _, h4⟩ := R.at_ e
    exact ⟨q, xs, ho, h1, h4⟩
  · rename_i e
    cases h
    obtain ⟨o, ho, q, xs, rfl, h1, _, _, h4⟩ := R.at_ e
    exact ⟨q, xs, ho, h1, h4⟩
  · cases h
abbrev fApp (i : Nat) (fa : Env → Rs Rv) : Env → Rs Fl := fun δ => (optR (liveSl δ i) δ).bind fun _ δ => (fa δ).bind fun y δ => (optR (chgSl δ i fun ds => if ds.length < LIM then some (ds ++ [y.d]) else none) δ).bind fun δ' _ => .ok .nx δ'
theorem s_app (hN : X.N[i]? = some x) (hv : Vis X.env.scope x) (hd : (x == ("__debug__" : Str)) = false) (hcd : (x == ("__classdict__" : Str)) = false) (he : PE X e (tE T fa)) (hs : starEach [e] X.env = (false, eval e X.env) :: starEach [] X.env) {ap : Pos}
    (hb : ∀ {to : TE} {t : TA}, PE X (.Name x p) to → PA X [e] t → PE X (.Call (.Attribute (.Name x p) "append" ap) [e] [] p2) (tBM X.K "list" rAppend to t)) :
    PS X (.Expr (.Call (.Attribute (.Name x p) "append" ap) [e] [] p2) pos) (tS T (fApp i fa)) := by
  refine QL.PS.imp (ps_expr (hb (pe_var hN hv hd hcd) (pa_cons he pa_nil hs)) rfl) fun D σ H h => ?_
  obtain ⟨C, δ, R, h⟩ := h
  obtain ⟨ds0, e0, h⟩ := optS h
  obtain ⟨q, xs, eq, hq, _⟩ := live_sl R e0
  refine ⟨_, eq, .inl ⟨rfl, xs, .of hq⟩, ?_⟩
  refine tE.thenD R h fun y δ1 H1 C1 v R1 s1 p1 h1 => ?_
  obtain ⟨δ', e1, h2⟩ := optS h1
  obtain ⟨q', xs1, ds, ds', g1, g2, g3, g4, g5, g6⟩ := R1.chg e1
  rw [eq] at g1
  cases g1
  split at g4
  · rename_i hl
    cases g4
    exact ⟨q, xs1, v, rfl, rfl, g2, by rw [← g3.len]; exact len_szlt hl, h2 _ _ _ (g6 _ (g3.append (.one p1))) (L2.Same.refl _)⟩
  · cases g4
abbrev fSix (i : Nat) (fk fa : Env → Rs Rv) : Env → Rs Fl := fun δ => (fa δ).bind fun y δ => (optR (liveSl δ i) δ).bind fun _ δ => (fk δ).bind fun x δ => match x.d with
    | .int j => (optR (chgSl δ i fun ds => (ixN ds.length j).map fun n => ds.set n y.d) δ).bind fun δ' _ => .ok .nx δ'
    | _ => .no
theorem s_six (hN : X.N[i]? = some x) (hv : Vis X.env.scope x) (hd : (x == ("__debug__" : Str)) = false) (hcd : (x == ("__classdict__" : Str)) = false) (hk : PE X b (tE T fb)) (he : PE X e (tE T fa)) {ap : Pos}
    (hb : ∀ {te to ti : TE}, PE X e te → PE X (.Name x p) to → PE X b ti → PS X (.Assign [.Subscript (.Name x p) b ap] e pos) (tAsg te (gSub to ti rSetL))) :
    PS X (.Assign [.Subscript (.Name x p) b ap] e pos) (tS T (fSix i fb fa)) := by
  refine QL.PS.imp (hb he (pe_var hN hv hd hcd) hk) fun D σ H h => ?_
  obtain ⟨C, δ, R, h⟩ := h
  refine tE.thenD R h fun y δ1 H1 C1 v R1 s1 p1 h1 => ?_
  obtain ⟨ds0, e0, h1⟩ := optS h1
  obtain ⟨q, xs, eq, hq, _⟩ := live_sl R1 e0
  refine ⟨_, eq, ?_⟩
  refine tE.thenD R1 h1 fun k δ2 H2 C2 w R2 s2 p2 h2 => ?_
  split at h2
  · rename_i j ej
    obtain ⟨δ', e1, h3⟩ := optS h2
    obtain ⟨q', xs1, ds, ds', g1, g2, g3, g4, g5, g6⟩ := R2.chg e1
    rw [eq] at g1
    cases g1
    obtain ⟨n, en, rfl⟩ := Option.map_eq_some_iff.mp g4
    rw [ej] at p2
    rw [g3.len] at en
    exact ⟨q, xs1, j, n, rfl, Rp.int.mp p2, g2, en, h3 _ _ _ (g6 _ (Rps.set (Rp.mono s2.cs _ _ p1) n g3)) (L2.Same.refl _)⟩
  · exact h2.elim

/-! ### targets -/
/-- what a target stores -/
def TgR (T : Tx) (is : List Nat) (g : TG) : Prop := ∀ (σ : L2.St) (H C : Hp) (δ δ' : Env) (d : QL.D) (v : V) (Q : L2.St → Hp → Prop), Rl T.B σ H C δ → Rp T.B.G C d v → bindT δ is d = some δ' → (∀ σ', Rl T.B σ' H C δ' → Q σ' H) → g v σ H Q
theorem tg_one : TgR T [i] (L2.gName i) := fun σ H C δ δ' d v Q R hr e k => k _ (R.putRv (Hb := H) (r := .fz d) hr e)
/-- rows of plain names -/
def tgs : List Nat → TGs
  | [] => L2.gNil
  | i :: is => L2.gCons (L2.gName i) (tgs is)
theorem tgs_read : ∀ {is : List Nat} {σ : L2.St} {δ δ' : Env} {ds : List QL.D} {vs : List V} {Q : L2.St → Hp → Prop}, Rl T.B σ H C δ → Rps T.B.G C ds vs → putAll δ is ds = some δ' → (∀ σ', Rl T.B σ' H C δ' → Q σ' H) → tgs is vs σ H Q
  | [], σ, δ, δ', ds, vs, Q, R, hr, e, k => by
    cases ds with
    | nil => cases e; exact ⟨Rps.nil.mp hr, k _ R⟩
    | cons d ds => cases e
  | i :: is, σ, δ, δ', ds, vs, Q, R, hr, e, k => by
    cases ds with
    | nil => cases e
    | cons d ds =>
      obtain ⟨x, r, rfl, h1, h2⟩ := Rps.cons.mp hr
      obtain ⟨δ1, e1, e2⟩ := Option.bind_eq_some_iff.mp (show ((putSl δ i (.fz d)).bind fun δ' => putAll δ' is ds) = some δ' from e)
      exact ⟨x, r, rfl, tgs_read (R.putRv (Hb := H) (r := .fz d) h1 e1) h2 e2 k⟩
theorem putAll_len : ∀ {is : List Nat} {ds : List QL.D} {δ δ' : Env}, putAll δ is ds = some δ' → ds.length = is.length
  | [], [], _, _, _ => rfl
  | [], _ :: _, _, _, e => by cases e
  | _ :: _, [], _, _, e => by cases e
  | i :: is, d :: ds, δ, δ', e => by
    obtain ⟨δ1, e1, e2⟩ := Option.bind_eq_some_iff.mp (show ((putSl δ i (.fz d)).bind fun δ' => putAll δ' is ds) = some δ' from e)
    rw [List.length_cons, List.length_cons, putAll_len e2]
theorem tg_tup (hK : X.K = T.B.G.K) {i j : Nat} {is : List Nat} : TgR T (i :: j :: is) (gTup X.K (i :: j :: is).length (tgs (i :: j :: is))) := fun σ H C δ δ' d v Q R hr e k => by
  cases d <;> first | (cases e; done) | skip
  rename_i ds
  obtain ⟨a, xs, rfl, h1, h2⟩ := Rp.tup.mp hr
  have e : putAll δ (i :: j :: is) ds = some δ' := e
  exact ⟨a, xs, rfl, hK ▸ QL.Same.sqT R.sub h1, by rw [← h2.len]; exact putAll_len e, tgs_read R h2 e k⟩
abbrev fTset (is : List Nat) (fa : Env → Rs Rv) : Env → Rs Fl := fun δ => (fa δ).bind fun r δ => match r.d with
    | .tup ds => (optR (putAll δ is ds) δ).bind fun δ' _ => .ok .nx δ'
    | _ => .no
theorem s_tset (hK : X.K = T.B.G.K) {is : List Nat} (he : PE X e (tE T fa)) (hb : ∀ {te : TE}, PE X e te → PS X (.Assign [tg] e pos) (tAsg te (gTup X.K is.length (tgs is)))) : PS X (.Assign [tg] e pos) (tS T (fTset is fa)) := by
  refine QL.PS.imp (hb he) fun D σ H h => ?_
  obtain ⟨C, δ, R, h⟩ := h
  refine tE.thenD R h fun r δ1 H1 C1 v R1 s1 p1 h1 => ?_
  split at h1
  · rename_i ds ed
    obtain ⟨δ', e1, h2⟩ := optS h1
    rw [ed] at p1
    obtain ⟨a, xs, rfl, g1, g2⟩ := Rp.tup.mp p1
    exact ⟨a, xs, rfl, hK ▸ QL.Same.sqT R1.sub g1, by rw [← g2.len]; exact putAll_len e1, tgs_read R1 g2 e1 fun σ' R' => h2 σ' H1 C1 R' (L2.Same.refl _)⟩
  · exact h1.elim

/-! ### loops -/
theorem tI.thenS {k : List QL.D → Env → Rs Fl} {Q : It → Hp → Prop} (R : Rl T.B σ H C δ) (h : OutS T C D ((fi δ).bind k))
    (hk : ∀ ds δ1 H1 C1 J, Rl T.B σ H1 C1 δ1 → Wk T.B.G C1 ds J → OutS T C1 D (k ds δ1) → Q J H1) : tI T fi σ H Q := by
  refine ⟨C, δ, R, ?_⟩
  cases e : fi δ with
  | ok r δ1 =>
    rw [e] at h
    intro H1 C1 R1 s1 J w
    exact hk r δ1 H1 C1 J R1 w (OutS.base h s1.cs)
  | er x δ1 =>
    rw [e] at h
    exact fun cls dd H' C' R' hx => h cls dd σ H' C' R' hx
  | no => rw [e] at h; exact h
abbrev fFor (is : List Nat) (fi : Env → Rs (List QL.D)) (gb : Env → Rs Fl) : Env → Rs Fl := fun δ => (fi δ).bind fun xs δ => forGo is gb xs δ
theorem for_rd {g : TG} {is : List Nat} (tr : TgR T is g) : ∀ D σ H, tS T (fFor is fi gb) D σ H → tFor (tI T fi) g (tS T gb) D σ H := fun D σ H h => by
  obtain ⟨C, δ, R, h⟩ := h
  refine tI.thenS R h fun ds δ1 H1 C1 J R1 wk h1 => ?_
  refine ⟨fun j m σ H => m = ds.length - j ∧ j ≤ ds.length ∧ ∃ C' δ', Rl T.B σ H C' δ' ∧ Same C1 C' ∧ OutS T C' D (forGo is gb (ds.drop j) δ'), ⟨ds.length, by simp, Nat.zero_le _, C1, δ1, R1, L2.Same.refl _, h1⟩, ?_⟩
  rintro j m σ' H' ⟨rfl, hj, C', δ', R', sc, ho⟩
  have sm : Same C1 H' := sc.trans R'.sub
  by_cases hlt : j < ds.length
  · refine .inr ⟨wk.go j H' sm hlt, fun σ2 H2 => ∃ C' δ', Rl T.B σ2 H2 C' δ' ∧ Same C1 C' ∧ OutS T C' D (forGo is gb (ds.drop (j + 1)) δ'), fun σ2 H2 z => ⟨ds.length - (j + 1), by omega, rfl, hlt, z⟩, fun x H'' y => ?_⟩
    obtain ⟨rfl, d, ed, rd⟩ := wk.yld j H' x H'' sm hlt y
    have edr : ds.drop j = d :: ds.drop (j + 1) := by
      rw [List.drop_eq_getElem_cons hlt]
      rw [List.getElem?_eq_getElem hlt] at ed
      cases ed
      rfl
    rw [edr] at ho
    unfold forGo at ho
    cases eb : bindT δ' is d with
    | none => rw [eb] at ho; exact ho.elim
    | some δ2 =>
      rw [eb] at ho
      dsimp only at ho
      refine tr σ' H'' C' δ' δ2 d x _ R' (Rp.mono sc _ _ rd) eb fun σ2 R2 => ⟨C', δ2, R2, ?_⟩
      cases ee : gb δ2 with
      | ok f δ3 =>
        rw [ee] at ho
        cases f with
        | nx => exact fun σ3 H3 C3 R3 s3 => ⟨C3, δ3, R3, sc.trans s3, OutS.base ho s3⟩
        | ct => exact fun σ3 H3 C3 R3 s3 => ⟨C3, δ3, R3, sc.trans s3, OutS.base ho s3⟩
        | bk => exact ho
        | rt r => exact ho
      | er x δ3 => rw [ee] at ho; exact ho
      | no => rw [ee] at ho; exact ho
  · refine .inl ⟨wk.stop j H' sm (by omega), ?_⟩
    rw [List.drop_eq_nil_of_le (by omega)] at ho
    exact ho σ' H' C' R' (L2.Same.refl _)
theorem s_for {g : TG} {is : List Nat} (hp : PassesOwn (model X.prog X.w) X.A X.env X.xe) (hc : X.calm = true) (hi : PI X tg a (tI T fi)) (hg : PG X tg g) (tr : TgR T is g) (hb : PSs X sb (tS T gb)) (hs : ∀ x, foldedSetIterable a X.env x = pure x) :
    PS X (.For tg a sb [] pos) (tS T (fFor is fi gb)) := QL.PS.imp (ps_for hp hc hi hg hb hs) (for_rd tr)
theorem s_whl (hp : PassesOwn (model X.prog X.w) X.A X.env X.xe) (hc : PT X c (tT T fc)) (hb : PSs X sb (tS T gb)) : PS X (.While c sb [] pos) (tS T fun δ => whlGo fc gb WH δ) := by
  refine QL.PS.imp (ps_while hp hc hb) fun D σ H h => ?_
  obtain ⟨C, δ, R, h⟩ := h
  refine ⟨fun m σ H => ∃ C' δ', Rl T.B σ H C' δ' ∧ Same C C' ∧ OutS T C' D (whlGo fc gb m δ'), ⟨WH, C, δ, R, L2.Same.refl _, h⟩, ?_⟩
  rintro m σ' H' ⟨C', δ', R', sc, ho⟩
  cases m with
  | zero => exact ho.elim
  | succ m =>
    unfold whlGo at ho
    refine tT.thenS R' ho ?_ fun b δ1 H1 C1 R1 s1 h1 => ?_
    · intro r δ hn
      exact no_bool (f := fun δ => (gb δ).bind fun f δ2 => match f with
        | .nx => whlGo fc gb m δ2
        | .ct => whlGo fc gb m δ2
        | .bk => .ok .nx δ2
        | .rt r => .ok (.rt r) δ2) (g := fun δ => .ok .nx δ) r δ hn
    · cases b with
      | false => exact iteF (h1 σ' H1 C1 R1 (L2.Same.refl _))
      | true =>
        refine iteT ⟨fun σ2 H2 => ∃ C' δ', Rl T.B σ2 H2 C' δ' ∧ Same C C' ∧ OutS T C' D (whlGo fc gb m δ'), fun σ2 H2 z => ⟨m, by omega, z⟩, C1, δ1, R1, ?_⟩
        dsimp only at h1
        cases ee : gb δ1 with
        | ok f δ3 =>
          rw [ee] at h1
          cases f with
          | nx => exact fun σ3 H3 C3 R3 s3 => ⟨C3, δ3, R3, (sc.trans s1.cs).trans s3, OutS.base h1 s3⟩
          | ct => exact fun σ3 H3 C3 R3 s3 => ⟨C3, δ3, R3, (sc.trans s1.cs).trans s3, OutS.base h1 s3⟩
          | bk => exact h1
          | rt r => exact h1
        | er x δ3 => rw [ee] at h1; exact h1
        | no => rw [ee] at h1; exact h1

/-! ### x op= e of whole numbers -/
abbrev fAug (i : Nat) (o : BOp) (fa : Env → Rs Rv) : Env → Rs Fl := fun δ => match δ[i]? with
    | some (.fz d) => (fa δ).bind fun y δ => match d, binD o d y.d with
      | .int _, some r => (optR (putSl δ i r) δ).bind fun δ' _ => .ok .nx δ'
      | _, _ => .no
    | _ => .no
theorem s_aug {o : BOp} {op : Operator} {g : Int → Int → Int} (hip : PIp X op (ipI g)) (ho : ∀ m dy r, binD o (.int m) dy = some r → ∃ n, dy = .int n ∧ r = .fz (.int (g m n))) (hN : X.N.Nodup) (hi : X.N[i]? = some x) (hx : Loc X.env.scope x) (he : PE X e (tE T fa)) (hf : X.fn x = true ∨ X.env.scope.names.lookup x = some .local) :
    PS X (.AugAssign (.Name x p) op e pos) (tS T (fAug i o fa)) := by
  refine QL.PS.imp (ps_aug hN hi hx he hip hf) fun D σ H h => ?_
  obtain ⟨C, δ, R, h⟩ := h
  dsimp only [fAug] at h
  cases e0 : δ[i]? with
  | none => rw [e0] at h; exact h.elim
  | some s =>
    rw [e0] at h
    cases s with
    | fz d =>
      obtain ⟨o', ho', v, rfl, hv⟩ := R.at_ e0
      refine ⟨v, ho', ?_⟩
      refine tE.thenD R h fun y δ1 H1 C1 w R1 s1 p1 h1 => ?_
      split at h1
      · rename_i m r em
        obtain ⟨n, en, rfl⟩ := ho _ _ _ em
        obtain ⟨δ', e1, h2⟩ := optS h1
        rw [en] at p1
        refine ⟨m, n, Rp.int.mp hv, Rp.int.mp p1, h2 _ _ _ (R1.putRv (Hb := H1) (r := .fz (.int (g m n))) (show Rp T.B.G C1 _ _ from Rp.int.mpr rfl) e1) (L2.Same.refl _)⟩
      · exact h1.elim
    | un => exact h.elim
    | lv ds => exact h.elim
    | lp ds => exact h.elim
    | dv ks ds => exact h.elim
theorem s_augadd (hN : X.N.Nodup) (hi : X.N[i]? = some x) (hx : Loc X.env.scope x) (he : PE X e (tE T fa)) (hf : X.fn x = true ∨ X.env.scope.names.lookup x = some .local) : PS X (.AugAssign (.Name x p) .Add e pos) (tS T (fAug i .add fa)) :=
  s_aug ip_add (fun m dy r h => by cases dy <;> cases h; exact ⟨_, rfl, rfl⟩) hN hi hx he hf
theorem s_augsub (hN : X.N.Nodup) (hi : X.N[i]? = some x) (hx : Loc X.env.scope x) (he : PE X e (tE T fa)) (hf : X.fn x = true ∨ X.env.scope.names.lookup x = some .local) : PS X (.AugAssign (.Name x p) .Sub e pos) (tS T (fAug i .sub fa)) :=
  s_aug ip_sub (fun m dy r h => by cases dy <;> cases h; exact ⟨_, rfl, rfl⟩) hN hi hx he hf
end
end QL

end
section
set_option Elab.async false
set_option linter.all false
set_option maxRecDepth 100000
/-! QK: targets that are tuples, at any depth: comprehensions and loops. -/
namespace QL
open PySem L2

def Pts.len : Pts → Nat
  | .nil => 0
  | .cons _ ps => ps.len + 1
mutual
def tgP (K : PySem.W.Frag) : Pt → TG
  | .n i => L2.gName i
  | .t ps => gTup K ps.len (tgPs K ps)
def tgPs (K : PySem.W.Frag) : Pts → TGs
  | .nil => L2.gNil
  | .cons p ps => L2.gCons (tgP K p) (tgPs K ps)
end
section
variable {T : Tx} {X : Cx} {σ : L2.St} {H C : Hp} {δ : Env}
/-- slots elsewhere stand -/
def Agr (is : List Nat) (σ σ' : L2.St) : Prop := σ'.length = σ.length ∧ ∀ j, j ∉ is → σ'[j]? = σ[j]?
theorem Agr.refl {is : List Nat} : Agr is σ σ := ⟨rfl, fun _ _ => rfl⟩
theorem Agr.trans {is : List Nat} {a b c : L2.St} (h : Agr is a b) (h' : Agr is b c) : Agr is a c := ⟨h'.1.trans h.1, fun j hj => (h'.2 j hj).trans (h.2 j hj)⟩
theorem Agr.mono {is js : List Nat} {a b : L2.St} (h : Agr is a b) (s : ∀ i ∈ is, i ∈ js) : Agr js a b := ⟨h.1, fun j hj => h.2 j fun z => hj (s j z)⟩
theorem wipe_get : ∀ (is : List Nat) (σ : L2.St) (j : Nat), (wipe σ is)[j]? = if j ∈ is ∧ j < σ.length then some none else σ[j]?
  | [], σ, j => by simp [wipe]
  | i :: is, σ, j => by
    unfold wipe
    by_cases e : i = j
    · subst e
      by_cases hl : i < σ.length
      · rw [List.getElem?_set_self (by rw [wipe_length]; exact hl), if_pos ⟨List.mem_cons_self .., hl⟩]
      · rw [if_neg (fun z => hl z.2), List.getElem?_eq_none (by rw [List.length_set, wipe_length]; omega), List.getElem?_eq_none (by omega)]
    · rw [List.getElem?_set_ne e, wipe_get is σ j]
      have : j ∈ i :: is ↔ j ∈ is := by rw [List.mem_cons]; exact ⟨fun z => z.elim (fun z => absurd z.symm e) id, .inr⟩
      simp only [this]
theorem Agr.wipe {is : List Nat} {a b : L2.St} (h : Agr is a b) : L2.wipe b is = L2.wipe a is := by
  apply List.ext_getElem?
  intro j
  rw [wipe_get, wipe_get, h.1]
  by_cases hj : j ∈ is
  · by_cases hl : j < a.length
    · rw [if_pos ⟨hj, hl⟩, if_pos ⟨hj, hl⟩]
    · rw [if_neg fun z => hl z.2, if_neg fun z => hl z.2, List.getElem?_eq_none (by rw [h.1]; omega), List.getElem?_eq_none (by omega)]
  · rw [if_neg fun z => hj z.1, if_neg fun z => hj z.1, h.2 j hj]
theorem agr_set {i : Nat} {v : Option V} : Agr [i] σ (σ.set i v) := ⟨List.length_set, fun j hj => List.getElem?_set_ne fun e => hj (by rw [e]; exact List.mem_singleton.mpr rfl)⟩
/-- nothing own comes -/
def OffS (σ : L2.St) (δ : Env) (σ' : L2.St) (δ' : Env) : Prop := ∀ a, Off σ δ a → Off σ' δ' a
mutual
theorem tgP_read (hK : X.K = T.B.G.K) : ∀ (p : Pt) {σ : L2.St} {δ δ' : Env} {d : QL.D} {v : V} {Q : L2.St → Hp → Prop}, Rl T.B σ H C δ → Rp T.B.G C d v → putPt δ p d = some δ' → (∀ σ', Rl T.B σ' H C δ' → Agr p.is σ σ' → OffS σ δ σ' δ' → Q σ' H) → tgP X.K p v σ H Q
  | .n i, σ, δ, δ', d, v, Q, R, hr, e, k => by
    refine k _ (R.putRv (Hb := H) (r := .fz d) hr e) agr_set fun a f => ?_
    have e : putSl δ i (.fz d) = some δ' := e
    unfold putSl at e
    split at e
    · cases e
    · cases e; exact Off.set rfl f
    · cases e
  | .t ps, σ, δ, δ', d, v, Q, R, hr, e, k => by
    cases d <;> first | (unfold putPt at e; cases e; done) | skip
    rename_i ds
    obtain ⟨a, xs, rfl, h1, h2⟩ := Rp.tup.mp hr
    obtain ⟨l, q⟩ := tgPs_read hK ps R h2 (by unfold putPt at e; exact e) k
    exact ⟨a, xs, rfl, hK ▸ QL.Same.sqT R.sub h1, l, q⟩
theorem tgPs_read (hK : X.K = T.B.G.K) : ∀ (ps : Pts) {σ : L2.St} {δ δ' : Env} {ds : List QL.D} {vs : List V} {Q : L2.St → Hp → Prop}, Rl T.B σ H C δ → Rps T.B.G C ds vs → putPts δ ps ds = some δ' → (∀ σ', Rl T.B σ' H C δ' → Agr ps.is σ σ' → OffS σ δ σ' δ' → Q σ' H) → vs.length = ps.len ∧ tgPs X.K ps vs σ H Q
  | .nil, σ, δ, δ', ds, vs, Q, R, hr, e, k => by
    cases ds with
    | nil =>
      have e : some δ = some δ' := by unfold putPts at e; exact e
      cases e
      have := Rps.nil.mp hr
      subst this
      exact ⟨rfl, rfl, k _ R .refl fun _ f => f⟩
    | cons d ds => unfold putPts at e; cases e
  | .cons p ps, σ, δ, δ', ds, vs, Q, R, hr, e, k => by
    cases ds with
    | nil => unfold putPts at e; cases e
    | cons d ds =>
      obtain ⟨x, r, rfl, h1, h2⟩ := Rps.cons.mp hr
      obtain ⟨δ1, e1, e2⟩ := Option.bind_eq_some_iff.mp (show ((putPt δ p d).bind fun δ' => putPts δ' ps ds) = some δ' by unfold putPts at e; exact e)
      have ll : r.length = ps.len := putPts_len ps e2 h2
      refine ⟨by rw [List.length_cons, ll]; rfl, x, r, rfl, tgP_read hK p R h1 e1 fun σ1 R1 a1 o1 => (tgPs_read hK ps R1 h2 e2 fun σ2 R2 a2 o2 => ?_).2⟩
      exact k σ2 R2 ((a1.mono fun i hi => List.mem_append_left _ hi).trans (a2.mono fun i hi => List.mem_append_right _ hi)) fun a f => o2 a (o1 a f)
theorem putPts_len : ∀ (ps : Pts) {δ δ' : Env} {ds : List QL.D} {vs : List V}, putPts δ ps ds = some δ' → Rps T.B.G C ds vs → vs.length = ps.len
  | .nil, δ, δ', ds, vs, e, hr => by
    cases ds with
    | nil => rw [Rps.nil.mp hr]; rfl
    | cons d ds => unfold putPts at e; cases e
  | .cons p ps, δ, δ', ds, vs, e, hr => by
    cases ds with
    | nil => unfold putPts at e; cases e
    | cons d ds =>
      obtain ⟨x, r, rfl, h1, h2⟩ := Rps.cons.mp hr
      obtain ⟨δ1, e1, e2⟩ := Option.bind_eq_some_iff.mp (show ((putPt δ p d).bind fun δ' => putPts δ' ps ds) = some δ' by unfold putPts at e; exact e)
      rw [List.length_cons, putPts_len ps e2 h2]; rfl
end
/-! ### slots forgotten and put back -/
theorem Rl.wipe {B : Bd} : ∀ (is : List Nat), Rl B σ H C δ → Rl B (L2.wipe σ is) H C (wipeE δ is) ∧ OffS σ δ (L2.wipe σ is) (wipeE δ is)
  | [], R => ⟨R, fun _ f => f⟩
  | i :: is, R => by
    obtain ⟨R1, o1⟩ := Rl.wipe is R
    exact ⟨R1.put (s := .un) (o := none) rfl trivial, fun a f => Off.set rfl (o1 a f)⟩
theorem wipeE_len : ∀ (is : List Nat), (wipeE δ is).length = δ.length
  | [] => rfl
  | i :: is => by unfold wipeE; rw [List.length_set, wipeE_len is]
/-- the slots' values put back -/
def backS (σ0 : L2.St) (σ : L2.St) : List Nat → L2.St
  | [] => σ
  | i :: is => match σ0[i]? with
    | some o => (backS σ0 σ is).set i o
    | none => backS σ0 σ is
theorem backS_len {σ0 σ : L2.St} : ∀ is : List Nat, (backS σ0 σ is).length = σ.length
  | [] => rfl
  | i :: is => by
    unfold backS
    split
    · rw [List.length_set, backS_len is]
    · exact backS_len is
theorem backS_get {σ0 σ : L2.St} (hl : σ.length = σ0.length) : ∀ (is : List Nat) (j : Nat), (backS σ0 σ is)[j]? = if j ∈ is then σ0[j]? else σ[j]?
  | [], j => by simp [backS]
  | i :: is, j => by
    unfold backS
    have ih := backS_get hl is j
    by_cases e : i = j
    · subst e
      rw [if_pos (List.mem_cons_self ..)]
      cases h : σ0[i]? with
      | none =>
        dsimp only
        have : σ0.length ≤ i := List.getElem?_eq_none_iff.mp h
        exact List.getElem?_eq_none (by rw [backS_len, hl]; exact this)
      | some o =>
        dsimp only
        have : i < σ0.length := (List.getElem?_eq_some_iff.mp h).1
        exact List.getElem?_set_self (by rw [backS_len, hl]; exact this)
    · have hm : j ∈ i :: is ↔ j ∈ is := by rw [List.mem_cons]; exact ⟨fun z => z.elim (fun z => absurd z.symm e) id, .inr⟩
      cases h : σ0[i]? with
      | none => dsimp only; rw [ih]; simp only [hm]
      | some o => dsimp only; rw [List.getElem?_set_ne e, ih]; simp only [hm]
theorem backS_wipe (is : List Nat) : backS σ (L2.wipe σ is) is = σ := by
  apply List.ext_getElem?
  intro j
  rw [backS_get (wipe_length σ is), wipe_get]
  by_cases hj : j ∈ is
  · rw [if_pos hj]
  · rw [if_neg hj, if_neg fun z => hj z.1]
theorem lcSl_some {i : Nat} {s : Sl} (h : lcSl δ i = some s) : δ[i]? = some s ∧ isLv s = false := by
  unfold lcSl at h
  split at h
  · rename_i e; cases h; exact ⟨e, rfl⟩
  · rename_i d e; cases h; exact ⟨e, rfl⟩
  · cases h
/-- from the forgotten slots back -/
theorem Rl.back {B : Bd} {σ0 : L2.St} {H0 C0 : Hp} {δ0 : Env} (R0 : Rl B σ0 H0 C0 δ0) : ∀ (is : List Nat) (ss : List Sl), lcSls δ0 is = some ss → Same C0 C → Rl B σ H C δ → σ.length = σ0.length → Rl B (backS σ0 σ is) H C (backE δ is ss) ∧ OffS σ δ (backS σ0 σ is) (backE δ is ss)
  | [], ss, e, _, R, _ => by
    cases e
    exact ⟨R, fun _ f => f⟩
  | i :: is, ss, e, sc, R, hl => by
    obtain ⟨s, e1, e2⟩ := Option.bind_eq_some_iff.mp (show ((lcSl δ0 i).bind fun s => (lcSls δ0 is).map fun r => s :: r) = some ss from e)
    obtain ⟨r, e3, rfl⟩ := Option.map_eq_some_iff.mp e2
    obtain ⟨R1, o1⟩ := Rl.back R0 is r e3 sc R hl
    obtain ⟨hs, hv⟩ := lcSl_some e1
    obtain ⟨o, ho, so⟩ := R0.at_ hs
    unfold backS backE
    rw [ho]
    dsimp only
    have so' : SlotR B H C i s o := so.mono sc fun a u l _ _ _ => by rw [hv] at l; cases l
    exact ⟨R1.put hv so', fun a f => Off.set hv (o1 a f)⟩
end
/-! ### a comprehension -/
section
variable {T : Tx} {X : Cx} {σ : L2.St} {H C : Hp} {δ : Env} {fi : Env → Rs (List D)} {fc fe : Env → Rs Rv} {tt : TT} {pt : Pt}
theorem lctGo_cons {p : Pt} {tst elt : Env → Rs Rv} {x : D} {xs acc : List D} : lctGo p tst elt (x :: xs) acc δ = match putPt δ p x with
    | none => .no
    | some δ0 => (tst δ0).ne.bind fun b δ1 => match b with
      | .fz (.bl true) => (elt δ1).ne.bind fun r δ2 => if acc.length < LIM then lctGo p tst elt xs (acc ++ [r.d]) (wipeE δ2 p.is) else .no
      | .fz (.bl false) => lctGo p tst elt xs acc (wipeE δ1 p.is)
      | _ => .no := rfl
/-- between two turns -/
def LpI (T : Tx) (σw : L2.St) (Hb Cb : Hp) (δb : Env) (p : Pt) (tst elt : Env → Rs Rv) (q : Addr) (ds : List D) (j : Nat) (H : Hp) : Prop :=
  ∃ (C : Hp) (δ : Env) (acc : List D) (av : List V), Rl T.B σw H C δ ∧ Stp σw Hb Cb δb H C δ ∧ H q = some (.lst av) ∧ C q = none ∧ Off σw δ q ∧ Rps T.B.G C acc av ∧
    lctGo p tst elt (ds.drop j) acc δ = lctGo p tst elt ds [] δb
theorem lct_read {Q : VK} (hK : X.K = T.B.G.K) (htt : ∀ σ H Q, tT T.nx fc σ H Q → tt σ H Q) (h : tE T (fun δ => (fi δ).bind fun xs δ => lctRun pt fc fe xs δ) σ H Q) : tLc (tI T fi) (tgP X.K pt) tt (tE T.nx fe) pt.is σ H Q := by
  obtain ⟨C, δ, R, h⟩ := h
  refine ⟨C, δ, R, ?_⟩
  cases ei : fi δ with
  | er x δ1 => dsimp only at h; rw [ei] at h; exact h
  | no => dsimp only at h; rw [ei] at h; exact h
  | ok ds δ1 =>
    dsimp only at h
    rw [ei] at h
    intro H1 C1 R1 s1 J wk
    have h : Out T σ H C δ (fun r H' C' δ' => ∀ v, RvR T.B σ H H' C' δ' r v → Q v H') (lctRun pt fc fe ds δ1) := h
    have h := Out.base h s1
    unfold lctRun at h
    cases es : lcSls δ1 pt.is with
    | none => rw [es] at h; exact h.elim
    | some ss =>
      rw [es] at h
      dsimp only at h
      obtain ⟨R1w, o1w⟩ := Rl.wipe pt.is R1
      intro q hq
      obtain ⟨R2, s2, q1, q2, q3⟩ := R1w.newO (.lst []) hq
      have back : ∀ {H' C' : Hp} {δ' : Env} {acc : List D} {av : List V}, Rl T.B (wipe σ pt.is) H' C' δ' → Stp (wipe σ pt.is) H1 C1 (wipeE δ1 pt.is) H' C' δ' → H' q = some (.lst av) → C' q = none → Off (wipe σ pt.is) δ' q → Rps T.B.G C' acc av →
          Rl T.B σ H' C' (backE δ' pt.is ss) ∧ Stp σ H1 C1 δ1 H' C' (backE δ' pt.is ss) ∧ RvR T.B σ H H' C' (backE δ' pt.is ss) (.lv acc) (.ref q) := fun {H' C' δ' acc av} R' s' h1 h2 h3 h4 => by
        obtain ⟨Rn, on⟩ := Rl.back R1 pt.is ss es s'.cs R' (wipe_length σ pt.is)
        rw [backS_wipe] at Rn on
        refine ⟨Rn, ⟨s'.cs, fun a u e f => s'.fr a u e (o1w a f), fun a u e f => on a (s'.off a u e (o1w a f)), fun a u e n f => s'.cn a u e n (o1w a f), s'.al⟩, q, av, rfl, h1, h2, ⟨q2, s1.al _ hq⟩, on _ h3, h4⟩
      have hL : lctGo pt fc fe ds [] (wipeE δ1 pt.is) ≠ .no := fun z => by
        rw [z] at h
        exact h
      refine ⟨fun j m H' => m = ds.length - j ∧ j ≤ ds.length ∧ LpI T (wipe σ pt.is) H1 C1 (wipeE δ1 pt.is) pt fc fe q ds j H', ⟨ds.length, by simp, Nat.zero_le _, C1, _, [], [], R2, s2, upd_same, q1, q3, Rps.nil.mpr rfl, rfl⟩, ?_⟩
      rintro j m H' ⟨rfl, hj, C', δ', acc, av, R', s', h1, h2, h3, h4, h6⟩
      have sm : Same C1 H' := s'.cs.trans R'.sub
      by_cases hlt : j < ds.length
      · refine .inr ⟨wk.go j H' sm hlt, fun H'' => LpI T (wipe σ pt.is) H1 C1 (wipeE δ1 pt.is) pt fc fe q ds (j + 1) H'', fun H'' z => ⟨ds.length - (j + 1), by omega, rfl, hlt, z⟩, fun x H'' y => ?_⟩
        obtain ⟨rfl, d, ed, rd⟩ := wk.yld j H' x H'' sm hlt y
        have edr : ds.drop j = d :: ds.drop (j + 1) := by
          rw [List.drop_eq_getElem_cons hlt]
          rw [List.getElem?_eq_getElem hlt] at ed
          cases ed
          rfl
        rw [edr] at h6
        rw [lctGo_cons] at h6
        cases ep : putPt δ' pt d with
        | none => rw [ep] at h6; exact absurd h6.symm hL
        | some δx =>
          rw [ep] at h6
          dsimp only at h6
          refine tgP_read hK pt R' (Rp.mono s'.cs _ _ rd) ep fun σ2 Rx ag ox => ?_
          have hsw : wipe σ2 pt.is = wipe σ pt.is := by
            have w2 : wipe (wipe σ pt.is) pt.is = wipe σ pt.is := by
              apply List.ext_getElem?
              intro j
              rw [wipe_get, wipe_length, wipe_get]
              by_cases hj : j ∈ pt.is ∧ j < σ.length
              · rw [if_pos hj, if_pos hj]
              · rw [if_neg hj, if_neg hj]
            rw [← w2]
            exact ag.wipe
          refine ⟨hsw, htt _ _ _ ⟨C', _, Rx, ?_⟩⟩
          cases et : fc δx with
          | er x δ3 => rw [et] at h6; exact absurd h6.symm hL
          | no => rw [et] at h6; exact absurd h6.symm hL
          | ok r δ3 =>
            rw [et] at h6
            intro H3 C3 R3 s3
            have turn : ∀ {H4 C4 : Hp} {δ4 : Env}, Rl T.B σ2 H4 C4 δ4 → Stp σ2 H'' C' δx H4 C4 δ4 → Rl T.B (wipe σ pt.is) H4 C4 (wipeE δ4 pt.is) ∧ Stp (wipe σ pt.is) H1 C1 (wipeE δ1 pt.is) H4 C4 (wipeE δ4 pt.is) ∧ H4 q = some (.lst av) ∧ C4 q = none ∧ Off (wipe σ pt.is) (wipeE δ4 pt.is) q := fun {H4 C4 δ4} R4 s4 => by
              obtain ⟨Rn, on⟩ := Rl.wipe pt.is R4
              rw [hsw] at Rn on
              have st : Stp (wipe σ pt.is) H'' C' δ' H4 C4 (wipeE δ4 pt.is) := ⟨s4.cs, fun a u e f => s4.fr a u e (ox a f), fun a u e f => on a (s4.off a u e (ox a f)), fun a u e n f => s4.cn a u e n (ox a f), s4.al⟩
              exact ⟨Rn, s'.trans st, s4.fr q _ h1 (ox q h3), s4.cn q _ h1 h2 (ox q h3), on q (s4.off q _ h1 (ox q h3))⟩
            cases r with
            | lv _ => exact absurd h6.symm hL
            | dv _ _ => exact absurd h6.symm hL
            | fz dd =>
              cases dd with
              | bl bb =>
                cases bb with
                | false =>
                  obtain ⟨Rn, st, n1, n2, n3⟩ := turn R3 s3
                  refine iteF ?_
                  exact ⟨C3, _, acc, av, Rn, st, n1, n2, n3, Rps.mono s3.cs _ _ h4, h6⟩
                | true =>
                  refine iteT ⟨C3, δ3, R3, ?_⟩
                  have h7 : ((fe δ3).ne.bind fun r δ2 => if acc.length < LIM then lctGo pt fc fe (ds.drop (j + 1)) (acc ++ [r.d]) (wipeE δ2 pt.is) else .no) = lctGo pt fc fe ds [] (wipeE δ1 pt.is) := h6
                  cases ee : fe δ3 with
                  | er x δ4 => rw [ee] at h7; exact absurd h7.symm hL
                  | no => rw [ee] at h7; exact absurd h7.symm hL
                  | ok r4 δ4 =>
                    rw [ee] at h7
                    intro H4 C4 R4 s4 v hv
                    obtain ⟨C5, R5, s5, rv⟩ := R4.frz s4 hv
                    obtain ⟨Rn, st, n1, n2, n3⟩ := turn R5 (s3.trans s5)
                    have h8 : (if acc.length < LIM then lctGo pt fc fe (ds.drop (j + 1)) (acc ++ [r4.d]) (wipeE δ4 pt.is) else .no) = lctGo pt fc fe ds [] (wipeE δ1 pt.is) := h7
                    split at h8
                    · rename_i hl
                      refine ⟨av, n1, by rw [← h4.len]; exact len_szlt hl, C5, _, acc ++ [r4.d], av ++ [v], Rn.chgO n1 n2 q2 n3, upd_stp (B := T.B) st n1 hq, upd_same, n2, n3, ?_, h8⟩
                      exact (Rps.mono s5.cs _ _ (Rps.mono s3.cs _ _ h4)).append (.one rv)
                    · exact absurd h8.symm hL
              | _ => exact absurd h6.symm hL
      · refine .inl ⟨wk.stop j H' sm (by omega), ?_⟩
        have e0 : ds.drop j = [] := List.drop_eq_nil_of_le (by omega)
        rw [e0] at h6
        have h6 : Rs.ok acc δ' = lctGo pt fc fe ds [] (wipeE δ1 pt.is) := h6
        rw [← h6] at h
        obtain ⟨Rn, sn, rv⟩ := back R' s' h1 h2 h3 h4
        exact h H' C' Rn sn _ rv
variable {elt iter tg : Expr} {ifs : List Expr} {scope : Scope} {pos : Pos} {own : List (Str × Nat)}
abbrev fLct (p : Pt) (fi : Env → Rs (List D)) (fc fe : Env → Rs Rv) : Env → Rs Rv := fun δ => (fi δ).bind fun xs δ => lctRun p fc fe xs δ
theorem s_lct (hK : X.K = T.B.G.K) (hc : X.calm = true) (hN : X.N.Nodup) (hi : PI X tg iter (tI T fi)) (ok : BlkOk X.N X.env.scope scope own) (ho : own.map (·.2) = pt.is) (htt : ∀ σ H Q, tT T.nx fc σ H Q → tt σ H Q)
    (hg : ∀ (s : Shared) (H : Hp) (C : Addr) (cl : List (Str × Addr)) (fp : List Addr), PG (X.blk s H scope (compEnvC scope cl C X.env) fp) tg (tgP X.K pt)) (ht : ∀ (s : Shared) (H : Hp) (C : Addr) (cl : List (Str × Addr)) (fp : List Addr), PTs (X.blk s H scope (compEnvC scope cl C X.env) fp) ifs tt)
    (he : ∀ (s : Shared) (H : Hp) (C : Addr) (cl : List (Str × Addr)) (fp : List Addr), PE (X.blk s H scope (compEnvC scope cl C X.env) fp) elt (tE T.nx fe)) (hs : ∀ x, foldedSetIterable iter X.env x = pure x) :
    PE X (.ListComp elt [⟨tg, iter, ifs, 0⟩] scope pos) (tE T (fLct pt fi fc fe)) := QL.PE.imp (pe_lc hc hN hi ok hg ht he hs) fun σ H Q h => by
  rw [ho]
  exact lct_read hK htt h
/-! ### a loop -/
variable {sb : List Stmt} {gb : Env → Rs Fl} {a : Expr}
def TgP (T : Tx) (p : Pt) (g : TG) : Prop := ∀ (σ : L2.St) (H C : Hp) (δ δ' : Env) (d : QL.D) (v : V) (Q : L2.St → Hp → Prop), Rl T.B σ H C δ → Rp T.B.G C d v → putPt δ p d = some δ' → (∀ σ', Rl T.B σ' H C δ' → Q σ' H) → g v σ H Q
theorem tgP_tg (hK : X.K = T.B.G.K) : TgP T pt (tgP X.K pt) := fun σ H C δ δ' d v Q R hr e k => tgP_read hK pt R hr e fun σ' R' _ _ => k σ' R'
abbrev fForp (p : Pt) (fi : Env → Rs (List QL.D)) (gb : Env → Rs Fl) : Env → Rs Fl := fun δ => (fi δ).bind fun xs δ => forpGo p gb xs δ
theorem forp_rd {g : TG} (tr : TgP T pt g) : ∀ D σ H, tS T (fForp pt fi gb) D σ H → tFor (tI T fi) g (tS T gb) D σ H := fun D σ H h => by
  obtain ⟨C, δ, R, h⟩ := h
  refine tI.thenS R h fun ds δ1 H1 C1 J R1 wk h1 => ?_
  refine ⟨fun j m σ H => m = ds.length - j ∧ j ≤ ds.length ∧ ∃ C' δ', Rl T.B σ H C' δ' ∧ Same C1 C' ∧ OutS T C' D (forpGo pt gb (ds.drop j) δ'), ⟨ds.length, by simp, Nat.zero_le _, C1, δ1, R1, L2.Same.refl _, h1⟩, ?_⟩
  rintro j m σ' H' ⟨rfl, hj, C', δ', R', sc, ho⟩
  have sm : Same C1 H' := sc.trans R'.sub
  by_cases hlt : j < ds.length
  · refine .inr ⟨wk.go j H' sm hlt, fun σ2 H2 => ∃ C' δ', Rl T.B σ2 H2 C' δ' ∧ Same C1 C' ∧ OutS T C' D (forpGo pt gb (ds.drop (j + 1)) δ'), fun σ2 H2 z => ⟨ds.length - (j + 1), by omega, rfl, hlt, z⟩, fun x H'' y => ?_⟩
    obtain ⟨rfl, d, ed, rd⟩ := wk.yld j H' x H'' sm hlt y
    have edr : ds.drop j = d :: ds.drop (j + 1) := by
      rw [List.drop_eq_getElem_cons hlt]
      rw [List.getElem?_eq_getElem hlt] at ed
      cases ed
      rfl
    rw [edr] at ho
    unfold forpGo at ho
    cases eb : putPt δ' pt d with
    | none => rw [eb] at ho; exact ho.elim
    | some δ2 =>
      rw [eb] at ho
      dsimp only at ho
      refine tr σ' H'' C' δ' δ2 d x _ R' (Rp.mono sc _ _ rd) eb fun σ2 R2 => ⟨C', δ2, R2, ?_⟩
      cases ee : gb δ2 with
      | ok f δ3 =>
        rw [ee] at ho
        cases f with
        | nx => exact fun σ3 H3 C3 R3 s3 => ⟨C3, δ3, R3, sc.trans s3, OutS.base ho s3⟩
        | ct => exact fun σ3 H3 C3 R3 s3 => ⟨C3, δ3, R3, sc.trans s3, OutS.base ho s3⟩
        | bk => exact ho
        | rt r => exact ho
      | er x δ3 => rw [ee] at ho; exact ho
      | no => rw [ee] at ho; exact ho
  · refine .inl ⟨wk.stop j H' sm (by omega), ?_⟩
    rw [List.drop_eq_nil_of_le (by omega)] at ho
    exact ho σ' H' C' R' (L2.Same.refl _)
theorem s_forp {g : TG} (hp : PassesOwn (model X.prog X.w) X.A X.env X.xe) (hc : X.calm = true) (hi : PI X tg a (tI T fi)) (hg : PG X tg g) (tr : TgP T pt g) (hb : PSs X sb (tS T gb)) (hs : ∀ x, foldedSetIterable a X.env x = pure x) :
    PS X (.For tg a sb [] pos) (tS T (fForp pt fi gb)) := QL.PS.imp (ps_for hp hc hi hg hb hs) (forp_rd tr)
end
/-! ### targets held against the text's -/
mutual
def ptE (nm : Nat → Expr → Bool) : Pt → Expr → Bool
  | .n i, e => nm i e
  | .t ps, e => (match e with
    | .Tuple es _ _ => ptEs nm ps es
    | _ => false)
def ptEs (nm : Nat → Expr → Bool) : Pts → List Expr → Bool
  | .nil, l => (match l with
    | [] => true
    | _ => false)
  | .cons p ps, l => (match l with
    | e :: es => ptE nm p e && ptEs nm ps es
    | [] => false)
end
theorem assignEach_c {e : Expr} {es : List Expr} {env : PySem.Env} (h : ∀ v p, e ≠ .Starred v p) : assignEach (e :: es) env = (false, assign e env) :: assignEach es env := by
  cases e <;> first | rfl | exact absurd rfl (h _ _)
section
variable {X : Cx} {nm : Nat → Expr → Bool}
mutual
theorem pg_pt (hc : X.calm = true) (h1 : ∀ i e, nm i e = true → PG X e (L2.gName i) ∧ ∀ v p, e ≠ .Starred v p) : ∀ (p : Pt) (e : Expr), ptE nm p e = true → PG X e (tgP X.K p) ∧ ∀ v q, e ≠ .Starred v q
  | .n i, e, h => h1 i e (by unfold ptE at h; exact h)
  | .t ps, e, h => by
    unfold ptE at h
    split at h
    · obtain ⟨q1, q2, q3⟩ := pg_pts hc h1 ps _ h
      exact ⟨pg_tup hc q1 q2 q3, fun _ _ z => by cases z⟩
    · cases h
theorem pg_pts (hc : X.calm = true) (h1 : ∀ i e, nm i e = true → PG X e (L2.gName i) ∧ ∀ v p, e ≠ .Starred v p) : ∀ (ps : Pts) (es : List Expr), ptEs nm ps es = true → PGs X es (tgPs X.K ps) ∧ (assignEach es X.env).length = ps.len ∧ List.findIdx? (fun x => x.fst) (assignEach es X.env) = none
  | .nil, es, h => by
    unfold ptEs at h
    split at h
    · exact ⟨pgs_nil, rfl, rfl⟩
    · cases h
  | .cons p ps, es, h => by
    unfold ptEs at h
    split at h
    · rename_i e es
      obtain ⟨h2, h3⟩ := Bool.and_eq_true_iff.mp h
      obtain ⟨q1, q2⟩ := pg_pt hc h1 p e h2
      obtain ⟨q3, q4, q5⟩ := pg_pts hc h1 ps es h3
      have ae := assignEach_c (es := es) (env := X.env) q2
      refine ⟨pgs_cons q1 q3 (by rw [ae]; rfl), ?_, ?_⟩
      · rw [ae, List.length_cons, q4]; rfl
      · rw [ae, List.findIdx?_cons, q5]; rfl
    · cases h
end
end
end QL

end
section
set_option Elab.async false
set_option linter.all false
set_option maxRecDepth 100000
/-! QM: a match statement over constants. -/
namespace QL
open PySem PySem.Spec PyProof.Rows L2

/-- the cases, v the subject -/
structure PC (X : Cx) (cs : List MatchCase) (t : V → TS) : Prop where
  run : ∀ (first : Bool) (pins : List (Addr × Obj)) (s : Shared) (σ : L2.St) (H : Hp) (D : Ends) (v : V) (u : Value), L2.Inv X pins σ H s → RelV v u → t v D σ H → wpAny (model X.prog X.w) X.A (matchCases cs X.env u first) (SP X pins D) X.xe s
theorem PC.imp {X : Cx} {cs : List MatchCase} {t t' : V → TS} (h : PC X cs t) (i : ∀ v D σ H, t' v D σ H → t v D σ H) : PC X cs t' := ⟨fun first pins s σ H D v u I r q => h.run first pins s σ H D v u I r (i v D σ H q)⟩
section
variable {X : Cx} {value : Expr} {body : List Stmt} {rest : List MatchCase} {p pos : Pos} {r : R2} {te : TE} {tb : TS} {tr : V → TS}
theorem pc_nil : PC X [] (fun _ D σ H => D.nx σ H) := ⟨fun _ pins s σ H D v u I _ q => wpAny_pure ⟨σ, H, I, q⟩⟩
theorem pc_val (ho : OpR X (compareOp .Eq) r) (hv : PE X value te) (hb : PSs X body tb) (hr : PC X rest tr) : PC X (⟨.MatchValue value p, none, body⟩ :: rest) (fun v D σ H => te σ H fun y H1 => r v y H1 fun z H2 => ∃ k, z = .bl k ∧ if k = true then tb D σ H2 else tr v D σ H2) := by
  refine ⟨fun first pins s σ H D v u I ru h => ?_⟩
  unfold matchCases
  refine wpAny_bind (wpAny_holding ?_)
  show wpAny _ _ (do
    let v' ← eval value X.env
    standAt p
    if ← truthy (← compareOp .Eq u v') then pure (some []) else pure none) _ _ _
  refine wpAny_bind (thn (hv.run pins s σ H _ I h) fun y' s1 ⟨y, H1, I1, r1, q1⟩ => wpAny_bind (wpAny_standAt (wpAny_bind (thn (ho pins s1 σ H1 v y u y' _ I1 ru r1 q1) fun d s2 ⟨z, H2, I2, r2, k, e, q2⟩ => ?_))))
  subst e
  cases r2
  refine wpAny_bind (wpAny_truthy_bool ?_)
  cases k with
  | true =>
    refine wpAny_pure ?_
    refine wpAny_bind (wpAny_holding ?_)
    show wpAny _ _ (pure ()) _ _ _
    refine wpAny_pure (wpAny_bind (wpAny_pure ?_))
    exact hb.run pins s2 σ H2 D I2 (by simpa using q2)
  | false =>
    refine wpAny_pure ?_
    exact hr.run false pins s2 σ H2 D v u I2 ru (by simpa using q2)
theorem pc_any (hb : PSs X body tb) : PC X (⟨.MatchAs none none p, none, body⟩ :: rest) (fun _ D σ H => tb D σ H) := by
  refine ⟨fun first pins s σ H D v u I ru h => ?_⟩
  unfold matchCases
  refine wpAny_bind (wpAny_holding ?_)
  show wpAny _ _ (pure (some [])) _ _ _
  refine wpAny_pure (wpAny_bind (wpAny_holding ?_))
  show wpAny _ _ (pure ()) _ _ _
  refine wpAny_pure (wpAny_bind (wpAny_pure ?_))
  exact hb.run pins s σ H D I h
theorem ps_match (he : PE X value te) (hc : PC X rest tr) : PS X (.Match value rest pos) (fun D σ H => te σ H fun v H1 => tr v D σ H1) := by
  refine ⟨fun pins s σ H D I h => ?_⟩
  show wpAny _ _ (do
    standAt pos
    let v ← eval value X.env
    matchCases rest X.env v true) _ _ _
  exact wpAny_bind (wpAny_standAt (wpAny_bind (thn (he.run pins s σ H _ I h) fun u s1 ⟨v, H1, I1, r1, q1⟩ => hc.run true pins s1 σ H1 D v u I1 r1 q1)))
end

/-! ### by the small syntax -/
def tM (T : Tx) (f : QL.D → Env → Rs Fl) : V → TS := fun v D σ H => ∃ C δ x, Rl T.B σ H C δ ∧ Rp T.B.G C x v ∧ OutS T C D (f x δ)
section
variable {T : Tx} {X : Cx} {e value : Expr} {body : List Stmt} {rest : List MatchCase} {p pos : Pos} {fa : Env → Rs Rv} {gb : Env → Rs Fl} {fm : QL.D → Env → Rs Fl}
theorem s_mnil : PC X [] (tM T fun _ δ => .ok .nx δ) := QL.PC.imp pc_nil fun v D σ H h => by
  obtain ⟨C, δ, x, R, _, h⟩ := h
  exact h σ H C R (L2.Same.refl _)
theorem s_many (hb : PSs X body (tS T gb)) : PC X (⟨.MatchAs none none p, none, body⟩ :: rest) (tM T fun _ δ => gb δ) := QL.PC.imp (pc_any hb) fun v D σ H h => by
  obtain ⟨C, δ, x, R, _, h⟩ := h
  exact ⟨C, δ, R, h⟩
abbrev fMv (d : QL.D) (gb : Env → Rs Fl) (fm : QL.D → Env → Rs Fl) : QL.D → Env → Rs Fl := fun x δ => match eqED false x d with
    | some true => gb δ
    | some false => fm x δ
    | none => .no
theorem s_mval {d : QL.D} (hK : X.K = T.B.G.K) (hu : X.A.units + 64 < cLine) (hv : PE X value (tE T fun δ => .ok (.fz d) δ)) (hb : PSs X body (tS T gb)) (hr : PC X rest (tM T fm)) : PC X (⟨.MatchValue value p, none, body⟩ :: rest) (tM T (fMv d gb fm)) := by
  obtain ⟨r, ho, hf⟩ := oc_eq (T := T) hK hu
  refine QL.PC.imp (pc_val ho hv hb hr) fun v D σ H h => ?_
  obtain ⟨C, δ, x, R, hx, h⟩ := h
  refine ⟨C, δ, R, fun H1 C1 R1 s1 y hy => ?_⟩
  have hy : Rp T.B.G C1 d y := hy
  dsimp only [fMv] at h
  cases e : eqED false x d with
  | none => rw [e] at h; exact h.elim
  | some b =>
    rw [e] at h
    refine hf σ H1 C1 δ v y x d (.fz (.bl b)) _ R1 (Rp.mono s1.cs _ _ hx) hy (by show bR (eqED false x d) = _; rw [e]; rfl) fun z H2 C2 R2 s2 hz => ?_
    have hz : z = .bl b := Rp.bl.mp (show Rp T.B.G C2 (.bl b) z from hz)
    subst hz
    refine ⟨b, rfl, ?_⟩
    cases b with
    | true => exact iteT ⟨C2, δ, R2, OutS.base h (s1.cs.trans s2.cs)⟩
    | false => exact iteF ⟨C2, δ, x, R2, Rp.mono (s1.cs.trans s2.cs) _ _ hx, OutS.base h (s1.cs.trans s2.cs)⟩
theorem s_mtc (he : PE X e (tE T fa)) (hc : PC X rest (tM T fm)) : PS X (.Match e rest pos) (tS T fun δ => (fa δ).bind fun r δ => fm r.d δ) := QL.PS.imp (ps_match he hc) fun D σ H h => by
  obtain ⟨C, δ, R, h⟩ := h
  exact tE.thenD R h fun r δ1 H1 C1 v R1 s1 p1 h1 => ⟨C1, δ1, r.d, R1, p1, h1⟩
end
end QL

end
section
set_option Elab.async false
set_option linter.all false
/-! Q10: a def keeps what its body tells. -/
namespace QL
open PySem PySem.Spec PyProof.Rows L2

theorem lpOk_get : ∀ {as : List Sl} {δ : Env} {i : Nat} {ds : List D}, lpOk as δ = true → as[i]? = some (.lp ds) → ∃ ds', δ[i]? = some (.lp ds')
  | [], δ, i, ds, _, e => by simp at e
  | s :: as, [], i, ds, h, e => by cases s <;> cases h
  | s :: as, t :: δ, 0, ds, h, e => by
    cases (Option.some.inj e)
    cases t <;> first | (cases h; done) | exact ⟨_, rfl⟩
  | s :: as, t :: δ, i + 1, ds, h, e => by
    have h' : lpOk as δ = true := by
      cases s with
      | lp d => cases t <;> first | (cases h; done) | exact h
      | _ => exact h
    exact lpOk_get (i := i) h' e

section
variable {G : Gd} {Y : Xg} {H C : Hp} {vs : List V} {as : List Sl} {E : XK}
/-- where an own argument stands -/
def paOf (vs : List V) (as : List Sl) (i : Nat) : Option Addr := match as[i]?, vs[i]? with
  | some (.lp _), some (.ref a) => some a
  | _, _ => none
abbrev txOf (G : Gd) (Y : Xg) (H C : Hp) (vs : List V) (as : List Sl) (E : XK) : Tx := ⟨⟨G, H, C, lpA vs as, paOf vs as⟩, Y, fun cls dd _ H' => E cls dd H'⟩
theorem rl_start {N : List Str} (h : ArgsR G H C vs as) (hl : vs.length ≤ N.length) : Rl (txOf G Y H C vs as E).B (L2.start N vs) H C (as ++ List.replicate (N.length - as.length) .un) := by
  have gs : ∀ {i : Nat} {s : Sl}, (as ++ List.replicate (N.length - as.length) .un)[i]? = some s → (as[i]? = some s) ∨ s = .un := fun {i s} e => by
    by_cases hi : i < as.length
    · rw [List.getElem?_append_left hi] at e
      exact .inl e
    · rw [List.getElem?_append_right (by omega), List.getElem?_replicate] at e
      split at e
      · cases e; exact .inr rfl
      · cases e
  have gv : ∀ {i : Nat}, i < vs.length → (L2.start N vs)[i]? = (vs[i]?).map some := fun {i} hi => by
    unfold L2.start
    rw [List.getElem?_append_left (by rw [List.length_map]; exact hi), List.getElem?_map]
  have idx : ∀ {i : Nat} {s : Sl}, as[i]? = some s → i < vs.length := fun {i s} e => by
    rw [h.len]; exact (List.getElem?_eq_some_iff.mp e).1
  refine ⟨?_, fun i s o e1 e2 => ?_, h.sub, fun a o e => .inl e, L2.Same.refl _, fun a o e _ => e, fun a e => e, fun i j s t a ne e1 e2 l1 l2 e3 e4 => ?_⟩
  · unfold L2.start
    rw [List.length_append, List.length_append, List.length_map, List.length_replicate, List.length_replicate, h.len]
  · rcases gs e1 with e1 | rfl
    · have hi := idx e1
      rw [gv hi] at e2
      obtain ⟨v, ev, rfl⟩ := Option.map_eq_some_iff.mp e2
      have q := h.arg i s v e1 ev
      cases s with
      | fz d => exact ⟨v, rfl, q⟩
      | lp ds =>
        obtain ⟨a, xs, rfl, h1, h2, h3⟩ := q
        refine ⟨a, xs, rfl, h1, h2, ⟨⟨i, ds, e1, ev⟩, ?_⟩, h3⟩
        show paOf vs as i = some a
        unfold paOf
        rw [e1, ev]
      | un => exact q.elim
      | lv ds => exact q.elim
      | dv ks ds => exact q.elim
    · trivial
  · rcases gs e1 with e1 | rfl
    · rcases gs e2 with e2 | rfl
      · have hi := idx e1
        have hj := idx e2
        rw [gv hi] at e3
        rw [gv hj] at e4
        obtain ⟨v, ev, z⟩ := Option.map_eq_some_iff.mp e3
        cases z
        obtain ⟨w, ew, z⟩ := Option.map_eq_some_iff.mp e4
        cases z
        have lp : ∀ {k : Nat} {u : Sl} {y : V}, as[k]? = some u → vs[k]? = some y → isLv u = true → ∃ ds, u = .lp ds := fun {k u y} f1 f2 f3 => by
          have q := h.arg k u y f1 f2
          cases u with
          | fz d => cases f3
          | un => cases f3
          | lp ds => exact ⟨ds, rfl⟩
          | lv ds => exact q.elim
          | dv ks ds => exact q.elim
        obtain ⟨ds, rfl⟩ := lp e1 ev l1
        obtain ⟨es, rfl⟩ := lp e2 ew l2
        exact h.apart i j ds es a ne e1 e2 ev ew
      · cases l2
    · cases l1
theorem end_of {σ' : L2.St} {H' C' : Hp} {δ' : Env} (h : ArgsR G H C vs as) (R : Rl (txOf G Y H C vs as E).B σ' H' C' δ') (hl : lpOk as δ' = true) (cs : Same C C') : EndR G H C vs as H' C' (δ'.take as.length) := by
  refine ⟨cs, R.sub, R.conf, R.keep, R.al0, fun i ds a e1 e2 => ?_⟩
  obtain ⟨ds', e3⟩ := lpOk_get hl e1
  obtain ⟨o, ho, a', xs, rfl, h1, h2, h3, h4⟩ := R.at_ e3
  have ea : a = a' := by
    have z : paOf vs as i = some a' := h3.2
    unfold paOf at z
    rw [e1, e2] at z
    exact Option.some.inj z
  subst ea
  refine ⟨ds', xs, ?_, h1, h2, h4⟩
  rw [List.getElem?_take_of_lt (List.getElem?_eq_some_iff.mp e1).1]
  exact e3
theorem rvo_of {σ' : L2.St} {H' C' : Hp} {δ' : Env} {r : Rv} {v : V} (h : RvR (txOf G Y H C vs as E).B σ' H H' C' δ' r v) : RvO G H H' C' r v := by
  cases r with
  | fz d => exact h
  | lv ds => obtain ⟨a, xs, h1, h2, h3, h4, _, h6⟩ := h; exact ⟨a, xs, h1, h2, h3, h4.1, h6⟩
  | dv ks ds => obtain ⟨a, xs, h1, h2, h3, h4, _, h6⟩ := h; exact ⟨a, xs, h1, h2, h3, h4.1, h6⟩
end
/-- a def's body, from its start -/
theorem body_ok {G : Gd} {Y : Xg} {Pd : TS → Prop} {N ps : List Str} {np : Nat} {R : Pr} {dfl : List D} {b : Ss} {H : Hp} {vs : List V} {Q : VK} {E : XK} (hnp : ps.length = np) (pre : N.take ps.length = ps)
    (hb : ∀ (C : Hp) (vs : List V) (as : List Sl), Pd (tS (txOf G Y H C vs as E) (exs R b))) (h : spF G Y (mk R np N.length dfl b) vs H Q E) :
    ∃ t, Pd t ∧ t { nx := fun _ H' => Q .non H', rt := Q } (L2.start N vs) H := by
  obtain ⟨as, C, h1, h2, h3⟩ := h
  have hN : ps.length ≤ N.length := by
    have := congrArg List.length pre
    rw [List.length_take] at this
    omega
  have hl : vs.length ≤ N.length := by
    have h2 : as.length = np := h2
    rw [h1.len, h2, ← hnp]
    exact hN
  refine ⟨_, hb C vs as, C, _, rl_start h1 hl, ?_⟩
  have h3 : match fin as (exs R b (as ++ List.replicate (N.length - as.length) .un)) with
    | .ok r outs => ∀ v H' C', EndR G H C vs as H' C' outs → RvO G H H' C' r v → Q v H'
    | .er x outs => ∀ cls dd H' C', EndR G H C vs as H' C' outs → XnR G Y H' C' x cls dd → E cls dd H'
    | .no => False := h3
  generalize exs R b (as ++ List.replicate (N.length - as.length) .un) = out at h3 ⊢
  cases out with
  | no => exact h3
  | er x δ' =>
    unfold fin at h3
    dsimp only at h3
    split at h3
    · rename_i r outs e; split at e <;> cases e
    · rename_i x' outs e
      split at e
      · rename_i hlp
        cases e
        intro cls dd σ' H' C' R' _ hx
        exact h3 cls dd H' C' (end_of h1 R' hlp R'.vis) hx
      · cases e
    · exact h3.elim
  | ok f δ' =>
    cases f with
    | bk => exact h3.elim
    | ct => exact h3.elim
    | nx =>
      unfold fin at h3
      dsimp only at h3
      split at h3
      · rename_i r outs e
        split at e
        · rename_i hlp
          cases e
          intro σ' H' C' R' cs
          exact h3 _ H' C' (end_of h1 R' hlp cs) (Rp.non.mpr rfl : Rp G C' _ _)
        · cases e
      · rename_i x' outs e; split at e <;> cases e
      · exact h3.elim
    | rt r =>
      unfold fin at h3
      dsimp only at h3
      split at h3
      · rename_i r outs e
        split at e
        · rename_i hlp
          cases e
          intro v σ' H' C' R' cs hv
          exact h3 v H' C' (end_of h1 R' hlp cs) (rvo_of hv)
        · cases e
      · rename_i x' outs e; split at e <;> cases e
      · exact h3.elim
/-- THE RULE: a def of the text, its body checked, keeps the promise of its small body -/
theorem fn_ok {P : Program} {w : World} {G : Gd} {Y : Xg} {mg : Str → Option Value} {base : Heap} {x qual : Str} {params : Arguments} {body : List Stmt} {scope : Scope} {dvs : List V} {kws : List (Str × V)} {f : Addr} {fd : FuncData} {N ps : List Str} {k np : Nat} {R : Pr} {dfl : List D} {b : Ss}
    (F : FunD G.K x qual params body scope dvs kws f fd) (S : FnScope N ps scope) (hnp : ps.length = np)
    (hb : ∀ (cdv : Value) (A : Around) (outer : List PySem.Env) (s : Shared) (H C : Hp) (vs : List V) (as : List Sl) (E : XK), Room k (A.deeper (envOfC qual scope s.heap.objs.size f cdv)) →
      PSs (cxOf (L2.CX P w) P w G.K mg base N qual scope f cdv A outer s H E) body (tS (txOf G Y H C vs as E) (exs R b))) :
    FnOk P w G.K mg base (L2.CX P w) (k + 1) f fd ps (spF G Y (mk R np N.length dfl b)) := by
  refine F.ok S (fun vs H Q E h => ?_) fun cdv A outer s H vs Q E hr h => ?_
  · obtain ⟨as, C, h1, h2, _⟩ := h
    rw [h1.len, hnp]
    exact h2
  · exact body_ok (Pd := fun t => PSs _ body t) hnp S.pre (fun C vs as => hb cdv A outer s H C vs as E hr) h
end QL

end
section
set_option Elab.async false
set_option linter.all false
set_option maxRecDepth 100000
/-! QO: an instance of an own class without __init__; a method of it called. -/
namespace QL
open PySem PySem.Spec PyProof.Rows L2

/-- what a class without __init__ must have to be made -/
structure Mk0 (K : PySem.W.Frag) (C : Addr) : Prop where
  makes : PySem.W.makesIn K C = true
  init : PySem.W.findIn K (.ref C) "__init__" = some (some (.builtin "object.__init__"))
  kp : PySem.W.keepIn K (.ref C) = true
def tMk0 (C : Addr) : TE := fun _ H Q => ∀ a dx, H a = none → H dx = none → dx ≠ a → Q (.ref a) (upd (upd H dx (.own a)) a (.ins C dx []))
section
variable {X : Cx} {C : Addr} {x : Str} {p pos : Pos}
theorem pe_mk0 (M : Mk0 X.K C) (hg : Gl X x) (hm : X.mg x = some (.ref C)) (hdb : (x == ("__debug__" : Str)) = false) : PE X (.Call (.Name x p) [] [] pos) (tMk0 C) := by
  refine ⟨fun pins s σ H Q I h => ?_⟩
  refine wpAny_Call_Name_kw (ld_glob I hg hm ?_ hdb)
  refine PySem.W.callWith_K0 I.kIn M.kp ?_
  have hq := h (s.heap.objs.size + 1) s.heap.objs.size (I.hok.fresh (Nat.le_succ _)) (I.hok.fresh (Nat.le_refl _)) (Nat.ne_of_lt (Nat.lt_succ_self _))
  have I2 := L2.Inv.made (C := C) I
  obtain ⟨hh, g, d, t, os⟩ := s
  have Y := PySem.W.makes_of (M := model X.prog X.w) I.kIn M.makes
  refine wpAny_call (PySem.W.make_core (rest := []) (kw := []) Y (PySem.W.looks_findIn I.kIn M.init) (fun self => PySem.W.Looks.of_pure (PySem.W.oi_bind self)) (.inr ⟨rfl, rfl⟩) ?_)
  have hx : ((hh.push PySem.W.emptyDict).push (PySem.W.instObj C hh.objs.size)).get? (hh.objs.size + 1) = some (PySem.W.instObj C hh.objs.size) := by heap_get
  have t1 : PySem.W.Looks (model X.prog X.w) ((hh.push PySem.W.emptyDict).push (PySem.W.instObj C hh.objs.size)) (typeOf (.ref (hh.objs.size + 1))) (.ref C) := (PySem.W.Looks.ld hx).andThen .now
  have t2 : PySem.W.Looks (model X.prog X.w) ((hh.push PySem.W.emptyDict).push (PySem.W.instObj C hh.objs.size)) (isInstance (.ref (hh.objs.size + 1)) (.type "object")) true := t1.andThen (Y.top.keeps fun b o e => Heap.get?_push_of_some _ (Heap.get?_push_of_some _ e))
  refine codeAny_call_builtin PySem.W.oi_plain PySem.W.entry_oi (@PySem.W.check_slot (model X.prog X.w) _ _ ⟨_, g, d, t, os⟩ "object.__init__" "object" "__init__" (.ref (hh.objs.size + 1)) [] [] _ PySem.W.oi_kind PySem.W.oi_split t2 (PySem.W.oi_args (.ref (hh.objs.size + 1))) ?_)
  rw [PySem.W.oi_run]
  exact wpAny_pure (And.intro rfl ⟨V.ref (hh.objs.size + 1), _, I2, rfl, hq⟩)
end
section
variable {T : Tx} {X : Cx} {x : Str} {p pos : Pos} {c : Nat}
theorem s_new (M : Mk0 X.K (T.B.G.cl c)) (hg : Gl X x) (hm : X.mg x = some (.ref (T.B.G.cl c))) (hdb : (x == ("__debug__" : Str)) = false) : PE X (.Call (.Name x p) [] [] pos) (tE T fun δ => .ok (.fz (.ob c [] [])) δ) := QL.PE.imp (pe_mk0 M hg hm hdb) fun σ H Q h => by
  obtain ⟨C, δ, R, h⟩ := h
  intro a dx ha hd ne
  obtain ⟨R1, s1⟩ := R.new (.own a) hd
  have ha1 : upd H dx (.own a) a = none := by rw [upd_ne (Ne.symm ne)]; exact ha
  obtain ⟨R2, s2⟩ := R1.new (.ins (T.B.G.cl c) dx []) ha1
  exact h _ _ R2 (s1.trans s2) _ (Rp.ob.mpr ⟨a, dx, [], rfl, upd_same, rfl, Rps.nil.mpr rfl⟩)
end

/-! ### a method, the class known when it runs -/
theorem mcallN {o : Expr} {name : Str} {p2 p4 : Pos} {es : List Expr} {env : PySem.Env} (hpl : (p2.endLine == p4.line) = true) (ho : attributeBase o name env (eval o env) = eval o env) (hs : methodCallForm es.length (backTo p4 (starEach es env)) [] = true) : eval (.Call (.Attribute o name p2) es [] p4) env = (do
      let ov ← eval o env
      standAt p2.atName
      let (f, first) ← holding [ov] (getMethod ov name (do return (← importBound o env).getD true))
      callWith p4 f first (backTo p4 (starEach es env)) (backToKw p4 (keywordEach [] env))) := by
  have e2 : methodCallPos true o env p2 p4 = pure p4 := by unfold methodCallPos; rw [hpl]; rfl
  have e3 : ∀ ov, methodCall o name p2 p4 env ov es.length (backTo p4 (starEach es env)) [] = (do
      let (f, first) ← holding [ov] (getMethod ov name (do return (← importBound o env).getD true))
      callWith p4 f first (backTo p4 (starEach es env)) (backToKw p4 (keywordEach [] env))) := fun ov => by
    unfold methodCall
    rw [hs, e2]
    rfl
  show (do
      let ov ← attributeBase o name env (eval o env)
      standAt p2.atName
      methodCall o name p2 p4 env ov es.length (backTo p4 (starEach es env)) []) = _
  simp only [e3, ho]
section
variable {X : Cx} {CX : CXT} {m : Str} {apos pos : Pos} {o e : Expr} {es : List Expr} {ta : TE} {t : TA} {E : L2.St → XK}
theorem pe_methD (he : PE X o ta) (ha : PA X (e :: es) t) (hx : ∀ σ, PassesAt CX X σ (E σ)) {pl : Sem Bool}
    (ht : eval (.Call (.Attribute o m apos) (e :: es) [] pos) X.env = (do
      let ov ← eval o X.env
      standAt apos.atName
      let (f, first) ← holding [ov] (getMethod ov m pl)
      callWith pos f first (backTo pos (starEach (e :: es) X.env)) (backToKw pos (keywordEach [] X.env))))
    (hst : starEach (e :: es) X.env = (false, eval e X.env) :: starEach es X.env) (hpl : (backTo pos (starEach es X.env)).any (·.1) = false) :
    PE X (.Call (.Attribute o m apos) (e :: es) [] pos) (fun σ H Q => ta σ H fun x H1 => ∃ (a dx : Addr) (fs : List (Str × V)) (C f : Addr) (fd : FuncData) (ps : List Str) (sp : Sp) (ds : List Value) (dvs : List V) (k : Nat), x = .ref a ∧ H1 a = some (.ins C dx fs) ∧ fs.lookup m = none ∧ Cls X.K C ∧ Meth X.K C m f ∧
      FnOk X.prog X.w X.K X.mg X.base CX k f fd ps sp ∧ Room k X.A ∧ Binds X.K fd ps ds ∧ Vals dvs ds ∧ t σ H1 fun vs H2 => sp (x :: (vs ++ dvs)) H2 Q (E σ)) := by
  refine ⟨fun pins s σ H Q I h => ?_⟩
  refine PySem.W.methodCall_KW (pl := pl) (thn (he.run pins s σ H _ I h) fun u s1 ⟨x, H1, I1, rx, a, dx, fs, C, f, fd, ps, sp, ds, dvs, k, ex, ea, l, c, hm, F, hr, hb, hd, q⟩ => ?_) ht
  subst ex
  obtain rfl : u = Value.ref a := rx
  refine getmeth_ok I1 ea c hm l ?_
  refine PySem.W.callWith_K (first := [.ref a]) (h₀ := X.base) I.ok.mod.kin hm.kp (thn (ha.run pos pins s1 σ H1 _ I1 q) fun us s2 ⟨vs, H2, I2, r, q2⟩ => ⟨I2.kIn, ?_⟩) hst hpl
  exact run_fnSD (us := .ref a :: us) (vs := .ref a :: vs) F hr hb hd (hx σ) I2 (.cons rfl r) q2
end
theorem zip_none {fl : Nat → Str} {m : Str} (h : ∀ i, fl i ≠ m) : ∀ {fs : List Nat} {xs : List V}, ((fs.map fl).zip xs).lookup m = none
  | [], _ => rfl
  | _ :: _, [] => rfl
  | f :: fs, x :: xs => by
    show (match m == fl f with | true => some x | false => ((fs.map fl).zip xs).lookup m) = none
    rw [show (m == fl f) = false by simpa using fun z => h f z.symm]
    exact zip_none h
/-- the class c's method m is worth F -/
def MtK (P : Program) (w : World) (G : Gd) (Y : Xg) (mg : Str → Option Value) (base : Heap) (k c : Nat) (m : Str) (F : Fn) : Prop := Cls G.K (G.cl c) ∧ ∃ f, Meth G.K (G.cl c) m f ∧ FnK P w G Y mg base k f F
section
variable {T : Tx} {X : Cx} {m : Str} {apos pos : Pos} {o e : Expr} {es : List Expr} {fa : Env → Rs Rv} {fg : Env → Rs (List Ag)} {n k : Nat} {W : Nat → Option Fn}
abbrev fMeth (W : Nat → Option Fn) (fa : Env → Rs Rv) (fg : Env → Rs (List Ag)) : Env → Rs Rv := fun δ => (fa δ).bind fun x δ => match x.d with
    | .ob c fs ds => (match W c with
      | some f => (fg δ).bind fun as δ => callF f (.d (.ob c fs ds) :: as) δ
      | none => .no)
    | _ => .no
theorem s_meth (hK : X.K = T.B.G.K) (hW : ∀ c F, W c = some F → MtK X.prog X.w T.B.G T.Y X.mg X.base k c m F ∧ n + 1 ≤ F.np ∧ F.np - (n + 1) ≤ F.dfl.length) (hr : Room k X.A) (tk : Takes X T.W) (hfl : ∀ i, T.B.G.fl i ≠ m) (hl : ∀ δ as δ', fg δ = .ok as δ' → as.length = n) (ho : PE X o (tE T fa)) (ha : PA X (e :: es) (tAg T fg)) {pl : Sem Bool}
    (ht : eval (.Call (.Attribute o m apos) (e :: es) [] pos) X.env = (do
      let ov ← eval o X.env
      standAt apos.atName
      let (f, first) ← holding [ov] (getMethod ov m pl)
      callWith pos f first (backTo pos (starEach (e :: es) X.env)) (backToKw pos (keywordEach [] X.env))))
    (hst : starEach (e :: es) X.env = (false, eval e X.env) :: starEach es X.env) (hpl : (backTo pos (starEach es X.env)).any (·.1) = false) :
    PE X (.Call (.Attribute o m apos) (e :: es) [] pos) (tE T (fMeth W fa fg)) := by
  refine QL.PE.imp (pe_methD (CX := L2.CX X.prog X.w) (E := fun σ => WE T.W σ) ho ha (fun σ => passAt tk σ) ht hst hpl) fun σ H Q h => ?_
  obtain ⟨C, δ, R, h⟩ := h
  refine tE.then R h fun x δ1 H1 C1 v R1 s1 p1 h1 => ?_
  cases hd : x.d with
  | ob c fs ds =>
    rw [hd] at h1 p1
    dsimp only at h1
    cases hw : W c with
    | none => rw [hw] at h1; exact h1.elim
    | some F =>
      rw [hw] at h1
      dsimp only at h1
      obtain ⟨⟨hc, f, hm, ⟨fd, ps, q1, q2, q3⟩, kp⟩, hn⟩ := hW c F hw
      obtain ⟨dvs, dsv, e1, e2, e3⟩ := q3 (n + 1) hn.1 hn.2
      obtain ⟨a, dx, xs, rfl, g1, g2, g3⟩ := Rp.ob.mp p1
      rw [← hK] at hc hm q1 e2
      refine ⟨a, dx, _, _, f, fd, ps, _, dsv, dvs, k, rfl, R1.sub _ _ g1, ?_, hc, hm, q1, hr, e2, e1, ?_⟩
      · exact zip_none hfl
      · refine tAg.then R1 h1 fun as δ2 H2 C2 vs R2 s2 p2 h2 e4 => ?_
        have pa : AgsR T.B.G σ C2 (.d (.ob c fs ds) :: as) (V.ref a :: vs) := ⟨_, _, rfl, Rp.mono s2.cs _ _ p1, p2⟩
        have := call_read (Q := Q) (dvs := dvs) R2 (fun a h => s1.al a (s2.al a h)) pa ?_ h2
        · exact this
        · rw [List.length_cons, hl _ _ _ e4]
          exact e3 C2
  | _ => rw [hd] at h1; exact h1.elim
end
/-! ### a constant of the class -/
section
variable {T : Tx} {X : Cx} {f : Str} {pos : Pos} {o : Expr} {fa : Env → Rs Rv} {W : Nat → Option D}
abbrev fCat (W : Nat → Option D) (fa : Env → Rs Rv) : Env → Rs Rv := fun δ => (fa δ).bind fun x δ => match x.d with
    | .ob c _ _ => optR ((W c).map Rv.fz) δ
    | _ => .no
theorem s_cat (hK : X.K = T.B.G.K) (hW : ∀ c d, W c = some d → Cls T.B.G.K (T.B.G.cl c) ∧ ∃ v u, Con T.B.G.K (T.B.G.cl c) f v u ∧ ∀ C, Rp T.B.G C d v) (hfl : ∀ i, T.B.G.fl i ≠ f) (ho : PE X o (tE T fa)) (hb : attributeBase o f X.env (eval o X.env) = eval o X.env) : PE X (.Attribute o f pos) (tE T (fCat W fa)) := by
  refine QL.PE.imp (pe_con ho hb) fun σ H Q h => ?_
  obtain ⟨C, δ, R, h⟩ := h
  refine tE.then R h fun x δ1 H1 C1 v R1 s1 p1 h1 => ?_
  cases hd : x.d with
  | ob c fs ds =>
    rw [hd] at h1 p1
    obtain ⟨z, ez, h2⟩ := optR_some h1
    obtain ⟨d, ed, rfl⟩ := Option.map_eq_some_iff.mp ez
    obtain ⟨hc, v', u', hk, hr⟩ := hW c d ed
    obtain ⟨a, dx, xs, rfl, g1, g2, g3⟩ := Rp.ob.mp p1
    rw [← hK] at hc hk
    exact ⟨a, _, dx, _, v', u', rfl, R1.sub _ _ g1, hc, hk, zip_none hfl, h2.here R1 v' (hr C1)⟩
  | _ => rw [hd] at h1; exact h1.elim
end
/-! ### isinstance of an own class -/
structure TyK (K : PySem.W.Frag) (C : Addr) : Prop where
  cl : Cls K C
  ha : PySem.W.findIn K (.ref C) "__class__" = some (some (.builtin "object.__class__"))
  hn : PySem.W.specialIn K (.builtin "object.__class__") "__get__" = some (some (.builtin "getset_descriptor.__get__"))
  htk : PySem.W.takesIn K (.builtin "object.__class__") = some true
  hm : PySem.W.mroIn K C (.type "object") = some true
section
variable {T : Tx} {X : Cx} {p pos : Pos} {a b : Expr} {fa : Env → Rs Rv} {c : Nat} {kin : Nat → Nat → Bool}
abbrev fIsk (kin : Nat → Nat → Bool) (c : Nat) (fa : Env → Rs Rv) : Env → Rs Rv := fun δ => (fa δ).bind fun x δ => match x.d with
    | .ob c' _ _ => optR (if kin c' c' = true then some (.fz (.bl (kin c' c))) else none) δ
    | _ => .no
theorem s_isk (hK : X.K = T.B.G.K) (hg : Gl X "isinstance") (hm : X.mg "isinstance" = none) (ha : PE X a (tE T fa)) (hb : PE X b (tC (.ref (T.B.G.cl c)))) (hk : ∀ c', kin c' c' = true → TyK T.B.G.K (T.B.G.cl c') ∧ PySem.W.kitOne T.B.G.K (.ref (T.B.G.cl c')) (.ref (T.B.G.cl c)) = some (kin c' c))
    (h1 : starEach [a, b] X.env = (false, eval a X.env) :: starEach [b] X.env) (h2 : starEach [b] X.env = (false, eval b X.env) :: starEach [] X.env) :
    PE X (.Call (.Name "isinstance" p) [a, b] [] pos) (tE T (fIsk kin c fa)) := by
  have hpl : (backTo pos (starEach [b] X.env)).any (·.1) = false := by rw [h2]; rfl
  refine QL.PE.imp (pe_callB call_isi hg hm (by decide +kernel) (pa_cons ha (pa_cons hb pa_nil h2) h1) (by decide) (by decide) h1 hpl) fun σ H Q h => ?_
  obtain ⟨C, δ, R, h⟩ := h
  refine tE.then R h fun x δ1 H1 C1 v R1 s1 p1 h1 => ?_
  cases hd : x.d with
  | ob c' fs ds =>
    rw [hd] at h1 p1
    dsimp only at h1
    obtain ⟨z, ez, h2⟩ := optR_some h1
    split at ez
    · rename_i hc
      cases ez
      obtain ⟨k1, k2⟩ := hk c' hc
      rw [← hK] at k1 k2
      obtain ⟨a, dx, xs, rfl, g1, g2, g3⟩ := Rp.ob.mp p1
      exact ⟨.ref a, .ref (T.B.G.cl c), .ref (T.B.G.cl c'), .ref (T.B.G.cl c), _, rfl, .own _, .base (.ins (R1.sub _ _ g1) k1.cl k1.ha k1.hn k1.htk k1.hm), k2, h2.here R1 _ (Rp.bl.mpr rfl : Rp T.B.G C1 _ _)⟩
    · cases ez
  | _ => rw [hd] at h1; exact h1.elim
end
end QL

end
section
set_option Elab.async false
set_option linter.all false
set_option maxRecDepth 100000
/-! QS: parts of a def's body that ask for the running code (super()): the rules at that code. -/
namespace QL
open PySem PySem.Spec PyProof.Rows PySem.Calls L2
section
variable {M : Model} {A : Around} {c : Code} {E : Value → Shared → Prop} {s : Shared} {env : PySem.Env}
theorem at_sub {value slice : Expr} {pos : Pos} {Q : Value → Shared → Prop} (h : PySem.wpAt M A c (eval value env) (fun o s1 => wpAny M A (eval slice env) (fun i s2 => wpAny M A (subscriptTail value slice o i) Q E s2) E s1) E s) : PySem.wpAt M A c (eval (.Subscript value slice pos) env) Q E s := by
  rw [eval_Subscript]
  exact PySem.wpAt_bind (PySem.wpAt_mono h (fun o s1 h1 => PySem.wpAt_of_wpAny (wpAny_bind (wpAny_holding (wpAny_mono h1 (fun i s2 h2 => wpAny_bind (wpAny_standAt h2)) fun _ _ z => z)))) fun _ _ z => z)
theorem at_spl {x : Sem Value} {Q : List Value → Shared → Prop} (h : PySem.wpAt M A c x (fun v s1 => Q [v] s1) E s) : PySem.wpAt M A c (spliced [(false, x)]) Q E s := by
  rw [spliced]
  refine PySem.wpAt_bind (PySem.wpAt_mono h (fun v s1 h1 => PySem.wpAt_of_wpAny ?_) fun _ _ z => z)
  simp only [Bool.false_eq_true, if_false]
  exact wpAny_bind (wpAny_pure (wpAny_bind (wpAny_holding (spliced_nil (wpAny_pure h1)))))
theorem at_args {f : Value} {x : Sem Value} {Q : Args → Shared → Prop} (h : PySem.wpAt M A c x (fun v s1 => Q ⟨[v], []⟩ s1) E s) : PySem.wpAt M A c (evalArgs f true [(false, x)] []) Q E s := by
  unfold evalArgs
  show PySem.wpAt M A c (spliced [(false, x)] >>= _) Q E s
  refine PySem.wpAt_bind (PySem.wpAt_mono (at_spl (Q := fun vs s1 => ∃ v, vs = [v] ∧ Q ⟨[v], []⟩ s1) (PySem.wpAt_mono h (fun v s1 z => ⟨v, rfl, z⟩) fun _ _ z => z)) (fun vs s1 h1 => ?_) fun _ _ z => z)
  obtain ⟨v, rfl, h1⟩ := h1
  refine PySem.wpAt_of_wpAny (wpAny_holding ?_)
  exact wpAny_bind (wpAny_pure (wpAny_bind (wpAny_pure (wpAny_pure h1))))
/-- f(x), f a built-in function or type -/
def blt : Value → Prop
  | .builtin _ => True
  | .type _ => True
  | _ => False
theorem at_cw {pos : Pos} {f : Value} {e : Expr} {Q : Value → Shared → Prop} (hf : blt f) (he : starEach [e] env = [(false, eval e env)]) (h : PySem.wpAt M A c (eval e env) (fun v s1 => wpAny M A (call f [v]) Q E s1) E s) : PySem.wpAt M A c (callWith pos f [] (backTo pos (starEach [e] env)) []) Q E s := by
  rw [he]
  unfold callWith
  refine PySem.wpAt_bind (ks_wpAt_holding (PySem.wpAt_mono (at_args (Q := fun a s1 => ∃ v, a = ⟨[v], []⟩ ∧ wpAny M A (call f [v]) Q E s1) ?_) (fun a s1 h1 => PySem.wpAt_of_wpAny (wpAny_bind (wpAny_standAt ?_))) fun _ _ z => z))
  · show PySem.wpAt M A c (eval e env) _ _ _
    exact PySem.wpAt_mono h (fun v s1 h1 => ⟨v, rfl, h1⟩) fun _ _ z => z
  · obtain ⟨v, rfl, h1⟩ := h1
    have hp : (backTo pos [(false, eval e env)]).any (·.1) = false := rfl
    simp only [hp, List.any_nil, Bool.or_false]
    cases f <;> first | exact hf.elim | (refine wpAny_bind (wpAny_pure ?_); exact wpAny_bind (wpAny_mono h1 (fun r s2 hr => wpAny_bind (wpAny_holding (wpAny_point (wpAny_pure hr)))) fun _ _ z => z))
theorem at_call {id : Str} {p pos : Pos} {e : Expr} {f : Value} {Q : Value → Shared → Prop} (hf : blt f) (hl : ∀ {Q : Value → Shared → Prop}, Q f s → wpAny M A (eval (.Name id p) env) Q E s) (he : starEach [e] env = [(false, eval e env)]) (h : PySem.wpAt M A c (eval e env) (fun v s1 => wpAny M A (call f [v]) Q E s1) E s) :
    PySem.wpAt M A c (eval (.Call (.Name id p) [e] [] pos) env) Q E s := by
  rw [arm_eval_Call_Name']
  exact PySem.wpAt_bind (PySem.wpAt_of_wpAny (hl (at_cw hf he h)))
theorem at_for {tg iter : Expr} {body : List Stmt} {pos : Pos} {Q : Flow → Shared → Prop} (h : PySem.wpAt M A c (eval iter env) (fun x s1 => wpAny M A (pyIter x) (fun it s2 =>
      codeAny M A (.forLoop tg it body [] env) (fun r s' => match r with | .ok f => Q f s' | .error e => cameBackBy M A env E e s') s2) E s1) E s)
    (hs : ∀ x, foldedSetIterable iter env x = pure x) : PySem.wpAt M A c (exec (.For tg iter body [] pos) env) Q E s := by
  rw [exec_For]
  exact PySem.wpAt_bind (PySem.wpAt_of_wpAny (wpAny_standAt (PySem.wpAt_bind (PySem.wpAt_mono h (fun x s1 h1 => PySem.wpAt_of_wpAny (wpAny_bind (wpAny_of_eq (hs x) (wpAny_bind (wpAny_standAt (wpAny_bind (wpAny_holding (wpAny_mono h1 (fun it s2 h2 => wpAny_runOwn h2) fun _ _ z => z)))))))) fun _ _ z => z))))
end
end QL

end
section
set_option Elab.async false
set_option linter.all false
set_option maxRecDepth 100000
/-! QT: readings at the running code: an expression that holds super().m(..) in front. -/
namespace QL
open PySem PySem.Spec PyProof.Rows L2

structure PEa (X : Cx) (c : Code) (e : Expr) (t : TE) : Prop where
  run : ∀ (pins : List (Addr × Obj)) (s : Shared) (σ : L2.St) (H : Hp) (Q : VK), L2.Inv X pins σ H s → t σ H Q → PySem.wpAt (model X.prog X.w) X.A c (eval e X.env) (EP X pins σ Q) X.xe s
structure PSa (X : Cx) (c : Code) (st : Stmt) (t : TS) : Prop where
  run : ∀ (pins : List (Addr × Obj)) (s : Shared) (σ : L2.St) (H : Hp) (D : Ends), L2.Inv X pins σ H s → t D σ H → PySem.wpAt (model X.prog X.w) X.A c (exec st X.env) (SP X pins D) X.xe s
structure PSsa (X : Cx) (c : Code) (st : List Stmt) (t : TS) : Prop where
  run : ∀ (pins : List (Addr × Obj)) (s : Shared) (σ : L2.St) (H : Hp) (D : Ends), L2.Inv X pins σ H s → t D σ H → PySem.wpAt (model X.prog X.w) X.A c (execs st X.env) (SP X pins D) X.xe s
theorem thnA {α : Type} {M : Model} {A : Around} {c : Code} {E : Value → Shared → Prop} {s : Shared} {t : Sem α} {Q Q' : α → Shared → Prop} (h : PySem.wpAt M A c t Q E s) (k : ∀ a s, Q a s → Q' a s) : PySem.wpAt M A c t Q' E s := PySem.wpAt_mono h k fun _ _ z => z
section
variable {X : Cx} {c : Code} {e a : Expr} {te : TE} {p pos p2 : Pos} {x : Str} {i : Nat} {st : Stmt} {ss : List Stmt} {tb tr : TS}
theorem PEa.of (h : PE X e te) : PEa X c e te := ⟨fun pins s σ H Q I q => PySem.wpAt_of_wpAny (h.run pins s σ H Q I q)⟩
theorem PSa.of (h : PS X st tb) : PSa X c st tb := ⟨fun pins s σ H D I q => PySem.wpAt_of_wpAny (h.run pins s σ H D I q)⟩
theorem PSsa.of (h : PSs X ss tb) : PSsa X c ss tb := ⟨fun pins s σ H D I q => PySem.wpAt_of_wpAny (h.run pins s σ H D I q)⟩
theorem PEa.imp {t t' : TE} (h : PEa X c e t) (k : ∀ σ H Q, t' σ H Q → t σ H Q) : PEa X c e t' := ⟨fun pins s σ H Q I q => h.run pins s σ H Q I (k σ H Q q)⟩
theorem PSa.imp {t t' : TS} (h : PSa X c st t) (k : ∀ D σ H, t' D σ H → t D σ H) : PSa X c st t' := ⟨fun pins s σ H D I q => h.run pins s σ H D I (k D σ H q)⟩
theorem PSsa.imp {t t' : TS} (h : PSsa X c ss t) (k : ∀ D σ H, t' D σ H → t D σ H) : PSsa X c ss t' := ⟨fun pins s σ H D I q => h.run pins s σ H D I (k D σ H q)⟩
theorem psa_ret (he : PEa X c e te) : PSa X c (.Return (some e) pos) (tRet te) := ⟨fun pins s σ H D I h => ks_wpAt_Return_some (thnA (he.run pins s σ H _ I h) fun u s1 ⟨v, H1, I1, r1, q1⟩ => ⟨v, σ, H1, I1, r1, q1⟩)⟩
theorem psa_set (hN : X.N.Nodup) (hi : X.N[i]? = some x) (hx : L2.Loc X.env.scope x) (he : PEa X c e te) (hs : swapsWith e (some (.Name x p)) pos.line X.env = pure false) (hf : X.fn x = true ∨ X.env.scope.names.lookup x = some .local) : PSa X c (.Assign [.Name x p] e pos) (tAsg te (L2.gName i)) :=
  ⟨fun pins s σ H D I h => ks_wpAt_Assign_Name (thnA (he.run pins s σ H _ I h) fun v s1 ⟨y, H1, I1, r1, q1⟩ => store_ok I1 hN hi hx r1 (fun s2 I2 => ⟨_, H1, I2, q1⟩) hf) hs⟩
theorem pssa_cons (h1 : PSa X c st tb) (h2 : PSsa X c ss tr) : PSsa X c (st :: ss) (tSeq tb tr) := ⟨fun pins s σ H D I h => ks_wpAt_execs_cons (thnA (h1.run pins s σ H _ I h) fun f s1 q => by
  cases f with
  | next => obtain ⟨σ1, H1, I1, q1⟩ := q; exact h2.run pins s1 σ1 H1 D I1 q1
  | ret v => exact q
  | brk => exact q
  | cont => exact q)⟩
theorem pea_slice {lo hi : Option Expr} {tl th : TO} {r : V → Option Int → Option Int → Hp → VK → Prop} (hr : SlR X r) (he : PEa X c e te) (hl : PO X lo tl) (hu : PO X hi th) : PEa X c (.Subscript e (.Slice lo hi none p2) pos) (tSl r te tl th) := by
  refine ⟨fun pins s σ H Q I h => ?_⟩
  refine at_sub (thnA (he.run pins s σ H _ I h) fun v s1 ⟨y, H1, I1, r1, q1⟩ => ?_)
  refine wpAny_Slice (thn (hl.run pins s1 σ H1 _ I1 q1) fun vl s2 ⟨l, H2, I2, pl, q2⟩ => thn (hu.run pins s2 σ H2 _ I2 q2) fun vu s3 ⟨u, H3, I3, pu, q3⟩ => ?_)
  rw [evalPart_none]
  refine wpAny_pure ?_
  have I4 : L2.Inv X pins σ H3 { s3 with heap := s3.heap.push { cls := .type "slice", data := .fields #[vl, vu, .none] } } := I3.kept (t' := s3.toks) fun b ob q => Heap.get?_push_of_some _ q
  obtain ⟨T, id, hT, ht, hg⟩ := hr pins _ σ H3 y v vl vu l u s3.heap.objs.size Q I4 r1 (Heap.IsSliceOf.new ..) pl pu q3
  exact tail_any (value := e) (slice := .Slice lo hi none p2) (ops := [.ref s3.heap.objs.size, v]) ht hT hg (by with_unfolding_all rfl)
/-- f(x), f a built-in function -/
theorem pea_callB {id : String} {r : List V → Hp → VK → Prop} (hc : CallR X (.builtin id) r) (hg : Gl X x) (hm : X.mg x = none) (hv : bootBuiltins x = some (.builtin id)) (he : PEa X c e te) (hn : x ≠ "__name__") (hdb : (x == ("__debug__" : Str)) = false) (hs : starEach [e] X.env = [(false, eval e X.env)]) :
    PEa X c (.Call (.Name x p) [e] [] pos) (fun σ H Q => te σ H fun v H1 => r [v] H1 Q) :=
  ⟨fun pins s σ H Q I h => at_call (f := .builtin id) trivial (fun hq => ld_blt I hg hm hv hq hn hdb) hs (thnA (he.run pins s σ H _ I h) fun u s1 ⟨v, H1, I1, r1, q1⟩ => hc pins s1 σ H1 [v] [u] Q I1 (.cons r1 .nil) q1)⟩
theorem pea_callT {id : String} {r : List V → Hp → VK → Prop} (hc : CallR X (.type id) r) (hg : Gl X x) (hm : X.mg x = none) (hv : bootBuiltins x = some (.type id)) (he : PEa X c e te) (hn : x ≠ "__name__") (hdb : (x == ("__debug__" : Str)) = false) (hs : starEach [e] X.env = [(false, eval e X.env)]) :
    PEa X c (.Call (.Name x p) [e] [] pos) (fun σ H Q => te σ H fun v H1 => r [v] H1 Q) :=
  ⟨fun pins s σ H Q I h => at_call (f := .type id) trivial (fun hq => ld_blt I hg hm hv hq hn hdb) hs (thnA (he.run pins s σ H _ I h) fun u s1 ⟨v, H1, I1, r1, q1⟩ => hc pins s1 σ H1 [v] [u] Q I1 (.cons r1 .nil) q1)⟩
end
end QL

end
section
set_option Elab.async false
set_option linter.all false
set_option maxRecDepth 100000
/-! QU: super().m(..) of a method, at the running code. -/
namespace QL
open PySem PySem.Spec PyProof.Rows L2 PySem.W

/-- what a method's context must say, so that super() is asked rightly; D: the class whose text holds it -/
structure SuE (X : Cx) (D : Addr) (sn : Str) : Prop where
  ks : X.env.kindOf "super" = some .globalImplicit
  kc : X.env.kindOf "__class__" = some .free
  fn : ∃ f oc od fd osl ar, X.env.func = some f ∧ X.K.lookup f = some ⟨oc, od, .func fd, osl⟩ ∧ (fd.params.posonlyargs ++ fd.params.args).head? = some ar ∧ ar.arg = sn
  co : ∃ cda ccl cdd vs ccs file tf, X.env.code = .ref cda ∧ X.K.lookup cda = some ⟨ccl, cdd, .fields vs, ccs⟩ ∧ vs[2]? = some (.str file tf) ∧ ((X.prog.main.file : Str) == file) = true
  ce : ∃ cc cl cld csl, X.env.cells.lookup ("__class__" : Str) = some cc ∧ X.K.lookup cc = some ⟨cl, cld, .cell (some (.ref D)), csl⟩
  cD : ∃ cdD, clsIn X.K D = some cdD
  top : (X.prog.main.scope.names.lookup ("super" : Str)).isSome = false
  sup : X.mg "super" = none
  th : nsIn X.K cStatics "thirdparty.any" = some none
  self : X.N[0]? = some sn ∧ X.env.kindOf sn = some .local
section
variable {X : Cx} {D : Addr} {sn m : Str} {body : List Stmt} {p0 p1 p2 p4 : Pos} {e : Expr} {es : List Expr} {t : TA} {CX : CXT} {E : L2.St → XK}
theorem pea_sup (S : SuE X D sn) (ha : PA X (e :: es) t) (hx : ∀ σ, PassesAt CX X σ (E σ)) (hpl : (p2.endLine == p4.line) = true) (hmc : (m == ("__class__" : Str)) = false) (hst : starEach (e :: es) X.env = (false, eval e X.env) :: starEach es X.env) (hps : (backTo p4 (starEach es X.env)).any (·.1) = false) (hfm : methodCallForm (e :: es).length (backTo p4 (starEach (e :: es) X.env)) [] = true) :
    PEa X (.func body X.env) (.Call (.Attribute (.Call (.Name "super" p0) [] [] p1) m p2) (e :: es) [] p4) (fun σ H Q => ∃ (a C dx : Addr) (fs : List (Str × V)) (f : Addr) (fd : FuncData) (ps : List Str) (sp : Sp) (ds : List Value) (dvs : List V) (k : Nat), σ[0]? = some (some (.ref a)) ∧ H a = some (.ins C dx fs) ∧
      mroIn X.K C (.ref D) = some true ∧ ks_superIn X.K C D m = some (some (.ref f)) ∧ fnIn X.K f = true ∧ typeIn X.K (.ref f) = some (.type "function") ∧ FnOk X.prog X.w X.K X.mg X.base CX k f fd ps sp ∧ Room k X.A ∧ Binds X.K fd ps ds ∧ Vals dvs ds ∧ t σ H fun vs H1 => sp (.ref a :: (vs ++ dvs)) H1 Q (E σ)) := by
  refine ⟨fun pins s σ H Q I h => ?_⟩
  obtain ⟨a, C, dx, fs, f2, fd2, ps, sp, ds, dvs, k, e0, ea, hmro, hsi, hf2, ht2, F, hr, hb, hd, q⟩ := h
  obtain ⟨f, oc, od, fd, osl, ar, g1, g2, g3, g4⟩ := S.fn
  obtain ⟨cda, ccl, cdd, vsA, ccs, file, tf, g5, g6, g7, g8⟩ := S.co
  obtain ⟨cc, cl, cld, csl, g9, g10⟩ := S.ce
  obtain ⟨cdD, hD⟩ := S.cD
  have he : eval (.Call (.Attribute (.Call (.Name "super" p0) [] [] p1) m p2) (e :: es) [] p4) X.env = (do
      let ov ← attributeBase (.Call (.Name "super" p0) [] [] p1) m X.env (eval (.Call (.Name "super" p0) [] [] p1) X.env)
      standAt p2.atName
      let (f, first) ← holding [ov] (getMethod ov m (do return (← importBound (.Call (.Name "super" p0) [] [] p1) X.env).getD true))
      callWith p4 f first (backTo p4 (starEach (e :: es) X.env)) []) := by
    have e2 : methodCallPos true (.Call (.Name "super" p0) [] [] p1) X.env p2 p4 = pure p4 := by unfold methodCallPos; rw [hpl]; rfl
    have e3 : ∀ ov, methodCall (.Call (.Name "super" p0) [] [] p1) m p2 p4 X.env ov (e :: es).length (backTo p4 (starEach (e :: es) X.env)) [] = (do
        let (f, first) ← holding [ov] (getMethod ov m (do return (← importBound (.Call (.Name "super" p0) [] [] p1) X.env).getD true))
        callWith p4 f first (backTo p4 (starEach (e :: es) X.env)) []) := fun ov => by
      unfold methodCall
      rw [hfm, e2]
      rfl
    show (do
        let ov ← attributeBase (.Call (.Name "super" p0) [] [] p1) m X.env (eval (.Call (.Name "super" p0) [] [] p1) X.env)
        standAt p2.atName
        methodCall (.Call (.Name "super" p0) [] [] p1) m p2 p4 X.env ov (e :: es).length (backTo p4 (starEach (e :: es) X.env)) []) = _
    simp only [e3]
  refine ks_wpAt_MethodCall ?_ he
  refine ks_wpAt_super_base (env := X.env) S.ks S.kc hmc g1 (I.kIn _ _ g2) rfl g3 g5 (I.kIn _ _ g6) rfl g7 g8 S.top ?_
  obtain ⟨mb, b1, b2⟩ := I.mod.blt
  refine ks_loadName_global I.ok.kind S.ks (Calls.loadGlobal_builtin (env := X.env) (by rw [I.ok.glob]; exact I.mod.glob.keeps I.bk) S.sup (by rw [I.ok.blt]; exact b1.keeps I.bk) ((b2 _ (by decide)).trans PyProof.Rows.Boot.«super») ⟨rfl, ?_⟩)
  refine wpAny_loadName_free I.ok.kind S.kc g9 ⟨_, I.kIn _ _ g10, rfl⟩ ?_
  rw [g4]
  obtain ⟨ml, hns, hlo⟩ := I.loc
  obtain ⟨u, ru, lu⟩ := hlo 0 sn _ S.self.1 e0 (.inl S.self.2)
  obtain rfl : u = Value.ref a := ru
  have hml : ml sn = some (.ref a) := by
    rcases lu with ⟨_, z⟩ | ⟨z, _⟩
    · exact z
    · rw [S.self.2] at z
      rcases z with z | z <;> cases z
  refine wpAny_loadName_local I.ok.kind S.self.2 hns hml ?_
  obtain ⟨oD, hD1, hD2⟩ : ∃ oD, s.heap.get? D = some oD ∧ oD.data = .cls cdD := by
    unfold clsIn at hD
    split at hD
    · rename_i c1 d1 cd1 sl1 lk
      cases hD
      exact ⟨_, I.kIn _ _ lk, rfl⟩
    · cases hD
  obtain ⟨cdC, hcC⟩ : ∃ cdC, clsIn X.K C = some cdC := by
    unfold ks_superIn at hsi
    cases z : clsIn X.K C with
    | none => rw [z] at hsi; cases hsi
    | some c => exact ⟨c, rfl⟩
  obtain ⟨mA, O, _⟩ := ins_get I.hok ea
  obtain ⟨sh, sg, sd, st, so⟩ := s
  refine ks_wpAny_isType_cls hD1 hD2 ⟨rfl, ?_⟩
  refine ks_wpAny_call_super hD1 hD2 O.obj rfl (fun c z => by cases z) (looks_mroIn I.kIn hmro) (fun h1 e1 k1 => ?_)
  have I1 := I.kept (t' := st) k1
  obtain ⟨odx, _, _, hodx, _⟩ := O.ns
  have InA : InstAt h1 a (instObj C dx) C (some odx) := ⟨k1 _ _ O.obj, rfl, rfl, k1 _ _ hodx⟩
  have hsi2 : alongIn X.K m ((cdC.mro.dropWhile (· != .ref D)).drop 1) = some (some (.ref f2)) := by
    unfold ks_superIn at hsi
    rw [hcC] at hsi
    exact hsi
  obtain ⟨of, hof, hofc⟩ : ∃ of, h1.get? f2 = some of ∧ of.cls = .type "function" := by
    have z : (X.K.lookup f2).map (·.cls) = some (.type "function") := ht2
    cases y : X.K.lookup f2 with
    | none => rw [y] at z; cases z
    | some of => rw [y] at z; exact ⟨of, I1.kIn _ _ y, Option.some.inj z⟩
  refine ks_wpAny_getMethod_super e1 (looks_opaque I1.kIn S.th) (l₀ := cdC.mro) ?_ rfl I1.kIn hsi2 hof hofc (ks_ne I1.kIn InA hcC) hmc ?_
  · exact fun A Q E s k q => wpAny_bind ((looks_clsIn I1.kIn hcC) A _ E s k (wpAny_pure q))
  have I2 := I1.kept (t' := st + 1) (h' := h1.push (methodObj (.ref f2) (.ref a))) (fun b o z => Heap.get?_push_of_some _ z)
  have hu : (h1.push (methodObj (.ref f2) (.ref a))).get? h1.objs.size = some (methodObj (.ref f2) (.ref a)) := Heap.get?_push_at rfl rfl
  have I3 : L2.Inv X (pins ++ [(h1.objs.size, methodObj (.ref f2) (.ref a))]) σ H _ := I2.pins_of fun p hp => by
    rcases List.mem_append.mp hp with hp | hp
    · exact I2.pin p (List.mem_append_right _ hp)
    · rw [List.mem_singleton.mp hp]
      exact ⟨hu, I1.hok.fresh (Nat.le_refl _), Nat.ne_of_gt I1.lt, I1.nofs (Nat.le_refl _), fun v z => by cases z⟩
  have hall : ((backTo p4 (starEach (e :: es) X.env)).any (·.1) || ([] : List (Option Str × Sem Value)).any (·.1.isNone)) = false := by
    rw [hst]
    show ((false || (backTo p4 (starEach es X.env)).any (·.1)) || false) = false
    rw [hps]
    rfl
  refine callWith_of (P := MethP X.K h1.objs.size f2 (.ref a)) hall (keeps_M hf2) ?_
  have run := ha.run p4 _ _ σ H _ I3 q
  rw [hst] at run ⊢
  refine Calls.evalArgs_plain (thn run fun us s4 hq => ?_)
  obtain ⟨vs, H1, I4, rv, q2⟩ := hq
  have pin := I4.pin _ (List.mem_append_right _ (List.mem_append_right _ (List.mem_singleton.mpr rfl)))
  have I5 : L2.Inv X pins σ H1 s4 := I4.pins_of fun p hp => I4.pin p (List.mem_append_right _ (List.mem_append_left _ hp))
  refine ⟨⟨pin.1, I4.kIn⟩, wpAny_call (ks_codeAny_call_bound pin.1 ?_)⟩
  have r2 : Vals (V.ref a :: (vs ++ dvs)) (Value.ref a :: (us ++ ds)) := .cons rfl (rv.append hd)
  have hl : ((Value.ref a :: us) ++ ds).length = ps.length := by
    have z := r2.length
    rw [F.len _ _ _ _ q2] at z
    exact z.symm
  refine codeAny_mono (F.run X.A X.stack s4 H1 ⟨Value.ref a :: us, []⟩ (Value.ref a :: (us ++ ds)) _ Q (E σ) hr I5.env0 (hb s4 (Value.ref a :: us) I5.kIn hl) r2 q2) fun r s' hq => ?_
  cases r with
  | error er => exact hx σ pins H1 s4 er s' I5 hq
  | ok fl =>
    cases fl with
    | ret u => exact I5.after hq
    | next => exact False.elim hq
    | brk => exact False.elim hq
    | cont => exact False.elim hq
end
end QL

end
section
set_option Elab.async false
set_option linter.all false
set_option maxRecDepth 100000
/-! QY: a method whose text names super(): its promise, from its body at the running code. -/
namespace QL
open PySem PySem.Spec PyProof.Rows L2 PySem.W

theorem lk_none {x : Str} : ∀ {P : List Str} {us : List Value}, x ∉ P → (P.zip us).reverse.lookup x = none
  | [], _, _ => rfl
  | _ :: _, [], _ => rfl
  | p :: P, u :: us, h => by
    rw [List.zip_cons_cons, List.reverse_cons, List.lookup_append, lk_none (fun z => h (List.mem_cons_of_mem _ z))]
    show (match x == p with | true => some u | false => none) = none
    rw [show (x == p) = false by simpa using fun z => h (by rw [z]; exact List.mem_cons_self ..)]
theorem lk_some {x : Str} {u : Value} : ∀ {P : List Str} {us : List Value} {i : Nat}, P.Nodup → P[i]? = some x → us[i]? = some u → (P.zip us).reverse.lookup x = some u
  | [], _, _, _, h, _ => by simp at h
  | _ :: _, [], _, _, _, h => by simp at h
  | p :: P, w :: us, 0, nd, h1, h2 => by
    cases h1
    cases h2
    rw [List.zip_cons_cons, List.reverse_cons, List.lookup_append, lk_none (List.nodup_cons.mp nd).1]
    show (match x == x with | true => some u | false => none) = some u
    rw [show (x == x) = true by simp]
  | p :: P, w :: us, i + 1, nd, h1, h2 => by
    rw [List.zip_cons_cons, List.reverse_cons, List.lookup_append, lk_some (i := i) (List.nodup_cons.mp nd).2 h1 h2]
    rfl
/-- a method as it stands behind the top, its free name __class__ in the cell cc -/
structure FunS (K : PySem.W.Frag) (x qual : Str) (params : Arguments) (body : List Stmt) (scope : Scope) (D f cc cda : Addr) (fd : FuncData) : Prop where
  ex : ∃ (oc : Value) (od : Option Addr) (kV doc pm : Value) (an : Option Addr) (ct : Value) (osl : Array (Option Value)), fd = ksFn x qual params body scope .none kV doc pm an (.ref cda) ct cc ∧ K.lookup f = some ⟨oc, od, .func fd, osl⟩
  co : codeIn K (.ref cda) qual = true
  ce : ∃ cl cld csl, K.lookup cc = some ⟨cl, cld, .cell (some (.ref D)), csl⟩
structure FnScS (N ps : List Str) (sc : Scope) : Prop where
  kind : sc.kind = .function
  co : sc.isCoroutine = false
  gen : sc.isGenerator = false
  nd : N.Nodup
  pre : N.take ps.length = ps
  par : ∀ x ∈ ps, sc.names.lookup x = some .local
  noc : ∀ y ∈ sc.names, y.2 ≠ .cell
  fr : ∀ y ∈ sc.names, y.2 = .free → y.1 = "__class__"
/-- what an error that leaves it wants -/
def xeS (P : Program) (w : World) (qual : Str) (scope : Scope) (f : Addr) (cda cc : Addr) (A : Around) (outer : List PySem.Env) (s : Shared) (H : Hp) (E : XK) : Value → Shared → Prop := fun e s' => wpAny (model P w) (A.deeper (ksEnv qual scope s.heap.objs.size f (.ref cda) cc)) (leaving (ksEnv qual scope s.heap.objs.size f (.ref cda) cc) e) (fun _ s'' => L2.CX P w outer H s E e s'') (fun e' s'' => L2.CX P w outer H s E e' s'') s'
abbrev cxT (P : Program) (w : World) (K : PySem.W.Frag) (mg : Str → Option Value) (base : Heap) (N : List Str) (qual : Str) (scope : Scope) (f cda cc : Addr) (A : Around) (outer : List PySem.Env) (s : Shared) (H : Hp) (E : XK) : Cx := cxS P w K mg base N qual scope f (.ref cda) cc A outer s H (xeS P w qual scope f cda cc A outer s H E)
theorem fnS_ok {P : Program} {w : World} {K : PySem.W.Frag} {mg : Str → Option Value} {base : Heap} {x qual : Str} {params : Arguments} {body : List Stmt} {scope : Scope} {D f cc cda : Addr} {fd : FuncData} {N ps : List Str} {k : Nat} {sp : Sp} (F : FunS K x qual params body scope D f cc cda fd) (S : FnScS N ps scope) (len : ∀ vs H Q E, sp vs H Q E → vs.length = ps.length)
    (hbody : ∀ (A : Around) (outer : List PySem.Env) (s : Shared) (H : Hp) (vs : List V) (Q : VK) (E : XK), Room k (A.deeper (ksEnv qual scope s.heap.objs.size f (.ref cda) cc)) → sp vs H Q E →
      ∃ t, PSsa (cxT P w K mg base N qual scope f cda cc A outer s H E) (.func body (ksEnv qual scope s.heap.objs.size f (.ref cda) cc)) body t ∧ t { nx := fun _ H' => Q .non H', rt := Q } (start N vs) H) : FnOk P w K mg base (L2.CX P w) (k + 1) f fd ps sp := by
  obtain ⟨oc, od, kV, doc, pm, an, ct, osl, rfl, lk⟩ := F.ex
  obtain ⟨cl, cld, csl, hcell⟩ := F.ce
  refine ⟨len, fun A outer s H args us vs Q E hr e0 hb r hsp => ?_⟩
  have hl := len _ _ _ _ hsp
  have hpl : ps.length ≤ N.length := by
    have := congrArg List.length S.pre
    rw [List.length_take] at this
    omega
  have ndP : ps.Nodup := by
    rw [← S.pre]
    exact S.nd.sublist (List.take_sublist _ _)
  have KX : K.In s.heap := e0.mod.kin.keeps fun b o z => (e0.bs b o z).1
  have lim : s.heap.NoLimit := e0.mod.nolimit.keeps fun b o z => (e0.bs b o z).1
  refine ks_codeAny_call_defAt (binds := ps.zip us) hr.depth (KX _ _ lk) rfl lim (codeRec_of KX F.co) rfl hb S.noc (fun y hy => S.par _ (List.of_mem_zip (a := y.1) (b := y.2) hy).1) (fun h₀ hns hk₀ => ?_) S.co S.gen S.kind
  let X : Cx := cxT P w K mg base N qual scope f cda cc A outer s H E
  obtain ⟨t, ht, hq⟩ := hbody A outer s H vs Q E (hr.deeper _) hsp
  have I0 : L2.Inv X [] (start N vs) H { s with heap := h₀, toks := s.toks + (ps.zip us).length } := by
    have noA : ∀ b : Addr, b ∉ X.ex := fun b z => absurd (show b ∈ ([] : List Addr) from z) (by simp)
    have cel : ∀ y c, X.env.cells.lookup y = some c → y = "__class__" ∧ c = cc := fun y c z => by
      have z : ([(("__class__" : Str), cc)] : List (Str × Addr)).lookup y = some c := z
      rw [List.lookup_cons] at z
      split at z
      · rename_i q
        exact ⟨by simpa using q, (Option.some.inj z).symm⟩
      · cases z
    have ccb : base.get? cc = some ⟨cl, cld, .cell (some (.ref D)), csl⟩ := e0.mod.kin _ _ hcell
    refine ⟨⟨e0.mod, S.kind, rfl, rfl, Nat.le_refl _, fun y z c q1 q2 => ?_, fun y hy => ?_, fun y c q _ => ?_, fun _ => hr.hd, Around.frames_deeper e0.frames, .inr ⟨rfl, rfl⟩, fun b z => absurd z (noA b), e0.bs, e0.bsz, fun b _ _ => noA b, fun b z => absurd z (noA b), e0.funs, e0.frf⟩,
      rfl, e0.bare, Un.kept hk₀, ⟨_, hns, fun i y z q1 q2 q3 => ?_⟩, fun y c q => ?_, e0.hok.fresh (Nat.le_refl _), fun y c q => ?_, fun p hp => absurd (show p ∈ ([] : List (Addr × Obj)) from hp) (by simp), e0.hok.kept hk₀, ?_⟩
    · rw [(cel y c q1).1, (cel z c q2).1]
    · have hy : scope.names.lookup y = some .cell ∨ scope.names.lookup y = some .free := hy
      rcases hy with hy | hy
      · exact absurd rfl (S.noc _ (PySem.mem_of_lookup hy))
      · have := S.fr _ (PySem.mem_of_lookup hy) rfl
        dsimp only at this
        subst this
        exact ⟨cc, rfl⟩
    · cases q
    · have hi : i < vs.length := by
        unfold L2.start at q2
        by_cases hi : i < vs.length
        · exact hi
        · rw [List.getElem?_append_right (by simpa using hi), List.getElem?_replicate] at q2
          split at q2 <;> cases q2
      have hv : vs[i]? = some z := by
        unfold L2.start at q2
        rw [List.getElem?_append_left (by simpa using hi), List.getElem?_map] at q2
        cases q : vs[i]? with
        | none => rw [q] at q2; cases q2
        | some a => rw [q] at q2; cases q2; rfl
      obtain ⟨u, hu, ru⟩ := r.get hv
      have hp : ps[i]? = some y := by
        rw [← S.pre, List.getElem?_take_of_lt (by omega)]
        exact q1
      exact ⟨u, ru, .inl ⟨S.par y (List.mem_of_getElem? hp), lk_some ndP hp hu⟩⟩
    · obtain ⟨_, rfl⟩ := cel y c q
      exact ⟨_, _, hk₀ _ _ ((e0.bs _ _ ccb).1), rfl⟩
    · obtain ⟨_, rfl⟩ := cel y c q
      exact (e0.bs _ _ ccb).2
    · unfold L2.start
      show _ = N.length
      rw [List.length_append, List.length_map, List.length_replicate]
      omega
  refine PySem.wpAt_mono (ht.run [] _ _ H _ I0 hq) (fun fl s' hs => ?_) fun er s' hs => hs
  have fin : ∀ {σ' : L2.St} {H' : Hp} {v : V} {u : Value}, L2.Inv X [] σ' H' s' → RelV v u → Q v H' → CE outer P w H s Q u s' := fun {σ' H' v u} J rv qq => ⟨v, H', J.os, J.bare, J.base, J.hok, rv, qq⟩
  cases fl with
  | ret u =>
    obtain ⟨v, σ', H', J, rv, qq⟩ := hs
    exact fin J rv qq
  | next =>
    obtain ⟨σ', H', J, qq⟩ := hs
    exact fin (v := V.non) (u := Value.none) J rfl qq
  | brk =>
    obtain ⟨_, _, _, qq⟩ := hs
    exact False.elim qq
  | cont =>
    obtain ⟨_, _, _, qq⟩ := hs
    exact False.elim qq
end QL

end
section
set_option Elab.async false
set_option linter.all false
set_option maxRecDepth 100000
/-! QZ: for x in (what super().m(..) gives): the loop at the running code. -/
namespace QL
open PySem PySem.Spec PyProof.Rows L2 PySem.W

structure PIa (X : Cx) (c : Code) (tg iter : Expr) (wi : TI) : Prop where
  run : ∀ (pins : List (Addr × Obj)) (s : Shared) (σ : L2.St) (H : Hp) (R : It → Hp → Prop), L2.Inv X pins σ H s → wi σ H R → PySem.wpAt (model X.prog X.w) X.A c (eval iter X.env) (fun v s1 => wpAny (model X.prog X.w) X.A (pyIter v) (PIE X pins σ tg R) X.xe s1) X.xe s
theorem PIa.imp {X : Cx} {c : Code} {tg e : Expr} {t t' : TI} (h : PIa X c tg e t) (i : ∀ σ H Q, t' σ H Q → t σ H Q) : PIa X c tg e t' := ⟨fun pins s σ H Q I q => h.run pins s σ H Q I (i σ H Q q)⟩
section
variable {X : Cx} {c : Code} {tg iter : Expr} {body : List Stmt} {wi : TI} {te : TE} {g : TG} {tb : TS} {pos : Pos}
theorem pia_tup (hl : PEa X c iter te) : PIa X c tg iter (iTup X.K te) := ⟨fun pins s σ H R I h => thnA (hl.run pins s σ H _ I h) fun v s1 hv => by
  obtain ⟨x, H1, I1, r1, a, ex, ⟨xs, hq⟩, q⟩ := hv
  subst ex
  cases r1
  obtain ⟨its, _, tp, _⟩ := I1.tuple hq
  have off : ∀ b ∈ [s1.heap.objs.size], FpOk X pins H1 b := fun b hb => by
    obtain rfl : b = s1.heap.objs.size := by simpa using hb
    exact I1.fpOk (Nat.le_refl _) (I1.hok.fresh (Nat.le_refl _))
  exact wpAny_pyIter_tuple (show s1.heap.IsTuple a its.toArray from tp) ⟨s1.heap.objs.size, [s1.heap.objs.size], _, _, H1, rfl, I1.kept (t' := s1.toks) fun b o z => Heap.get?_push_of_some _ z, turn_tuple a _, ⟨_, Heap.get?_push_size _ rfl, rfl, rfl⟩, off, q⟩⟩
theorem psa_for (hp : PassesOwn (model X.prog X.w) X.A X.env X.xe) (hc : X.calm = true) (hi : PIa X c tg iter wi) (hg : PG X tg g) (hb : PSs X body tb) (hs : ∀ x, foldedSetIterable iter X.env x = pure x) : PSa X c (.For tg iter body [] pos) (tFor wi g tb) := by
  refine ⟨fun pins s σ H D I h => at_for (thnA (hi.run pins s σ H _ I h) fun v s1 h1 => thn h1 fun itv s2 h2 => ?_) hs⟩
  obtain ⟨it, fp, tn, J, Hi, rfl, Ii, T, t0, away, W, ⟨n0, w0⟩, turn⟩ := h2
  have foot : ∀ {G : Hp}, (∀ b ∈ fp, G b = none) → ∀ b ∈ fp, FpOk X pins G b := fun z b hb => ⟨z b hb, (away b hb).2⟩
  refine codeAny_forLoop_any (fun n t => ∃ j τ G, L2.Inv X pins τ G t ∧ tn j t.heap ∧ (∀ b ∈ fp, G b = none) ∧ W j n τ G) ?_ n0 ⟨0, σ, Hi, Ii, t0, fun b hb => (away b hb).1, w0⟩
  rintro n u3 ⟨j, τ, G, I3, t3, z3, w3⟩
  rcases turn j n τ G w3 with ⟨stop, done⟩ | ⟨go, N, less, step⟩
  · refine wpAny_passesOwn hp (thn (T.done X rfl rfl rfl hc j pins u3 τ G X.xe I3 (foot z3) t3 stop) fun r u4 hh => ?_)
    obtain ⟨rfl, I4⟩ := hh
    exact wpAny_execs_nil ⟨τ, G, I4, done⟩
  · refine wpAny_passesOwn hp (thn (T.item X rfl rfl rfl hc j pins u3 τ G X.xe I3 (foot z3) t3 go) fun r u4 hh => ?_)
    obtain ⟨val, rfl, h4⟩ := hh
    refine wpAny_passesOwn hp (thn h4 fun _ u5 hh => ?_)
    obtain ⟨y, G5, I5, r5, y5, t5, z5⟩ := hh
    have P5 := I5.pinned (foot z5) (T.obj _ _ t5)
    refine wpAny_passesOwn hp (thn (hg.run _ u5 τ G5 y val _ P5 r5 (step y G5 y5)) fun _ u6 hh => ?_)
    obtain ⟨τ6, G6, I6, q6⟩ := hh
    refine wpAny_passesOwn hp (thn (hb.run _ u6 τ6 G6 _ I6 q6) fun fl u7 q7 => ?_)
    have next : ∀ {τ7 : L2.St} {G7 : Hp}, L2.Inv X (pins ++ pinsAt fp u5.heap) τ7 G7 u7 → N τ7 G7 → ∃ m, m < n ∧ ∃ i τ' G', L2.Inv X pins τ' G' u7 ∧ tn i u7.heap ∧ (∀ b ∈ fp, G' b = none) ∧ W i m τ' G' := fun {τ7 G7} I7 n7 => by
      obtain ⟨m, hm, w7⟩ := less τ7 G7 n7
      have pin : ∀ b ∈ fp, ∀ o, u5.heap.get? b = some o → _ := fun b hb o z => I7.pin (b, o) (List.mem_append_right _ (List.mem_append_right _ (mem_pinsAt hb z)))
      refine ⟨m, hm, j + 1, τ7, G7, I7.unpinned, T.keep _ _ _ t5 fun b hb o z => (pin b hb o z).1, fun b hb => ?_, w7⟩
      obtain ⟨o, z, _⟩ := T.obj _ _ t5 b hb
      exact (pin b hb o z).2.1
    cases fl with
    | next =>
      obtain ⟨τ7, G7, I7, n7⟩ := q7
      exact next I7 n7
    | cont =>
      obtain ⟨τ7, G7, I7, n7⟩ := q7
      exact next I7 n7
    | brk =>
      obtain ⟨τ7, G7, I7, e7⟩ := q7
      exact ⟨τ7, G7, I7.unpinned, e7⟩
    | ret v =>
      obtain ⟨x7, τ7, G7, I7, r7, e7⟩ := q7
      exact ⟨x7, τ7, G7, I7.unpinned, r7, e7⟩
end
end QL

end
section
set_option Elab.async false
set_option linter.all false
set_option maxRecDepth 100000
/-! QA: x[::-1] of lists and tuples. -/
namespace QL
open PySem PySem.Spec PyProof.Rows L2 PySem.W HT

section
variable {prog : Program} {w : World} {A : Around} {E : Value → Shared → Prop} {s : Shared}
theorem adjust_rev (n : Nat) : Builtin.Slice.sliceAdjust none none (-1) (n : Int) = ((n : Int) - 1, -1) := by
  unfold Builtin.Slice.sliceAdjust
  have h1 : (-1 : Int) < 0 := by omega
  simp only [h1, if_true]
theorem places_rev (n : Nat) : Builtin.Slice.slicePlaces ((n : Int) - 1) (-1) (-1) = n := by
  unfold Builtin.Slice.slicePlaces
  have h1 : ¬ (-1 : Int) > 0 := by omega
  simp only [h1, if_false]
  split
  · rw [Int.neg_neg, Int.ediv_one]; omega
  · omega
theorem fm_map {α β : Type} {f : α → Option β} {g : α → β} : ∀ {l : List α}, (∀ m ∈ l, f m = some (g m)) → l.filterMap f = l.map g
  | [], _ => rfl
  | x :: l, h => by
    rw [List.filterMap_cons, h x (List.mem_cons_self ..), List.map_cons]
    exact congrArg _ (fm_map fun m hm => h m (List.mem_cons_of_mem _ hm))
theorem pick_rev (xs : Array Value) : ((List.range xs.size).filterMap fun (m : Nat) => xs[(((xs.size : Int) - 1) + (m : Int) * (-1)).toNat]?).toArray = xs.toList.reverse.toArray := by
  congr 1
  rw [fm_map (g := fun m => xs[xs.size - 1 - m]?.getD .none) fun m hm => ?_]
  · apply List.ext_getElem
    · simp
    · intro i h1 h2
      have hi : i < xs.size := by simpa using h1
      have h2 : xs.size - 1 - i < xs.size := by omega
      simp [Array.getElem?_eq_getElem h2, List.getElem_reverse]
  · have hm := List.mem_range.mp hm
    have e1 : (((xs.size : Int) - 1) + (m : Int) * (-1)).toNat = xs.size - 1 - m := by omega
    have h2 : xs.size - 1 - m < xs.size := by omega
    rw [e1, Array.getElem?_eq_getElem h2]
    rfl
theorem sliceApplied_rev {sl : Addr} {vl vu vs : Value} {n : Nat} {Q : Int × Int × Nat → Shared → Prop} (hs : s.heap.IsSliceOf sl vl vu vs) (pl : IsPart vl none) (pu : IsPart vu none) (ps : IsPart vs (some (-1)))
    (h : Q ((n : Int) - 1, -1, n) s) : wpAny (model prog w) A (Builtin.Slice.sliceApplied (.ref sl) (pure (n : Int))) Q E s := by
  obtain ⟨os, hos, hcs, hds⟩ := id hs
  unfold Builtin.Slice.sliceApplied Builtin.Slice.sliceFields
  refine wpAny_bind (wpAny_bind (wpAny_field hos hds (x := vl) rfl (wpAny_bind (wpAny_field hos hds (x := vu) rfl (wpAny_bind (wpAny_field hos hds (x := vs) rfl (wpAny_pure ?_)))))))
  refine wpAny_bind (slicePart_ ps ?_)
  show wpAny _ _ (if ((-1 : Int) == 0) = true then _ else _) _ _ s
  rw [if_neg (by decide)]
  refine wpAny_bind (slicePart_ pl (wpAny_bind (slicePart_ pu (wpAny_bind (wpAny_pure ?_)))))
  show wpAny _ _ (match Builtin.Slice.sliceAdjust none none (-1) (n : Int) with | (lo, hi) => pure (lo, (-1 : Int), Builtin.Slice.slicePlaces lo hi (-1))) _ _ s
  rw [adjust_rev n]
  show wpAny _ _ (pure ((n : Int) - 1, (-1 : Int), Builtin.Slice.slicePlaces ((n : Int) - 1) (-1) (-1))) _ _ s
  rw [places_rev]
  exact wpAny_pure h
theorem getItem_tuple_rev {t sl : Addr} {items : Array Value} {vl vu vs : Value} {Q : Value → Shared → Prop} (ht : IsTup s.heap t items) (hs : s.heap.IsSliceOf sl vl vu vs) (pl : IsPart vl none) (pu : IsPart vu none) (ps : IsPart vs (some (-1)))
    (h : Q (.ref s.heap.objs.size) { s with heap := s.heap.push { cls := .type "tuple", data := .seq items.toList.reverse.toArray } })
    (hsz : items.size ≤ sizeLine) : wpAny (model prog w) A (getItem (.ref t) (.ref sl)) Q E s := by
  have htake : sizeOk (.seq items.toList.reverse.toArray) := by
    show items.toList.reverse.toArray.size ≤ sizeLine
    rw [List.size_toArray, List.length_reverse, Array.length_toList]
    exact hsz
  obtain ⟨os, hos, hcs, hds⟩ := id hs
  have hTs : s.TypeIs (.ref sl) "slice" := ⟨os, hos, hcs⟩
  unfold getItem
  try with_reducible refine wpAny_holding ?_
  first | refine wpAny_bind (wpAny_pure ?_) | skip
  refine wpAny_bind (wpAny_sequenceKey ht.typeIs (by decide) ?_)
  refine wpAny_bind (wpAny_callSpecial?_slot (name := Str.ofString "__getitem__") ht.typeIs PyProof.Rows.slot_tuple_getitem
    (wpAny_call_entry PyProof.Rows.slot_tuple_getitem ht.typeIs entry_tuple_getitem ?_ (args_tuple_getitem _ _)))
  show wpAny _ _ (Builtin.Tuple.tupleItemsOf (.ref t) >>= _) _ _ s
  refine wpAny_bind (tupleItemsOf_ ht ?_)
  refine wpAny_bind (wpAny_typeOf hTs ?_)
  rw [if_pos (by decide)]
  refine wpAny_bind (sliceApplied_rev hs pl pu ps ?_)
  have hno : ¬ ((((items.size : Int) - 1) == 0 && (-1 : Int) == 1 && items.size == items.size) = true) := by
    intro q
    rw [Bool.and_eq_true, Bool.and_eq_true] at q
    exact absurd q.1.2 (by decide)
  show wpAny _ _ (if (((items.size : Int) - 1) == 0 && (-1 : Int) == 1 && items.size == items.size) = true then _ else _) _ _ s
  rw [if_neg hno, pick_rev]
  first
    | exact wpAny_bind (m := Builtin.Tuple.tupleExact _) (wpAny_newObj_type (wpAny_pure ⟨_, rfl, wpAny_pure h⟩) htake)
    | exact wpAny_bind (m := Builtin.Tuple.tupleExact _) (wpAny_newObj_type (wpAny_bind (wpAny_pure (wpAny_pure ⟨_, rfl, wpAny_pure h⟩))) htake)
    | exact wpAny_bind (wpAny_bind (m := Builtin.Tuple.tupleExact _) (wpAny_newObj_type (wpAny_pure (wpAny_pure ⟨_, rfl, wpAny_pure h⟩)) htake))
    | exact wpAny_bind (wpAny_bind (m := Builtin.Tuple.tupleExact _) (wpAny_newObj_type (wpAny_pure ⟨_, rfl, wpAny_pure h⟩) htake))
end
/-! ### x[::-1] -/
section
variable {X : Cx}
def rRev (K : PySem.W.Frag) (x : V) (H : Hp) (Q : VK) : Prop := (∃ a xs, x = .ref a ∧ SqL K H a xs ∧ ∀ p, H p = none → Q (.ref p) (upd H p (.lst xs.reverse))) ∨ ∃ a xs, x = .ref a ∧ SqT K H a xs ∧ ∀ p, H p = none → Q (.ref p) (upd H p (.tup xs.reverse))
def tRevA (K : PySem.W.Frag) (te : TE) : TE := fun σ H Q => te σ H fun x H1 => rRev K x H1 Q
theorem rev_tail {e : Expr} {k : Nat} {p1 p2 p3 pos : Pos} {pins : List (Addr × Obj)} {s1 : Shared} {σ : L2.St} {H1 : Hp} {v : Value} {x : V} {Q : VK} (I1 : L2.Inv X pins σ H1 s1) (r1 : RelV x v) (q1 : rRev X.K x H1 Q) :
    wpAny (model X.prog X.w) X.A (eval (.Slice none none (some (.UnaryOp .USub (.Constant (.int 1) k p1) p2)) p3) X.env) (fun i s2 => wpAny (model X.prog X.w) X.A (subscriptTail e (.Slice none none (some (.UnaryOp .USub (.Constant (.int 1) k p1) p2)) p3) v i) (EP X pins σ Q) X.xe s2) X.xe s1 := by
  have hst : PO X (some (.UnaryOp .USub (.Constant (.int 1) k p1) p2)) (tPart (tUn (rU fun i => .int (-i)) (tC (.int 1)))) := po_some (pe_un un_neg pe_int)
  refine wpAny_Slice (thn (po_none.run pins s1 σ H1 (fun o H2 => o = none ∧ H2 = H1) I1 ⟨rfl, rfl⟩) fun vl s2 ⟨l, H2, I2, pl, el, e2⟩ => ?_)
  subst el e2
  refine thn (po_none.run pins s2 σ H2 (fun o H3 => o = none ∧ H3 = H2) I2 ⟨rfl, rfl⟩) fun vu s3 ⟨u, H3, I3, pu, eu, e3⟩ => ?_
  subst eu e3
  refine thn (hst.run pins s3 σ H3 (fun o H4 => o = some (-1) ∧ H4 = H3) I3 ⟨1, rfl, -1, rfl, rfl, rfl⟩) fun vs s4 ⟨o, H4, I4, ps, eo, e4⟩ => ?_
  subst eo e4
  have I5 : L2.Inv X pins σ H4 { s4 with heap := s4.heap.push { cls := .type "slice", data := .fields #[vl, vu, vs] } } := I4.kept (t' := s4.toks) fun b ob q => Heap.get?_push_of_some _ q
  rcases q1 with ⟨a, xs, ex, hx, q⟩ | ⟨a, xs, ex, hx, q⟩
  · subst ex
    cases r1
    obtain ⟨its, r, ht, hz⟩ := I5.list hx
    have hlen := r.length
    refine tail_any (ops := [.ref a, .ref s4.heap.objs.size]) ht.isList.typeIs (PySem.slot_list_getitem.lookup) ?_ (by with_unfolding_all rfl)
    refine wpAny_getItem_list_slice ht.isList (Heap.IsSliceOf.new _ vl vu vs) pl pu ps (by decide) ?_ (by rw [List.size_toArray]; omega)
    rw [PySem.W.krv_pick]
    refine ⟨.ref _, _, I5.laid (t' := s4.toks) (o := .lst xs.reverse) (fun b ob q => Heap.get?_push_of_some _ q) (Nat.le_refl _) ?_, rfl, q _ (I5.hok.fresh (Nat.le_refl _))⟩
    exact ⟨by rw [List.length_reverse]; exact hz, _, 0, r.reverse, Heap.get?_push_size _ rfl⟩
  · subst ex
    cases r1
    obtain ⟨its, r, ht, hz⟩ := I5.tuple hx
    have hlen := r.length
    refine tail_any (ops := [.ref a, .ref s4.heap.objs.size]) ht.typeIs (PyProof.Rows.slot_tuple_getitem.lookup) ?_ (by with_unfolding_all rfl)
    refine getItem_tuple_rev ht (Heap.IsSliceOf.new _ vl vu vs) pl pu ps ?_ (by rw [List.size_toArray]; omega)
    refine ⟨.ref _, _, I5.laid (t' := s4.toks) (o := .tup xs.reverse) (fun b ob q => Heap.get?_push_of_some _ q) (Nat.le_refl _) ?_, rfl, q _ (I5.hok.fresh (Nat.le_refl _))⟩
    exact ⟨by rw [List.length_reverse]; exact hz, _, r.reverse, ⟨_, Heap.get?_push_size _ rfl, rfl, _, rfl⟩⟩
theorem pe_rev {e : Expr} {te : TE} {k : Nat} {p1 p2 p3 pos : Pos} (he : PE X e te) : PE X (.Subscript e (.Slice none none (some (.UnaryOp .USub (.Constant (.int 1) k p1) p2)) p3) pos) (tRevA X.K te) := by
  refine ⟨fun pins s σ H Q I h => ?_⟩
  refine Subscript_ (thn (he.run pins s σ H _ I h) fun v s1 ⟨x, H1, I1, r1, q1⟩ => ?_)
  exact rev_tail (pos := pos) I1 r1 q1
end
section
variable {T : Tx} {X : Cx} {σ : L2.St} {H C : Hp} {δ : Env}
theorem rev_read (hK : X.K = T.B.G.K) {Hb : Hp} {x : V} {dx : D} {z : Rv} {Q : VK} (R : Rl T.B σ H C δ) (al : ∀ a, H a = none → Hb a = none) (px : Rp T.B.G C dx x) (e : revD dx = some z) (k : ∀ v H' C', Rl T.B σ H' C' δ → Stp σ H C δ H' C' δ → RvR T.B σ Hb H' C' δ z v → Q v H') : rRev X.K x H Q := by
  unfold revD at e
  split at e
  · cases e
    obtain ⟨a, xs, rfl, h1, h2⟩ := Rp.lst.mp px
    refine .inl ⟨a, xs, rfl, .of (R.sub _ _ h1), fun p hp => ?_⟩
    obtain ⟨R2, s2, q1, q2, q3⟩ := R.newO (.lst xs.reverse) hp
    exact k _ _ _ R2 s2 ⟨p, _, rfl, upd_same, q1, ⟨q2, al _ hp⟩, q3, h2.reverse⟩
  · cases e
    obtain ⟨a, xs, rfl, h1, h2⟩ := Rp.tup.mp px
    refine .inr ⟨a, xs, rfl, hK ▸ QL.Same.sqT R.sub h1, fun p hp => ?_⟩
    obtain ⟨R2, s2⟩ := R.new (.tup xs.reverse) hp
    exact k _ _ _ R2 s2 (Rp.tup.mpr ⟨p, _, rfl, .of upd_same, Rps.mono s2.cs _ _ h2.reverse⟩)
  · cases e
theorem tRev_read (hK : X.K = T.B.G.K) {fa : Env → Rs Rv} : ∀ σ H Q, tE T (fun δ => (fa δ).bind fun x δ => optR (revD x.d) δ) σ H Q → tRevA X.K (tE T fa) σ H Q := fun σ H Q h => by
  obtain ⟨C, δ, R, h⟩ := h
  refine tE.then R h fun x δ1 H1 C1 v R1 s1 p1 h1 => ?_
  obtain ⟨z, ez, h4⟩ := optR_some h1
  exact rev_read hK R1 s1.al p1 ez fun v' H' C' R' s' hv => h4 H' C' R' s' v' hv
theorem s_rev (hK : X.K = T.B.G.K) {e : Expr} {fa : Env → Rs Rv} {k : Nat} {p1 p2 p3 pos : Pos} (he : PE X e (tE T fa)) : PE X (.Subscript e (.Slice none none (some (.UnaryOp .USub (.Constant (.int 1) k p1) p2)) p3) pos) (tE T fun δ => (fa δ).bind fun x δ => optR (revD x.d) δ) := QL.PE.imp (pe_rev he) (tRev_read hK)
end

end QL

end
section
set_option Elab.async false
set_option linter.all false
set_option maxRecDepth 100000
set_option maxHeartbeats 4000000
/-! QB0: set(..) of a list of ints. -/
namespace QL
open PySem PySem.Spec PyProof.Rows L2

/-- a new set -/
abbrev set0 (w : World) : Obj := { cls := .type "set", dict := none, data := .set #[] 0 (.fresh 0 0 (!w.params.followText "set-order")) }
section
variable {P : Program} {w : World} {A : Around} {E : Value → Shared → Prop} {s : Shared}
/-- what set(..) leaves -/
def SetMade (w : World) (s : Shared) (ns : List Int) (s₂ : Shared) : Prop := ∃ (h' : Heap) (tk c : Nat), s₂ = { s with heap := h', toks := tk } ∧ SetR w h' s.heap.objs.size (fun j => decide (j ∈ ns)) c ∧ c ≤ ns.length ∧ ∀ b o, s.heap.get? b = some o → h'.get? b = some o
theorem set_lst_ints {l : Addr} {items : Array Value} {ns : List Int} {Q : Value → Shared → Prop} (hand : A.handled = none) (isl : s.heap.IsList l items) (iar : IntsAre items.toList ns) (few : ns.length + 1 < scanBound)
    (fin : ∀ s₂, SetMade w s ns s₂ → Q (.ref s.heap.objs.size) s₂) : wpAny (model P w) A (call (.type "set") [.ref l]) Q E s := by
  have sz : items.size = ns.length := (Array.length_toList ..).symm.trans iar.length
  obtain ⟨z1, z2, z3⟩ := F.called_set.mro
  have z4 := F.called_set.made
  have z5 := F.called_set.sub
  refine wpAny_call (codeAny_of_tree ?_)
  show wpAny _ _ (callAny (.type "set") _) _ _ _
  refine wpAny_pure ⟨Code.quiet_builtin _ (by decide +kernel), codeAny_builtin F.entry_type_call ?_⟩
  rw [Around.under_plain (weight_type_call_type "set" [.ref l] []) rfl]
  have z6 := F.called_set.notType
  have z7 := F.called_set.canCreate
  have z8 := F.typeCall_set_1 (.ref l)
  repeat (any_goals (first | assumption | wp_step))
  refine codeAny_mono (code_set_led1 (.ref l) (E := E) (Q₁ := fun v s₁ => v = .ref s.heap.objs.size ∧ s₁ = { s with heap := s.heap.push (set0 w) }) ⟨rfl, rfl⟩) fun r s₁ hr => ?_
  cases r with
  | error e => exact hr
  | ok fl =>
    cases fl with
    | ret v =>
      obtain ⟨rfl, rfl⟩ := hr
      have gS : (s.heap.push (set0 w)).get? s.heap.objs.size = some (set0 w) := Heap.get?_push_size _ rfl
      have tS : Shared.TypeIs { s with heap := s.heap.push (set0 w) } (.ref s.heap.objs.size) "set" := ⟨_, gS, rfl⟩
      have y1 := F.called_set.init.lookup
      have y2 := F.called_set.init.bind (.ref s.heap.objs.size)
      repeat (any_goals (first | assumption | wp_step))
      refine codeAny_mono (codeAny_call_builtin (R := wants (fun r s₂ => r = .none ∧ SetMade w s ns s₂) E) F.called_set.init.plain F.entry_set_init (check_set_init_1 tS ?_)) fun r₂ s₂ hr₂ => ?_
      · obtain ⟨⟨oc, od, odt, osl⟩, gl, el, nl, dl⟩ := isl
        simp only at el dl
        subst el dl
        have gl' : (s.heap.push (set0 w)).get? l = some { cls := .type "list", dict := od, data := .seq items nl, slots := osl } := Heap.get?_push_of_some _ gl
        have y3 := F.sub_list_set
        have y4 := F.sub_list_frozenset
        have y5 : (Value.type "list" == Value.type "dict") = false := by decide
        have isl1 : (s.heap.push (set0 w)).IsList l items := ⟨_, gl', rfl, nl, rfl⟩
        unfold Builtin.«set.__init__» noKeywords Builtin.Frozenset.updateFrom
        generalize hPI : pyIter = PI
        wp_walk
        subst hPI
        refine wpAny_pyIter_list isl1 (wpAny_bind (wpAny_runValue ?_))
        have ls : l < s.heap.objs.size := Heap.lt_size gl
        have hand3 : A.in1.in1.in1.handled = none := by simp [hand]
        have e1 : (s.heap.push (set0 w)).objs.size = s.heap.objs.size + 1 := Heap.size_push ..
        have nI : l ≠ (s.heap.push (set0 w)).objs.size := by rw [e1]; exact Nat.ne_of_lt (Nat.lt_succ_of_lt ls)
        have nS : s.heap.objs.size ∉ [(s.heap.push (set0 w)).objs.size, l] := by
          rw [e1]
          intro z
          rcases List.mem_cons.mp z with z | z
          · exact absurd z (Nat.ne_of_lt (Nat.lt_succ_self _))
          · exact absurd (List.mem_singleton.mp z) (Nat.ne_of_gt ls)
        have vals : ∀ (i : Nat) (v : Value), items[i]? = some v → ∃ k t, ns[i]? = some k ∧ v = .int k t := fun i v hv => by
          have hi : i < ns.length := by rw [← sz]; exact (Array.getElem?_eq_some_iff.mp hv).1
          obtain ⟨t, e⟩ := PyProof.Rows.IntsAre.int_at iar i v (by rw [Array.getElem?_toList]; exact hv)
          exact ⟨ns[i], t, List.getElem?_eq_getElem hi, by rw [e, List.getD_eq_getElem?_getD, List.getElem?_eq_getElem hi] <;> rfl⟩
        refine set_update_ints ((Walks.list hand3 _ l nI items).toS) s.heap.objs.size nS ns sz few vals (items.size - 0) 0 _ (by omega) (Nat.zero_le _) ⟨⟨_, Heap.get?_push_size _ rfl, rfl, rfl⟩, isl1.push _⟩ ⟨0, Nat.le_refl 0, setR_new_at (Heap.get?_push_of_some _ gS)⟩ ?_
        rintro ⟨h', g2, d', tk', os'⟩ c' hm hc' hS'
        have q1 : g2 = s.gens := hm.gens
        have q2 : d' = s.drawn := hm.drawn
        have q3 : os' = s.os := hm.os
        subst q1 q2 q3
        show wpAny _ _ _ _ _ _
        refine wpAny_pure ?_
        show wpAny _ _ (ret Value.none) _ _ _
        rw [sz] at hc'
        refine wpAny_pure ⟨rfl, h', tk', c', rfl, hS', hc', fun b o e => ?_⟩
        have hb0 : b < s.heap.objs.size := Heap.lt_size e
        refine hm.heap b o (fun z => ?_) (Heap.get?_push_of_some _ (Heap.get?_push_of_some _ e))
        rw [e1] at z
        rcases List.mem_cons.mp z with z | z
        · exact absurd z (Nat.ne_of_lt hb0)
        · exact absurd (List.mem_singleton.mp z) (Nat.ne_of_lt (Nat.lt_succ_of_lt hb0))
      · cases r₂ with
        | error e => exact hr₂
        | ok fl₂ =>
          cases fl₂ with
          | ret r =>
            obtain ⟨rfl, M⟩ := hr₂
            have fin2 := fin _ M
            repeat (any_goals (first | assumption | wp_step))
          | _ => exact hr₂.elim
    | _ => exact hr.elim
end
theorem setR_keys {w : World} {h : Heap} {a : Addr} {ns : List Int} {c : Nat} (R : SetR w h a (fun j => decide (j ∈ ns)) c) : ∃ ms : List Int, ms.Nodup ∧ ms.length = c ∧ ∀ k, k ∈ ms ↔ k ∈ ns := by
  obtain ⟨o, es, ep, t, _, _, _, _, nd, mem, _, _, sz, _⟩ := R
  refine ⟨es.toList.map keyOf, nd, by rw [List.length_map, Array.length_toList]; exact sz, fun k => ?_⟩
  rw [← mem k]
  simp
section
variable {X : Cx}
/-- set(list of ints): a set as an own thing -/
def rSetL (K : PySem.W.Frag) (w : World) : List V → Hp → VK → Prop := fun vs H Q => ∃ (a : Addr) (ns : List Int), vs = [V.ref a] ∧ SqL K H a (ns.map V.int) ∧ ns.length ≤ 1000 ∧ ∀ p c, H p = none → (∃ ms : List Int, ms.Nodup ∧ ms.length = c ∧ ∀ k, k ∈ ms ↔ k ∈ ns) → Q (.ref p) (upd H p (SetO w p (fun j => decide (j ∈ ns)) c))
theorem cr_setL (hc : X.calm = true) : CallR X (.type "set") (rSetL X.K X.w) := by
  intro pins s σ H vs us Q I r h
  obtain ⟨a, ns, rfl, hs, h64, q⟩ := h
  obtain ⟨its, rv, hl, _⟩ := I.list hs
  rw [Vals.ref1 r]
  have hi := ints_of_vals rv
  refine set_lst_ints (I.ok.hd hc) hl.isList hi (by unfold scanBound; omega) fun s₂ M => ?_
  obtain ⟨h', tk, c, rfl, hS, hc', kp⟩ := M
  exact ⟨.ref _, _, I.laid (t' := tk) kp (Nat.le_refl _) (setO_new hS), rfl, q _ c (I.hok.fresh (Nat.le_refl _)) (setR_keys hS)⟩
end
end QL

end
section
set_option Elab.async false
set_option linter.all false
set_option maxRecDepth 100000
/-! QB: sorted(set(..)), own dicts, xs.extend, xs.remove, xs.count, range(a, b, -1). -/
namespace QL
open PySem PySem.Spec PyProof.Rows L2

/-! ### sorted, each once -/
theorem insU_mem (x : Int) : ∀ (l : List Int) (k : Int), k ∈ insU x l ↔ k = x ∨ k ∈ l
  | [], k => by simp [insU]
  | y :: ys, k => by
    unfold insU
    split
    · simp
    · split
      · rename_i h; subst h; simp
      · simp only [List.mem_cons, insU_mem x ys k]
        constructor <;> (intro h; rcases h with h | h | h <;> simp [h])
theorem sortU_mem : ∀ (l : List Int) (k : Int), k ∈ sortU l ↔ k ∈ l
  | [], k => by simp [sortU]
  | x :: l, k => by
    unfold sortU
    rw [insU_mem, sortU_mem l k, List.mem_cons]
theorem insU_lt (x : Int) : ∀ l : List Int, l.Pairwise (· < ·) → (insU x l).Pairwise (· < ·)
  | [], _ => by simp [insU]
  | y :: ys, h => by
    obtain ⟨h1, h2⟩ := List.pairwise_cons.mp h
    unfold insU
    split
    · rename_i hx
      refine List.pairwise_cons.mpr ⟨fun k hk => ?_, h⟩
      rcases List.mem_cons.mp hk with rfl | hk
      · exact hx
      · have := h1 k hk; omega
    · split
      · exact h
      · refine List.pairwise_cons.mpr ⟨fun k hk => ?_, insU_lt x ys h2⟩
        rcases (insU_mem x ys k).mp hk with rfl | hk
        · omega
        · exact h1 k hk
theorem sortU_lt : ∀ l : List Int, (sortU l).Pairwise (· < ·)
  | [] => List.Pairwise.nil
  | x :: l => insU_lt x _ (sortU_lt l)
theorem lt_one : ∀ {l m : List Int}, l.Pairwise (· < ·) → m.Pairwise (· < ·) → (∀ k, k ∈ l ↔ k ∈ m) → l = m
  | [], [], _, _, _ => rfl
  | [], y :: m, _, _, h => by have := (h y).mpr (List.mem_cons_self ..); simp at this
  | x :: l, [], _, _, h => by have := (h x).mp (List.mem_cons_self ..); simp at this
  | x :: l, y :: m, h1, h2, h => by
    obtain ⟨a1, a2⟩ := List.pairwise_cons.mp h1
    obtain ⟨b1, b2⟩ := List.pairwise_cons.mp h2
    have e : x = y := by
      have q1 := (h x).mp (List.mem_cons_self ..)
      have q2 := (h y).mpr (List.mem_cons_self ..)
      rcases List.mem_cons.mp q1 with q1 | q1
      · exact q1
      · rcases List.mem_cons.mp q2 with q2 | q2
        · exact q2.symm
        · have := a1 y q2; have := b1 x q1; omega
    subst e
    congr 1
    refine lt_one a2 b2 fun k => ⟨fun hk => ?_, fun hk => ?_⟩
    · rcases List.mem_cons.mp ((h k).mp (List.mem_cons_of_mem _ hk)) with rfl | q
      · have := a1 k hk; omega
      · exact q
    · rcases List.mem_cons.mp ((h k).mpr (List.mem_cons_of_mem _ hk)) with rfl | q
      · have := b1 k hk; omega
      · exact q
theorem nd_le : ∀ {l m : List Int}, l.Nodup → (∀ k ∈ l, k ∈ m) → l.length ≤ m.length
  | [], _, _, _ => Nat.zero_le _
  | x :: l, m, h, hm => by
    obtain ⟨h1, h2⟩ := List.nodup_cons.mp h
    have hx := hm x (List.mem_cons_self ..)
    have := nd_le (m := m.erase x) h2 fun k hk => (List.mem_erase_of_ne (fun e => h1 (by rw [← e]; exact hk))).mpr (hm k (List.mem_cons_of_mem _ hk))
    rw [List.length_erase_of_mem hx] at this
    have : 0 < m.length := List.length_pos_of_mem hx
    rw [List.length_cons]
    omega
theorem lt_nd {l : List Int} (h : l.Pairwise (· < ·)) : l.Nodup := h.imp fun h e => by omega
section
variable {T : Tx} {X : Cx} {σ : L2.St} {H C : Hp} {δ : Env} {D : Ends} {pos p p2 p3 p4 : Pos} {a b c d e tg : Expr} {es : List Expr} {fa fb fc fd : Env → Rs Rv} {x : Str} {i : Nat}
theorem boot_set : bootBuiltins "set" = some (.type "set") := by decide +kernel
theorem boot_srt : bootBuiltins "sorted" = some (.builtin "sorted") := by decide +kernel
theorem boot_lst : bootBuiltins "list" = some (.type "list") := by decide +kernel
theorem s_sset (hc : X.calm = true) (hg : Gl X "sorted") (hm : X.mg "sorted" = none) (hg2 : Gl X "set") (hm2 : X.mg "set" = none) (he : PE X e (tE T fa)) (hs : starEach [e] X.env = (false, eval e X.env) :: starEach [] X.env) :
    PE X (.Call (.Name "sorted" p) [.Call (.Name "set" p2) [e] [] p3] [] pos) (tE T fun δ => (fa δ).bind fun x δ => optR (ssetD x.d) δ) := by
  refine QL.PE.imp (pe_callB (cr_sortedSet hc) hg hm boot_srt (pa_cons (pe_callTy (cr_setL hc) hg2 hm2 boot_set (pa_cons he pa_nil hs) (by decide) (by decide) hs rfl) pa_nil rfl) (by decide) (by decide) rfl rfl) fun σ H Q h => ?_
  obtain ⟨C, δ, R, h⟩ := h
  refine tE.then R h fun x δ1 H1 C1 v R1 s1 p1 h1 => ?_
  obtain ⟨z, ez, h4⟩ := optR_some h1
  unfold ssetD at ez
  split at ez
  · rename_i ds ed
    obtain ⟨l, el, ez⟩ := Option.bind_eq_some_iff.mp ez
    split at ez
    · rename_i hl
      cases ez
      rw [ed] at p1
      obtain ⟨q, xs, rfl, g1, g2⟩ := Rp.lst.mp p1
      have exs := ints_rps el g2
      subst exs
      refine ⟨q, l, rfl, .of (R1.sub _ _ g1), hl.1, fun r n hr hn => ?_⟩
      obtain ⟨ms, m1, m2, m3⟩ := hn
      have hn : n ≤ (sortU l).length := by
        rw [← m2]
        exact nd_le m1 fun k hk => (sortU_mem l k).mpr ((m3 k).mp hk)
      obtain ⟨R2, s2, q1, q2, q3⟩ := R1.newO (SetO X.w r (fun j => decide (j ∈ l)) n) hr
      refine ⟨r, _, n, rfl, upd_same, by have := hl.2; omega, fun ns u hlt hmem hlen hu => ?_⟩
      obtain ⟨R3, s3, w1, w2, w3⟩ := R2.newO (.lst (ns.map V.int)) hu
      have en : ns = sortU l := lt_one hlt (sortU_lt l) fun k => by rw [hmem k, sortU_mem]; simp
      subst en
      exact h4 _ _ R3 (s2.trans s3) _ ⟨u, _, rfl, upd_same, w1, ⟨w2, s1.al _ (s2.al _ hu)⟩, w3, rps_ints _⟩
    · cases ez
  · cases ez
/-! ### own dicts -/
theorem s_dic0 : PE X (.Dict [] [] pos) (tE T fun δ => .ok (.dv [] []) δ) := QL.PE.imp pe_dnewK fun σ H Q h => by
  obtain ⟨C, δ, R, h⟩ := h
  intro q hq
  obtain ⟨R2, s2, q1, q2, q3⟩ := R.newO (.dK []) hq
  exact h _ _ R2 s2 _ ⟨q, [], rfl, upd_same, q1, ⟨q2, hq⟩, q3, rfl, Rps.nil.mpr rfl⟩
theorem dic_sl {B : Bd} (R : Rl B σ H C δ) {ks : List Key} {ds : List QL.D} (h : dicSl δ i = some (ks, ds)) : δ[i]? = some (.dv ks ds) ∧ ∃ q xs, σ[i]? = some (some (V.ref q)) ∧ H q = some (.dK (ks.zip xs)) ∧ C q = none ∧ B.H0 q = none ∧ ks.length = ds.length ∧ Rps B.G C ds xs := by
  unfold dicSl at h
  split at h
  · rename_i e
    cases h
    obtain ⟨o, ho, q, xs, rfl, h1, h2, h3, h4, h5⟩ := R.at_ e
    exact ⟨e, q, xs, ho, h1, h2, h3, h4, h5⟩
  · cases h
theorem keys_rps {G : Gd} : ∀ {ks : List Key} {xs : List V}, ks.length ≤ xs.length → Rps G C (ks.map keyD) ((ks.zip xs).map fun kv => kV kv.1)
  | [], _, _ => Rps.nil.mpr rfl
  | k :: ks, [], h => by simp at h
  | k :: ks, x :: xs, h => by
    refine Rps.cons.mpr ⟨_, _, rfl, ?_, keys_rps (by simpa using h)⟩
    cases k with
    | inl i => exact Rp.int.mpr rfl
    | inr x => exact Rp.str.mpr rfl
theorem s_keys (hc : X.calm = true) (hg : Gl X "list") (hm : X.mg "list" = none) (hN : X.N[i]? = some x) (hv : Vis X.env.scope x) (hd : (x == ("__debug__" : Str)) = false) (hcd : (x == ("__classdict__" : Str)) = false) :
    PE X (.Call (.Name "list" p) [.Name x p2] [] pos) (tE T fun δ => optR ((dicSl δ i).map fun q => .lv (q.1.map keyD)) δ) := by
  refine QL.PE.imp (pe_callTy (call_listD hc) hg hm boot_lst (pa_cons (pe_var hN hv hd hcd) pa_nil rfl) (by decide) (by decide) rfl rfl) fun σ H Q h => ?_
  obtain ⟨C, δ, R, h⟩ := h
  obtain ⟨z, ez, h2⟩ := optR_some h
  obtain ⟨⟨ks, ds⟩, ed, rfl⟩ := Option.map_eq_some_iff.mp ez
  obtain ⟨e0, q, xs, ho, g1, g2, g3, g4, g5⟩ := dic_sl R ed
  refine ⟨_, ho, q, ks.zip xs, rfl, .inl g1, fun r hr => ?_⟩
  obtain ⟨R2, s2, q1, q2, q3⟩ := R.newO (.lst ((ks.zip xs).map fun kv => kV kv.1)) hr
  exact h2 _ _ R2 s2 _ ⟨r, _, rfl, upd_same, q1, ⟨q2, hr⟩, q3, keys_rps (by rw [g4, g5.len]; exact Nat.le_refl _)⟩
/-- an own thing in a slot is changed -/
theorem Rl.chgX {B : Bd} (R : Rl B σ H C δ) {s s' : Sl} (e1 : δ[i]? = some s) (l1 : isLv s = true) {q : Addr} (e2 : σ[i]? = some (some (V.ref q))) (cq : C q = none) (h0 : ∀ o, B.H0 q = some o → B.L0 q) (o' : HO) (sl : SlotR B (upd H q o') C i s' (some (V.ref q))) : Rl B σ (upd H q o') C (δ.set i s') := by
  have ne : ∀ {b : Addr} {u : HO}, C b = some u → b ≠ q := fun h => ne_of_none h cq
  refine ⟨by rw [List.length_set]; exact R.len, fun j t o2 g1 g2 => ?_, fun b u hb => ?_, R.conf, R.vis, fun b u g1 g2 => ?_, fun b hb => ?_, fun j k t u b nj g1 g2 k1 k2 g3 g4 => ?_⟩
  · rcases set_get g1 with ⟨rfl, rfl, _⟩ | ⟨nj, g1⟩
    · rw [e2] at g2
      cases g2
      exact sl
    · refine (R.slot j t o2 g1 g2).mono (L2.Same.refl _) fun b u l eo h4 h5 => ⟨?_, h5⟩
      have nb : b ≠ q := fun z => by
        subst z
        exact R.apart i j s t b nj e1 g1 l1 l e2 (by rw [g2, eo])
      rw [upd_ne nb]; exact h4
  · rw [upd_ne (ne hb)]; exact R.sub _ _ hb
  · by_cases z : b = q
    · subst z; exact absurd (h0 _ g1) g2
    · rw [upd_ne z]; exact R.keep _ _ g1 g2
  · by_cases z : b = q
    · subst z; rw [upd_same] at hb; cases hb
    · rw [upd_ne z] at hb; exact R.al0 _ hb
  · have live : ∀ {m : Nat} {w : Sl}, (δ.set i s')[m]? = some w → isLv w = true → ∃ w0, δ[m]? = some w0 ∧ isLv w0 = true := fun {m w} g l => by
      rcases set_get g with ⟨rfl, _, _⟩ | ⟨_, g⟩
      · exact ⟨s, e1, l1⟩
      · exact ⟨w, g, l⟩
    obtain ⟨w1, x1, x2⟩ := live g1 k1
    obtain ⟨w2, y1, y2⟩ := live g2 k2
    exact R.apart j k w1 w2 b nj x1 y1 x2 y2 g3 g4
theorem zip_any {k : Key} : ∀ {ks : List Key} {xs : List V}, ks.length = xs.length → ((ks.zip xs).any fun kv => decide (kv.1 = k)) = ks.any fun j => decide (j = k)
  | [], _, _ => rfl
  | j :: ks, [], h => by simp at h
  | j :: ks, x :: xs, h => by
    rw [List.zip_cons_cons, List.any_cons, List.any_cons, zip_any (by simpa using h)]
theorem zip_map {k : Key} {v : V} : ∀ {ks : List Key} {xs : List V}, ks.length = xs.length → (ks.zip xs).map (fun kv => if kv.1 = k then (kv.1, v) else kv) = ks.zip (List.zipWith (fun j y => if j = k then v else y) ks xs)
  | [], _, _ => rfl
  | j :: ks, [], h => by simp at h
  | j :: ks, x :: xs, h => by
    rw [List.zip_cons_cons, List.map_cons, List.zipWith_cons_cons, List.zip_cons_cons, zip_map (by simpa using h)]
    congr 1
    dsimp only
    split <;> rfl
theorem zipW_rps {G : Gd} {k : Key} {d : QL.D} {v : V} (r : Rp G C d v) : ∀ {ks : List Key} {ds : List QL.D} {xs : List V}, Rps G C ds xs → Rps G C (List.zipWith (fun j y => if j = k then d else y) ks ds) (List.zipWith (fun j y => if j = k then v else y) ks xs)
  | [], ds, xs, _ => Rps.nil.mpr rfl
  | j :: ks, [], xs, h => by rw [Rps.nil.mp h]; exact Rps.nil.mpr rfl
  | j :: ks, d' :: ds, xs, h => by
    obtain ⟨x, r', rfl, h1, h2⟩ := Rps.cons.mp h
    refine Rps.cons.mpr ⟨_, _, rfl, ?_, zipW_rps r h2⟩
    dsimp only
    split
    · exact r
    · exact h1
theorem dput_rps {G : Gd} {ks : List Key} {ds : List QL.D} {xs : List V} {k : Key} {d : QL.D} {v : V} (hl : ks.length = ds.length) (h : Rps G C ds xs) (r : Rp G C d v) : ∃ xs', putK (ks.zip xs) k v = (dputD ks ds k d).1.zip xs' ∧ (dputD ks ds k d).1.length = (dputD ks ds k d).2.length ∧ Rps G C (dputD ks ds k d).2 xs' := by
  have hx : ks.length = xs.length := by rw [hl, h.len]
  unfold putK dputD
  rw [zip_any hx]
  split
  · exact ⟨_, zip_map hx, by simp [hl], zipW_rps r h⟩
  · refine ⟨xs ++ [v], by rw [List.zip_append hx]; rfl, by simp [hl], h.append (.one r)⟩
abbrev fDput (i : Nat) (fk fa : Env → Rs Rv) : Env → Rs Fl := fun δ => (fa δ).bind fun y δ => (optR (dicSl δ i) δ).bind fun _ δ => (fk δ).bind fun x δ => match dicSl δ i, dKey x.d with
    | some (ks, ds), some k => if ks.length < LIM then .ok .nx (δ.set i (.dv (dputD ks ds k y.d).1 (dputD ks ds k y.d).2)) else .no
    | _, _ => .no
theorem dKey_rp {G : Gd} {d : QL.D} {k : Key} {v : V} (h : dKey d = some k) (r : Rp G C d v) : v = kV k := by
  unfold dKey at h
  split at h
  · cases h; exact Rp.int.mp r
  · cases h; exact Rp.str.mp r
  · cases h
theorem s_dput (hu : X.A.units + 1 < cLine) (hN : X.N[i]? = some x) (hv : Vis X.env.scope x) (hd : (x == ("__debug__" : Str)) = false) (hcd : (x == ("__classdict__" : Str)) = false) (hk : PE X b (tE T fb)) (he : PE X e (tE T fa)) (hs : swapsWith e (some (.Subscript (.Name x p) b p2)) pos.line X.env = pure false) :
    PS X (.Assign [.Subscript (.Name x p) b p2] e pos) (tS T (fDput i fb fa)) := by
  refine QL.PS.imp (ps_dput hu (pe_var hN hv hd hcd) hk he hs) fun D σ H h => ?_
  obtain ⟨C, δ, R, h⟩ := h
  refine tE.thenD R h fun y δ1 H1 C1 v R1 s1 p1 h1 => ?_
  obtain ⟨⟨ks0, ds0⟩, e0, h1⟩ := optS h1
  obtain ⟨_, q, xs0, eq, _⟩ := dic_sl R1 e0
  refine ⟨_, eq, ?_⟩
  refine tE.thenD R1 h1 fun z δ2 H2 C2 w R2 s2 p2 h2 => ?_
  split at h2
  · rename_i ks ds k ed ek
    split at h2
    · rename_i hl
      obtain ⟨e2, q', xs, eq', g1, g2, g3, g4, g5⟩ := dic_sl R2 ed
      rw [eq] at eq'
      cases eq'
      obtain ⟨xs', w1, w2, w3⟩ := dput_rps (k := k) g4 g5 (Rp.mono s2.cs _ _ p1)
      refine ⟨q, _, rfl, .inl ⟨ks.zip xs, k, g1, dKey_rp ek p2, ?_, rfl⟩, ?_⟩
      · rw [List.length_zip, Nat.min_eq_left (by rw [g4, g5.len]; exact Nat.le_refl _)]
        exact len_szlt hl
      · rw [w1]
        exact h2 _ _ _ (R2.chgX e2 rfl eq g2 (fun o z => by rw [g3] at z; cases z) _ ⟨q, xs', rfl, upd_same, g2, g3, w2, w3⟩) (L2.Same.refl _)
    · exact h2.elim
  · exact h2.elim
/-! ### own lists: extend, remove, count -/
abbrev fExt (i : Nat) (fa : Env → Rs Rv) : Env → Rs Fl := fun δ => (optR (liveSl δ i) δ).bind fun _ δ => (fa δ).bind fun y δ => match y with
    | .lv zs => (optR (chgSl δ i fun ds => if ds.length + zs.length ≤ LIM then some (ds ++ zs) else none) δ).bind fun δ' _ => .ok .nx δ'
    | _ => .no
theorem s_ext (hN : X.N[i]? = some x) (hv : Vis X.env.scope x) (hd : (x == ("__debug__" : Str)) = false) (hcd : (x == ("__classdict__" : Str)) = false) (he : PE X e (tE T fa)) (hs : starEach [e] X.env = (false, eval e X.env) :: starEach [] X.env) {ap : Pos}
    (hb : ∀ {to : TE} {t : TA}, PE X (.Name x p) to → PA X [e] t → PE X (.Call (.Attribute (.Name x p) "extend" ap) [e] [] p2) (tBM X.K "list" rExtend to t)) :
    PS X (.Expr (.Call (.Attribute (.Name x p) "extend" ap) [e] [] p2) pos) (tS T (fExt i fa)) := by
  refine QL.PS.imp (ps_expr (hb (pe_var hN hv hd hcd) (pa_cons he pa_nil hs)) rfl) fun D σ H h => ?_
  obtain ⟨C, δ, R, h⟩ := h
  obtain ⟨ds0, e0, h⟩ := optS h
  obtain ⟨q, xs, eq, hq, _⟩ := live_sl R e0
  refine ⟨_, eq, .inl ⟨rfl, xs, .of hq⟩, ?_⟩
  refine tE.thenS R h fun y δ1 H1 C1 v R1 s1 hv1 h1 => ?_
  split at h1
  · rename_i zs
    obtain ⟨δ', e1, h2⟩ := optS h1
    obtain ⟨q', xs1, ds, ds', g1, g2, g3, g4, g5, g6⟩ := R1.chg e1
    rw [eq] at g1
    cases g1
    split at g4
    · rename_i hl
      cases g4
      obtain ⟨r, ys, rfl, w1, w2, w3, w4, w5⟩ := hv1
      exact ⟨q, r, xs1, ys, rfl, rfl, g2, w1, by rw [← g3.len, ← w5.len]; exact len_sz hl, h2 _ _ _ (g6 _ (g3.append w5)) (L2.Same.refl _)⟩
    · cases g4
  · exact h1.elim
theorem erase_at : ∀ {l : List Int} {k : Int}, k ∈ l → ∃ j, l[j]? = some k ∧ (∀ m : Nat, m < j → l[m]? ≠ some k) ∧ l.eraseIdx j = l.erase k
  | [], k, h => by simp at h
  | x :: l, k, h => by
    by_cases e : x = k
    · subst e
      exact ⟨0, rfl, fun m hm => by omega, by simp⟩
    · rcases List.mem_cons.mp h with h | h
      · exact absurd h.symm e
      · obtain ⟨j, h1, h2, h3⟩ := erase_at h
        refine ⟨j + 1, h1, fun m hm => ?_, ?_⟩
        · cases m with
          | zero => simpa using e
          | succ m => exact h2 m (by omega)
        · rw [List.erase_cons_tail (by simpa using e), ← h3]
          rfl
abbrev fRem (i : Nat) (fa : Env → Rs Rv) : Env → Rs Fl := fun δ => (optR (liveSl δ i) δ).bind fun _ δ => (fa δ).bind fun y δ => (optR (chgSl δ i fun ds => remD ds y.d) δ).bind fun δ' _ => .ok .nx δ'
theorem s_rem (hN : X.N[i]? = some x) (hv : Vis X.env.scope x) (hd : (x == ("__debug__" : Str)) = false) (hcd : (x == ("__classdict__" : Str)) = false) (he : PE X e (tE T fa)) (hs : starEach [e] X.env = (false, eval e X.env) :: starEach [] X.env) {ap : Pos}
    (hb : ∀ {to : TE} {t : TA}, PE X (.Name x p) to → PA X [e] t → PE X (.Call (.Attribute (.Name x p) "remove" ap) [e] [] p2) (tBM X.K "list" rRemI to t)) :
    PS X (.Expr (.Call (.Attribute (.Name x p) "remove" ap) [e] [] p2) pos) (tS T (fRem i fa)) := by
  refine QL.PS.imp (ps_expr (hb (pe_var hN hv hd hcd) (pa_cons he pa_nil hs)) rfl) fun D σ H h => ?_
  obtain ⟨C, δ, R, h⟩ := h
  obtain ⟨ds0, e0, h⟩ := optS h
  obtain ⟨q, xs, eq, hq, _⟩ := live_sl R e0
  refine ⟨_, eq, .inl ⟨rfl, xs, .of hq⟩, ?_⟩
  refine tE.thenD R h fun y δ1 H1 C1 v R1 s1 p1 h1 => ?_
  obtain ⟨δ', e1, h2⟩ := optS h1
  obtain ⟨q', xs1, ds, ds', g1, g2, g3, g4, g5, g6⟩ := R1.chg e1
  rw [eq] at g1
  cases g1
  unfold remD at g4
  split at g4
  · rename_i l k el ek
    split at g4
    · rename_i hm
      cases g4
      have ex := ints_rps el g3
      subst ex
      rw [ek] at p1
      rw [Rp.int.mp p1]
      obtain ⟨j, w1, w2, w3⟩ := erase_at hm
      refine ⟨q, l, k, j, rfl, rfl, g2, w1, w2, ?_⟩
      rw [w3]
      exact h2 _ _ _ (g6 _ (rps_ints _)) (L2.Same.refl _)
    · cases g4
  · cases g4
theorem lookLs_ok {B : Bd} (R : Rl B σ H C δ) {ds : List QL.D} (h : lookLs δ i = some ds) : ∃ q xs, σ[i]? = some (some (V.ref q)) ∧ H q = some (.lst xs) ∧ Rps B.G C ds xs := by
  unfold lookLs at h
  split at h
  · rename_i ds' ed
    cases h
    obtain ⟨v, ev, q⟩ := look_sl R ed
    rcases q with q | ⟨a, xs, ds', rfl, q1, e2, q2⟩
    · obtain ⟨a, xs, rfl, h3, h4⟩ := Rp.lst.mp q
      exact ⟨a, xs, ev, R.sub _ _ h3, h4⟩
    · cases e2
      exact ⟨a, xs, ev, q1, q2⟩
  · cases h
abbrev fCnt (i : Nat) (fa : Env → Rs Rv) : Env → Rs Rv := fun δ => (optR (lookLs δ i) δ).bind fun _ δ => (fa δ).bind fun y δ => optR ((lookLs δ i).bind fun ds => cntD (.lst ds) y.d) δ
theorem s_cnt1 (hN : X.N[i]? = some x) (hv : Vis X.env.scope x) (hd : (x == ("__debug__" : Str)) = false) (hcd : (x == ("__classdict__" : Str)) = false) (he : PE X e (tE T fa)) (hs : starEach [e] X.env = (false, eval e X.env) :: starEach [] X.env) {ap : Pos}
    (hb : ∀ {to : TE} {t : TA}, PE X (.Name x p) to → PA X [e] t → PE X (.Call (.Attribute (.Name x p) "count" ap) [e] [] p2) (tBM X.K "list" (rCntI X.K) to t)) :
    PE X (.Call (.Attribute (.Name x p) "count" ap) [e] [] p2) (tE T (fCnt i fa)) := by
  refine QL.PE.imp (hb (pe_var hN hv hd hcd) (pa_cons he pa_nil hs)) fun σ H Q h => ?_
  obtain ⟨C, δ, R, h⟩ := h
  dsimp only [fCnt] at h
  cases e0 : lookLs δ i with
  | none => rw [e0] at h; exact h.elim
  | some ds0 =>
    rw [e0] at h
    obtain ⟨q, xs, eq, hq, _⟩ := lookLs_ok R e0
    refine ⟨_, eq, .inl ⟨rfl, xs, .of hq⟩, ?_⟩
    refine tE.then (k := fun y δ => optR ((lookLs δ i).bind fun ds => cntD (.lst ds) y.d) δ) R h fun y δ1 H1 C1 v R1 s1 p1 h1 => ?_
    obtain ⟨z, ez, h4⟩ := optR_some h1
    obtain ⟨ds, ed, ez⟩ := Option.bind_eq_some_iff.mp ez
    obtain ⟨q', xs', eq', hq', g⟩ := lookLs_ok R1 ed
    rw [eq] at eq'
    cases eq'
    unfold cntD at ez
    split at ez
    · rename_i ds2 k e2 ek
      cases e2
      obtain ⟨l, el, rfl⟩ := Option.map_eq_some_iff.mp ez
      have ex := ints_rps el g
      subst ex
      rw [ek] at p1
      rw [Rp.int.mp p1]
      exact ⟨q, l, k, rfl, rfl, .of hq', h4.here R1 _ (Rp.int.mpr rfl : Rp T.B.G C1 _ _)⟩
    · cases ez
/-! ### range(a, b, -1) -/
theorem rangeDn_len : ∀ (a : Int) (n : Nat), (rangeDn a n).length = n
  | _, 0 => rfl
  | a, n + 1 => by rw [rangeDn, List.length_cons, rangeDn_len (a - 1) n]
theorem rangeDn_get : ∀ (a : Int) (n i : Nat), i < n → (rangeDn a n)[i]? = some (.int (a + i * (-1)))
  | _, 0, _, h => by omega
  | a, n + 1, 0, _ => by rw [rangeDn]; simp
  | a, n + 1, i + 1, h => by
    rw [rangeDn, List.getElem?_cons_succ, rangeDn_get (a - 1) n i (by omega)]
    congr 2
    omega
theorem wk_rngd {G : Gd} {lo : Int} {n : Nat} : Wk G C (rangeDn lo n) (Itc lo (-1) n) := by
  refine ⟨fun i H s hi => ?_, fun i H x H' s hi y => ?_, fun i H s hi => ?_⟩
  · rw [rangeDn_len] at hi; exact hi
  · obtain ⟨e, rfl⟩ := y
    rw [rangeDn_len] at hi
    exact ⟨e, _, rangeDn_get lo n i hi, Rp.int.mpr rfl⟩
  · rw [rangeDn_len] at hi; exact hi
abbrev fRngd (fa fb : Env → Rs Rv) : Env → Rs (List QL.D) := fun δ => (fa δ).bind fun x δ => (fb δ).bind fun y δ => match x.d, y.d with
    | .int i, .int j => if -(2 ^ 62) ≤ i ∧ i < 2 ^ 62 ∧ -(2 ^ 62) ≤ j ∧ j < 2 ^ 62 then .ok (rangeDn i (i - j).toNat) δ else .no
    | _, _ => .no
theorem s_irngd {k : Nat} (hg : Gl X "range") (hm : X.mg "range" = none) (ha : PE X a (tE T fa)) (hb : PE X b (tE T fb)) (hs : ∀ es, starEach (a :: es) X.env = (false, eval a X.env) :: starEach es X.env) (hs2 : ∀ es, starEach (b :: es) X.env = (false, eval b X.env) :: starEach es X.env) :
    PI X tg (.Call (.Name "range" p) [a, b, .UnaryOp .USub (.Constant (.int 1) k p3) p4] [] pos) (tI T (fRngd fa fb)) := by
  have hst : PE X (.UnaryOp .USub (.Constant (.int 1) k p3) p4) (tUn (rU fun i => .int (-i)) (tC (.int 1))) := pe_un un_neg pe_int
  refine QL.PI.imp (pi_range3 hg hm (pa_cons ha (pa_cons hb (pa_cons hst pa_nil rfl) (hs2 _)) (hs _)) (hs _) (by rw [hs2]; rfl)) fun σ H R h => ?_
  obtain ⟨C, δ, Rl0, h⟩ := h
  refine tE.then Rl0 h fun x δ1 H1 C1 v R1 s1 p1 h1 => ?_
  refine tE.then R1 h1 fun y δ2 H2 C2 w R2 s2 p2 h2 => ?_
  split at h2
  · rename_i i j ei ej
    split at h2
    · rename_i hj
      rw [ei] at p1
      rw [ej] at p2
      rw [Rp.int.mp p1, Rp.int.mp p2]
      exact ⟨1, rfl, i, j, -1, _, rfl, RgC.neg hj.1 hj.2.1 hj.2.2.1 hj.2.2.2, h2.here R2 _ wk_rngd⟩
    · exact h2.elim
  · exact h2.elim
end
end QL

end
section
set_option Elab.async false
set_option linter.all false
set_option maxRecDepth 100000
/-! QC: defs with a star parameter, and their calls. -/
namespace QL
open PySem PySem.Spec PyProof.Rows L2

/-- the promise of a def with a star parameter: what is left over is a tuple -/
def spSt (G : Gd) (Y : Xg) (F : Fn) : Sp := fun vs H Q E => ∃ ws rest, vs = ws ++ rest ∧ ws.length + 1 = F.np ∧ rest.length ≤ sizeLine ∧ ∀ p, H p = none → spF G Y F (ws ++ [V.ref p]) (upd H p (.tup rest)) Q E
structure FnS (P : Program) (w : World) (G : Gd) (Y : Xg) (mg : Str → Option Value) (base : Heap) (k : Nat) (f : Addr) (F : Fn) : Prop where
  ex : FnR P w G.K mg base (L2.CX P w) k f (spSt G Y F)
  kp : PySem.W.keepIn G.K (.ref f) = true
theorem FnS.mono {P : Program} {w : World} {G : Gd} {Y : Xg} {mg : Str → Option Value} {base : Heap} {j k : Nat} {f : Addr} {F : Fn} (h : FnS P w G Y mg base j f F) (l : j ≤ k) : FnS P w G Y mg base k f F := ⟨FnR.mono h.ex l, h.kp⟩
section
variable {X : Cx} {CX : CXT} {k : Nat} {f : Addr} {sp : Sp} {E : L2.St → XK} {x : Str} {p pos : Pos} {e : Expr} {es : List Expr} {t : TA}
theorem run_R {pins : List (Addr × Obj)} {σ : L2.St} {H : Hp} {s : Shared} {Q : VK} {us : List Value} {vs : List V} (F : FnR X.prog X.w X.K X.mg X.base CX k f sp) (hr : Room k X.A) (hx : PassesAt CX X σ (E σ)) (I : L2.Inv X pins σ H s) (r : Vals vs us) (h : sp vs H Q (E σ)) : wpAny (model X.prog X.w) X.A (call (.ref f) us) (EP X pins σ Q) X.xe s := by
  refine wpAny_call (codeAny_mono (F X.A X.stack s H us vs Q (E σ) hr I.env0 r h) fun r s' hq => ?_)
  cases r with
  | error er => exact hx pins H s er s' I hq
  | ok fl =>
    cases fl with
    | ret u => exact I.after hq
    | next => exact hq.elim
    | brk => exact hq.elim
    | cont => exact hq.elim
theorem pe_callR (F : FnR X.prog X.w X.K X.mg X.base CX k f sp) (hr : Room k X.A) (hg : Gl X x) (hm : X.mg x = some (.ref f)) (hk : PySem.W.keepIn X.K (.ref f) = true) (hx : ∀ σ, PassesAt CX X σ (E σ)) (ha : PA X (e :: es) t) (hdb : (x == ("__debug__" : Str)) = false)
    (he : starEach (e :: es) X.env = (false, eval e X.env) :: starEach es X.env) (hpl : (backTo pos (starEach es X.env)).any (·.1) = false) : PE X (.Call (.Name x p) (e :: es) [] pos) (fun σ H Q => t σ H fun vs H1 => sp vs H1 Q (E σ)) := by
  refine ⟨fun pins s σ H Q I h => ?_⟩
  refine wpAny_Call_Name_kw (ld_glob I hg hm ?_ hdb)
  exact PySem.W.callWith_K (h₀ := X.base) I.ok.mod.kin hk (thn (ha.run pos pins s σ H _ I h) fun us s1 ⟨vs, H1, I1, r, q⟩ => ⟨I1.kIn, run_R F hr (hx σ) I1 r q⟩) he hpl
end
section
variable {T : Tx} {X : Cx} {σ : L2.St} {H C : Hp} {δ : Env} {p pos : Pos} {e : Expr} {es : List Expr} {fa : Env → Rs Rv} {fg : Env → Rs (List Ag)} {fs : Env → Rs (List D)} {x : Str} {i : Nat}
theorem ags_of {G : Gd} : ∀ {ds : List D} {vs : List V}, Rps G C ds vs → AgsR G σ C (ds.map Ag.d) vs
  | [], vs, h => Rps.nil.mp h
  | d :: ds, vs, h => by
    obtain ⟨v, r, rfl, h1, h2⟩ := Rps.cons.mp h
    exact ⟨v, r, rfl, h1, ags_of h2⟩
theorem AgsR.append {G : Gd} : ∀ {as bs : List Ag} {vs ws : List V}, AgsR G σ C as vs → AgsR G σ C bs ws → AgsR G σ C (as ++ bs) (vs ++ ws)
  | [], bs, vs, ws, h, h' => by
    have h : vs = [] := h
    subst h
    exact h'
  | a :: as, bs, vs, ws, h, h' => by
    obtain ⟨v, r, rfl, h1, h2⟩ := h
    exact ⟨v, r ++ ws, rfl, h1, h2.append h'⟩
abbrev fCls (n : Nat) (F : Fn) (fs : Env → Rs (List D)) : Env → Rs Rv := fun δ => (fs δ).bind fun xs δ => if n ≤ xs.length ∧ xs.length ≤ LIM then callF F ((xs.take n).map Ag.d ++ [.d (.tup (xs.drop n))]) δ else .no
theorem s_cls {F : Fn} {k n : Nat} {f : Addr} (hK : X.K = T.B.G.K) (hF : FnS X.prog X.w T.B.G T.Y X.mg X.base k f F) (hr : Room k X.A) (hg : Gl X x) (hm : X.mg x = some (.ref f)) (tk : Takes X T.W) (hn : n + 1 = F.np) (ha : PA X (e :: es) (tAs T fs))
    (hdb : (x == ("__debug__" : Str)) = false) (he : starEach (e :: es) X.env = (false, eval e X.env) :: starEach es X.env) (hpl : (backTo pos (starEach es X.env)).any (·.1) = false) :
    PE X (.Call (.Name x p) (e :: es) [] pos) (tE T (fCls n F fs)) := by
  obtain ⟨h1, kp⟩ := hF
  rw [← hK] at h1 kp
  refine QL.PE.imp (pe_callR (E := fun σ => WE T.W σ) h1 hr hg hm kp (fun σ => passAt tk σ) ha hdb he hpl) fun σ H Q h => ?_
  obtain ⟨C, δ, R, h⟩ := h
  refine tAs.then R h fun xs δ1 H1 C1 vs R1 s1 p1 h1 => ?_
  split at h1
  · rename_i hl
    have hlen := p1.len
    refine ⟨vs.take n, vs.drop n, (List.take_append_drop n vs).symm, by rw [List.length_take, Nat.min_eq_left (by omega)]; exact hn, ?_, fun q hq => ?_⟩
    · rw [List.length_drop]
      exact Nat.le_trans (Nat.sub_le _ _) (by rw [← hlen]; exact len_sz hl.2)
    · obtain ⟨R2, s2⟩ := R1.new (.tup (vs.drop n)) hq
      have ag : AgsR T.B.G σ (upd C1 q (.tup (vs.drop n))) ((xs.take n).map Ag.d ++ [.d (.tup (xs.drop n))]) (vs.take n ++ [V.ref q]) :=
        (ags_of (Rps.mono s2.cs _ _ (p1.take n))).append ⟨_, _, rfl, Rp.tup.mpr ⟨q, _, rfl, .of upd_same, Rps.mono s2.cs _ _ (p1.drop n)⟩, rfl⟩
      have := call_read (Q := Q) (dvs := []) R2 (fun a h => s1.al a (s2.al a h)) ag ?_ (Out.base h1 s2)
      · rw [List.append_nil] at this
        exact this
      · have e0 : F.np - ((xs.take n).map Ag.d ++ [Ag.d (.tup (xs.drop n))]).length = 0 := by
          rw [List.length_append, List.length_map, List.length_take, Nat.min_eq_left hl.1, List.length_singleton]
          omega
        rw [e0, Nat.sub_zero, List.drop_length]
        exact Rps.nil.mpr rfl
  · exact h1.elim
end
/-- THE RULE for a def with a star parameter -/
theorem fn_okS {P : Program} {w : World} {G : Gd} {Y : Xg} {mg : Str → Option Value} {base : Heap} {x qual : Str} {params : Arguments} {body : List Stmt} {scope : Scope} {kws : List (Str × V)} {f : Addr} {fd : FuncData} {N ps : List Str} {pv : Str} {k : Nat} {R : Pr} {dfl : List D} {b : Ss}
    (F : FunD G.K x qual params body scope [] kws f fd) (S : FnScope N (ps ++ [pv]) scope)
    (hbd : ∀ (kV doc pm : Value) (an : Option Addr) (cdv ct : Value) (us rest : List Value), us.length = ps.length → bindArgs (PySem.W.fnOf x qual params body scope .none kV doc pm an cdv ct) ⟨us ++ rest, []⟩ = (newTuple rest >>= fun t => pure (ps.zip us ++ [(pv, t)])))
    (hb : ∀ (cdv : Value) (A : Around) (outer : List PySem.Env) (s : Shared) (H C : Hp) (vs : List V) (as : List Sl) (E : XK), Room k (A.deeper (envOfC qual scope s.heap.objs.size f cdv)) →
      PSs (cxOf (L2.CX P w) P w G.K mg base N qual scope f cdv A outer s H E) body (tS (txOf G Y H C vs as E) (exs R b))) :
    FnS P w G Y mg base (k + 1) f (mk R (ps.length + 1) N.length dfl b) := by
  obtain ⟨oc, od, dV, kV, doc, pm, an, cdv, ct, osl, rfl, lk, hcd, hD, _⟩ := F.ex
  have eD : dV = .none := by
    rcases hD with ⟨_, z⟩ | ⟨z, _⟩
    · exact z
    · exact absurd rfl z
  subst eD
  refine ⟨FnR.imp (StX.fn_star (sp := spF G Y (mk R (ps.length + 1) N.length dfl b)) lk hcd S StX.cxUp (fun us rest hl => hbd _ _ _ _ _ _ us rest hl) fun A outer s H vs Q E hr h => ?_) fun vs H Q E h => ?_, F.kp⟩
  · exact body_ok (Pd := fun t => PSs _ body t) (by rw [List.length_append]; rfl) S.pre (fun C vs as => hb cdv A outer s H C vs as E hr) h
  · obtain ⟨ws, rest, h1, h2, h3, h4⟩ := h
    exact ⟨ws, rest, h1, by have : ws.length + 1 = ps.length + 1 := h2; omega, h3, h4⟩
end QL

end
section
set_option Elab.async false
set_option linter.all false
set_option maxRecDepth 100000
/-! QP: defs with keyword-only parameters, called by shapes. -/
namespace QL
open PySem PySem.Spec PyProof.Rows L2

/-- the promise of a def for calls of one shape -/
structure FnN (P : Program) (w : World) (G : Gd) (Y : Xg) (mg : Str → Option Value) (base : Heap) (k : Nat) (f : Addr) (F : Fn) (h : Shp) (gl : List D) : Prop where
  ex : ∃ (fd : FuncData) (ps : List Str) (g : List Value → List Value → List Value) (gV : List V → List V → List V), FnOk P w G.K mg base (L2.CX P w) k f fd ps (spF G Y F) ∧ KBn G.K fd ps h.n h.ks g gV ∧
    ∀ (C : Hp) (ds es as : List D) (vs zs : List V), Rps G C ds vs → Rps G C es zs → vs.length = h.n → zs.length = h.ks.length → selDs gl (ds ++ es) h.sel = some as → as.length = F.np ∧ Rps G C as (gV vs zs)
  kp : PySem.W.keepIn G.K (.ref f) = true
theorem FnN.mono {P : Program} {w : World} {G : Gd} {Y : Xg} {mg : Str → Option Value} {base : Heap} {j k : Nat} {f : Addr} {F : Fn} {h : Shp} {gl : List D} (q : FnN P w G Y mg base j f F h gl) (l : j ≤ k) : FnN P w G Y mg base k f F h gl := by
  obtain ⟨⟨fd, ps, g, gV, h1, h2⟩, h3⟩ := q
  exact ⟨⟨fd, ps, g, gV, h1.mono l, h2⟩, h3⟩
section
variable {X : Cx} {CX : CXT} {k n : Nat} {f : Addr} {fd : FuncData} {ps ks : List Str} {sp : Sp} {E : L2.St → XK} {x : Str} {p pos : Pos} {e : Expr} {es : List Expr} {kws : List Keyword} {t tk : TA} {g : List Value → List Value → List Value} {gV : List V → List V → List V}
theorem run_fnNS {pins : List (Addr × Obj)} {σ : L2.St} {H : Hp} {s : Shared} {Q : VK} {us ws : List Value} {vs zs : List V} (F : FnOk X.prog X.w X.K X.mg X.base CX k f fd ps sp) (hr : Room k X.A) (hb : KBn X.K fd ps n ks g gV) (hx : PassesAt CX X σ (E σ))
    (I : L2.Inv X pins σ H s) (r : Vals vs us) (rz : Vals zs ws) (l1 : vs.length = n) (l2 : zs.length = ks.length) (h : sp (gV vs zs) H Q (E σ)) : wpAny (model X.prog X.w) X.A (call (.ref f) us (ks.zip ws)) (EP X pins σ Q) X.xe s := by
  have r2 := hb.rel r rz
  refine wpAny_call (codeAny_mono (F.run X.A X.stack s H ⟨us, ks.zip ws⟩ (g us ws) (gV vs zs) Q (E σ) hr I.env0 (hb.to s us ws I.kIn (r.length.symm.trans l1) (rz.length.symm.trans l2)) r2 h) fun r s' hq => ?_)
  cases r with
  | error er => exact hx pins H s er s' I hq
  | ok fl =>
    cases fl with
    | ret u => exact I.after hq
    | next => exact False.elim hq
    | brk => exact False.elim hq
    | cont => exact False.elim hq
/-- f(e, .., k = v, ..) -/
theorem pe_callNS (F : FnOk X.prog X.w X.K X.mg X.base CX k f fd ps sp) (hr : Room k X.A) (hg : Gl X x) (hm : X.mg x = some (.ref f)) (hk : PySem.W.keepIn X.K (.ref f) = true) (hb : KBn X.K fd ps n ks g gV) (hx : ∀ σ, PassesAt CX X σ (E σ))
    (ha : PA X (e :: es) t) (hkw : PK X kws tk) (hall : (backToKw pos (keywordEach kws X.env)).all (·.1.isSome) = true) (hks : (backToKw pos (keywordEach kws X.env)).filterMap (·.1) = ks)
    (hdb : (x == ("__debug__" : Str)) = false) (he : starEach (e :: es) X.env = (false, eval e X.env) :: starEach es X.env)
    (hpl : ((backTo pos (starEach (e :: es) X.env)).any (·.1) || (backToKw pos (keywordEach kws X.env)).any (·.1.isNone)) = false) :
    PE X (.Call (.Name x p) (e :: es) kws pos) (fun σ H Q => t σ H fun vs H1 => tk σ H1 fun zs H2 => vs.length = n ∧ zs.length = ks.length ∧ sp (gV vs zs) H2 Q (E σ)) := by
  refine ⟨fun pins s σ H Q I h => ?_⟩
  refine wpAny_Call_Name_kw (ld_glob I hg hm ?_ hdb)
  refine PySem.W.callWith_KW (h₀ := X.base) I.ok.mod.kin hk hall (thn (ha.run pos pins s σ H _ I h) fun us s1 ⟨vs, H1, I1, r, q⟩ => ?_) hpl he
  refine thn (hkw.run pos pins s1 σ H1 _ I1 q) fun ws s2 ⟨zs, H2, I2, rz, l1, l2, q2⟩ => ⟨I2.kIn, ?_⟩
  rw [hks]
  exact run_fnNS F hr hb (hx σ) I2 r rz l1 l2 q2
theorem kw_fst {env : PySem.Env} {pos : Pos} : ∀ kws : List Keyword, (backToKw pos (keywordEach kws env)).map (·.1) = kws.map (·.arg)
  | [] => rfl
  | ⟨n, v, q⟩ :: kws => by
    show n :: (backToKw pos (keywordEach kws env)).map (·.1) = n :: kws.map (·.arg)
    rw [kw_fst kws]
end
section
variable {T : Tx} {X : Cx} {σ : L2.St} {H C : Hp} {δ : Env} {p pos kpos : Pos} {e : Expr} {es : List Expr} {kws : List Keyword} {fa : Env → Rs Rv} {fs fk : Env → Rs (List D)} {x : Str} {i : Nat} {nm : Option Str}
theorem PK.imp {t t' : TA} (h : PK X kws t) (i : ∀ σ H Q, t' σ H Q → t σ H Q) : PK X kws t' := ⟨fun pos pins s σ H Q I q => h.run pos pins s σ H Q I (i σ H Q q)⟩
theorem s_knil : PK X [] (tAs T fun δ => .ok [] δ) := QL.PK.imp pk_nil fun σ H Q h => by
  obtain ⟨C, δ, R, h⟩ := h
  exact h.here R [] (Rps.nil.mpr rfl)
theorem s_kcons (ha : PE X e (tE T fa)) (hr : PK X kws (tAs T fs)) : PK X (⟨nm, e, kpos⟩ :: kws) (tAs T (fCons fa fs)) := by
  refine QL.PK.imp (pk_cons ha hr) fun σ H Q h => ?_
  obtain ⟨C, δ, R, h⟩ := h
  refine tE.then R h fun x δ1 H1 C1 v R1 s1 p1 h1 => ?_
  refine tAs.then R1 h1 fun ds δ2 H2 C2 vs R2 s2 p2 h2 => ?_
  exact h2.here R2 (v :: vs) (Rps.cons.mpr ⟨v, vs, rfl, Rp.mono s2.cs _ _ p1, p2⟩)
abbrev fCallk (gl : List D) (h : Shp) (F : Fn) (fs fk : Env → Rs (List D)) : Env → Rs Rv := fun δ => (fs δ).bind fun xs δ => (fk δ).bind fun zs δ => if xs.length = h.n ∧ zs.length = h.ks.length then (optR (selDs gl (xs ++ zs) h.sel) δ).bind fun as δ => callF F (as.map Ag.d) δ else .no
theorem s_callk {F : Fn} {k : Nat} {f : Addr} {h0 : Shp} {gl : List D} (hK : X.K = T.B.G.K) (hF : FnN X.prog X.w T.B.G T.Y X.mg X.base k f F h0 gl) (hr : Room k X.A) (hg : Gl X x) (hm : X.mg x = some (.ref f)) (tk : Takes X T.W) (ha : PA X (e :: es) (tAs T fs)) (hkw : PK X kws (tAs T fk))
    (hdb : (x == ("__debug__" : Str)) = false) (he : starEach (e :: es) X.env = (false, eval e X.env) :: starEach es X.env) (hpl : (backTo pos (starEach (e :: es) X.env)).any (·.1) = false) (hall : kws.all (fun q => q.arg.isSome) = true) (hks : kws.filterMap (·.arg) = h0.ks) :
    PE X (.Call (.Name x p) (e :: es) kws pos) (tE T (fCallk gl h0 F fs fk)) := by
  obtain ⟨⟨fd, ps, g, gV, h1, h2, h3⟩, kp⟩ := hF
  rw [← hK] at h1 h2 kp
  have kf := kw_fst (env := X.env) (pos := pos) kws
  have a1 : (backToKw pos (keywordEach kws X.env)).all (·.1.isSome) = true := by
    have : ((backToKw pos (keywordEach kws X.env)).map (·.1)).all (·.isSome) = (kws.map (·.arg)).all (·.isSome) := by rw [kf]
    rw [List.all_map, List.all_map] at this
    exact this.trans hall
  have a2 : (backToKw pos (keywordEach kws X.env)).filterMap (·.1) = h0.ks := by
    have : ((backToKw pos (keywordEach kws X.env)).map (·.1)).filterMap id = (kws.map (·.arg)).filterMap id := by rw [kf]
    rw [List.filterMap_map, List.filterMap_map] at this
    exact this.trans hks
  have a3 : (backToKw pos (keywordEach kws X.env)).any (·.1.isNone) = false := by
    rw [List.any_eq_false]
    intro q hq
    have := List.all_eq_true.mp a1 q hq
    cases z : q.1 with
    | none => rw [z] at this; cases this
    | some v => simp
  refine QL.PE.imp (pe_callNS (E := fun σ => WE T.W σ) h1 hr hg hm kp h2 (fun σ => passAt tk σ) ha hkw a1 a2 hdb he (by rw [hpl, a3]; rfl)) fun σ H Q h => ?_
  obtain ⟨C, δ, R, h⟩ := h
  refine tAs.then R h fun xs δ1 H1 C1 vs R1 s1 p1 h1 => ?_
  refine tAs.then R1 h1 fun zs δ2 H2 C2 ws R2 s2 p2 h2 => ?_
  split at h2
  · rename_i hl
    have l1 : vs.length = _ := p1.len.symm.trans hl.1
    have l2 : ws.length = _ := p2.len.symm.trans hl.2
    refine ⟨l1, l2, ?_⟩
    cases e0 : selDs gl (xs ++ zs) h0.sel with
    | none => rw [e0] at h2; exact h2.elim
    | some as =>
    rw [e0] at h2
    have h4 : Out T σ H2 C2 δ2 (fun r H' C' δ' => ∀ v, RvR T.B σ H H' C' δ' r v → Q v H') (callF F (as.map Ag.d) δ2) := h2
    obtain ⟨q1, q2⟩ := h3 C2 xs zs as vs ws (Rps.mono s2.cs _ _ p1) p2 l1 l2 e0
    have := call_read (Q := Q) (dvs := []) R2 (fun a h => s1.al a (s2.al a h)) (ags_of q2) ?_ h4
    · rw [List.append_nil] at this
      exact this
    · rw [List.length_map, q1, Nat.sub_self, Nat.sub_zero, List.drop_length]
      exact Rps.nil.mpr rfl
  · exact h2.elim
end
/-! ### binding by shapes -/
/-- the parameters' values: the given ones by their places, the lacking ones in order -/
def gS {α : Type} (xs : List α) : List Sel → List α → List α
  | [], _ => []
  | .a i :: s, mv => (match xs[i]? with
    | some x => x :: gS xs s mv
    | none => gS xs s mv)
  | .c _ :: s, mv => (match mv with
    | m :: mv => m :: gS xs s mv
    | [] => gS xs s [])
  | .g _ _ :: s, mv => (match mv with
    | m :: mv => m :: gS xs s mv
    | [] => gS xs s [])
theorem vals_get : ∀ {vs : List V} {us : List Value} {i : Nat}, Vals vs us → (vs[i]? = none ∧ us[i]? = none) ∨ ∃ v u, vs[i]? = some v ∧ us[i]? = some u ∧ RelV v u
  | _, _, i, .nil => .inl ⟨by simp, by simp⟩
  | _, _, 0, .cons r _ => .inr ⟨_, _, rfl, rfl, r⟩
  | _, _, i + 1, .cons _ t => vals_get (i := i) t
theorem gS_vals {vs : List V} {us : List Value} (h : Vals vs us) : ∀ (s : List Sel) {mz : List V} {mv : List Value}, Vals mz mv → Vals (gS vs s mz) (gS us s mv)
  | [], _, _, _ => .nil
  | .a i :: s, mz, mv, m => by
    unfold gS
    rcases vals_get (i := i) h with ⟨e1, e2⟩ | ⟨v, u, e1, e2, r⟩
    · rw [e1, e2]; exact gS_vals h s m
    · rw [e1, e2]; exact .cons r (gS_vals h s m)
  | .c _ :: s, _, _, m => by
    unfold gS
    cases m with
    | nil => exact gS_vals h s .nil
    | cons r t => exact .cons r (gS_vals h s t)
  | .g _ _ :: s, _, _, m => by
    unfold gS
    cases m with
    | nil => exact gS_vals h s .nil
    | cons r t => exact .cons r (gS_vals h s t)
/-- the data of what lacks -/
def misD (gl : List D) : List Sel → Option (List D)
  | [] => some []
  | .a _ :: s => misD gl s
  | .c d :: s => (misD gl s).map fun r => d :: r
  | .g j x :: s => (selD gl [] (.g j x)).bind fun d => (misD gl s).map fun r => d :: r
theorem gS_rps {G : Gd} {C : Hp} {gl xs : List D} {vs : List V} (h : Rps G C xs vs) : ∀ (s : List Sel) {mz : List V} {as : List D}, (∀ md, misD gl s = some md → Rps G C md mz) → selDs gl xs s = some as → Rps G C as (gS vs s mz) ∧ as.length = s.length
  | [], mz, as, _, e => by
    cases e
    exact ⟨Rps.nil.mpr rfl, rfl⟩
  | .a i :: s, mz, as, m, e => by
    obtain ⟨d, e1, e2⟩ := Option.bind_eq_some_iff.mp (show ((selD gl xs (.a i)).bind fun d => (selDs gl xs s).map fun ds => d :: ds) = some as from e)
    obtain ⟨ds, e3, rfl⟩ := Option.map_eq_some_iff.mp e2
    obtain ⟨v, q1, q2⟩ := Rps.get (i := i) h e1
    obtain ⟨r1, r2⟩ := gS_rps h s (mz := mz) m e3
    unfold gS
    rw [q1]
    exact ⟨Rps.cons.mpr ⟨_, _, rfl, q2, r1⟩, by rw [List.length_cons, List.length_cons, r2]⟩
  | .c d :: s, mz, as, m, e => by
    obtain ⟨d', e1, e2⟩ := Option.bind_eq_some_iff.mp (show ((selD gl xs (.c d)).bind fun d => (selDs gl xs s).map fun ds => d :: ds) = some as from e)
    obtain ⟨ds, e3, rfl⟩ := Option.map_eq_some_iff.mp e2
    cases e1
    have mm : ∀ md, misD gl s = some md → Rps G C (d :: md) mz := fun md hm => m _ (by unfold misD; rw [hm]; rfl)
    cases hm : misD gl s with
    | none =>
      -- what lacks is told whenever the whole is
      exact absurd hm (mis_some s e3)
    | some md =>
      obtain ⟨x, r, rfl, w1, w2⟩ := Rps.cons.mp (mm md hm)
      obtain ⟨r1, r2⟩ := gS_rps h s (mz := r) (fun md' hm' => by rw [hm] at hm'; cases hm'; exact w2) e3
      unfold gS
      exact ⟨Rps.cons.mpr ⟨_, _, rfl, w1, r1⟩, by rw [List.length_cons, List.length_cons, r2]⟩
  | .g j x :: s, mz, as, m, e => by
    obtain ⟨d, e1, e2⟩ := Option.bind_eq_some_iff.mp (show ((selD gl xs (.g j x)).bind fun d => (selDs gl xs s).map fun ds => d :: ds) = some as from e)
    obtain ⟨ds, e3, rfl⟩ := Option.map_eq_some_iff.mp e2
    have e1' : selD gl [] (.g j x) = some d := e1
    have mm : ∀ md, misD gl s = some md → Rps G C (d :: md) mz := fun md hm => m _ (by unfold misD; rw [e1', hm]; rfl)
    cases hm : misD gl s with
    | none => exact absurd hm (mis_some s e3)
    | some md =>
      obtain ⟨y, r, rfl, w1, w2⟩ := Rps.cons.mp (mm md hm)
      obtain ⟨r1, r2⟩ := gS_rps h s (mz := r) (fun md' hm' => by rw [hm] at hm'; cases hm'; exact w2) e3
      unfold gS
      exact ⟨Rps.cons.mpr ⟨_, _, rfl, w1, r1⟩, by rw [List.length_cons, List.length_cons, r2]⟩
where
  mis_some {gl xs : List D} : ∀ (s : List Sel) {ds : List D}, selDs gl xs s = some ds → misD gl s ≠ none
  | [], _, _ => fun z => by cases z
  | .a i :: s, ds, e => by
    obtain ⟨d, _, e2⟩ := Option.bind_eq_some_iff.mp (show ((selD gl xs (.a i)).bind fun d => (selDs gl xs s).map fun ds => d :: ds) = some ds from e)
    obtain ⟨r, e3, rfl⟩ := Option.map_eq_some_iff.mp e2
    exact mis_some s e3
  | .c d :: s, ds, e => by
    obtain ⟨d', _, e2⟩ := Option.bind_eq_some_iff.mp (show ((selD gl xs (.c d)).bind fun d => (selDs gl xs s).map fun ds => d :: ds) = some ds from e)
    obtain ⟨r, e3, rfl⟩ := Option.map_eq_some_iff.mp e2
    have := mis_some s e3
    unfold misD
    cases hm : misD gl s with
    | none => exact absurd hm this
    | some md => simp
  | .g j x :: s, ds, e => by
    obtain ⟨d, e1, e2⟩ := Option.bind_eq_some_iff.mp (show ((selD gl xs (.g j x)).bind fun d => (selDs gl xs s).map fun ds => d :: ds) = some ds from e)
    obtain ⟨r, e3, rfl⟩ := Option.map_eq_some_iff.mp e2
    have := mis_some s e3
    have e1' : selD gl [] (.g j x) = some d := e1
    unfold misD
    rw [e1']
    cases hm : misD gl s with
    | none => exact absurd hm this
    | some md => simp
section
variable {K : PySem.W.Frag} {x qual : Str} {params : Arguments} {body : List Stmt} {scope : Scope} {kws : List (Str × V)} {f : Addr} {fd : FuncData} {ps ks : List Str} {n : Nat} {sel : List Sel}
/-- all keyword-only parameters are given -/
theorem kb_all (F : FunD K x qual params body scope [] kws f fd) (h : ∀ (kV doc pm : Value) (an : Option Addr) (cdv ct : Value) (us ws : List Value), us.length = n → ws.length = ks.length → bindArgs (PySem.W.fnOf x qual params body scope .none kV doc pm an cdv ct) ⟨us, ks.zip ws⟩ = pure (ps.zip (gS (us ++ ws) sel []))) :
    KBn K fd ps n ks (fun us ws => gS (us ++ ws) sel []) (fun vs zs => gS (vs ++ zs) sel []) := by
  obtain ⟨oc, od, dV, kV, doc, pm, an, cdv, ct, osl, rfl, lk, hcd, hD, hK⟩ := F.ex
  rcases hD with ⟨_, rfl⟩ | ⟨e, _⟩
  · exact ⟨fun s us ws X l1 l2 => .of_eq (h kV doc pm an cdv ct us ws l1 l2), fun r1 r2 => gS_vals (r1.append r2) sel .nil⟩
  · exact absurd rfl e
/-- some lack: ms -/
theorem kb_some (F : FunD K x qual params body scope [] kws f fd) (ms : List (Str × V)) (hk : kws ≠ []) (hms : ∀ q ∈ ms, q ∈ kws)
    (h : ∀ (D : Addr) (doc pm : Value) (an : Option Addr) (cdv ct : Value) (us mv ws : List Value), us.length = n → mv.length = ms.length → ws.length = ks.length →
      KwChain D ((ms.map (·.1)).zip mv) (bindArgs (PySem.W.fnOf x qual params body scope .none (.ref D) doc pm an cdv ct) ⟨us, ks.zip ws⟩) (ps.zip (gS (us ++ ws) sel mv))) :
    ∃ mv, KBn K fd ps n ks (fun us ws => gS (us ++ ws) sel mv) (fun vs zs => gS (vs ++ zs) sel (ms.map (·.2))) := by
  obtain ⟨oc, od, dV, kV, doc, pm, an, cdv, ct, osl, rfl, lk, hcd, hD, hK⟩ := F.ex
  rcases hD with ⟨_, rfl⟩ | ⟨e, _⟩
  · rcases hK with e | ⟨D, rfl, hq⟩
    · exact absurd e hk
    · obtain ⟨mv, hl, rk, hks⟩ := kwd_vals (ms := ms) fun q hm => hq q (hms q hm)
      refine ⟨mv, ⟨fun s us ws X l1 l2 => BindsTo.of_looks fun M => KwChain.looks X hks (h D doc pm an cdv ct us mv ws l1 hl l2), fun r1 r2 => gS_vals (r1.append r2) sel rk⟩⟩
  · exact absurd rfl e
end
end QL

end
section
set_option Elab.async false
set_option linter.all false
set_option maxRecDepth 100000
/-! QD: readings at the running code: super().m(..) and what stands around it. -/
namespace QL
open PySem PySem.Spec PyProof.Rows L2 PySem.W

/-- what super().m(..) in the class d leads to, for an instance of the class c: the def's worth F -/
def SpK (P : Program) (w : World) (G : Gd) (Y : Xg) (mg : Str → Option Value) (base : Heap) (k c d : Nat) (m : Str) (F : Fn) : Prop := mroIn G.K (G.cl c) (.ref (G.cl d)) = some true ∧ ∃ f, ks_superIn G.K (G.cl c) (G.cl d) m = some (some (.ref f)) ∧ fnIn G.K f = true ∧ typeIn G.K (.ref f) = some (.type "function") ∧ FnK P w G Y mg base k f F
section
variable {T : Tx} {X : Cx} {m sn : Str} {p0 p1 p2 p4 : Pos} {e : Expr} {es : List Expr} {body : List Stmt} {fg : Env → Rs (List Ag)} {n k d : Nat} {kin : Nat → Bool} {F : Fn}
abbrev fSup (kin : Nat → Bool) (F : Fn) (fg : Env → Rs (List Ag)) : Env → Rs Rv := fun δ => match (δ[0]? : Option Sl) with
    | some (.fz (.ob c fs ds)) => if kin c then (fg δ).bind fun as δ => callF F (.d (.ob c fs ds) :: as) δ else .no
    | _ => .no
theorem s_sup (S : SuE X (T.B.G.cl d) sn) (hK : X.K = T.B.G.K) (hW : ∀ c, kin c = true → SpK X.prog X.w T.B.G T.Y X.mg X.base k c d m F) (hn : n + 1 ≤ F.np ∧ F.np - (n + 1) ≤ F.dfl.length) (hr : Room k X.A) (tk : Takes X T.W) (hl : ∀ δ as δ', fg δ = .ok as δ' → as.length = n) (ha : PA X (e :: es) (tAg T fg))
    (hpl : (p2.endLine == p4.line) = true) (hmc : (m == ("__class__" : Str)) = false) (hst : starEach (e :: es) X.env = (false, eval e X.env) :: starEach es X.env) (hps : (backTo p4 (starEach es X.env)).any (·.1) = false) (hfm : methodCallForm (e :: es).length (backTo p4 (starEach (e :: es) X.env)) [] = true) :
    PEa X (.func body X.env) (.Call (.Attribute (.Call (.Name "super" p0) [] [] p1) m p2) (e :: es) [] p4) (tE T (fSup kin F fg)) := by
  refine PEa.imp (pea_sup (CX := L2.CX X.prog X.w) (E := fun σ => WE T.W σ) S ha (fun σ => passAt tk σ) hpl hmc hst hps hfm) fun σ H Q h => ?_
  obtain ⟨C, δ, R, h⟩ := h
  dsimp only [fSup] at h
  split at h
  · rename_i c fs ds e0
    split at h
    · rename_i hk
      obtain ⟨w1, f, w2, w3, w4, ⟨fd, ps, q1, q2, q3⟩, kp⟩ := hW c hk
      obtain ⟨dvs, dsv, e1, e2, e3⟩ := q3 (n + 1) hn.1 hn.2
      obtain ⟨o, ho, v, rfl, hv⟩ := R.at_ e0
      obtain ⟨a, dx, xs, rfl, g1, g2, g3⟩ := Rp.ob.mp hv
      rw [← hK] at w1 w2 w3 w4 q1 e2
      refine ⟨a, _, dx, _, f, fd, ps, _, dsv, dvs, k, ho, R.sub _ _ g1, w1, w2, w3, w4, q1, hr, e2, e1, ?_⟩
      refine tAg.then R h fun as δ2 H2 C2 vs R2 s2 p2 h2 e4 => ?_
      have pa : AgsR T.B.G σ C2 (.d (.ob c fs ds) :: as) (V.ref a :: vs) := ⟨_, _, rfl, Rp.mono s2.cs _ _ hv, p2⟩
      refine call_read (Q := Q) (dvs := dvs) R2 s2.al pa ?_ h2
      rw [List.length_cons, hl _ _ _ e4]
      exact e3 C2
    · exact h.elim
  · exact h.elim
end
section
variable {T : Tx} {X : Cx} {c : Code} {e tg : Expr} {fa : Env → Rs Rv} {p pos p2 p3 : Pos} {x : Str} {i : Nat} {st : Stmt} {ss : List Stmt} {ga gb : Env → Rs Fl}
theorem sa_biB {id : String} {b : Bi} {f : List D → Option Rv} (hc : CaD T X (.builtin id) f) (hg : Gl X x) (hm : X.mg x = none) (hv : bootBuiltins x = some (.builtin id)) (he : PEa X c e (tE T fa)) (hn : x ≠ "__name__") (hdb : (x == ("__debug__" : Str)) = false) (hs : starEach [e] X.env = [(false, eval e X.env)]) :
    PEa X c (.Call (.Name x p) [e] [] pos) (tE T fun δ => ((fa δ).bind fun y δ => .ok [y.d] δ).bind fun xs δ => optR (f xs) δ) := by
  obtain ⟨r, hr, hf⟩ := hc
  refine PEa.imp (pea_callB hr hg hm hv he hn hdb hs) fun σ H Q h => ?_
  obtain ⟨C, δ, R, h⟩ := h
  dsimp only at h
  rw [show (((fa δ).bind fun y δ => (.ok [y.d] δ : Rs (List D))).bind fun xs δ => optR (f xs) δ) = (fa δ).bind fun y δ => optR (f [y.d]) δ by cases fa δ <;> rfl] at h
  refine tE.then R h fun y δ1 H1 C1 v R1 s1 p1 h1 => ?_
  obtain ⟨z, ez, h4⟩ := optR_some h1
  exact hf _ _ _ _ _ _ _ _ R1 (Rps.one p1) ez fun v' H' C' R' s' hv' => h4 H' C' R' s' v' (RvR.back s1.al hv')
theorem sa_biT {id : String} {b : Bi} {f : List D → Option Rv} (hc : CaD T X (.type id) f) (hg : Gl X x) (hm : X.mg x = none) (hv : bootBuiltins x = some (.type id)) (he : PEa X c e (tE T fa)) (hn : x ≠ "__name__") (hdb : (x == ("__debug__" : Str)) = false) (hs : starEach [e] X.env = [(false, eval e X.env)]) :
    PEa X c (.Call (.Name x p) [e] [] pos) (tE T fun δ => ((fa δ).bind fun y δ => .ok [y.d] δ).bind fun xs δ => optR (f xs) δ) := by
  obtain ⟨r, hr, hf⟩ := hc
  refine PEa.imp (pea_callT hr hg hm hv he hn hdb hs) fun σ H Q h => ?_
  obtain ⟨C, δ, R, h⟩ := h
  dsimp only at h
  rw [show (((fa δ).bind fun y δ => (.ok [y.d] δ : Rs (List D))).bind fun xs δ => optR (f xs) δ) = (fa δ).bind fun y δ => optR (f [y.d]) δ by cases fa δ <;> rfl] at h
  refine tE.then R h fun y δ1 H1 C1 v R1 s1 p1 h1 => ?_
  obtain ⟨z, ez, h4⟩ := optR_some h1
  exact hf _ _ _ _ _ _ _ _ R1 (Rps.one p1) ez fun v' H' C' R' s' hv' => h4 H' C' R' s' v' (RvR.back s1.al hv')
theorem pea_rev {te : TE} {k : Nat} {p1 p2 p3 pos : Pos} (he : PEa X c e te) : PEa X c (.Subscript e (.Slice none none (some (.UnaryOp .USub (.Constant (.int 1) k p1) p2)) p3) pos) (tRevA X.K te) :=
  ⟨fun pins s σ H Q I h => at_sub (thnA (he.run pins s σ H _ I h) fun v s1 ⟨x, H1, I1, r1, q1⟩ => rev_tail (pos := pos) I1 r1 q1)⟩
theorem sa_rev (hK : X.K = T.B.G.K) {k : Nat} {p1 p2 p3 pos : Pos} (he : PEa X c e (tE T fa)) : PEa X c (.Subscript e (.Slice none none (some (.UnaryOp .USub (.Constant (.int 1) k p1) p2)) p3) pos) (tE T fun δ => (fa δ).bind fun x δ => optR (revD x.d) δ) := PEa.imp (pea_rev he) (tRev_read hK)
theorem sa_ret (he : PEa X c e (tE T fa)) : PSa X c (.Return (some e) pos) (tS T fun δ => (fa δ).bind fun r δ => .ok (.rt r) δ) := PSa.imp (psa_ret he) fun D σ H h => by
  obtain ⟨C, δ, R, h⟩ := h
  exact tE.thenS R h fun r δ1 H1 C1 v R1 s1 hv h1 => h1 v σ H1 C1 R1 (L2.Same.refl _) (RvR.back (R.al0) hv)
theorem sa_set (hN : X.N.Nodup) (hi : X.N[i]? = some x) (hx : L2.Loc X.env.scope x) (he : PEa X c e (tE T fa)) (hs : swapsWith e (some (.Name x p)) pos.line X.env = pure false) (hf : X.fn x = true ∨ X.env.scope.names.lookup x = some .local) : PSa X c (.Assign [.Name x p] e pos) (tS T (fSet i fa)) :=
  PSa.imp (psa_set hN hi hx he hs hf) (set_read fun _ _ _ h => h)
theorem sa_sl (hK : X.K = T.B.G.K) {lo hi : Option Expr} {fl fh : Env → Rs (Option Int)} (he : PEa X c e (tE T fa)) (hl : PO X lo (tPartQ T fl)) (hh : PO X hi (tPartQ T fh)) :
    PEa X c (.Subscript e (.Slice lo hi none p2) pos) (tE T fun δ => (fa δ).bind fun x δ => (fl δ).bind fun l δ => (fh δ).bind fun h δ => optR (slD x.d l h) δ) := PEa.imp (pea_slice (sl_list.or sl_tupA) he hl hh) (sl_rd hK)
theorem sa_cons (ha : PSa X c st (tS T ga)) (hb : PSsa X c ss (tS T gb)) : PSsa X c (st :: ss) (tS T (fSq ga gb)) := PSsa.imp (pssa_cons ha hb) cons_rd
abbrev fTsq (fa : Env → Rs Rv) : Env → Rs (List D) := fun δ => (fa δ).bind fun x δ => optR (tupOf x.d) δ
theorem tsq_rd (hK : X.K = T.B.G.K) : ∀ σ H R, tI T (fTsq fa) σ H R → iTup X.K (tE T fa) σ H R := fun σ H R h => by
  obtain ⟨C, δ, Rl0, h⟩ := h
  refine tE.then Rl0 h fun x δ1 H1 C1 v R1 s1 p1 h1 => ?_
  obtain ⟨ds, ed, h2⟩ := optR_some h1
  cases hd : x.d with
  | tup l =>
    rw [hd] at ed p1
    cases ed
    obtain ⟨q, xs, rfl, q1, q2⟩ := Rp.tup.mp p1
    exact ⟨q, rfl, ⟨xs, hK ▸ QL.Same.sqT R1.sub q1⟩, h2 _ _ R1 .refl _ (hK ▸ wk_tup q1 q2)⟩
  | _ => rw [hd] at ed; cases ed
theorem sa_for {g : TG} {is : List Nat} (hK : X.K = T.B.G.K) (hp : PassesOwn (model X.prog X.w) X.A X.env X.xe) (hc : X.calm = true) (he : PEa X c e (tE T fa)) (hg : PG X tg g) (tr : TgR T is g) (hb : PSs X ss (tS T gb)) (hs : ∀ x, foldedSetIterable e X.env x = pure x) :
    PSa X c (.For tg e ss [] pos) (tS T (fFor is (fTsq fa) gb)) := PSa.imp (psa_for hp hc (PIa.imp (pia_tup he) (tsq_rd hK)) hg hb hs) (for_rd tr)
end
end QL

end
section
set_option Elab.async false
set_option linter.all false
/-! Q11: the small syntax is held against the text's own; expressions. -/
namespace QL
open PySem PySem.Spec PyProof.Rows L2

/-- the names' places: slots, defs, constants of the module, classes, methods, error classes; the defs' parameters and defaults, counted -/
structure Ct where
  N : List Str
  fns : List Str
  ars : List (Nat × Nat)
  gls : List Str
  cls : List Str
  mts : List Str
  /-- the error classes' names, fields; those that are raised; which is under which -/
  xcs : List Str
  xfs : List Str
  xrs : List Nat
  sb : Nat → Nat → Bool
  /-- a def's sort: 0 a def, 1 one with a star parameter, 2 a method -/
  kds : List Nat
  /-- class, method, def -/
  mtl : List (Nat × Nat × Nat)
  /-- super().m(..) in a class: the def -/
  sps : List (Nat × Str × Nat)
  /-- which own class is under which -/
  kin : Nat → Nat → Bool
  /-- the classes' constants: names; class, name, text -/
  cas : List Str
  cal : List (Nat × Nat × Str)
  /-- the own classes that isinstance asks for -/
  isl : List Nat

def caF (l : List (Nat × Nat × Str)) (c a : Nat) : Option D := (l.find? fun q => decide (q.1 = c ∧ q.2.1 = a)).map fun q => .str q.2.2
theorem caF_mem {l : List (Nat × Nat × Str)} {c a : Nat} {d : D} (h : caF l c a = some d) : ∃ z, (c, a, z) ∈ l ∧ d = .str z := by
  obtain ⟨⟨x, y, z⟩, h1, rfl⟩ := Option.map_eq_some_iff.mp h
  have h2 := List.find?_some h1
  obtain ⟨rfl, rfl⟩ := of_decide_eq_true h2
  exact ⟨z, List.mem_of_find?_eq_some h1, rfl⟩
def mtF (l : List (Nat × Nat × Nat)) (c m : Nat) : Option Nat := (l.find? fun q => decide (q.1 = c ∧ q.2.1 = m)).map fun q => q.2.2
theorem mtF_mem {l : List (Nat × Nat × Nat)} {c m j : Nat} (h : mtF l c m = some j) : (c, m, j) ∈ l := by
  obtain ⟨⟨a, b, d⟩, h1, rfl⟩ := Option.map_eq_some_iff.mp h
  have h2 := List.find?_some h1
  obtain ⟨rfl, rfl⟩ := of_decide_eq_true h2
  exact List.mem_of_find?_eq_some h1
def visB (sc : Scope) (x : Str) : Bool := match sc.names.lookup x with
  | some .local => true
  | some .cell => true
  | some .free => true
  | _ => false
def glB (sc : Scope) (x : Str) : Bool := decide (sc.names.lookup x = some .globalImplicit)
def okB (x : Str) : Bool := !(x == ("__debug__" : Str)) && !(x == ("__classdict__" : Str))
def nmB (K : Ct) (sc : Scope) (i : Nat) (x : Str) : Bool := decide (K.N[i]? = some x) && (visB sc x && okB x)
def bnames : List Str := ["len", "max", "min", "abs", "int", "tuple", "list", "sorted", "all", "any", "sum", "isinstance", "bool", "str", "range", "set", "ValueError"]
def biS : Bi → Str
  | .len => "len"
  | .max2 => "max"
  | .min2 => "min"
  | .abs => "abs"
  | .int1 => "int"
  | .tuple => "tuple"
  | .list => "list"
  | .sorted => "sorted"
  | .all => "all"
  | .any => "any"
  | .sum => "sum"
def tyStr : Ty → Str
  | .int => "int"
  | .bool => "bool"
  | .str => "str"
  | .tuple => "tuple"
  | .list => "list"
def cstB : D → Const → Bool
  | .non, .none => true
  | .bl a, .bool b => a == b
  | .int i, .int j => decide (i = j)
  | .str x, .str y => decide (x = y)
  | _, _ => false
def tyNB (sc : Scope) (t : Ty) : Expr → Bool
  | .Name x _ => decide (x = tyStr t) && glB sc x
  | _ => false
def tyNsB (sc : Scope) : List Ty → List Expr → Bool
  | [], [] => true
  | t :: ts, e :: es => tyNB sc t e && tyNsB sc ts es
  | _, _ => false
def ownB (sc scope : Scope) (x : Str) : Bool := match (relS scope sc).names.lookup x with
  | some .local => true
  | some .cell => decide (scope.names.lookup x = some .cell)
  | _ => false
/-- the target of a comprehension, a name of its own -/
def lcTg (K : Ct) (sc scope : Scope) (i : Nat) : Expr → Bool
  | .Name x _ => decide (K.N[i]? = some x) && (blkC K.N sc scope [(x, i)] && ownB sc scope x)
  | _ => false
/-- .. a tuple target of names of its own -/
def ownNm (K : Ct) (sc scope : Scope) (i : Nat) : Expr → Bool
  | .Name x _ => decide (K.N[i]? = some x) && ownB sc scope x
  | _ => false
def ownOf (K : Ct) (p : Pt) : List (Str × Nat) := p.is.map fun i => (K.N.getD i "", i)
def lcPt (K : Ct) (sc scope : Scope) (p : Pt) (e : Expr) : Bool := blkC K.N sc scope (ownOf K p) && ptE (ownNm K sc scope) p e
def isSetE : Expr → Bool
  | .Set _ _ _ => true
  | _ => false
def isTrueE : E → Bool
  | .c (.bl true) => true
  | _ => false
/-- an expression ahead of .m(..) that is no super() -/
def baseB : Expr → Bool
  | .Call (.Name _ _) [] [] _ => false
  | _ => true
/-- all methods of this number take n arguments behind the object -/
def arMB (K : Ct) (m n : Nat) : Bool := K.mtl.all fun q => !decide (q.2.1 = m) || (match K.ars[q.2.2]? with
  | some (np, nd) => decide (n + 1 ≤ np ∧ np - (n + 1) ≤ nd)
  | none => true)
def Es.len : Es → Nat
  | .nil => 0
  | .cons _ es => es.len + 1

mutual
def chkE (K : Ct) : Scope → E → Expr → Bool
  | sc, .v i, e => (match e with
    | .Name x _ => nmB K sc i x
    | _ => false)
  | sc, .c d, e => (match e with
    | .Constant c _ _ => cstB d c
    | _ => false)
  | sc, .g k, e => (match e with
    | .Name x _ => decide (K.gls[k]? = some x) && (glB sc x && okB x)
    | _ => false)
  | sc, .neg a, e => (match e with
    | .UnaryOp .USub x _ => chkE K sc a x
    | _ => false)
  | sc, .bin o a b, e => (match e with
    | .BinOp x op y _ => decide (op = opOf o) && (chkE K sc a x && chkE K sc b y)
    | _ => false)
  | sc, .cmp o a b, e => (match e with
    | .Compare x [op] [y] _ => decide (op = cmpOf o) && (!behindInMarks op y && (chkE K sc a x && chkE K sc b y))
    | _ => false)
  | sc, .ch2 o p a b c, e => (match e with
    | .Compare x [op, op'] [y, z] _ => decide (op = cmpOf o) && (decide (op' = cmpOf p) && (!lastMarks [op, op'] [y, z] && (chkE K sc a x && (chkE K sc b y && chkE K sc c z))))
    | _ => false)
  | sc, .ch3 o p q a b c d, e => (match e with
    | .Compare x [op, op', op''] [y, z, u] _ => decide (op = cmpOf o) && (decide (op' = cmpOf p) && (decide (op'' = cmpOf q) && (!lastMarks [op, op', op''] [y, z, u] && (chkE K sc a x && (chkE K sc b y && (chkE K sc c z && chkE K sc d u))))))
    | _ => false)
  | sc, .and_ a b, e => (match e with
    | .BoolOp .And (x :: y :: rest) pos => chkE K sc a x && (match rest with
      | [] => chkE K sc b y
      | z :: r => chkE K sc b (.BoolOp .And (y :: z :: r) pos))
    | _ => false)
  | sc, .or_ a b, e => (match e with
    | .BoolOp .Or (x :: y :: rest) pos => chkE K sc a x && (match rest with
      | [] => chkE K sc b y
      | z :: r => chkE K sc b (.BoolOp .Or (y :: z :: r) pos))
    | _ => false)
  | sc, .not_ a, e => (match e with
    | .UnaryOp .Not x _ => chkE K sc a x
    | _ => false)
  | sc, .ife c a b, e => (match e with
    | .IfExp z x y _ => chkE K sc c z && (chkE K sc a x && chkE K sc b y)
    | _ => false)
  | sc, .tup es, e => (match e with
    | .Tuple l _ _ => chkEs K sc es l
    | _ => false)
  | sc, .lst es, e => (match e with
    | .List l _ => chkEs K sc es l
    | _ => false)
  | sc, .ix a i, e => (match e with
    | .Subscript x y _ => chkE K sc a x && chkE K sc i y
    | _ => false)
  | sc, .ixv s i, e => (match e with
    | .Subscript (.Name x _) y _ => nmB K sc s x && chkE K sc i y
    | _ => false)
  | sc, .sl a lo hi, e => (match e with
    | .Subscript x (.Slice l h none _) _ => chkE K sc a x && ((match l with
      | none => isNonE lo
      | some l => !isNonE lo && chkE K sc lo l) && (match h with
      | none => isNonE hi
      | some h => !isNonE hi && chkE K sc hi h))
    | _ => false)
  | sc, .slv s lo hi, e => (match e with
    | .Subscript (.Name x _) (.Slice l h none _) _ => nmB K sc s x && ((match l with
      | none => isNonE lo
      | some l => !isNonE lo && chkE K sc lo l) && (match h with
      | none => isNonE hi
      | some h => !isNonE hi && chkE K sc hi h))
    | _ => false)
  | sc, .rev a, e => (match e with
    | .Subscript x (.Slice none none (some (.UnaryOp .USub (.Constant (.int i) _ _) _)) _) _ => decide (i = 1) && chkE K sc a x
    | _ => false)
  | sc, .call k es, e => (match e with
    | .Call (.Name x _) (y :: ys) [] _ => decide (K.kds[k]? = some 0) && (decide (K.fns[k]? = some x) && (glB sc x && (okB x && ((match K.ars[k]? with
      | some (np, nd) => decide (es.len ≤ np ∧ np - es.len ≤ nd)
      | none => false) && chkA K sc es (y :: ys)))))
    | _ => false)
  | sc, .bi b es, e => (match e with
    | .Call (.Name x _) (y :: ys) [] _ => decide (x = biS b) && (glB sc x && chkEs K sc es (y :: ys))
    | _ => false)
  | sc, .lenv s, e => (match e with
    | .Call (.Name f _) [.Name x _] [] _ => decide (f = "len") && (glB sc f && nmB K sc s x)
    | _ => false)
  | sc, .inv n a s, e => (match e with
    | .Compare x [op] [.Name y _] _ => decide (op = inOp n) && (nmB K sc s y && chkE K sc a x)
    | _ => false)
  | sc, .isi a ts, e => (match e with
    | .Call (.Name f _) [x, y] [] _ => decide (f = "isinstance") && (glB sc f && (chkE K sc a x && (match y, ts with
      | .Tuple bs _ _, t :: ts => decide ((t :: ts).length ≤ 100) && tyNsB sc (t :: ts) bs
      | y, [t] => tyNB sc t y
      | _, _ => false)))
    | _ => false)
  | sc, .lc i it c e', e => (match e with
    | .ListComp elt [⟨tg, iter, ifs, 0⟩] scope _ => lcTg K sc scope i tg && (!isSetE iter && (chkI K sc it iter && (chkE K (relS scope sc) e' elt && (match ifs with
      | [] => isTrueE c
      | [t] => chkE K (relS scope sc) c t
      | _ => false))))
    | _ => false)
  | sc, .lct p it c e', e => (match e with
    | .ListComp elt [⟨tg, iter, ifs, 0⟩] scope _ => lcPt K sc scope p tg && (!isSetE iter && (chkI K sc it iter && (chkE K (relS scope sc) e' elt && (match ifs with
      | [] => isTrueE c
      | [t] => chkE K (relS scope sc) c t
      | _ => false))))
    | _ => false)
  | sc, .meth o m es, e => (match e with
    | .Call (.Attribute ox mn ap) (y :: ys) [] pos => decide (K.mts[m]? = some mn) && ((ap.endLine == pos.line) && (baseB ox && (decide ((y :: ys).length < 30) && (arMB K m es.len && (chkE K sc o ox && chkA K sc es (y :: ys))))))
    | _ => false)
  | sc, .cat o a, e => (match e with
    | .Attribute ox f _ => decide (K.cas[a]? = some f) && (baseB ox && chkE K sc o ox)
    | _ => false)
  | sc, .new c, e => (match e with
    | .Call (.Name x _) [] [] _ => decide (K.cls[c]? = some x) && (glB sc x && okB x)
    | _ => false)
  | sc, .isk a c, e => (match e with
    | .Call (.Name f _) [x, .Name y _] [] _ => decide (f = "isinstance") && (glB sc f && (chkE K sc a x && (decide (K.cls[c]? = some y) && (glB sc y && (okB y && decide (c ∈ K.isl))))))
    | _ => false)
  | _, .sup _ _ _, _ => false
  | sc, .cls k n es, e => (match e with
    | .Call (.Name x _) (y :: ys) [] _ => decide (K.kds[k]? = some 1) && (decide (K.fns[k]? = some x) && (glB sc x && (okB x && ((match K.ars[k]? with
      | some (np, _) => decide (n + 1 = np)
      | none => false) && chkEs K sc es (y :: ys)))))
    | _ => false)
  | sc, .callk j _ nms es ks, e => (match e with
    | .Call (.Name x _) (y :: ys) kws _ => decide (K.kds[j]? = some 3) && (decide (K.fns[j]? = some x) && (glB sc x && (okB x && (kws.all (fun q => q.arg.isSome) && (decide (kws.filterMap (·.arg) = nms) && (chkEs K sc es (y :: ys) && chkKs K sc ks kws))))))
    | _ => false)
  | _, .dic0, e => (match e with
    | .Dict [] [] _ => true
    | _ => false)
  | sc, .keys s, e => (match e with
    | .Call (.Name f _) [.Name x _] [] _ => decide (f = "list") && (glB sc f && nmB K sc s x)
    | _ => false)
  | sc, .sset a, e => (match e with
    | .Call (.Name f _) [.Call (.Name g _) [x] [] _] [] _ => decide (f = "sorted") && (glB sc f && (decide (g = "set") && (glB sc g && chkE K sc a x)))
    | _ => false)
  | sc, .cntl s a, e => (match e with
    | .Call (.Attribute (.Name x _) f ap) [y] [] p2 => decide (f = "count") && (nmB K sc s x && ((ap.endLine == p2.line) && chkE K sc a y))
    | _ => false)
  | _, .lr _, _ => false
def chkEs (K : Ct) : Scope → Es → List Expr → Bool
  | _, .nil, l => (match l with
    | [] => true
    | _ => false)
  | sc, .cons a es, l => (match l with
    | x :: l => chkE K sc a x && chkEs K sc es l
    | _ => false)
def chkKs (K : Ct) : Scope → Es → List Keyword → Bool
  | _, .nil, l => (match l with
    | [] => true
    | _ => false)
  | sc, .cons a es, l => (match l with
    | ⟨_, x, _⟩ :: l => chkE K sc a x && chkKs K sc es l
    | _ => false)
def chkA (K : Ct) : Scope → Es → List Expr → Bool
  | _, .nil, l => (match l with
    | [] => true
    | _ => false)
  | sc, .cons a es, l => (match l with
    | x :: l => (match isLr a with
      | some s => (match x with
        | .Name y _ => nmB K sc s y
        | _ => false)
      | none => chkE K sc a x) && chkA K sc es l
    | _ => false)
def chkI (K : Ct) : Scope → I → Expr → Bool
  | sc, .seq a, e => chkE K sc a e
  | sc, .rng1 a, e => (match e with
    | .Call (.Name f _) [x] [] _ => decide (f = "range") && (glB sc f && chkE K sc a x)
    | _ => false)
  | sc, .rng2 a b, e => (match e with
    | .Call (.Name f _) [x, y] [] _ => decide (f = "range") && (glB sc f && (chkE K sc a x && chkE K sc b y))
    | _ => false)
  | sc, .rngd a b, e => (match e with
    | .Call (.Name f _) [x, y, .UnaryOp .USub (.Constant (.int i) _ _) _] [] _ => decide (f = "range") && (glB sc f && (decide (i = 1) && (chkE K sc a x && chkE K sc b y)))
    | _ => false)
  | _, .tsq _, _ => false
end

/-! ### what the checks say -/
theorem ba {a b : Bool} (h : (a && b) = true) : a = true ∧ b = true := Bool.and_eq_true_iff.mp h
theorem bn {a : Bool} (h : (!a) = true) : a = false := by cases a <;> first | rfl | cases h
theorem de {p : Prop} [Decidable p] (h : decide p = true) : p := of_decide_eq_true h
theorem visB_ok {sc : Scope} {x : Str} (h : visB sc x = true) : Vis sc x := by
  unfold visB at h
  split at h
  · rename_i e; exact .inl e
  · rename_i e; exact .inr (.inl e)
  · rename_i e; exact .inr (.inr e)
  · cases h
theorem okB_ok {x : Str} (h : okB x = true) : (x == ("__debug__" : Str)) = false ∧ (x == ("__classdict__" : Str)) = false := ⟨bn (ba h).1, bn (ba h).2⟩
theorem star_no {K : Ct} {sc : Scope} {c : E} {v : Expr} {p : Pos} : chkE K sc c (.Starred v p) = false := by cases c <;> rfl
theorem slice_no {K : Ct} {sc : Scope} {c : E} {l u s : Option Expr} {p : Pos} : chkE K sc c (.Slice l u s p) = false := by cases c <;> rfl
theorem starEach_c {e : Expr} {es : List Expr} {env : PySem.Env} (h : ∀ v p, e ≠ .Starred v p) : starEach (e :: es) env = (false, eval e env) :: starEach es env := by
  cases e <;> first | rfl | exact absurd rfl (h _ _)
theorem chk_star {K : Ct} {sc : Scope} {c : E} {e : Expr} (h : chkE K sc c e = true) : ∀ v p, e ≠ .Starred v p := fun v p z => by
  subst z
  rw [star_no] at h
  cases h
theorem plainIx_c {K : Ct} {sc : Scope} {c : E} {e : Expr} (h : chkE K sc c e = true) : PlainIx e := fun o i => by
  cases e <;> first | rfl | (rw [slice_no] at h; cases h)
theorem chkEs_star {K : Ct} {sc : Scope} : ∀ {es : Es} {l : List Expr} {env : PySem.Env} {pos : Pos}, chkEs K sc es l = true → (backTo pos (starEach l env)).any (·.1) = false
  | .nil, [], _, _, _ => rfl
  | .nil, _ :: _, _, _, h => by cases h
  | .cons a es, [], _, _, h => by cases h
  | .cons a es, x :: l, env, pos, h => by
    obtain ⟨h1, h2⟩ := ba (show (chkE K sc a x && chkEs K sc es l) = true from h)
    rw [starEach_c (chk_star h1)]
    show (false || (backTo pos (starEach l env)).any (·.1)) = false
    rw [chkEs_star h2]; rfl
theorem chkA_head {K : Ct} {sc : Scope} {a : E} {es : Es} {x : Expr} {l : List Expr} (h : chkA K sc (.cons a es) (x :: l) = true) : ∀ v p, x ≠ .Starred v p := fun v p z => by
  subst z
  obtain ⟨h1, _⟩ := ba (show ((match isLr a with
      | some s => false
      | none => chkE K sc a (.Starred v p)) && chkA K sc es l) = true from h)
  split at h1
  · cases h1
  · rw [star_no] at h1; cases h1
theorem chkA_star {K : Ct} {sc : Scope} : ∀ {es : Es} {l : List Expr} {env : PySem.Env} {pos : Pos}, chkA K sc es l = true → (backTo pos (starEach l env)).any (·.1) = false
  | .nil, [], _, _, _ => rfl
  | .nil, _ :: _, _, _, h => by cases h
  | .cons a es, [], _, _, h => by cases h
  | .cons a es, x :: l, env, pos, h => by
    have h2 : chkA K sc es l = true := by
      have h' := h
      unfold chkA at h'
      exact (ba h').2
    rw [starEach_c (chkA_head h)]
    show (false || (backTo pos (starEach l env)).any (·.1)) = false
    rw [chkA_star h2]; rfl

/-! ### the names' worth -/
structure Ef (R : Pr) (K : Ct) (k : Nat) (P : Program) (w : World) (G : Gd) (Y : Xg) (mg : Str → Option Value) (base : Heap) : Prop where
  fn : ∀ (j : Nat) (x : Str) (a : Nat × Nat), K.fns[j]? = some x → K.ars[j]? = some a → K.kds[j]? = some 0 → ∃ F f, R.fn[j]? = some F ∧ F.np = a.1 ∧ F.dfl.length = a.2 ∧ mg x = some (.ref f) ∧ FnK P w G Y mg base k f F
  gl : ∀ (j : Nat) (x : Str), K.gls[j]? = some x → ∃ d v u, R.gl[j]? = some d ∧ mg x = some u ∧ RelV v u ∧ ∀ C, Rp G C d v
  fr : ∀ x, x ∈ bnames → mg x = none
  st : ∀ (j : Nat) (x : Str) (a : Nat × Nat), K.fns[j]? = some x → K.ars[j]? = some a → K.kds[j]? = some 1 → ∃ F f, R.fn[j]? = some F ∧ F.np = a.1 ∧ mg x = some (.ref f) ∧ FnS P w G Y mg base k f F
  rm : R.mt = mtF K.mtl
  rk : R.kin = K.kin
  mt : ∀ (c m j : Nat) (mn : Str) (F : Fn), (c, m, j) ∈ K.mtl → K.mts[m]? = some mn → R.fn[j]? = some F → MtK P w G Y mg base k c mn F ∧ ∃ a, K.ars[j]? = some a ∧ F.np = a.1 ∧ F.dfl.length = a.2
  sp : ∀ (d j : Nat) (mn : Str) (F : Fn), (d, mn, j) ∈ K.sps → R.fn[j]? = some F → (∀ c, R.kin c d = true → SpK P w G Y mg base k c d mn F) ∧ ∃ a, K.ars[j]? = some a ∧ F.np = a.1 ∧ F.dfl.length = a.2
  nw : ∀ (c : Nat) (x : Str), K.cls[c]? = some x → mg x = some (.ref (G.cl c)) ∧ Mk0 G.K (G.cl c)
  fl : ∀ (m : Nat) (mn : Str), K.mts[m]? = some mn → ∀ i, G.fl i ≠ mn
  ra : R.ca = caF K.cal
  ca : ∀ (c a : Nat) (z f : Str), (c, a, z) ∈ K.cal → K.cas[a]? = some f → Cls G.K (G.cl c) ∧ ∃ v u, Con G.K (G.cl c) f v u ∧ ∀ C, Rp G C (.str z) v
  fa : ∀ (a : Nat) (f : Str), K.cas[a]? = some f → ∀ i, G.fl i ≠ f
  kw : ∀ (j : Nat) (x : Str), K.fns[j]? = some x → K.kds[j]? = some 3 → ∃ F f, R.fn[j]? = some F ∧ mg x = some (.ref f) ∧ ∀ (i : Nat) (h : Shp), F.shs[i]? = some h → FnN P w G Y mg base k f F h R.gl
  is_ : ∀ d, d ∈ K.isl → ∀ c, R.kin c c = true → TyK G.K (G.cl c) ∧ PySem.W.kitOne G.K (.ref (G.cl c)) (.ref (G.cl d)) = some (R.kin c d)
structure Cn (T : Tx) (R : Pr) (K : Ct) (k : Nat) (sc : Scope) (X : Cx) : Prop where
  N : X.N = K.N
  nd : X.N.Nodup
  sc : X.env.scope = sc
  hK : X.K = T.B.G.K
  calm : X.calm = true
  room : Room k X.A
  tk : Takes X T.W
  ef : Ef R K k X.prog X.w T.B.G T.Y X.mg X.base
section
variable {T : Tx} {R : Pr} {K : Ct} {k : Nat} {sc : Scope} {X : Cx}
theorem Cn.gl (c : Cn T R K k sc X) {x : Str} (h : glB sc x = true) : Gl X x := by
  show X.env.scope.names.lookup x = _
  rw [c.sc]
  exact de h
theorem Cn.vis (c : Cn T R K k sc X) {x : Str} (h : visB sc x = true) : Vis X.env.scope x := by
  rw [c.sc]
  exact visB_ok h
theorem Cn.nm (c : Cn T R K k sc X) {i : Nat} {x : Str} (h : nmB K sc i x = true) : X.N[i]? = some x ∧ Vis X.env.scope x ∧ (x == ("__debug__" : Str)) = false ∧ (x == ("__classdict__" : Str)) = false := by
  obtain ⟨h1, h2⟩ := ba h
  obtain ⟨h3, h4⟩ := ba h2
  rw [c.N]
  exact ⟨de h1, c.vis h3, okB_ok h4⟩
/-- a comprehension's block: no error is wished for -/
theorem Cn.blk (c : Cn T R K k sc X) {s : Shared} {H : Hp} {scope : Scope} {C : Addr} {cl : List (Str × Addr)} {fp : List Addr} : Cn T.nx R K k (relS scope sc) (X.blk s H scope (compEnvC scope cl C X.env) fp) where
  N := c.N
  nd := c.nd
  sc := by
    show relS scope X.env.scope = _
    rw [c.sc]
  hK := c.hK
  calm := c.calm
  room := c.room
  tk := takes0
  ef := c.ef
end
theorem base_ok {o : Expr} {m : Str} {env : PySem.Env} (h : baseB o = true) : attributeBase o m env (eval o env) = eval o env := by
  cases o <;> first | rfl | skip
  rename_i f as ks p
  cases f <;> first | rfl | skip
  cases as <;> first | rfl | skip
  cases ks <;> first | rfl | cases h
theorem chkA_form {K : Ct} {sc : Scope} : ∀ {es : Es} {l : List Expr} {env : PySem.Env} {pos : Pos}, chkA K sc es l = true → (backTo pos (starEach l env)).all (fun x => !x.1) = true
  | .nil, [], _, _, _ => rfl
  | .nil, _ :: _, _, _, h => by cases h
  | .cons a es, [], _, _, h => by cases h
  | .cons a es, x :: l, env, pos, h => by
    have h2 : chkA K sc es l = true := by
      have h' := h
      unfold chkA at h'
      exact (ba h').2
    rw [starEach_c (chkA_head h)]
    show (true && (backTo pos (starEach l env)).all (fun x => !x.1)) = true
    rw [chkA_form h2]; rfl
theorem bi_boot (b : Bi) : (biS b) ∈ bnames ∧ (biS b ≠ "__name__") ∧ ((biS b) == ("__debug__" : Str)) = false := by cases b <;> exact ⟨by decide, by decide, by decide⟩
theorem ty_boot (t : Ty) : (tyStr t) ∈ bnames ∧ (tyStr t ≠ "__name__") ∧ ((tyStr t) == ("__debug__" : Str)) = false ∧ bootBuiltins (tyStr t) = some (.type (tyN t)) := by cases t <;> exact ⟨by decide, by decide, by decide, by decide +kernel⟩
end QL

end
section
set_option Elab.async false
set_option linter.all false
/-! Q12: what is checked is right: expressions. -/
namespace QL
open PySem PySem.Spec PyProof.Rows L2

theorem foldedSet_no {e : Expr} {env : PySem.Env} (h : isSetE e = false) : ∀ x, foldedSetIterable e env x = pure x := fun x => by
  cases e <;> first | rfl | cases h
theorem isTrueE_ok {c : E} (h : isTrueE c = true) : c = .c (.bl true) := by
  cases c with
  | c d => cases d with
    | bl b => cases b with
      | true => rfl
      | false => cases h
    | _ => cases h
  | _ => cases h
theorem isLr_some {c : E} {s : Nat} (h : isLr c = some s) : c = .lr s := by
  cases c <;> first | (cases h; rfl) | cases h
theorem evA_len {R : Pr} : ∀ {es : Es} {δ δ' : Env} {as : List Ag}, evA R es δ = .ok as δ' → as.length = es.len
  | .nil, δ, δ', as, h => by cases h; rfl
  | .cons e es, δ, δ', as, h => by
    have h : (match isLr e with
    | some s => (optR (lookSl δ s) δ).bind fun _ δ => (evA R es δ).bind fun xs δ => .ok (.r s :: xs) δ
    | none => (ev R e δ).bind fun x δ => (evA R es δ).bind fun xs δ => .ok (.d x.d :: xs) δ) = Rs.ok as δ' := h
    split at h
    · cases e1 : lookSl δ _ with
      | none => rw [e1] at h; cases h
      | some z =>
        rw [e1] at h
        change ((evA R es δ).bind fun xs δ => Rs.ok (Ag.r _ :: xs) δ) = _ at h
        cases e2 : evA R es δ with
        | ok bs δ2 =>
          rw [e2] at h
          cases h
          show bs.length + 1 = es.len + 1
          rw [evA_len e2]
        | er x δ2 => rw [e2] at h; cases h
        | no => rw [e2] at h; cases h
    · cases e1 : ev R e δ with
      | ok z δ1 =>
        rw [e1] at h
        change ((evA R es δ1).bind fun xs δ => Rs.ok (Ag.d z.d :: xs) δ) = _ at h
        cases e2 : evA R es δ1 with
        | ok bs δ2 =>
          rw [e2] at h
          cases h
          show bs.length + 1 = es.len + 1
          rw [evA_len e2]
        | er x δ2 => rw [e2] at h; cases h
        | no => rw [e2] at h; cases h
      | er x δ2 => rw [e1] at h; cases h
      | no => rw [e1] at h; cases h

section
variable {T : Tx} {X : Cx} {R : Pr} {K : Ct} {k : Nat} {sc : Scope} {e : Expr} {f : Env → Rs Rv}
theorem s_tife {a b c : Expr} {fa fb fc : Env → Rs Rv} {pos : Pos} (hc : PT X c (tT T fc)) (ha : PT X a (tT T fa)) (hb : PT X b (tT T fb)) : PT X (.IfExp c a b pos) (tT T (fIfe fc fa fb)) := by
  refine ⟨fun pins s σ H Q I h => ?_⟩
  obtain ⟨C, δ, R, h⟩ := h
  show wpAny _ _ (do if ← isTrue c X.env (eval c X.env) then isTrue a X.env (eval a X.env) else isTrue b X.env (eval b X.env)) _ _ _
  refine wpAny_bind (thn (hc.run pins s σ H (fun k H1 => if k = true then tT T fa σ H1 Q else tT T fb σ H1 Q) I ?_) fun k s1 q => ?_)
  · refine tT.bool R h no_bool fun k δ1 H1 C1 R1 s1 h1 => ?_
    cases k with
    | true => exact iteT (tT.last R1 h1)
    | false => exact iteF (tT.last R1 h1)
  · obtain ⟨H1, I1, q1⟩ := q
    cases k with
    | true => exact ha.run pins s1 σ H1 Q I1 (by simpa using q1)
    | false =>
      show wpAny _ _ (if false = true then _ else _) _ _ _
      rw [if_neg (by decide)]
      exact hb.run pins s1 σ H1 Q I1 (by simpa using q1)
/-- both readings, by the value's -/
theorem two (h : PE X e (tE T f)) (he : ∀ whole, isTrue e X.env whole = (do let v ← whole; standAt e.pos; holding [v] (truthy v))) : PE X e (tE T f) ∧ PT X e (tT T f) := ⟨h, s_tval h he⟩
theorem Cn.un (c : Cn T R K k sc X) : X.A.units + 65 < cLine := by
  have := c.room.un
  omega
theorem Cn.nob (c : Cn T R K k sc X) {x : Str} (h : x ∈ bnames) : X.mg x = none := c.ef.fr x h
theorem cd_bi (c : Cn T R K k sc X) (b : Bi) {es : List Expr} {p pos : Pos} {fs : Env → Rs (List D)} (hg : Gl X (biS b)) (ha : PA X (e :: es) (tAs T fs)) (he : starEach (e :: es) X.env = (false, eval e X.env) :: starEach es X.env) (hpl : (backTo pos (starEach es X.env)).any (·.1) = false) :
    PE X (.Call (.Name (biS b) p) (e :: es) [] pos) (tE T (fBi (biD b) fs)) := by
  have hK := c.hK
  have m := c.nob (bi_boot b).1
  cases b with
  | len => exact s_biB (cd_len hK) hg m (by decide +kernel) ha (by decide) (by decide) he hpl
  | max2 => exact s_biB (cd_max c.calm) hg m (by decide +kernel) ha (by decide) (by decide) he hpl
  | min2 => exact s_biB (cd_min c.calm) hg m (by decide +kernel) ha (by decide) (by decide) he hpl
  | abs => exact s_biB cd_abs hg m (by decide +kernel) ha (by decide) (by decide) he hpl
  | int1 => exact s_biT cd_int hg m (by decide +kernel) ha (by decide) (by decide) he hpl
  | tuple => exact s_biT (cd_tuple hK) hg m (by decide +kernel) ha (by decide) (by decide) he hpl
  | list => exact s_biT (cd_list hK) hg m (by decide +kernel) ha (by decide) (by decide) he hpl
  | sorted => exact s_biB (cd_sorted c.hK) hg m (by decide +kernel) ha (by decide) (by decide) he hpl
  | all => exact s_biB (cd_all c.calm) hg m (by decide +kernel) ha (by decide) (by decide) he hpl
  | any => exact s_biB (cd_any c.calm) hg m (by decide +kernel) ha (by decide) (by decide) he hpl
  | sum => exact s_biB (cd_sum c.calm) hg m (by decide +kernel) ha (by decide) (by decide) he hpl

theorem tyNs_ok (c : Cn T R K k sc X) : ∀ {ts : List Ty} {bs : List Expr}, tyNsB sc ts bs = true → PA X bs (fun _ H Q => Q (ts.map fun t => V.ty (tyN t)) H)
  | [], [], _ => pa_nil
  | [], _ :: _, h => by cases h
  | _ :: _, [], h => by cases h
  | t :: ts, b :: bs, h => by
    obtain ⟨h1, h2⟩ := ba h
    unfold tyNB at h1
    split at h1
    · rename_i x p
      obtain ⟨h3, h4⟩ := ba h1
      have h3 := de h3
      subst h3
      obtain ⟨q1, q2, q3, q4⟩ := ty_boot t
      exact pa_cons (s_ty (c.gl h4) (c.nob q1) q4 q2 q3) (tyNs_ok c h2) rfl
    · cases h1
theorem tyN_ok (c : Cn T R K k sc X) {t : Ty} (h1 : tyNB sc t e = true) : PE X e (tC (.ty (tyN t))) ∧ starEach [e] X.env = (false, eval e X.env) :: starEach [] X.env := by
  unfold tyNB at h1
  split at h1
  · rename_i x p
    obtain ⟨h3, h4⟩ := ba h1
    have h3 := de h3
    subst h3
    obtain ⟨q1, q2, q3, q4⟩ := ty_boot t
    exact ⟨s_ty (c.gl h4) (c.nob q1) q4 q2 q3, rfl⟩
  · cases h1
theorem cst_ok {d : D} {q : Const} {j : Nat} {pos : Pos} (h : cstB d q = true) : PE X (.Constant q j pos) (tE T fun δ => .ok (.fz d) δ) := by
  cases d <;> cases q <;> first | (cases h; done) | skip
  · exact s_non
  · rename_i a b
    have : a = b := by cases a <;> cases b <;> first | rfl | cases h
    subst this
    exact s_bl
  · have h := de h
    subst h
    exact s_int
  · have h := de h
    subst h
    exact s_str
theorem lcPt_ok (c : Cn T R K k sc X) {scope : Scope} {p : Pt} {tg : Expr} (h : lcPt K sc scope p tg = true) : BlkOk X.N X.env.scope scope (ownOf K p) ∧ (ownOf K p).map (·.2) = p.is ∧ ∀ (s : Shared) (H : Hp) (C : Addr) (cl : List (Str × Addr)) (fp : List Addr), PG (X.blk s H scope (compEnvC scope cl C X.env) fp) tg (tgP X.K p) := by
  obtain ⟨h1, h2⟩ := ba h
  refine ⟨by rw [c.N, c.sc]; exact blkOk_by h1, by unfold ownOf; rw [List.map_map]; exact List.map_id _, fun s H C cl fp => ?_⟩
  refine (pg_pt (X := X.blk s H scope (compEnvC scope cl C X.env) fp) (nm := ownNm K sc scope) c.calm (fun i e hi => ?_) p tg h2).1
  unfold ownNm at hi
  split at hi
  · rename_i x q
    obtain ⟨h4, h5⟩ := ba hi
    have hN : (X.blk s H scope (compEnvC scope cl C X.env) fp).N[i]? = some x := by
      show X.N[i]? = some x
      rw [c.N]
      exact de h4
    have es : (X.blk s H scope (compEnvC scope cl C X.env) fp).env.scope = relS scope sc := by
      show relS scope X.env.scope = _
      rw [c.sc]
    refine ⟨?_, fun _ _ z => by cases z⟩
    unfold ownB at h5
    split at h5
    · rename_i hl
      exact pg_name c.nd hN (.inl (by rw [es]; exact hl)) (.inr (by rw [es]; exact hl))
    · rename_i hl
      refine pg_name c.nd hN (.inr (by rw [es]; exact hl)) (.inl ?_)
      show (scope.names.lookup x == some .cell) = true
      rw [de h5]; rfl
    · cases h5
  · cases hi
theorem lcTg_ok (c : Cn T R K k sc X) {scope : Scope} {i : Nat} {tg : Expr} (h : lcTg K sc scope i tg = true) : ∃ x, BlkOk X.N X.env.scope scope [(x, i)] ∧ ∀ (s : Shared) (H : Hp) (C : Addr) (cl : List (Str × Addr)) (fp : List Addr), PG (X.blk s H scope (compEnvC scope cl C X.env) fp) tg (L2.gName i) := by
  unfold lcTg at h
  split at h
  · rename_i x p
    obtain ⟨h2, h3⟩ := ba h
    obtain ⟨h4, h5⟩ := ba h3
    refine ⟨x, ?_, fun s H C cl fp => ?_⟩
    · rw [c.N, c.sc]
      exact blkOk_by h4
    · have hN : (X.blk s H scope (compEnvC scope cl C X.env) fp).N[i]? = some x := by
        show X.N[i]? = some x
        rw [c.N]
        exact de h2
      have es : (X.blk s H scope (compEnvC scope cl C X.env) fp).env.scope = relS scope sc := by
        show relS scope X.env.scope = _
        rw [c.sc]
      unfold ownB at h5
      split at h5
      · rename_i hl
        exact pg_name c.nd hN (.inl (by rw [es]; exact hl)) (.inr (by rw [es]; exact hl))
      · rename_i hl
        refine pg_name c.nd hN (.inr (by rw [es]; exact hl)) (.inl ?_)
        show (scope.names.lookup x == some .cell) = true
        rw [de h5]; rfl
      · cases h5
  · cases h
end
section
variable {R : Pr} {K : Ct} {k : Nat}
mutual
theorem sndE : ∀ (c : E) {T : Tx} {sc : Scope} {X : Cx} {e : Expr}, Cn T R K k sc X → chkE K sc c e = true → PE X e (tE T (ev R c)) ∧ PT X e (tT T (ev R c))
  | .v i, T, sc, X, e, c, h => by
    unfold chkE at h
    split at h
    · obtain ⟨h1, h2, h3, h4⟩ := c.nm h
      exact two (s_var h1 h2 h3 h4) fun _ => rfl
    · cases h
  | .c d, T, sc, X, e, c, h => by
    unfold chkE at h
    split at h
    · exact two (cst_ok h) fun _ => rfl
    · cases h
  | .g j, T, sc, X, e, c, h => by
    unfold chkE at h
    split at h
    · rename_i x p
      obtain ⟨h1, h2⟩ := ba h
      obtain ⟨h3, h4⟩ := ba h2
      obtain ⟨d, v, u, q1, q2, q3, q4⟩ := c.ef.gl j x (de h1)
      have ee : ev R (.g j) = fun δ => .ok (.fz d) δ := by
        funext δ
        show optR ((R.gl[j]?).map Rv.fz) δ = _
        rw [q1]; rfl
      rw [ee]
      exact two (s_glob (c.gl h3) q2 q3 (okB_ok h4).1 q4) fun _ => rfl
    · cases h
  | .neg a, T, sc, X, e, c, h => by
    unfold chkE at h
    split at h
    · exact two (s_neg (sndE a c h).1) fun _ => rfl
    · cases h
  | .bin o a b, T, sc, X, e, c, h => by
    unfold chkE at h
    split at h
    · obtain ⟨h1, h2⟩ := ba h
      obtain ⟨h3, h4⟩ := ba h2
      have h1 := de h1
      subst h1
      exact two (s_bin (od_bin c.hK o) (sndE a c h3).1 (sndE b c h4).1) fun _ => rfl
    · cases h
  | .cmp o a b, T, sc, X, e, c, h => by
    unfold chkE at h
    split at h
    · obtain ⟨h1, h2⟩ := ba h
      obtain ⟨h3, h4⟩ := ba h2
      obtain ⟨h5, h6⟩ := ba h4
      have h1 := de h1
      subst h1
      exact ⟨s_cmp (oc_cmp c.hK c.un o) (bn h3) (sndE a c h5).1 (sndE b c h6).1, s_tcmp (oc_cmp c.hK c.un o) (bn h3) (sndE a c h5).1 (sndE b c h6).1⟩
    · cases h
  | .ch2 o p a b d, T, sc, X, e, c, h => by
    unfold chkE at h
    split at h
    · obtain ⟨h1, h2⟩ := ba h
      obtain ⟨h3, h4⟩ := ba h2
      obtain ⟨h5, h6⟩ := ba h4
      obtain ⟨h7, h8⟩ := ba h6
      obtain ⟨h9, h10⟩ := ba h8
      have h1 := de h1
      have h3 := de h3
      subst h1
      subst h3
      exact ⟨s_ch2 (oc_cmp c.hK c.un o) (oc_cmp c.hK c.un p) (sndE a c h7).1 (sndE b c h9).1 (sndE d c h10).1 (bn h5), s_tch2 (oc_cmp c.hK c.un o) (oc_cmp c.hK c.un p) (sndE a c h7).1 (sndE b c h9).1 (sndE d c h10).1 (bn h5)⟩
    · cases h
  | .ch3 o p q a b d f, T, sc, X, e, c, h => by
    unfold chkE at h
    split at h
    · obtain ⟨h1, h2⟩ := ba h
      obtain ⟨h3, h4⟩ := ba h2
      obtain ⟨h5, h6⟩ := ba h4
      obtain ⟨h7, h8⟩ := ba h6
      obtain ⟨h9, h10⟩ := ba h8
      obtain ⟨h11, h12⟩ := ba h10
      obtain ⟨h13, h14⟩ := ba h12
      have h1 := de h1
      have h3 := de h3
      have h5 := de h5
      subst h1
      subst h3
      subst h5
      exact ⟨s_ch3 (oc_cmp c.hK c.un o) (oc_cmp c.hK c.un p) (oc_cmp c.hK c.un q) (sndE a c h9).1 (sndE b c h11).1 (sndE d c h13).1 (sndE f c h14).1 (bn h7), s_tch3 (oc_cmp c.hK c.un o) (oc_cmp c.hK c.un p) (oc_cmp c.hK c.un q) (sndE a c h9).1 (sndE b c h11).1 (sndE d c h13).1 (sndE f c h14).1 (bn h7)⟩
    · cases h
  | .and_ a b, T, sc, X, e, c, h => by
    unfold chkE at h
    split at h
    · obtain ⟨h1, h2⟩ := ba h
      split at h2
      · exact ⟨s_and (sndE a c h1).1 (s_one (sndE b c h2).1), s_tand (sndE a c h1).2 (s_tone (sndE b c h2).2)⟩
      · exact ⟨s_and (sndE a c h1).1 (sndE b c h2).1, s_tand (sndE a c h1).2 (sndE b c h2).2⟩
    · cases h
  | .or_ a b, T, sc, X, e, c, h => by
    unfold chkE at h
    split at h
    · obtain ⟨h1, h2⟩ := ba h
      split at h2
      · exact ⟨s_or (sndE a c h1).1 (s_one (sndE b c h2).1), s_tor (sndE a c h1).2 (s_tone (sndE b c h2).2)⟩
      · exact ⟨s_or (sndE a c h1).1 (sndE b c h2).1, s_tor (sndE a c h1).2 (sndE b c h2).2⟩
    · cases h
  | .not_ a, T, sc, X, e, c, h => by
    unfold chkE at h
    split at h
    · exact ⟨s_not (sndE a c h).1, s_tnot (sndE a c h).2⟩
    · cases h
  | .ife d a b, T, sc, X, e, c, h => by
    unfold chkE at h
    split at h
    · obtain ⟨h1, h2⟩ := ba h
      obtain ⟨h3, h4⟩ := ba h2
      exact ⟨s_ife (sndE d c h1).2 (sndE a c h3).1 (sndE b c h4).1, s_tife (sndE d c h1).2 (sndE a c h3).2 (sndE b c h4).2⟩
    · cases h
  | .tup es, T, sc, X, e, c, h => by
    unfold chkE at h
    split at h
    · exact two (s_tup (sndEs es c h)) fun _ => rfl
    · cases h
  | .lst es, T, sc, X, e, c, h => by
    unfold chkE at h
    split at h
    · exact two (s_lst (sndEs es c h)) fun _ => rfl
    · cases h
  | .ix a i, T, sc, X, e, c, h => by
    unfold chkE at h
    split at h
    · obtain ⟨h1, h2⟩ := ba h
      exact two (s_ix c.hK (sndE a c h1).1 (sndE i c h2).1 (plainIx_c h2)) fun _ => rfl
    · cases h
  | .ixv s i, T, sc, X, e, c, h => by
    unfold chkE at h
    split at h
    · obtain ⟨h1, h2⟩ := ba h
      obtain ⟨q1, q2, q3, q4⟩ := c.nm h1
      exact two (s_ixv c.hK q1 q2 q3 q4 (sndE i c h2).1 (plainIx_c h2)) fun _ => rfl
    · cases h
  | .sl a lo hi, T, sc, X, e, c, h => by
    unfold chkE at h
    split at h
    · rename_i x l u p2 pos
      obtain ⟨h1, h2⟩ := ba h
      obtain ⟨h3, h4⟩ := ba h2
      have hl : PO X l (tPartQ T fun δ => if isNonE lo then .ok none δ else (ev R lo δ).bind intP) := by
        split at h3
        · rw [h3]
          exact s_pnone
        · obtain ⟨h5, h6⟩ := ba h3
          rw [bn h5]
          exact s_psome (sndE lo c h6).1
      have hh : PO X u (tPartQ T fun δ => if isNonE hi then .ok none δ else (ev R hi δ).bind intP) := by
        split at h4
        · rw [h4]
          exact s_pnone
        · obtain ⟨h5, h6⟩ := ba h4
          rw [bn h5]
          exact s_psome (sndE hi c h6).1
      exact two (s_sl c.hK (sndE a c h1).1 hl hh) fun _ => rfl
    · cases h
  | .slv s lo hi, T, sc, X, e, c, h => by
    unfold chkE at h
    split at h
    · rename_i x p l u p2 pos
      obtain ⟨h1, h2⟩ := ba h
      obtain ⟨h3, h4⟩ := ba h2
      obtain ⟨q1, q2, q3, q4⟩ := c.nm h1
      have hl : PO X l (tPartQ T fun δ => if isNonE lo then .ok none δ else (ev R lo δ).bind intP) := by
        split at h3
        · rw [h3]
          exact s_pnone
        · obtain ⟨h5, h6⟩ := ba h3
          rw [bn h5]
          exact s_psome (sndE lo c h6).1
      have hh : PO X u (tPartQ T fun δ => if isNonE hi then .ok none δ else (ev R hi δ).bind intP) := by
        split at h4
        · rw [h4]
          exact s_pnone
        · obtain ⟨h5, h6⟩ := ba h4
          rw [bn h5]
          exact s_psome (sndE hi c h6).1
      exact two (s_slv c.hK q1 q2 q3 q4 hl hh) fun _ => rfl
    · cases h
  | .rev a, T, sc, X, e, c, h => by
    unfold chkE at h
    split at h
    · obtain ⟨h1, h2⟩ := ba h
      have h1 := de h1
      subst h1
      exact two (s_rev c.hK (sndE a c h2).1) fun _ => rfl
    · cases h
  | .call j es, T, sc, X, e, c, h => by
    unfold chkE at h
    split at h
    · rename_i x p y ys pos
      obtain ⟨h0, h⟩ := ba h
      obtain ⟨h1, h2⟩ := ba h
      obtain ⟨h3, h4⟩ := ba h2
      obtain ⟨h5, h6⟩ := ba h4
      obtain ⟨h7, h8⟩ := ba h6
      split at h7
      · rename_i np nd ea
        obtain ⟨F, f, q1, q2, q3, q4, q5⟩ := c.ef.fn j x _ (de h1) ea (de h0)
        have ee : ev R (.call j es) = fun δ => (evA R es δ).bind fun as δ => callF F as δ := by
          funext δ
          show (match R.fn[j]? with
            | some f => (evA R es δ).bind fun as δ => callF f as δ
            | none => .no) = _
          rw [q1]
        rw [ee]
        cases es with
        | nil => cases h8
        | cons a es =>
          have h9 : chkA K sc es ys = true := by
            have h' := h8
            unfold chkA at h'
            exact (ba h').2
          refine two (s_call c.hK q5 c.room (c.gl h3) q4 c.tk (fun δ as δ' w => evA_len w) ?_ (sndA (.cons a es) c h8) (okB_ok h5).1 (starEach_c (chkA_head h8)) (chkA_star h9)) fun _ => rfl
          have := de h7
          rw [q2, q3]
          exact this
      · cases h7
    · cases h
  | .bi b es, T, sc, X, e, c, h => by
    unfold chkE at h
    split at h
    · rename_i x p y ys pos
      obtain ⟨h1, h2⟩ := ba h
      obtain ⟨h3, h4⟩ := ba h2
      have h1 := de h1
      subst h1
      cases es with
      | nil => cases h4
      | cons a es =>
        obtain ⟨h5, h6⟩ := ba (show (chkE K sc a y && chkEs K sc es ys) = true from h4)
        exact two (cd_bi c b (c.gl h3) (sndEs (.cons a es) c h4) (starEach_c (chk_star h5)) (chkEs_star h6)) fun _ => rfl
    · cases h
  | .lenv s, T, sc, X, e, c, h => by
    unfold chkE at h
    split at h
    · obtain ⟨h1, h2⟩ := ba h
      obtain ⟨h3, h4⟩ := ba h2
      have h1 := de h1
      subst h1
      obtain ⟨q1, q2, q3, q4⟩ := c.nm h4
      exact two (s_lenv c.hK (c.gl h3) (c.nob (by decide)) q1 q2 q3 q4) fun _ => rfl
    · cases h
  | .inv n a s, T, sc, X, e, c, h => by
    unfold chkE at h
    split at h
    · obtain ⟨h1, h2⟩ := ba h
      obtain ⟨h3, h4⟩ := ba h2
      have h1 := de h1
      subst h1
      obtain ⟨q1, q2, q3, q4⟩ := c.nm h3
      exact ⟨s_inv c.un c.hK (sndE a c h4).1 q1 q2 q3 q4, s_tinv c.un c.hK (sndE a c h4).1 q1 q2 q3 q4⟩
    · cases h
  | .isi a ts, T, sc, X, e, c, h => by
    unfold chkE at h
    split at h
    · obtain ⟨h1, h2⟩ := ba h
      obtain ⟨h3, h4⟩ := ba h2
      obtain ⟨h5, h6⟩ := ba h4
      have h1 := de h1
      subst h1
      split at h6
      · obtain ⟨h7, h8⟩ := ba h6
        exact two (s_isiT c.hK (de h7) (c.gl h3) (c.nob (by decide)) (sndE a c h5).1 (tyNs_ok c h8) (starEach_c (chk_star h5))) fun _ => rfl
      · obtain ⟨q1, q2⟩ := tyN_ok c h6
        exact two (s_isi1 c.hK (c.gl h3) (c.nob (by decide)) (sndE a c h5).1 q1 (starEach_c (chk_star h5)) q2) fun _ => rfl
      · cases h6
    · cases h
  | .lc i it d f, T, sc, X, e, c, h => by
    unfold chkE at h
    split at h
    · obtain ⟨h1, h2⟩ := ba h
      obtain ⟨h3, h4⟩ := ba h2
      obtain ⟨h5, h6⟩ := ba h4
      obtain ⟨h7, h8⟩ := ba h6
      obtain ⟨x, ok, hg⟩ := lcTg_ok c h1
      split at h8
      · have h8 := isTrueE_ok h8
        subst h8
        exact two (s_lc c.calm c.nd (sndI it c h5) ok yes_read hg (fun _ _ _ _ _ => pts_nil) (fun s H C cl fp => (sndE f c.blk h7).1) (foldedSet_no (bn h3))) fun _ => rfl
      · exact two (s_lc c.calm c.nd (sndI it c h5) ok (fun _ _ _ h => h) hg (fun s H C cl fp => pts_one (sndE d c.blk h8).2) (fun s H C cl fp => (sndE f c.blk h7).1) (foldedSet_no (bn h3))) fun _ => rfl
      · cases h8
    · cases h
  | .lct p it d f, T, sc, X, e, c, h => by
    unfold chkE at h
    split at h
    · obtain ⟨h1, h2⟩ := ba h
      obtain ⟨h3, h4⟩ := ba h2
      obtain ⟨h5, h6⟩ := ba h4
      obtain ⟨h7, h8⟩ := ba h6
      obtain ⟨ok, ho, hg⟩ := lcPt_ok c h1
      split at h8
      · have h8 := isTrueE_ok h8
        subst h8
        exact two (s_lct c.hK c.calm c.nd (sndI it c h5) ok ho yes_read hg (fun _ _ _ _ _ => pts_nil) (fun s H C cl fp => (sndE f c.blk h7).1) (foldedSet_no (bn h3))) fun _ => rfl
      · exact two (s_lct c.hK c.calm c.nd (sndI it c h5) ok ho (fun _ _ _ h => h) hg (fun s H C cl fp => pts_one (sndE d c.blk h8).2) (fun s H C cl fp => (sndE f c.blk h7).1) (foldedSet_no (bn h3))) fun _ => rfl
      · cases h8
    · cases h
  | .meth o m es, T, sc, X, e, c, h => by
    unfold chkE at h
    split at h
    · rename_i ox mn ap y ys pos
      obtain ⟨h1, h⟩ := ba h
      obtain ⟨h2, h⟩ := ba h
      obtain ⟨h3, h⟩ := ba h
      obtain ⟨h4, h⟩ := ba h
      obtain ⟨h5, h⟩ := ba h
      obtain ⟨h6, h7⟩ := ba h
      cases es with
      | nil => cases h7
      | cons a es =>
        have h9 : chkA K sc es ys = true := by
          have h' := h7
          unfold chkA at h'
          exact (ba h').2
        have ee : ev R (.meth o m (.cons a es)) = fMeth (fun c => (R.mt c m).bind fun k => R.fn[k]?) (ev R o) (evA R (.cons a es)) := by
          funext δ
          rfl
        rw [ee]
        refine two (s_meth (n := (Es.cons a es).len) (k := k) c.hK (fun cc F hF => ?_) c.room c.tk (c.ef.fl m mn (de h1)) (fun δ as δ' w => evA_len w) (sndE o c h6).1 (sndA (.cons a es) c h7) (mcallN h2 (base_ok h3) ?_) (starEach_c (chkA_head h7)) (chkA_star h9)) fun _ => rfl
        · obtain ⟨j, e1, e2⟩ := Option.bind_eq_some_iff.mp hF
          rw [c.ef.rm] at e1
          have e1 := mtF_mem e1
          obtain ⟨q1, ⟨np, nd⟩, q2, q3, q4⟩ := c.ef.mt cc m j mn F e1 (de h1) e2
          refine ⟨q1, ?_⟩
          have := List.all_eq_true.mp h5 _ e1
          dsimp only at this
          rw [q2] at this
          rw [q3, q4]
          simpa using this
        · unfold methodCallForm
          rw [chkA_form h7]
          simpa using h4
    · cases h
  | .cat o a, T, sc, X, e, c, h => by
    unfold chkE at h
    split at h
    · rename_i ox f pos
      obtain ⟨h1, h⟩ := ba h
      obtain ⟨h2, h3⟩ := ba h
      have ee : ev R (.cat o a) = fCat (fun c => R.ca c a) (ev R o) := by
        funext δ
        rfl
      rw [ee]
      refine two (s_cat c.hK (fun cc d hd => ?_) (c.ef.fa a f (de h1)) (sndE o c h3).1 (base_ok h2)) fun _ => rfl
      rw [c.ef.ra] at hd
      obtain ⟨z, m, rfl⟩ := caF_mem hd
      exact c.ef.ca cc a z f m (de h1)
    · cases h
  | .new cc, T, sc, X, e, c, h => by
    unfold chkE at h
    split at h
    · obtain ⟨h1, h2⟩ := ba h
      obtain ⟨h3, h4⟩ := ba h2
      obtain ⟨q1, q2⟩ := c.ef.nw cc _ (de h1)
      rw [← c.hK] at q2
      exact two (s_new q2 (c.gl h3) q1 (okB_ok h4).1) fun _ => rfl
    · cases h
  | .callk j i nms es ks, T, sc, X, e, c, h => by
    unfold chkE at h
    split at h
    · obtain ⟨h1, h⟩ := ba h
      obtain ⟨h2, h⟩ := ba h
      obtain ⟨h3, h⟩ := ba h
      obtain ⟨h4, h⟩ := ba h
      obtain ⟨h5, h⟩ := ba h
      obtain ⟨h6, h⟩ := ba h
      obtain ⟨h7, h8⟩ := ba h
      obtain ⟨F, f, q1, q2, q3⟩ := c.ef.kw j _ (de h2) (de h1)
      cases es with
      | nil => cases h7
      | cons a es =>
        have h9 := h7
        unfold chkEs at h9
        obtain ⟨h9, _⟩ := ba h9
        refine two ?_ fun _ => rfl
        cases eh : F.shs[i]? with
        | none =>
          have ee : ev R (.callk j i nms (.cons a es) ks) = fun _ => .no := by
            funext δ
            unfold ev
            rw [q1]
            dsimp only
            rw [eh]
          rw [ee]
          exact ⟨fun pins s σ H Q I z => by obtain ⟨C, δ, R, z⟩ := z; exact z.elim⟩
        | some sh =>
          by_cases en : sh.ks = nms
          · have ee : ev R (.callk j i nms (.cons a es) ks) = fCallk R.gl sh F (evs R (.cons a es)) (evs R ks) := by
              funext δ
              unfold ev
              rw [q1]
              dsimp only
              rw [eh]
              dsimp only
              rw [if_pos en]
            rw [ee]
            exact s_callk c.hK (q3 i sh eh) c.room (c.gl h3) q2 c.tk (sndEs _ c h7) (sndKs ks c h8) (okB_ok h4).1 (starEach_c (chk_star h9)) (chkEs_star h7) h5 ((de h6).trans en.symm)
          · have ee : ev R (.callk j i nms (.cons a es) ks) = fun _ => .no := by
              funext δ
              unfold ev
              rw [q1]
              dsimp only
              rw [eh]
              dsimp only
              rw [if_neg en]
            rw [ee]
            exact ⟨fun pins s σ H Q I z => by obtain ⟨C, δ, R, z⟩ := z; exact z.elim⟩
    · cases h
  | .isk a d, T, sc, X, e, c, h => by
    unfold chkE at h
    split at h
    · obtain ⟨h1, h⟩ := ba h
      obtain ⟨h2, h⟩ := ba h
      obtain ⟨h3, h⟩ := ba h
      obtain ⟨h4, h⟩ := ba h
      obtain ⟨h5, h⟩ := ba h
      obtain ⟨h6, h7⟩ := ba h
      have h1 := de h1
      subst h1
      obtain ⟨q1, q2⟩ := c.ef.nw d _ (de h4)
      exact two (s_isk c.hK (c.gl h2) (c.nob (by decide)) (sndE a c h3).1 (pe_glob (c.gl h5) q1 rfl (okB_ok h6).1) (c.ef.is_ d (de h7)) (starEach_c (chk_star h3)) rfl) fun _ => rfl
    · cases h
  | .sup d j es, T, sc, X, e, c, h => by
    unfold chkE at h
    cases h
  | .cls j n es, T, sc, X, e, c, h => by
    unfold chkE at h
    split at h
    · rename_i x p y ys pos
      obtain ⟨h0, h⟩ := ba h
      obtain ⟨h1, h2⟩ := ba h
      obtain ⟨h3, h4⟩ := ba h2
      obtain ⟨h5, h6⟩ := ba h4
      obtain ⟨h7, h8⟩ := ba h6
      split at h7
      · rename_i np nd ea
        obtain ⟨F, f, q1, q2, q4, q5⟩ := c.ef.st j x _ (de h1) ea (de h0)
        have ee : ev R (.cls j n es) = fCls n F (evs R es) := by
          funext δ
          show (match R.fn[j]? with
            | some f => (evs R es δ).bind fun xs δ => if n ≤ xs.length ∧ xs.length ≤ LIM then callF f ((xs.take n).map Ag.d ++ [Ag.d (.tup (xs.drop n))]) δ else .no
            | none => .no) = _
          rw [q1]
        rw [ee]
        cases es with
        | nil => cases h8
        | cons a es =>
          obtain ⟨h9, h10⟩ := ba (show (chkE K sc a y && chkEs K sc es ys) = true from h8)
          exact two (s_cls c.hK q5 c.room (c.gl h3) q4 c.tk ((de h7).trans q2.symm) (sndEs (.cons a es) c h8) (okB_ok h5).1 (starEach_c (chk_star h9)) (chkEs_star h10)) fun _ => rfl
      · cases h7
    · cases h
  | .dic0, T, sc, X, e, c, h => by
    unfold chkE at h
    split at h
    · exact two s_dic0 fun _ => rfl
    · cases h
  | .keys s, T, sc, X, e, c, h => by
    unfold chkE at h
    split at h
    · obtain ⟨h1, h2⟩ := ba h
      obtain ⟨h3, h4⟩ := ba h2
      have h1 := de h1
      subst h1
      obtain ⟨q1, q2, q3, q4⟩ := c.nm h4
      exact two (s_keys c.calm (c.gl h3) (c.nob (by decide)) q1 q2 q3 q4) fun _ => rfl
    · cases h
  | .sset a, T, sc, X, e, c, h => by
    unfold chkE at h
    split at h
    · obtain ⟨h1, h⟩ := ba h
      obtain ⟨h2, h⟩ := ba h
      obtain ⟨h3, h⟩ := ba h
      obtain ⟨h4, h5⟩ := ba h
      have h1 := de h1
      subst h1
      have h3 := de h3
      subst h3
      exact two (s_sset c.calm (c.gl h2) (c.nob (by decide)) (c.gl h4) (c.nob (by decide)) (sndE a c h5).1 (starEach_c (chk_star h5))) fun _ => rfl
    · cases h
  | .cntl s a, T, sc, X, e, c, h => by
    unfold chkE at h
    split at h
    · obtain ⟨h1, h⟩ := ba h
      obtain ⟨h2, h⟩ := ba h
      obtain ⟨h3, h4⟩ := ba h
      have h1 := de h1
      subst h1
      obtain ⟨q1, q2, q3, q4⟩ := c.nm h2
      have hs := starEach_c (es := []) (env := X.env) (chk_star h4)
      refine two (s_cnt1 q1 q2 q3 q4 (sndE a c h4).1 hs fun ho ha => pe_bm PySem.F.plainAttrs_list PySem.F.slot_list_count PySem.F.type_list_count mt_lcount ho ha rfl ?_ h3 hs rfl) fun _ => rfl
      rw [hs]
      rfl
    · cases h
  | .lr s, T, sc, X, e, c, h => by
    unfold chkE at h
    cases h
theorem sndEs : ∀ (es : Es) {T : Tx} {sc : Scope} {X : Cx} {l : List Expr}, Cn T R K k sc X → chkEs K sc es l = true → PA X l (tAs T (evs R es))
  | .nil, T, sc, X, l, c, h => by
    unfold chkEs at h
    split at h
    · exact s_anil
    · cases h
  | .cons a es, T, sc, X, l, c, h => by
    unfold chkEs at h
    split at h
    · obtain ⟨h1, h2⟩ := ba h
      exact s_acons (sndE a c h1).1 (sndEs es c h2) (starEach_c (chk_star h1))
    · cases h
theorem sndKs : ∀ (es : Es) {T : Tx} {sc : Scope} {X : Cx} {l : List Keyword}, Cn T R K k sc X → chkKs K sc es l = true → PK X l (tAs T (evs R es))
  | .nil, T, sc, X, l, c, h => by
    unfold chkKs at h
    split at h
    · exact s_knil
    · cases h
  | .cons a es, T, sc, X, l, c, h => by
    unfold chkKs at h
    split at h
    · obtain ⟨h1, h2⟩ := ba h
      exact s_kcons (sndE a c h1).1 (sndKs es c h2)
    · cases h
theorem sndA : ∀ (es : Es) {T : Tx} {sc : Scope} {X : Cx} {l : List Expr}, Cn T R K k sc X → chkA K sc es l = true → PA X l (tAg T (evA R es))
  | .nil, T, sc, X, l, c, h => by
    unfold chkA at h
    split at h
    · exact s_gnil
    · cases h
  | .cons a es, T, sc, X, l, c, h => by
    unfold chkA at h
    split at h
    · obtain ⟨h1, h2⟩ := ba h
      cases ea : isLr a with
      | some s =>
        rw [ea] at h1
        have ee : evA R (.cons a es) = gLr s (evA R es) := by
          funext δ
          show (match isLr a with
            | some s => (optR (lookSl δ s) δ).bind fun _ δ => (evA R es δ).bind fun xs δ => .ok (Ag.r s :: xs) δ
            | none => (ev R a δ).bind fun x δ => (evA R es δ).bind fun xs δ => .ok (Ag.d x.d :: xs) δ) = _
          rw [ea]
        rw [ee]
        dsimp only at h1
        split at h1
        · obtain ⟨q1, q2, q3, q4⟩ := c.nm h1
          exact s_glr q1 q2 q3 q4 (sndA es c h2)
        · cases h1
      | none =>
        rw [ea] at h1
        dsimp only at h1
        have ee : evA R (.cons a es) = gCons (ev R a) (evA R es) := by
          funext δ
          show (match isLr a with
            | some s => (optR (lookSl δ s) δ).bind fun _ δ => (evA R es δ).bind fun xs δ => .ok (Ag.r s :: xs) δ
            | none => (ev R a δ).bind fun x δ => (evA R es δ).bind fun xs δ => .ok (Ag.d x.d :: xs) δ) = _
          rw [ea]
        rw [ee]
        exact s_gcons (sndE a c h1).1 (sndA es c h2) (starEach_c (chk_star h1))
    · cases h
theorem sndI : ∀ (it : I) {T : Tx} {sc : Scope} {X : Cx} {tg e : Expr}, Cn T R K k sc X → chkI K sc it e = true → PI X tg e (tI T (evI R it))
  | .seq a, T, sc, X, tg, e, c, h => s_iseq c.hK (sndE a c h).1
  | .rng1 a, T, sc, X, tg, e, c, h => by
    unfold chkI at h
    split at h
    · obtain ⟨h1, h2⟩ := ba h
      obtain ⟨h3, h4⟩ := ba h2
      have h1 := de h1
      subst h1
      exact s_irng1 (c.gl h3) (c.nob (by decide)) (sndE a c h4).1 (starEach_c (chk_star h4))
    · cases h
  | .rng2 a b, T, sc, X, tg, e, c, h => by
    unfold chkI at h
    split at h
    · obtain ⟨h1, h2⟩ := ba h
      obtain ⟨h3, h4⟩ := ba h2
      obtain ⟨h5, h6⟩ := ba h4
      have h1 := de h1
      subst h1
      exact s_irng2 (c.gl h3) (c.nob (by decide)) (sndE a c h5).1 (sndE b c h6).1 (by rw [starEach_c (chk_star h5), starEach_c (chk_star h6)]; rfl) (starEach_c (chk_star h6))
    · cases h
  | .rngd a b, T, sc, X, tg, e, c, h => by
    unfold chkI at h
    split at h
    · obtain ⟨h1, h⟩ := ba h
      obtain ⟨h2, h⟩ := ba h
      obtain ⟨h3, h⟩ := ba h
      obtain ⟨h5, h6⟩ := ba h
      have h1 := de h1
      subst h1
      have h3 := de h3
      subst h3
      exact s_irngd (c.gl h2) (c.nob (by decide)) (sndE a c h5).1 (sndE b c h6).1 (fun _ => starEach_c (chk_star h5)) (fun _ => starEach_c (chk_star h6))
    · cases h
  | .tsq a, T, sc, X, tg, e, c, h => by
    unfold chkI at h
    cases h
end
end
end QL

end
section
set_option Elab.async false
set_option linter.all false
set_option maxRecDepth 100000
/-! Q13: errors: raised, caught, looked at. -/
namespace QL
open PySem PySem.Spec PyProof.Rows L2

/-! ### isinstance of a caught error that has its dict -/
section
open PySem.W PySem.Calls
variable {Kf : Frag} {Cl : Addr}
theorem fob {nm : Str} {av gv : Value} {od : Option Obj} (q0 : (clsIn Kf Cl).isSome = true) (q1 : findIn Kf (.ref Cl) nm = some (some av)) (q2 : specialIn Kf av "__get__" = some (some gv)) (q3 : takesIn Kf av = some true) : findObj Kf Cl od nm = some (.bind gv av) := by
  obtain ⟨cdat, e0⟩ := Option.isSome_iff_exists.mp q0
  unfold findObj
  rw [e0, Option.bind_some, q1]
  rw [Option.bind_some]
  simp [q2, q3]
theorem hdSome (E : ExcC Kf Cl) : (clsIn Kf Cl).isSome = true := by
  obtain ⟨cdat, e0, _⟩ := any_some E.hd
  rw [e0]
  rfl
theorem classE {prog : Program} {w : World} {A : Around} {Ex : Value → Shared → Prop} {sx : Shared} {xa : Addr} {ob : Obj} {od : Option Obj} {Q : Option Value → Shared → Prop} (E : ExcC Kf Cl) (kin : Kf.In sx.heap) (Ia : InstAt sx.heap xa ob Cl od) (fin : Q (some (.ref Cl)) { sx with toks := sx.toks + 1 }) :
    wpAny (model prog w) A (getAttr? (.ref xa) "__class__") Q Ex sx := by
  have found : findObj Kf Cl od "__class__" = some (.bind (.builtin "getset_descriptor.__get__") (.builtin "object.__class__")) := fob (hdSome E) E.ha E.hn E.ht
  obtain ⟨hh, gg, dd, tt, oo⟩ := sx
  have M0 := Ia.type (M := model prog w)
  have M1 := looks_findIn (M := model prog w) kin E.hg
  have M2 := looks_findIn (M := model prog w) kin E.hk
  have M3 := looks_find (M := model prog w) kin Ia found
  have isEx : Looks (model prog w) hh (isInstance (.ref xa) (.type "BaseException")) true := M0.andThen (looks_subIn kin E.hs)
  have z0 : (false && onTheHeap (Value.builtin "BaseException.__getattribute__")) = false := rfl
  have z1 : (onTheHeap (Value.ref Cl) && Value.builtin "BaseException.__getattribute__" == Value.builtin "object.__getattribute__") = false := by
    rw [show (Value.builtin "BaseException.__getattribute__" == Value.builtin "object.__getattribute__") = false by decide +kernel]
    rfl
  unfold getAttr? getAttrBy? getAttrBy
  refine wpAny_bind (wpAny_mkText (wpAny_bind (wpAny_attempt (wpAny_holding (wpAny_bind (M0.at (wpAny_bind (M1.at ?_))))))))
  show wpAny (model prog w) A (if (onTheHeap (Value.ref Cl) && Value.builtin "BaseException.__getattribute__" == Value.builtin "object.__getattribute__") = true then _ else _) _ _ _
  rw [z1, if_neg Bool.false_ne_true]
  unfold getAttrByItsOwn hookBefore
  refine wpAny_bind ?_
  rw [if_pos (show onTheHeap (Value.ref Cl) = true from rfl)]
  refine M2.at (wpAny_bind (wpAny_attempt (wpAny_holding ?_)))
  unfold callGetattribute
  rw [z0, if_neg Bool.false_ne_true]
  unfold boundAndCalled
  rw [PySem.F.excAttr_ValueError.ga.bind (.ref xa)]
  refine wpAny_bind (wpAny_pure ?_)
  show wpAny (model prog w) A (call (.builtin "BaseException.__getattribute__") [.ref xa, .str "__class__" tt]) _ _ _
  refine wpAny_call (codeAny_call_builtin (PySem.F.excAttr_ValueError.ga.plain) PySem.F.entry_bexc_ga ?_)
  refine @check_slot (model prog w) _ _ ⟨hh, gg, dd, tt + 1, oo⟩ "BaseException.__getattribute__" "BaseException" "__getattribute__" (.ref xa) [.str "__class__" tt] [] _ (by decide +kernel) (by decide +kernel) isEx (PySem.F.args_bexc_ga (.ref xa) (.str "__class__" tt)) ?_
  unfold Builtin.«object.__getattribute__»
  refine wpAny_bind (wpAny_of_eq (a := ((Value.ref xa : Value), [Value.str "__class__" tt])) (by first | rfl | (simp only [slotArgs]; rfl)) ?_)
  refine wpAny_bind (wpAny_pure (wpAny_bind (M0.at (wpAny_bind (M3.at ?_)))))
  show wpAny (model prog w) _ (holding [Value.builtin "object.__class__"] (call (.builtin "getset_descriptor.__get__") [.builtin "object.__class__", .ref xa, .ref Cl]) >>= ret) _ _ _
  refine wpAny_bind (wpAny_holding (wpAny_call (class_get (s := ⟨hh, gg, dd, tt + 1, oo⟩) (ox := ob) (od := od) kin Ia E.hm ?_)))
  refine wpAny_pure ?_
  show wpAny (model prog w) _ (handedOut (.ref Cl)) _ _ _
  rw [handedOut_of (v := .ref Cl) rfl]
  first
    | exact wpAny_pure (wpAny_pure fin)
    | exact wpAny_pure fin
    | exact wpAny_pure (wpAny_bind (wpAny_pure (wpAny_pure fin)))
theorem kitE {xa : Addr} {ob : Obj} {od : Option Obj} (E : ExcC Kf Cl) : KitX Kf (.ref xa) (.ref Cl) (fun hh => InstAt hh xa ob Cl od) where
  ty := fun _ _ _ Ia => Ia.type
  it := fun _ _ kin _ => by
    obtain ⟨cdat, e0, _⟩ := any_some E.hd
    unfold clsIn at e0
    split at e0
    · rename_i c1 d1 cd1 sl1 lk
      intro A' Q' E' s' kp fin
      unfold isType loadHead
      exact wpAny_bind (wpAny_loadPart (kp _ _ (kin _ _ lk)) (wpAny_pure fin))
    · cases e0
  ne := fun hh tp dd its n sl kin htp => by
    obtain ⟨cdat, e0, _⟩ := any_some E.hd
    refine Bool.eq_false_iff.mpr fun qq => ?_
    have ee : Cl = tp := Value.ref.inj (beq_iff_eq.mp qq)
    subst ee
    unfold clsIn at e0
    split at e0
    · rename_i c1 d1 cd1 sl1 lk
      have zz := (kin _ _ lk).symm.trans htp
      cases zz
    · cases e0
  ca := fun kin Ia fin => classE E kin Ia fin
end

/-- what an error class is, seen from outside: isinstance, except, the field -/
structure XcD (Kf : PySem.W.Frag) (Cl : Addr) (fld : Str) : Prop where
  ec : ExcC Kf Cl
  xf : XfC Kf Cl
  no : PySem.W.findIn Kf (.ref Cl) fld = some none
/-- .. and made -/
structure XmD (P : Program) (w : World) (Kf : PySem.W.Frag) (mg : Str → Option Value) (base : Heap) (Cl : Addr) (fld : Str) : Prop where
  oex : OexC Kf Cl
  ini : ∃ (fI D : Addr) (fd : FuncData), PySem.W.findIn Kf (.ref Cl) "__init__" = some (some (.ref fI)) ∧ PySem.W.typeIn Kf (.ref fI) = some (.type "function") ∧ FnOk P w Kf mg base (L2.CX P w) 1 fI fd ["self", fld] (spS Kf D fld) ∧ Binds Kf fd ["self", fld] [] ∧
    PySem.W.mroIn Kf Cl (.ref D) = some true ∧ PySem.W.ks_superIn Kf Cl D "__init__" = some (some (.builtin "ValueError.__init__")) ∧ PySem.W.subIn Kf (.ref Cl) (.type "ValueError") = some true

section
variable {T : Tx} {X : Cx} {σ : L2.St} {H C : Hp} {δ : Env} {D : Ends} {pos p p2 : Pos} {a b c d e tg : Expr} {es : List Expr} {fa fb fc fd : Env → Rs Rv} {x : Str} {i : Nat}
abbrev fRse (c : Nat) (fa : Env → Rs Rv) : Env → Rs Fl := fun δ => (fa δ).bind fun r δ => .er ⟨c, some r.d⟩ δ
theorem made_eq {H1 : Hp} {q dx Cl : Addr} {f : Str} {v : V} (hq : H1 q = none) (hd : H1 dx = none) (ne : dx ≠ q) : upd (L2.del (upd (upd (upd H1 q (exo q Cl none)) dx (exd dx [(f, v)])) q (exo q Cl (some dx))) q) dx (.xd [(f, v)]) = upd H1 dx (.xd [(f, v)]) := by
  funext z
  by_cases h1 : z = dx
  · subst h1; rw [upd_same, upd_same]
  · rw [upd_ne h1, upd_ne h1]
    by_cases h2 : z = q
    · subst h2; rw [L2.del_same, hq]
    · rw [L2.del_ne h2, upd_ne h2, upd_ne h1, upd_ne h2]
theorem s_rse {n : Nat} (hK : X.K = T.B.G.K) (hm : n ∈ T.Y.rs) (M : XmD X.prog X.w X.K X.mg X.base (T.Y.xc n) (T.Y.xf n)) (no : PySem.W.findIn X.K (.ref (T.Y.xc n)) (T.Y.xf n) = some none) (hc : X.calm = true) (tk : Takes X T.W) (hr : Room 2 X.A) (hg : Gl X x) (hx : X.mg x = some (.ref (T.Y.xc n))) (hdb : (x == ("__debug__" : Str)) = false)
    (he : PE X e (tE T fa)) (hs : starEach [e] X.env = [(false, eval e X.env)]) : PS X (.Raise (some (.Call (.Name x p) [e] [] p2)) none pos) (tS T (fRse n fa)) := by
  obtain ⟨fI, Dc, fdat, q1, q2, q3, q4, q5, q6, q7⟩ := M.ini
  refine QL.PS.imp (ps_raise hc tk (pmk_oex (k := 1) M.oex q1 q2 q3 hr q4 (dvs := []) .nil passL hg hx (pa_cons he pa_nil hs) hdb hs rfl)) fun D σ H h => ?_
  obtain ⟨C, δ, R, h⟩ := h
  refine tE.thenD R h fun r δ1 H1 C1 v R1 s1 p1 h1 => ?_
  refine ⟨Nat.le_of_ble_eq_true rfl, fun q hq => ⟨q, _, v, rfl, M.oex, no, q5, q6, q7, upd_same, fun dx n1 ne => ?_⟩⟩
  rw [upd_ne ne] at n1
  refine ⟨rfl, dx, [(T.Y.xf n, v)], upd_same, by rw [upd_ne ne, upd_same], n1, ?_⟩
  rw [made_eq hq n1 ne]
  obtain ⟨w1, w2⟩ := R1.new (.xd [(T.Y.xf n, v)]) n1
  exact h1 _ _ σ _ _ w1 w2.cs ⟨hm, rfl, dx, v, rfl, upd_same, Rp.mono w2.cs _ _ p1⟩

/-! ### a handler -/
def Grow (H H' : Hp) : Prop := ∀ b o, H b = some o → H' b = some o
theorem Grow.upd {H : Hp} {q : Addr} {o : HO} (hn : H q = none) : Grow H (upd H q o) := fun b u h => by rw [upd_ne (ne_of_none h hn)]; exact h
theorem Rl.grow {B : Bd} {H' : Hp} (R : Rl B σ H C δ) (g : Grow H H') : Rl B σ H' C δ :=
  ⟨R.len, fun i s o h1 h2 => (R.slot i s o h1 h2).mono (L2.Same.refl _) fun a u _ _ h3 h4 => ⟨g _ _ h3, h4⟩, fun a u h => g _ _ (R.sub a u h), R.conf, R.vis, fun a u h1 h2 => g _ _ (R.keep a u h1 h2), fun a h => R.al0 a (by
    cases q : H a with
    | none => rfl
    | some u => rw [g _ _ q] at h; cases h), R.apart⟩
theorem sizeLIM {k : Nat} (h : k ≤ LIM) : k ≤ sizeLine := by
  rw [sizeLine_eq]
  unfold LIM at h
  omega
def clB (K : Ct) (sc : Scope) (n : Nat) : Expr → Bool
  | .Name x _ => decide (K.xcs[n]? = some x) && (glB sc x && okB x)
  | _ => false
def clsB (K : Ct) (sc : Scope) : List Nat → List Expr → Bool
  | [], [] => true
  | c :: cs, e :: es => clB K sc c e && clsB K sc cs es
  | _, _ => false
/-- the raised classes under c have the field f -/
def fldB (K : Ct) (c : Nat) (f : Str) : Bool := K.xrs.all fun j => !K.sb j c || decide (K.xfs[j]? = some f)
def chkH (K : Ct) (sc : Scope) (c : Nat) (en : Str) : HI → Expr → Bool
  | .fld, e => (match e with
    | .Attribute (.Name x _) f _ => decide (x = en) && fldB K c f
    | _ => false)
  | .is1 j, e => (match e with
    | .Call (.Name g _) [.Name x _, b] [] _ => decide (g = "isinstance") && (glB sc g && (decide (x = en) && clB K sc j b))
    | _ => false)
  | .is js, e => (match e with
    | .Call (.Name g _) [.Name x _, .Tuple bs _ _] [] _ => decide (g = "isinstance") && (glB sc g && (decide (x = en) && (decide (js.length ≤ 100) && clsB K sc js bs)))
    | _ => false)
  | .isv, e => (match e with
    | .Call (.Name g _) [.Name x _, .Name v _] [] _ => decide (g = "isinstance") && (glB sc g && (decide (x = en) && (decide (v = "ValueError") && glB sc v)))
    | _ => false)
  | .cst d, e => (match e with
    | .Constant q _ _ => cstB d q
    | _ => false)
  | .vr i, e => (match e with
    | .Name x _ => nmB K sc i x
    | _ => false)
  | .and_ a b, e => (match e with
    | .BoolOp .And (x :: y :: rest) pos => chkH K sc c en a x && (match rest with
      | [] => chkH K sc c en b y
      | z :: r => chkH K sc c en b (.BoolOp .And (y :: z :: r) pos))
    | _ => false)
  | .or_ a b, e => (match e with
    | .BoolOp .Or (x :: y :: rest) pos => chkH K sc c en a x && (match rest with
      | [] => chkH K sc c en b y
      | z :: r => chkH K sc c en b (.BoolOp .Or (y :: z :: r) pos))
    | _ => false)
  | .not_ a, e => (match e with
    | .UnaryOp .Not x _ => chkH K sc c en a x
    | _ => false)
def chkHs (K : Ct) (sc : Scope) (c : Nat) (en : Str) : List HI → List Expr → Bool
  | [], [] => true
  | h :: hs, e :: es => chkH K sc c en h e && chkHs K sc c en hs es
  | _, _ => false
/-- one statement of a handler -/
def chkHS (K : Ct) (sc : Scope) (c : Nat) (en : Str) (ie : Nat) (h : HS) : Stmt → Bool
  | .Assign [.Name y _] v _ => decide (K.N[h.i]? = some y) && (decide (sc.names.lookup y = some .local) && (decide (h.i ≠ ie) && (match h.sh, h.its, v with
    | 0, [a], v => chkH K sc c en a v
    | 1, its, .Tuple es _ _ => chkHs K sc c en its es
    | 2, its, .List es _ => chkHs K sc c en its es
    | _, _, _ => false)))
  | _ => false
def chkHSs (K : Ct) (sc : Scope) (c : Nat) (en : Str) (ie : Nat) : List HS → List Stmt → Bool
  | [], [] => true
  | h :: hs, s :: ss => chkHS K sc c en ie h s && chkHSs K sc c en ie hs ss
  | _, _ => false
/-- what the text's error classes are -/
structure Ex (R : Pr) (K : Ct) (P : Program) (w : World) (G : Gd) (Y : Xg) (mg : Str → Option Value) (base : Heap) : Prop where
  xc : ∀ (j : Nat) (x : Str), K.xcs[j]? = some x → mg x = some (.ref (Y.xc j))
  rs : Y.rs = K.xrs
  xd : ∀ j ∈ K.xrs, XcD G.K (Y.xc j) (Y.xf j)
  xm : ∀ j ∈ K.xrs, XmD P w G.K mg base (Y.xc j) (Y.xf j)
  xf : ∀ j ∈ K.xrs, K.xfs[j]? = some (Y.xf j)
  kit : ∀ i ∈ K.xrs, ∀ (j : Nat) (x : Str), K.xcs[j]? = some x → PySem.W.kitOne G.K (.ref (Y.xc i)) (.ref (Y.xc j)) = some (R.sub i j)
  kv : ∀ i ∈ K.xrs, PySem.W.kitOne G.K (.ref (Y.xc i)) (.type "ValueError") = some true
  exm : ∀ i ∈ K.xrs, ∀ (j : Nat) (x : Str), K.xcs[j]? = some x → PySem.W.exmOne G.K (.ref (Y.xc i)) (.ref (Y.xc j)) = some (R.sub i j)
  sb : R.sub = K.sb

section
variable {R : Pr} {K : Ct} {sc : Scope} {q da : Addr} {oe : Obj} {pn : List (Addr × Obj)} {n : Nat} {v : V} {Xs : Cx} {ie : Nat} {en : Str}
theorem cl_ok (Z : Ex R K X.prog X.w T.B.G T.Y X.mg X.base) (hsc : X.env.scope = sc) {j : Nat} {e : Expr} (h : clB K sc j e = true) : PE (X.suite q ((q, oe) :: pn)) e (tC (.ref (T.Y.xc j))) ∧ (∃ x, K.xcs[j]? = some x) ∧ ∀ es, starEach (e :: es) X.env = (false, eval e X.env) :: starEach es X.env := by
  unfold clB at h
  split at h
  · rename_i x p
    obtain ⟨h1, h2⟩ := ba h
    obtain ⟨h3, h4⟩ := ba h2
    refine ⟨pe_glob (X := X.suite q ((q, oe) :: pn)) ?_ (Z.xc j x (de h1)) rfl (okB_ok h4).1, ⟨x, de h1⟩, fun _ => rfl⟩
    show X.env.scope.names.lookup x = _
    rw [hsc]
    exact de h3
  · cases h
theorem cls_ok (Z : Ex R K X.prog X.w T.B.G T.Y X.mg X.base) (hsc : X.env.scope = sc) : ∀ {js : List Nat} {es : List Expr}, clsB K sc js es = true → PA (X.suite q ((q, oe) :: pn)) es (fun _ H Q => Q (js.map fun j => V.ref (T.Y.xc j)) H) ∧ ∀ j ∈ js, ∃ x, K.xcs[j]? = some x
  | [], [], _ => ⟨pa_nil, fun j h => by cases h⟩
  | [], _ :: _, h => by cases h
  | _ :: _, [], h => by cases h
  | j :: js, e :: es, h => by
    obtain ⟨h1, h2⟩ := ba h
    obtain ⟨q1, q2, q3⟩ := cl_ok (q := q) (oe := oe) (pn := pn) Z hsc h1
    obtain ⟨w1, w2⟩ := cls_ok Z hsc h2
    exact ⟨pa_cons q1 w1 (q3 es), fun i hi => by
      rcases List.mem_cons.mp hi with rfl | hi
      · exact q2
      · exact w2 i hi⟩
theorem kit_any {Kf : PySem.W.Frag} {Y : Xg} {i : Nat} : ∀ {js : List Nat}, (∀ j ∈ js, PySem.W.kitOne Kf (.ref (Y.xc i)) (.ref (Y.xc j)) = some (R.sub i j)) → PySem.W.kitAny Kf (.ref (Y.xc i)) (js.map fun j => Value.ref (Y.xc j)) = some (js.any (R.sub i))
  | [], _ => rfl
  | j :: js, h => by
    refine kitAny_cons (h j (List.mem_cons_self ..)) (fun z => ?_) fun z => ?_
    · rw [kit_any fun i hi => h i (List.mem_cons_of_mem _ hi)]
      simp [List.any_cons, z]
    · simp [List.any_cons, z]
theorem instE (hz : Zc (.ref (T.Y.xc n)) (some da) oe) (hf : ∃ vs, oe.data = .fields vs) {pins : List (Addr × Obj)} {s : Shared} {fs : List (Str × V)} (I : L2.Inv (X.suite q ((q, oe) :: pn)) pins σ H s) (hd : H da = some (.xd fs)) : ∃ od, PySem.W.InstAt s.heap q oe (T.Y.xc n) (some od) := by
  obtain ⟨hget, _⟩ := I.pin (q, oe) (List.mem_append.mpr (.inl List.mem_cons_self))
  obtain ⟨vs, hv⟩ := hf
  obtain ⟨mA, ⟨o, es, ep, ho, _⟩, _⟩ := (show ObjOk X.prog X.w H s.heap da (.xd fs) from I.hok da _ hd)
  refine ⟨o, ?_⟩
  obtain ⟨oc, od, oda, osl⟩ := oe
  obtain ⟨h1, h2⟩ := hz
  dsimp only at h1 h2 hv
  subst h1 h2 hv
  exact ⟨hget, rfl, rfl, ho⟩
/-- isinstance(e, C) -/
def rE1 (Kf : PySem.W.Frag) (q da Cl : Addr) : List V → Hp → VK → Prop := fun xs H Q => ∃ (fs : List (Str × V)) (c : Addr) (b : Bool), xs = [.ref q, .ref c] ∧ H da = some (.xd fs) ∧ PySem.W.kitOne Kf (.ref Cl) (.ref c) = some b ∧ Q (.bl b) H
theorem call_e1 (E : ExcC X.K (T.Y.xc n)) (hz : Zc (.ref (T.Y.xc n)) (some da) oe) (hf : ∃ vs, oe.data = .fields vs) : CallR (X.suite q ((q, oe) :: pn)) (.builtin "isinstance") (rE1 X.K q da (T.Y.xc n)) := by
  intro pins s σ H xs us Q I r h
  obtain ⟨fs, c, b, rfl, hd, e, qq⟩ := h
  obtain ⟨u1, u2, rfl, r1, r2⟩ := vals2 r
  cases r1
  cases r2
  obtain ⟨od, J⟩ := instE hz hf I hd
  exact PySem.W.kia_one (kitE E) I.kIn J e (fun z => nomatch z) fun tk => ⟨.bl b, H, I.kept (t' := tk) fun _ _ z => z, rfl, qq⟩
/-- isinstance(e, (C, ..)) -/
def rE2 (Kf : PySem.W.Frag) (q da Cl : Addr) : List V → Hp → VK → Prop := fun xs H Q => ∃ (fs : List (Str × V)) (tp : Addr) (cs : List Addr) (b : Bool), xs = [.ref q, .ref tp] ∧ H da = some (.xd fs) ∧ H tp = some (.tup (cs.map V.ref)) ∧ PySem.W.kitAny Kf (.ref Cl) (cs.map Value.ref) = some b ∧ Q (.bl b) H
theorem clsV_refs : ∀ {cs : List Addr}, Paired ClsV (cs.map V.ref) (cs.map Value.ref)
  | [] => .nil
  | c :: cs => .cons (.own c) clsV_refs
theorem call_e2 (E : ExcC X.K (T.Y.xc n)) (hz : Zc (.ref (T.Y.xc n)) (some da) oe) (hf : ∃ vs, oe.data = .fields vs) : CallR (X.suite q ((q, oe) :: pn)) (.builtin "isinstance") (rE2 X.K q da (T.Y.xc n)) := by
  intro pins s σ H xs us Q I r h
  obtain ⟨fs, tp, cs, b, rfl, hd, hT, e, qq⟩ := h
  obtain ⟨u1, u2, rfl, r1, r2⟩ := vals2 r
  cases r1
  cases r2
  obtain ⟨od, J⟩ := instE hz hf I hd
  obtain ⟨_, its, rv, o, g1, g2, m, g3⟩ := (show ObjOk X.prog X.w H s.heap tp (.tup (cs.map V.ref)) from I.hok tp _ hT)
  have e3 := ClsV.all clsV_refs rv
  subst e3
  obtain ⟨oc, od, dt, sl⟩ := o
  simp only at g2 g3
  subst g2 g3
  exact PySem.W.kia_tup (kitE E) I.kIn J g1 e (fun z => nomatch z) fun tk => ⟨.bl b, H, I.kept (t' := tk) fun _ _ z => z, rfl, qq⟩
/-- isinstance(e, ValueError) -/
def rEv (Kf : PySem.W.Frag) (q da Cl : Addr) : List V → Hp → VK → Prop := fun xs H Q => ∃ (fs : List (Str × V)) (b : Bool), xs = [.ref q, .ty "ValueError"] ∧ H da = some (.xd fs) ∧ PySem.W.kitOne Kf (.ref Cl) (.type "ValueError") = some b ∧ Q (.bl b) H
theorem call_ev (E : ExcC X.K (T.Y.xc n)) (hz : Zc (.ref (T.Y.xc n)) (some da) oe) (hf : ∃ vs, oe.data = .fields vs) : CallR (X.suite q ((q, oe) :: pn)) (.builtin "isinstance") (rEv X.K q da (T.Y.xc n)) := by
  intro pins s σ H xs us Q I r h
  obtain ⟨fs, b, rfl, hd, e, qq⟩ := h
  obtain ⟨u1, u2, rfl, r1, r2⟩ := vals2 r
  cases r1
  cases r2
  obtain ⟨od, J⟩ := instE hz hf I hd
  exact PySem.W.kia_one (kitE E) I.kIn J e (fun z => nomatch z) fun tk => ⟨.bl b, H, I.kept (t' := tk) fun _ _ z => z, rfl, qq⟩
/-- what stands fast in a handler: the error q, its field's value v, its data d -/
structure HSt (T : Tx) (n ie : Nat) (q da : Addr) (d : QL.D) (v : V) (σ : L2.St) (C : Hp) : Prop where
  at_ : σ[ie]? = some (some (.ref q))
  fld : C da = some (.xd [(T.Y.xf n, v)])
  rp : Rp T.B.G C d v
theorem HSt.mono {d : QL.D} {C' : Hp} (h : HSt T n ie q da d v σ C) (e : Same C C') : HSt T n ie q da d v σ C' := ⟨h.at_, e _ _ h.fld, Rp.mono e _ _ h.rp⟩
/-- a handler's part -/
def tHE (T : Tx) (n ie : Nat) (q da : Addr) (d : QL.D) (v : V) (g : Env → Option Rv) : TE := fun σ H Q => ∃ C δ r, Rl T.B σ H C δ ∧ HSt T n ie q da d v σ C ∧ g δ = some r ∧ ∀ H' C' u, Rl T.B σ H' C' δ → Stp σ H C δ H' C' δ → RvR T.B σ H H' C' δ r u → Q u H'
def tHEs (T : Tx) (n ie : Nat) (q da : Addr) (d : QL.D) (v : V) (g : Env → Option (List QL.D)) : TA := fun σ H Q => ∃ C δ ds, Rl T.B σ H C δ ∧ HSt T n ie q da d v σ C ∧ g δ = some ds ∧ ∀ H' C' us, Rl T.B σ H' C' δ → Stp σ H C δ H' C' δ → Rps T.B.G C' ds us → Q us H'
theorem hi_ok (Z : Ex R K X.prog X.w T.B.G T.Y X.mg X.base) (hK : X.K = T.B.G.K) (hKN : X.N = K.N) (hsc : X.env.scope = sc) (hmi : X.mg "isinstance" = none) (hmv : X.mg "ValueError" = none) (hn : n ∈ K.xrs) {c : Nat} (hnc : K.sb n c = true) (hz : Zc (.ref (T.Y.xc n)) (some da) oe) (hf : ∃ vs, oe.data = .fields vs) (hN : X.N[ie]? = some en) (hv : Vis X.env.scope en) (ho : okB en = true) {d : QL.D} : ∀ {h : HI} {e : Expr}, chkH K sc c en h e = true →
    PE (X.suite q ((q, oe) :: pn)) e (tHE T n ie q da d v fun δ => (hiD R ⟨n, some d⟩ δ h).map Rv.fz) ∧ ∀ es, starEach (e :: es) X.env = (false, eval e X.env) :: starEach es X.env
  | .fld, e, hc => by
    have hd := Z.xd n hn
    rw [← hK] at hd
    have pv : ∀ p, PE (X.suite q ((q, oe) :: pn)) (.Name en p) (tVar ie) := fun p => pe_var (X := X.suite q ((q, oe) :: pn)) hN hv (okB_ok ho).1 (okB_ok ho).2
    unfold chkH at hc
    split at hc
    · rename_i x p1 f p2
      obtain ⟨h1, h2⟩ := ba hc
      have h1 := de h1
      subst h1
      have h3 : K.xfs[n]? = some f := by
        have := List.all_eq_true.mp h2 n hn
        rw [hnc] at this
        simpa using this
      rw [Z.xf n hn] at h3
      cases h3
      refine ⟨QL.PE.imp (pe_xf (X := X) hd.xf hd.no hz hf (pv p1)) fun σ H Q h => ?_, fun _ => rfl⟩
      obtain ⟨C, δ, r, R0, S, eg, k⟩ := h
      cases eg
      refine ⟨_, S.at_, rfl, rfl, da, _, v, rfl, R0.sub _ _ S.fld, ?_, k H C v R0 .refl S.rp⟩
      simp [List.lookup]
    · cases hc
  | .is1 j, e, hc => by
    have hd := Z.xd n hn
    rw [← hK] at hd
    have pv : ∀ p, PE (X.suite q ((q, oe) :: pn)) (.Name en p) (tVar ie) := fun p => pe_var (X := X.suite q ((q, oe) :: pn)) hN hv (okB_ok ho).1 (okB_ok ho).2
    unfold chkH at hc
    split at hc
    · rename_i g p1 x p2 b p3
      obtain ⟨h1, h2⟩ := ba hc
      obtain ⟨h3, h4⟩ := ba h2
      obtain ⟨h5, h6⟩ := ba h4
      have h1 := de h1
      subst h1
      have h5 := de h5
      subst h5
      obtain ⟨q1, ⟨y, q2⟩, q3⟩ := cl_ok (q := q) (oe := oe) (pn := pn) Z hsc h6
      refine ⟨QL.PE.imp (pe_callB (X := X.suite q ((q, oe) :: pn)) (call_e1 hd.ec hz hf) (by show X.env.scope.names.lookup _ = _; rw [hsc]; exact de h3) hmi PyProof.Rows.Boot.«isinstance» (pa_cons (pv p2) (pa_cons q1 pa_nil (q3 [])) rfl) (by decide) (by decide) rfl (by show (backTo p3 (starEach [b] X.env)).any (·.1) = false; rw [q3 []]; rfl)) fun σ H Q h => ?_, fun _ => rfl⟩
      obtain ⟨C, δ, r, R0, S, eg, k⟩ := h
      cases eg
      refine ⟨_, S.at_, _, _, R.sub n j, rfl, R0.sub _ _ S.fld, ?_, k H C _ R0 .refl (Rp.bl.mpr rfl : Rp T.B.G C _ _)⟩
      rw [hK]
      exact Z.kit n hn j y q2
    · cases hc
  | .is js, e, hc => by
    have hd := Z.xd n hn
    rw [← hK] at hd
    have pv : ∀ p, PE (X.suite q ((q, oe) :: pn)) (.Name en p) (tVar ie) := fun p => pe_var (X := X.suite q ((q, oe) :: pn)) hN hv (okB_ok ho).1 (okB_ok ho).2
    unfold chkH at hc
    split at hc
    · rename_i g p1 x p2 bs k0 p3 p4
      obtain ⟨h1, h2⟩ := ba hc
      obtain ⟨h3, h4⟩ := ba h2
      obtain ⟨h5, h6⟩ := ba h4
      obtain ⟨h7, h8⟩ := ba h6
      have h1 := de h1
      subst h1
      have h5 := de h5
      subst h5
      have h7 := de h7
      obtain ⟨q1, q2⟩ := cls_ok (q := q) (oe := oe) (pn := pn) Z hsc h8
      refine ⟨QL.PE.imp (pe_callB (X := X.suite q ((q, oe) :: pn)) (call_e2 hd.ec hz hf) (by show X.env.scope.names.lookup _ = _; rw [hsc]; exact de h3) hmi PyProof.Rows.Boot.«isinstance» (pa_cons (pv p2) (pa_cons (pe_tup q1) pa_nil rfl) rfl) (by decide) (by decide) rfl rfl) fun σ H Q h => ?_, fun _ => rfl⟩
      obtain ⟨C, δ, r, R0, S, eg, k⟩ := h
      cases eg
      refine ⟨_, S.at_, ?_⟩
      show (js.map fun j => V.ref (T.Y.xc j)).length ≤ sizeLine ∧ ∀ tp, H tp = none → _
      refine ⟨by rw [List.length_map, sizeLine_eq]; omega, fun tp ht => ?_⟩
      obtain ⟨R2, s2, _⟩ := R0.newO (.tup (js.map fun j => V.ref (T.Y.xc j))) ht
      refine ⟨_, tp, js.map T.Y.xc, js.any (R.sub n), rfl, R2.sub _ _ S.fld, ?_, ?_, k _ _ _ R2 s2 (Rp.bl.mpr rfl : Rp T.B.G C _ _)⟩
      · rw [upd_same, List.map_map]; rfl
      · rw [List.map_map, hK]
        exact kit_any fun j hj => by
          obtain ⟨y, hy⟩ := q2 j hj
          exact Z.kit n hn j y hy
    · cases hc
  | .isv, e, hc => by
    have hd := Z.xd n hn
    rw [← hK] at hd
    have pv : ∀ p, PE (X.suite q ((q, oe) :: pn)) (.Name en p) (tVar ie) := fun p => pe_var (X := X.suite q ((q, oe) :: pn)) hN hv (okB_ok ho).1 (okB_ok ho).2
    unfold chkH at hc
    split at hc
    · rename_i g p1 x p2 y p3 p4
      obtain ⟨h1, h2⟩ := ba hc
      obtain ⟨h3, h4⟩ := ba h2
      obtain ⟨h5, h6⟩ := ba h4
      obtain ⟨h7, h8⟩ := ba h6
      have h1 := de h1
      subst h1
      have h5 := de h5
      subst h5
      have h7 := de h7
      subst h7
      have q1 : PE (X.suite q ((q, oe) :: pn)) (.Name "ValueError" p3) (tC (.ty "ValueError")) := s_ty (X := X.suite q ((q, oe) :: pn)) (by show X.env.scope.names.lookup _ = _; rw [hsc]; exact de h8) hmv (by decide +kernel) (by decide) (by decide)
      refine ⟨QL.PE.imp (pe_callB (X := X.suite q ((q, oe) :: pn)) (call_ev hd.ec hz hf) (by show X.env.scope.names.lookup _ = _; rw [hsc]; exact de h3) hmi PyProof.Rows.Boot.«isinstance» (pa_cons (pv p2) (pa_cons q1 pa_nil rfl) rfl) (by decide) (by decide) rfl rfl) fun σ H Q h => ?_, fun _ => rfl⟩
      obtain ⟨C, δ, r, R0, S, eg, k⟩ := h
      cases eg
      refine ⟨_, S.at_, _, true, rfl, R0.sub _ _ S.fld, ?_, k H C _ R0 .refl (Rp.bl.mpr rfl : Rp T.B.G C _ _)⟩
      rw [hK]
      exact Z.kv n hn
    · cases hc
  | .cst d0, e, hc => by
    unfold chkH at hc
    split at hc
    · rename_i qc j p
      refine ⟨?_, fun _ => rfl⟩
      have go : ∀ {u : V}, PE (X.suite q ((q, oe) :: pn)) (.Constant qc j p) (tC u) → (∀ C, Rp T.B.G C d0 u) → PE (X.suite q ((q, oe) :: pn)) (.Constant qc j p) (tHE T n ie q da d v fun δ => (hiD R ⟨n, some d⟩ δ (.cst d0)).map Rv.fz) := fun hh hr => QL.PE.imp hh fun σ H Q h => by
        obtain ⟨C, δ, r, R0, S, eg, k⟩ := h
        cases eg
        exact k H C _ R0 .refl (hr C)
      cases d0 <;> cases qc <;> first | (cases hc; done) | skip
      · exact go pe_non fun _ => Rp.non.mpr rfl
      · rename_i x y
        have : x = y := by cases x <;> cases y <;> first | rfl | cases hc
        subst this
        exact go pe_bl fun _ => Rp.bl.mpr rfl
      · have hc := de hc
        subst hc
        exact go pe_int fun _ => Rp.int.mpr rfl
      · have hc := de hc
        subst hc
        exact go pe_str fun _ => Rp.str.mpr rfl
    · cases hc
  | .vr i, e, hc => by
    unfold chkH at hc
    split at hc
    · rename_i x p
      obtain ⟨h1, h2⟩ := ba hc
      obtain ⟨h3, h4⟩ := ba h2
      refine ⟨QL.PE.imp (pe_var (X := X.suite q ((q, oe) :: pn)) (i := i) (by show X.N[i]? = some x; rw [hKN]; exact de h1) (by show Vis X.env.scope x; rw [hsc]; exact visB_ok h3) (okB_ok h4).1 (okB_ok h4).2) fun σ H Q h => ?_, fun _ => rfl⟩
      obtain ⟨C, δ, r, R0, S, eg, k⟩ := h
      obtain ⟨d1, e1, rfl⟩ := Option.map_eq_some_iff.mp eg
      unfold hiD at e1
      split at e1
      · rename_i d2 e2
        cases e1
        obtain ⟨o, ho2, u, rfl, hu⟩ := R0.at_ e2
        exact ⟨u, ho2, k H C u R0 .refl hu⟩
      · cases e1
    · cases hc
  | .and_ a b, e, hc => by
    unfold chkH at hc
    split at hc
    · rename_i x y rest pos
      obtain ⟨h1, h2⟩ := ba hc
      refine ⟨?_, fun _ => rfl⟩
      have hb : PE (X.suite q ((q, oe) :: pn)) (.BoolOp .And (y :: rest) pos) (tHE T n ie q da d v fun δ => (hiD R ⟨n, some d⟩ δ b).map Rv.fz) := by
        split at h2
        · exact pe_one (hi_ok (d := d) Z hK hKN hsc hmi hmv hn hnc hz hf hN hv ho h2).1
        · exact (hi_ok (d := d) Z hK hKN hsc hmi hmv hn hnc hz hf hN hv ho h2).1
      refine QL.PE.imp (pe_and (hi_ok (d := d) Z hK hKN hsc hmi hmv hn hnc hz hf hN hv ho h1).1 hb) fun σ H Q h => ?_
      obtain ⟨C, δ, r, R0, S, eg, k⟩ := h
      obtain ⟨d1, e1, rfl⟩ := Option.map_eq_some_iff.mp eg
      unfold hiD at e1
      split at e1
      · rename_i e2
        refine ⟨C, δ, .fz (.bl true), R0, S, congrArg (Option.map Rv.fz) e2, fun H1 C1 u R1 s1 hu => ⟨true, Rp.bl.mp (show Rp T.B.G C1 (.bl true) u from hu), ?_⟩⟩
        rw [if_pos rfl]
        exact ⟨C1, δ, .fz d1, R1, S.mono s1.cs, congrArg (Option.map Rv.fz) e1, fun H2 C2 u R2 s2 hu => k H2 C2 u R2 (s1.trans s2) hu⟩
      · rename_i e2
        cases e1
        refine ⟨C, δ, .fz (.bl false), R0, S, congrArg (Option.map Rv.fz) e2, fun H1 C1 u R1 s1 hu => ⟨false, Rp.bl.mp (show Rp T.B.G C1 (.bl false) u from hu), ?_⟩⟩
        rw [if_neg (by decide)]
        exact k H1 C1 _ R1 s1 (Rp.bl.mpr rfl : Rp T.B.G C1 _ _)
      · cases e1
    · cases hc
  | .or_ a b, e, hc => by
    unfold chkH at hc
    split at hc
    · rename_i x y rest pos
      obtain ⟨h1, h2⟩ := ba hc
      refine ⟨?_, fun _ => rfl⟩
      have hb : PE (X.suite q ((q, oe) :: pn)) (.BoolOp .Or (y :: rest) pos) (tHE T n ie q da d v fun δ => (hiD R ⟨n, some d⟩ δ b).map Rv.fz) := by
        split at h2
        · exact pe_one (hi_ok (d := d) Z hK hKN hsc hmi hmv hn hnc hz hf hN hv ho h2).1
        · exact (hi_ok (d := d) Z hK hKN hsc hmi hmv hn hnc hz hf hN hv ho h2).1
      refine QL.PE.imp (pe_or (hi_ok (d := d) Z hK hKN hsc hmi hmv hn hnc hz hf hN hv ho h1).1 hb) fun σ H Q h => ?_
      obtain ⟨C, δ, r, R0, S, eg, k⟩ := h
      obtain ⟨d1, e1, rfl⟩ := Option.map_eq_some_iff.mp eg
      unfold hiD at e1
      split at e1
      · rename_i e2
        cases e1
        refine ⟨C, δ, .fz (.bl true), R0, S, congrArg (Option.map Rv.fz) e2, fun H1 C1 u R1 s1 hu => ⟨true, Rp.bl.mp (show Rp T.B.G C1 (.bl true) u from hu), ?_⟩⟩
        rw [if_pos rfl]
        exact k H1 C1 _ R1 s1 (Rp.bl.mpr rfl : Rp T.B.G C1 _ _)
      · rename_i e2
        refine ⟨C, δ, .fz (.bl false), R0, S, congrArg (Option.map Rv.fz) e2, fun H1 C1 u R1 s1 hu => ⟨false, Rp.bl.mp (show Rp T.B.G C1 (.bl false) u from hu), ?_⟩⟩
        rw [if_neg (by decide)]
        exact ⟨C1, δ, .fz d1, R1, S.mono s1.cs, congrArg (Option.map Rv.fz) e1, fun H2 C2 u R2 s2 hu => k H2 C2 u R2 (s1.trans s2) hu⟩
      · cases e1
    · cases hc
  | .not_ a, e, hc => by
    unfold chkH at hc
    split at hc
    · rename_i x pos
      refine ⟨?_, fun _ => rfl⟩
      refine QL.PE.imp (pe_not (hi_ok (d := d) Z hK hKN hsc hmi hmv hn hnc hz hf hN hv ho hc).1) fun σ H Q h => ?_
      obtain ⟨C, δ, r, R0, S, eg, k⟩ := h
      obtain ⟨d1, e1, rfl⟩ := Option.map_eq_some_iff.mp eg
      unfold hiD at e1
      split at e1
      · rename_i b e2
        cases e1
        exact ⟨C, δ, .fz (.bl b), R0, S, congrArg (Option.map Rv.fz) e2, fun H1 C1 u R1 s1 hu => ⟨b, Rp.bl.mp (show Rp T.B.G C1 (.bl b) u from hu), k H1 C1 _ R1 s1 (Rp.bl.mpr rfl : Rp T.B.G C1 _ _)⟩⟩
      · cases e1
    · cases hc
theorem his_ok (Z : Ex R K X.prog X.w T.B.G T.Y X.mg X.base) (hK : X.K = T.B.G.K) (hKN : X.N = K.N) (hsc : X.env.scope = sc) (hmi : X.mg "isinstance" = none) (hmv : X.mg "ValueError" = none) (hn : n ∈ K.xrs) {c : Nat} (hnc : K.sb n c = true) (hz : Zc (.ref (T.Y.xc n)) (some da) oe) (hf : ∃ vs, oe.data = .fields vs) (hN : X.N[ie]? = some en) (hv : Vis X.env.scope en) (ho : okB en = true) {d : QL.D} :
    ∀ {hs : List HI} {es : List Expr}, chkHs K sc c en hs es = true → PA (X.suite q ((q, oe) :: pn)) es (tHEs T n ie q da d v fun δ => hiDs R ⟨n, some d⟩ δ hs)
  | [], [], _ => QL.PA.imp pa_nil fun σ H Q h => by
    obtain ⟨C, δ, ds, R0, S, eg, k⟩ := h
    cases eg
    exact k H C [] R0 .refl (Rps.nil.mpr rfl)
  | [], _ :: _, h => by cases h
  | _ :: _, [], h => by cases h
  | g :: gs, e :: es, h => by
    obtain ⟨h1, h2⟩ := ba h
    obtain ⟨q1, q2⟩ := hi_ok (q := q) (pn := pn) (v := v) (d := d) Z hK hKN hsc hmi hmv hn hnc hz hf hN hv ho h1
    refine QL.PA.imp (pa_cons q1 (his_ok (d := d) Z hK hKN hsc hmi hmv hn hnc hz hf hN hv ho h2) (q2 es)) fun σ H Q h => ?_
    obtain ⟨C, δ, ds, R0, S, eg, k⟩ := h
    obtain ⟨d1, e1, eg⟩ := Option.bind_eq_some_iff.mp (show ((hiD R ⟨n, some d⟩ δ g).bind fun d0 => (hiDs R ⟨n, some d⟩ δ gs).map fun ds => d0 :: ds) = some ds from eg)
    obtain ⟨ds1, e2, rfl⟩ := Option.map_eq_some_iff.mp eg
    refine ⟨C, δ, .fz d1, R0, S, congrArg (Option.map Rv.fz) e1, fun H1 C1 u R1 s1 hu => ⟨C1, δ, ds1, R1, S.mono s1.cs, e2, fun H2 C2 us R2 s2 hus => ?_⟩⟩
    exact k H2 C2 _ R2 (s1.trans s2) (Rps.cons.mpr ⟨u, us, rfl, Rp.mono s2.cs _ _ (show Rp T.B.G C1 d1 u from hu), hus⟩)
/-- a handler's statements -/
def tHS (T : Tx) (n ie : Nat) (q da : Addr) (d : QL.D) (v : V) (g : Env → Option Env) : TS := fun D σ H => ∃ C δ δ', Rl T.B σ H C δ ∧ HSt T n ie q da d v σ C ∧ g δ = some δ' ∧ ∀ σ' H' C', Rl T.B σ' H' C' δ' → Same C C' → HSt T n ie q da d v σ' C' → D.nx σ' H'
theorem hs_ok (Z : Ex R K X.prog X.w T.B.G T.Y X.mg X.base) (hK : X.K = T.B.G.K) (hKN : X.N = K.N) (hnd : X.N.Nodup) (hsc : X.env.scope = sc) (hmi : X.mg "isinstance" = none) (hmv : X.mg "ValueError" = none) (hn : n ∈ K.xrs) {c : Nat} (hnc : K.sb n c = true) (hz : Zc (.ref (T.Y.xc n)) (some da) oe) (hf : ∃ vs, oe.data = .fields vs) (hN : X.N[ie]? = some en) (hv : Vis X.env.scope en) (ho : okB en = true) {d : QL.D} {h : HS} {s : Stmt} (hc : chkHS K sc c en ie h s = true) :
    PS (X.suite q ((q, oe) :: pn)) s (tHS T n ie q da d v fun δ => (hsD R ⟨n, some d⟩ δ h).bind fun r => putSl δ h.i r) := by
  unfold chkHS at hc
  split at hc
  · rename_i y p1 vE p2
    obtain ⟨h1, h2⟩ := ba hc
    obtain ⟨h3, h4⟩ := ba h2
    obtain ⟨h5, h6⟩ := ba h4
    have h3 := de h3
    have h5 := de h5
    have hi : X.N[h.i]? = some y := by rw [hKN]; exact de h1
    have lo2 : (X.suite q ((q, oe) :: pn)).env.scope.names.lookup y = some .local := by show X.env.scope.names.lookup y = _; rw [hsc]; exact h3
    have pe : PE (X.suite q ((q, oe) :: pn)) vE (tHE T n ie q da d v fun δ => hsD R ⟨n, some d⟩ δ h) ∧ swapsWith vE (some (.Name y p1)) p2.line X.env = pure false := by
      obtain ⟨hi0, sh, its⟩ := h
      dsimp only at h6
      split at h6
      · rename_i a vE'
        refine ⟨(hi_ok (q := q) (pn := pn) (v := v) (d := d) Z hK hKN hsc hmi hmv hn hnc hz hf hN hv ho h6).1, ?_⟩
        cases vE <;> first | rfl | (cases a <;> cases h6)
      · rename_i es kk p5
        refine ⟨QL.PE.imp (pe_tup (his_ok (q := q) (pn := pn) (v := v) (d := d) Z hK hKN hsc hmi hmv hn hnc hz hf hN hv ho h6)) fun σ H Q h => ?_, rfl⟩
        obtain ⟨C, δ, r, R0, S, eg, k⟩ := h
        obtain ⟨ds, e1, eg⟩ := Option.bind_eq_some_iff.mp (show ((hiDs R ⟨n, some d⟩ δ its).bind fun ds => if ds.length ≤ LIM then some (Rv.fz (.tup ds)) else none) = some r from eg)
        split at eg
        · rename_i hl
          cases eg
          refine ⟨C, δ, ds, R0, S, e1, fun H1 C1 us R1 s1 hus => ⟨by rw [← hus.len]; exact sizeLIM hl, fun p hp => ?_⟩⟩
          obtain ⟨w1, w2⟩ := R1.new (.tup us) hp
          exact k _ _ _ w1 (s1.trans w2) (Rp.tup.mpr ⟨p, _, rfl, .of upd_same, Rps.mono w2.cs _ _ hus⟩)
        · cases eg
      · rename_i es p5
        refine ⟨QL.PE.imp (pe_lst (his_ok (q := q) (pn := pn) (v := v) (d := d) Z hK hKN hsc hmi hmv hn hnc hz hf hN hv ho h6)) fun σ H Q h => ?_, rfl⟩
        obtain ⟨C, δ, r, R0, S, eg, k⟩ := h
        obtain ⟨ds, e1, eg⟩ := Option.bind_eq_some_iff.mp (show ((hiDs R ⟨n, some d⟩ δ its).bind fun ds => if ds.length ≤ LIM then some (Rv.lv ds) else none) = some r from eg)
        split at eg
        · rename_i hl
          cases eg
          refine ⟨C, δ, ds, R0, S, e1, fun H1 C1 us R1 s1 hus => ⟨by rw [← hus.len]; exact sizeLIM hl, fun p hp => ?_⟩⟩
          obtain ⟨w1, w2, w3, w4, w5⟩ := R1.newO (.lst us) hp
          exact k _ _ _ w1 (s1.trans w2) ⟨p, _, rfl, upd_same, w3, ⟨w4, s1.al _ hp⟩, w5, hus⟩
        · cases eg
      · cases h6
    refine QL.PS.imp (ps_set (X := X.suite q ((q, oe) :: pn)) hnd hi (.inl lo2) pe.1 pe.2 (.inr lo2)) fun D σ H hh => ?_
    obtain ⟨C, δ, δ', R0, S, eg, k⟩ := hh
    obtain ⟨r, e1, e2⟩ := Option.bind_eq_some_iff.mp eg
    refine ⟨C, δ, r, R0, S, e1, fun H1 C1 u R1 s1 hu => ?_⟩
    have S1 := S.mono s1.cs
    exact k _ _ _ (R1.putRv hu e2) s1.cs ⟨by rw [List.getElem?_set_ne h5]; exact S1.at_, S1.fld, S1.rp⟩
  · cases hc
theorem hss_ok (Z : Ex R K X.prog X.w T.B.G T.Y X.mg X.base) (hK : X.K = T.B.G.K) (hKN : X.N = K.N) (hnd : X.N.Nodup) (hsc : X.env.scope = sc) (hmi : X.mg "isinstance" = none) (hmv : X.mg "ValueError" = none) (hn : n ∈ K.xrs) {c : Nat} (hnc : K.sb n c = true) (hz : Zc (.ref (T.Y.xc n)) (some da) oe) (hf : ∃ vs, oe.data = .fields vs) (hN : X.N[ie]? = some en) (hv : Vis X.env.scope en) (ho : okB en = true) {d : QL.D} :
    ∀ {hs : List HS} {ss : List Stmt}, chkHSs K sc c en ie hs ss = true → PSs (X.suite q ((q, oe) :: pn)) ss (tHS T n ie q da d v (hsGo R ⟨n, some d⟩ hs))
  | [], [], _ => QL.PSs.imp pss_nil fun D σ H h => by
    obtain ⟨C, δ, δ', R0, S, eg, k⟩ := h
    cases eg
    exact k σ H C R0 (L2.Same.refl _) S
  | [], _ :: _, h => by cases h
  | _ :: _, [], h => by cases h
  | g :: gs, s :: ss, h => by
    obtain ⟨h1, h2⟩ := ba h
    refine QL.PSs.imp (pss_cons (hs_ok (q := q) (pn := pn) (v := v) (d := d) Z hK hKN hnd hsc hmi hmv hn hnc hz hf hN hv ho h1) (hss_ok (d := d) Z hK hKN hnd hsc hmi hmv hn hnc hz hf hN hv ho h2)) fun D σ H h => ?_
    obtain ⟨C, δ, δ', R0, S, eg, k⟩ := h
    obtain ⟨r, e1, eg⟩ := Option.bind_eq_some_iff.mp (show ((hsD R ⟨n, some d⟩ δ g).bind fun r => (putSl δ g.i r).bind fun δ' => hsGo R ⟨n, some d⟩ gs δ') = some δ' from eg)
    obtain ⟨δ1, e2, e3⟩ := Option.bind_eq_some_iff.mp eg
    exact ⟨C, δ, δ1, R0, S, Option.bind_eq_some_iff.mpr ⟨r, e1, e2⟩, fun σ1 H1 C1 R1 s1 S1 => ⟨C1, δ1, δ', R1, S1, e3, fun σ2 H2 C2 R2 s2 S2 => k σ2 H2 C2 R2 (s1.trans s2) S2⟩⟩
end

/-! ### try .. except C as e: .. -/
section
variable {R : Pr} {K : Ct} {sc : Scope} {q da : Addr} {n c ie : Nat} {v : V} {en : Str} {hs : List HS} {body suite : List Stmt} {gb : Env → Rs Fl}
/-- the handler's reading -/
def tHand (T : Tx) (R : Pr) (K : Ct) (c ie : Nat) (hs : List HS) : Addr → Value → Option Addr → TS := fun q cls dd D σ H => ∃ (n : Nat) (da : Addr) (d : QL.D) (v : V), n ∈ K.xrs ∧ K.sb n c = true ∧ cls = .ref (T.Y.xc n) ∧ dd = some da ∧ tHS T n ie q da d v (hsGo R ⟨n, some d⟩ hs) D σ H
abbrev fTry (R : Pr) (c ie : Nat) (hs : List HS) (gb : Env → Rs Fl) : Env → Rs Fl := fun δ => match gb δ with
    | .er x δ' => if R.sub x.c c then hand R x ie hs δ' else .er x δ'
    | r => r
def Tx.wish (T : Tx) (W : WX) : Tx := { T with W := W }
theorem s_try {x : Str} {p6 : Pos} (Z : Ex R K X.prog X.w T.B.G T.Y X.mg X.base) (hK : X.K = T.B.G.K) (hKN : X.N = K.N) (hsc : X.env.scope = sc) (hmi : X.mg "isinstance" = none) (hmv : X.mg "ValueError" = none) (hst : X.stack = X.env :: X.outer) (hfr : X.env.frame = some X.env.locals) (hnd : X.N.Nodup) (tk : Takes X T.W)
    (hN : X.N[ie]? = some en) (hl : sc.names.lookup en = some .local) (ho : okB en = true) (hc : K.xcs[c]? = some x) (hg : Gl X x) (hox : okB x = true) (hits : chkHSs K sc c en ie hs suite = true) (hne : suite ≠ [])
    (hb : ∀ (W : WX) (pn : List (Addr × Obj)) (xe : Value → Shared → Prop), Takes (X.tr pn xe) W → PassesOwn (model X.prog X.w) X.A X.env xe → PSs (X.tr pn xe) body (tS (T.wish W) gb)) :
    PS X (.Try body [.ExceptHandler (some (.Name x p)) (some en) suite p6] [] [] pos) (tS T (fTry R c ie hs gb)) := by
  obtain ⟨b0, rest, rfl⟩ : ∃ b0 rest, suite = b0 :: rest := by
    cases suite with
    | nil => exact absurd rfl hne
    | cons a r => exact ⟨a, r, rfl⟩
  refine QL.PS.imp (ps_try_as (ts := tHand T R K c ie hs) (tb := fun W => tS (T.wish W) gb) (c := .ref (T.Y.xc c)) hst hfr hnd hN (by show X.env.scope.names.lookup en = _; rw [hsc]; exact hl) ⟨hg, (okB_ok hox).1, .inl (Z.xc c x hc)⟩ tk hb fun q oe cls d pn hz hf => ?_) fun D σ H h => ?_
  · refine ⟨fun pins s σ H D I h => ?_⟩
    obtain ⟨n, da, d, v, h1, h2, rfl, rfl, h5⟩ := h
    exact (hss_ok (q := q) (pn := pn) (v := v) (d := d) Z hK hKN hnd hsc hmi hmv h1 h2 hz hf hN (by rw [hsc]; exact .inl hl) ho hits).run pins s σ H D I h5
  · obtain ⟨C, δ, R0, h⟩ := h
    refine ⟨C, δ, R0, ?_⟩
    dsimp only [fTry] at h
    cases e : gb δ with
    | no => rw [e] at h; exact h
    | ok f δ' =>
      rw [e] at h
      cases f <;> exact h
    | er x' δ' =>
      rw [e] at h
      dsimp only at h
      intro cls dd σ' H' C' R' sc' hx
      obtain ⟨x1, rfl, x3⟩ := hx
      rw [show (T.wish (wAs X.K (.ref (T.Y.xc c)) ie (tHand T R K c ie hs) T.W D)).Y = T.Y from rfl, Z.rs] at x1
      refine ⟨R.sub x'.c c, by rw [hK]; exact Z.exm _ x1 c x hc, fun hb => ?_, fun hb => ?_⟩
      · rw [if_pos hb] at h
        intro q hq
        obtain ⟨n, xd⟩ := x'
        cases xd with
        | none => exact x3.elim
        | some d =>
          obtain ⟨da, v, rfl, y1, y2⟩ := x3
          unfold hand at h
          split at h
          · rename_i s0 g1
            obtain ⟨δ2, e2, h2⟩ := optS h
            have iel : ie < σ'.length := by
              rw [R'.len]
              unfold lcSl at g1
              split at g1
              · rename_i z; exact (List.getElem?_eq_some_iff.mp z).1
              · rename_i z; exact (List.getElem?_eq_some_iff.mp z).1
              · cases g1
            refine ⟨n, da, d, v, x1, by rw [← Z.sb]; exact hb, rfl, rfl, C', _, δ2, R'.put (i := ie) (s := .un) (o := some (.ref q)) rfl trivial, ⟨by rw [List.getElem?_set_self iel], y1, y2⟩, e2, fun σ2 H2 C2 R2 s2 S2 => ?_⟩
            exact h2 _ _ _ (R2.put (i := ie) (s := .un) (o := none) rfl trivial) (sc'.trans s2)
          · exact h.elim
      · have hb' : ¬ R.sub x'.c c = true := by rw [hb]; decide
        rw [if_neg hb'] at h
        exact h _ _ σ' H' C' R' sc' ⟨by rw [Z.rs]; exact x1, rfl, x3⟩
end
end
end QL

end
section
set_option Elab.async false
set_option linter.all false
set_option maxRecDepth 100000
/-! Q14: the small syntax is held against the text's own; statements. -/
namespace QL
open PySem PySem.Spec PyProof.Rows L2

def locB (sc : Scope) (x : Str) : Bool := match sc.names.lookup x with
  | some .local => true
  | some .cell => true
  | _ => false
def isCompE : Expr → Bool
  | .ListComp _ _ _ _ => true
  | .SetComp _ _ _ _ => true
  | .DictComp _ _ _ _ _ => true
  | _ => false
def funB (sc : Scope) : Bool := match sc.kind with
  | .function => true
  | _ => false
/-- x = [.. for ..]: the store is swapped in -/
def swB (sc : Scope) (x : Str) (p : Pos) : Expr → Bool
  | .ListComp _ _ scope pos => funB sc && (decide (sc.names.lookup x = some .local) && ((p.line == pos.line) && !(scope.names.any fun (n, k) => n == x && (k == .local || k == .cell))))
  | _ => false
/-- .. x a cell: it is not -/
def celSw (sc : Scope) (x : Str) : Expr → Bool
  | .ListComp _ _ _ _ => decide (sc.names.lookup x = some .cell)
  | _ => false
theorem celSw_ok {sc : Scope} {x : Str} {v : Expr} {p : Pos} {l : Nat} {env : PySem.Env} (hs : env.scope = sc) (h : celSw sc x v = true) : swapsWith v (some (.Name x p)) l env = pure false := by
  unfold celSw at h
  split at h
  · have ky : env.kindOf x = some .cell := by
      show env.scope.names.lookup x = _
      rw [hs]
      exact of_decide_eq_true h
    unfold swapsWith
    have e : (some NameKind.cell == some NameKind.local) = false := by decide
    simp only [ky, e, Bool.and_false, Bool.false_and]
  · cases h
def tgN1 (K : Ct) (sc : Scope) (i : Nat) : Expr → Bool
  | .Name x _ => decide (K.N[i]? = some x) && locB sc x
  | _ => false
def tgNs (K : Ct) (sc : Scope) : List Nat → List Expr → Bool
  | [], [] => true
  | i :: is, e :: es => tgN1 K sc i e && tgNs K sc is es
  | _, _ => false
def isTupE : Expr → Bool
  | .Tuple _ _ _ => true
  | _ => false
def tgB (K : Ct) (sc : Scope) : List Nat → Expr → Bool
  | [i], .Name x _ => decide (K.N[i]? = some x) && locB sc x
  | i :: j :: is, .Tuple es _ _ => tgNs K sc (i :: j :: is) es
  | _, _ => false
def isV : E → Option Nat
  | .v i => some i
  | _ => none
def isLc : E → Bool
  | .lc _ _ _ _ => true
  | _ => false

mutual
def chkS (K : Ct) (sc : Scope) : S → Stmt → Bool
  | .pass, st => (match st with
    | .Pass _ => true
    | _ => false)
  | .set i e, st => (match st with
    | .Assign [.Name x p] v _ => decide (K.N[i]? = some x) && (locB sc x && (chkE K sc e v && (!isCompE v || (swB sc x p v || celSw sc x v))))
    | _ => false)
  | .tset is e, st => (match st with
    | .Assign [.Tuple l k p] v _ => tgB K sc is (.Tuple l k p) && (chkE K sc e v && (!isCompE v && !isTupE v))
    | _ => false)
  | .six i k e, st => (match st with
    | .Assign [.Subscript (.Name x _) b _] v _ => nmB K sc i x && (chkE K sc k b && (chkE K sc e v && !isCompE v))
    | _ => false)
  | .app i e, st => (match st with
    | .Expr (.Call (.Attribute (.Name x _) f ap) [a] [] p2) _ => decide (f = "append") && (nmB K sc i x && ((ap.endLine == p2.line) && chkE K sc e a))
    | _ => false)
  | .ex e, st => (match st with
    | .Expr v _ => chkE K sc e v && !isCompE v
    | _ => false)
  | .aug i o e, st => (match st with
    | .AugAssign (.Name x _) op v _ => decide (K.N[i]? = some x) && (locB sc x && (chkE K sc e v && ((match o with
      | .add => true
      | .sub => true
      | _ => false) && decide (op = opOf o))))
    | _ => false)
  | .ret e, st => (match st with
    | .Return (some v) _ => chkE K sc e v
    | _ => false)
  | .retN, st => (match st with
    | .Return none _ => true
    | _ => false)
  | .ift c a b, st => (match st with
    | .If t x y _ => chkE K sc c t && (chkSs K sc a x && chkSs K sc b y)
    | _ => false)
  | .for_ is it b, st => (match st with
    | .For tg iter body [] _ => tgB K sc is tg && (!isSetE iter && (chkI K sc it iter && chkSs K sc b body))
    | _ => false)
  | .forp p it b, st => (match st with
    | .For tg iter body [] _ => ptE (tgN1 K sc) p tg && (!isSetE iter && (chkI K sc it iter && chkSs K sc b body))
    | _ => false)
  | .whl c b, st => (match st with
    | .While t body [] _ => chkE K sc c t && chkSs K sc b body
    | _ => false)
  | .brk, st => (match st with
    | .Break _ => true
    | _ => false)
  | .cnt, st => (match st with
    | .Continue _ => true
    | _ => false)
  | .rse c e, st => (match st with
    | .Raise (some (.Call (.Name x _) [a] [] _)) none _ => decide (K.xcs[c]? = some x) && (glB sc x && (okB x && (decide (c ∈ K.xrs) && chkE K sc e a)))
    | _ => false)
  | .try_ b ie c hs, st => (match st with
    | .Try body [.ExceptHandler (some (.Name x _)) (some en) (s0 :: suite) _] [] [] _ => chkSs K sc b body && (decide (K.N[ie]? = some en) && (decide (sc.names.lookup en = some .local) && (okB en && (decide (K.xcs[c]? = some x) && (glB sc x && (okB x && chkHSs K sc c en ie hs (s0 :: suite)))))))
    | _ => false)
  | .dput i k e, st => (match st with
    | .Assign [.Subscript (.Name x _) b _] v _ => nmB K sc i x && (chkE K sc k b && (chkE K sc e v && !isCompE v))
    | _ => false)
  | .ext i e, st => (match st with
    | .Expr (.Call (.Attribute (.Name x _) f ap) [a] [] p2) _ => decide (f = "extend") && (nmB K sc i x && ((ap.endLine == p2.line) && chkE K sc e a))
    | _ => false)
  | .rem i e, st => (match st with
    | .Expr (.Call (.Attribute (.Name x _) f ap) [a] [] p2) _ => decide (f = "remove") && (nmB K sc i x && ((ap.endLine == p2.line) && chkE K sc e a))
    | _ => false)
  | .mtc e cs, st => (match st with
    | .Match v l _ => chkE K sc e v && chkM K sc cs l
    | _ => false)
def chkM (K : Ct) (sc : Scope) : Ms → List MatchCase → Bool
  | .nil, l => (match l with
    | [] => true
    | _ => false)
  | .val d b cs, l => (match l with
    | ⟨.MatchValue (.Constant q _ _) _, none, body⟩ :: l => cstB d q && (chkSs K sc b body && chkM K sc cs l)
    | _ => false)
  | .any b, l => (match l with
    | [⟨.MatchAs none none _, none, body⟩] => chkSs K sc b body
    | _ => false)
def chkSs (K : Ct) (sc : Scope) : Ss → List Stmt → Bool
  | .nil, l => (match l with
    | [] => true
    | _ => false)
  | .cons s ss, l => (match l with
    | st :: l => chkS K sc s st && chkSs K sc ss l
    | _ => false)
end

/-- the context of a def's body -/
structure Cs (T : Tx) (R : Pr) (K : Ct) (k : Nat) (sc : Scope) (X : Cx) : Prop extends Cn T R K k sc X where
  pas : PassesOwn (model X.prog X.w) X.A X.env X.xe
  fn : ∀ x, locB X.env.scope x = true → X.fn x = true ∨ X.env.scope.names.lookup x = some .local
  stk : X.stack = X.env :: X.outer
  frm : X.env.frame = some X.env.locals
  two : 2 ≤ k
  exs : Ex R K X.prog X.w T.B.G T.Y X.mg X.base
section
variable {T : Tx} {R : Pr} {K : Ct} {k : Nat} {sc : Scope} {X : Cx}
theorem Cs.tr (c : Cs T R K k sc X) {W : WX} {pn : List (Addr × Obj)} {xe : Value → Shared → Prop} (tk : Takes (X.tr pn xe) W) (ps : PassesOwn (model X.prog X.w) X.A X.env xe) : Cs (T.wish W) R K k sc (X.tr pn xe) where
  N := c.N
  nd := c.nd
  sc := c.sc
  hK := c.hK
  calm := c.calm
  room := c.room
  tk := tk
  ef := c.ef
  pas := ps
  fn := c.fn
  stk := c.stk
  frm := c.frm
  two := c.two
  exs := c.exs
theorem Cs.loc (c : Cs T R K k sc X) {x : Str} (h : locB sc x = true) : L2.Loc X.env.scope x := by
  rw [c.sc]
  unfold locB at h
  split at h
  · rename_i e; exact .inl e
  · rename_i e; exact .inr e
  · cases h
theorem Cs.fnL (c : Cs T R K k sc X) {x : Str} (h : locB sc x = true) : X.fn x = true ∨ X.env.scope.names.lookup x = some .local := c.fn x (by rw [c.sc]; exact h)
theorem Cs.gNm (c : Cs T R K k sc X) {i : Nat} {x : Str} {p : Pos} (h1 : K.N[i]? = some x) (h2 : locB sc x = true) : PG X (.Name x p) (L2.gName i) := pg_name c.nd (by rw [c.N]; exact h1) (c.loc h2) (c.fnL h2)
theorem tgNs_ok (c : Cs T R K k sc X) : ∀ {is : List Nat} {es : List Expr}, tgNs K sc is es = true → PGs X es (tgs is) ∧ (assignEach es X.env).length = is.length ∧ List.findIdx? (fun x => x.fst) (assignEach es X.env) = none
  | [], [], _ => ⟨pgs_nil, rfl, rfl⟩
  | [], _ :: _, h => by cases h
  | _ :: _, [], h => by cases h
  | i :: is, e :: es, h => by
    obtain ⟨h1, h2⟩ := ba (show (tgN1 K sc i e && tgNs K sc is es) = true from h)
    unfold tgN1 at h1
    split at h1
    · rename_i x p
      obtain ⟨h3, h4⟩ := ba h1
      obtain ⟨q1, q2, q3⟩ := tgNs_ok c h2
      refine ⟨pgs_cons (c.gNm (de h3) h4) q1 rfl, ?_, ?_⟩
      · show (assignEach es X.env).length + 1 = is.length + 1
        rw [q2]
      · show List.findIdx? (fun x => x.fst) ((false, assign (.Name x p) X.env) :: assignEach es X.env) = none
        rw [List.findIdx?_cons, q3]
        rfl
    · cases h1
theorem tgB_ok (c : Cs T R K k sc X) {is : List Nat} {tg : Expr} (h : tgB K sc is tg = true) : ∃ g, PG X tg g ∧ TgR T is g := by
  unfold tgB at h
  split at h
  · obtain ⟨h1, h2⟩ := ba h
    exact ⟨_, c.gNm (de h1) h2, tg_one⟩
  · obtain ⟨q1, q2, q3⟩ := tgNs_ok c h
    exact ⟨_, pg_tup c.calm q1 q2 q3, tg_tup c.hK⟩
  · cases h
theorem sw_no {v : Expr} {t : Option Expr} {l : Nat} {env : PySem.Env} (h : isCompE v = false) : swapsWith v t l env = pure false := by
  cases v <;> first | rfl | cases h
theorem sole_no {v tg : Expr} {l : Nat} {env : PySem.Env} (h : isCompE v = false) : swapsWithSole [tg] v l env = pure false := by
  cases v <;> first | rfl | cases h | (cases tg <;> rfl)

theorem sto_no {v tg : Expr} {env : PySem.Env} (h : isTupE v = false) : swappedStores [tg] v env = pure none := by
  cases v <;> first | (cases h; done) | skip
  all_goals (cases tg <;> rfl)
theorem asg_ix {o b : Expr} {p : Pos} {env : PySem.Env} {v : Value} (h : ∀ l u s q, b ≠ .Slice l u s q) : assign (.Subscript o b p) env v = (do
      let ov ← holding [v] (eval o env)
      let iv ← holding [v, ov] (eval b env)
      standAt p
      holding [v, ov, iv] (setItem ov iv v)
      release [v, ov, iv] []) := by
  cases b <;> first | rfl | exact absurd rfl (h _ _ _ _)
theorem sto_ix {v o b : Expr} {p : Pos} {env : PySem.Env} : swappedStores [.Subscript o b p] v env = pure none := by
  cases v <;> rfl
/-- x = [.. for ..] -/
theorem s_setLc {i j : Nat} {x y : Str} {elt tg iter : Expr} {ifs : List Expr} {scope : Scope} {pos spos py : Pos} {fi : Env → Rs (List D)} {fc fe : Env → Rs Rv} {tt : TT} (hc : X.calm = true) (hN : X.N.Nodup) (hi : X.N[i]? = some y) (hl : X.env.scope.names.lookup y = some .local)
    (hsw : swapsWith (.ListComp elt [⟨tg, iter, ifs, 0⟩] scope pos) (some (.Name y py)) spos.line X.env = pure true) (hit : PI X tg iter (tI T fi)) (ok : BlkOk X.N X.env.scope scope [(x, j)]) (htt : ∀ σ H Q, tT T.nx fc σ H Q → tt σ H Q)
    (hg : ∀ (s : Shared) (H : Hp) (C : Addr) (cl : List (Str × Addr)) (fp : List Addr), PG (X.blk s H scope (compEnvC scope cl C X.env) fp) tg (L2.gName j)) (ht : ∀ (s : Shared) (H : Hp) (C : Addr) (cl : List (Str × Addr)) (fp : List Addr), PTs (X.blk s H scope (compEnvC scope cl C X.env) fp) ifs tt)
    (he : ∀ (s : Shared) (H : Hp) (C : Addr) (cl : List (Str × Addr)) (fp : List Addr), PE (X.blk s H scope (compEnvC scope cl C X.env) fp) elt (tE T.nx fe)) (hs : ∀ x, foldedSetIterable iter X.env x = pure x) :
    PS X (.Assign [.Name y py] (.ListComp elt [⟨tg, iter, ifs, 0⟩] scope pos) spos) (tS T (fSet i (fLc j fi fc fe))) :=
  QL.PS.imp (ps_setLc hc hN hi hl hsw hit ok hg ht he hs) (set_read fun _ _ _ h => lc_read htt h)
theorem s_setLct {i : Nat} {y : Str} {elt tg iter : Expr} {ifs : List Expr} {scope : Scope} {pos spos py : Pos} {fi : Env → Rs (List D)} {fc fe : Env → Rs Rv} {tt : TT} {pt : Pt} {own : List (Str × Nat)} (hK : X.K = T.B.G.K) (hc : X.calm = true) (hN : X.N.Nodup) (hi : X.N[i]? = some y) (hl : X.env.scope.names.lookup y = some .local)
    (hsw : swapsWith (.ListComp elt [⟨tg, iter, ifs, 0⟩] scope pos) (some (.Name y py)) spos.line X.env = pure true) (hit : PI X tg iter (tI T fi)) (ok : BlkOk X.N X.env.scope scope own) (ho : own.map (·.2) = pt.is) (htt : ∀ σ H Q, tT T.nx fc σ H Q → tt σ H Q)
    (hg : ∀ (s : Shared) (H : Hp) (C : Addr) (cl : List (Str × Addr)) (fp : List Addr), PG (X.blk s H scope (compEnvC scope cl C X.env) fp) tg (tgP X.K pt)) (ht : ∀ (s : Shared) (H : Hp) (C : Addr) (cl : List (Str × Addr)) (fp : List Addr), PTs (X.blk s H scope (compEnvC scope cl C X.env) fp) ifs tt)
    (he : ∀ (s : Shared) (H : Hp) (C : Addr) (cl : List (Str × Addr)) (fp : List Addr), PE (X.blk s H scope (compEnvC scope cl C X.env) fp) elt (tE T.nx fe)) (hs : ∀ x, foldedSetIterable iter X.env x = pure x) :
    PS X (.Assign [.Name y py] (.ListComp elt [⟨tg, iter, ifs, 0⟩] scope pos) spos) (tS T (fSet i (fLct pt fi fc fe))) :=
  QL.PS.imp (ps_setLc hc hN hi hl hsw hit ok hg ht he hs) (set_read fun _ _ _ h => by
    rw [ho]
    exact lct_read hK htt h)
theorem funB_ok {sc : Scope} (h : funB sc = true) : sc.kind = .function := by
  unfold funB at h
  split at h
  · assumption
  · cases h
theorem ret_v {i : Nat} {st : Expr} {pos : Pos} (c : Cn T R K k sc X) (h : chkE K sc (.v i) st = true) : PS X (.Return (some st) pos) (tS T (ex R (.ret (.v i)))) := by
  unfold chkE at h
  split at h
  · obtain ⟨q1, q2, q3, q4⟩ := c.nm h
    exact s_retv q1 q2 q3 q4
  · cases h
/-- a comprehension's value, stored -/
theorem set_lc {i : Nat} {x : Str} {p spos : Pos} {e : E} {v : Expr} (c : Cs T R K k sc X) (h1 : K.N[i]? = some x) (h : chkE K sc e v = true) (hs : swB sc x p v = true) : PS X (.Assign [.Name x p] v spos) (tS T (ex R (.set i e))) := by
  unfold swB at hs
  split at hs
  · rename_i elt gs scope pos
    obtain ⟨g1, g2⟩ := ba hs
    obtain ⟨g3, g4⟩ := ba g2
    obtain ⟨g5, g6⟩ := ba g4
    have hl : X.env.scope.names.lookup x = some .local := by rw [c.sc]; exact de g3
    cases e with
    | lc j it d f =>
      unfold chkE at h
      split at h
      · rename_i elt' tg iter ifs scope' pos' ee
        cases ee
        have hsw : swapsWith (.ListComp elt [⟨tg, iter, ifs, 0⟩] scope pos) (some (.Name x p)) spos.line X.env = pure true := sw_true (by rw [c.sc]; exact funB_ok g1) hl g5 (bn g6)
        obtain ⟨w1, w2⟩ := ba h
        obtain ⟨w3, w4⟩ := ba w2
        obtain ⟨w5, w6⟩ := ba w4
        obtain ⟨w7, w8⟩ := ba w6
        obtain ⟨y, ok, hg⟩ := lcTg_ok c.toCn w1
        have hi : X.N[i]? = some x := by rw [c.N]; exact h1
        split at w8
        · have w8 := isTrueE_ok w8
          subst w8
          exact s_setLc c.calm c.nd hi hl hsw (sndI it c.toCn w5) ok yes_read hg (fun _ _ _ _ _ => pts_nil) (fun s H C cl fp => (sndE f c.toCn.blk w7).1) (foldedSet_no (bn w3))
        · exact s_setLc c.calm c.nd hi hl hsw (sndI it c.toCn w5) ok (fun _ _ _ h => h) hg (fun s H C cl fp => pts_one (sndE d c.toCn.blk w8).2) (fun s H C cl fp => (sndE f c.toCn.blk w7).1) (foldedSet_no (bn w3))
        · cases w8
      · cases h
    | lct pt it d f =>
      unfold chkE at h
      split at h
      · rename_i elt' tg iter ifs scope' pos' ee
        cases ee
        have hsw : swapsWith (.ListComp elt [⟨tg, iter, ifs, 0⟩] scope pos) (some (.Name x p)) spos.line X.env = pure true := sw_true (by rw [c.sc]; exact funB_ok g1) hl g5 (bn g6)
        obtain ⟨w1, w2⟩ := ba h
        obtain ⟨w3, w4⟩ := ba w2
        obtain ⟨w5, w6⟩ := ba w4
        obtain ⟨w7, w8⟩ := ba w6
        obtain ⟨ok, ho, hg⟩ := lcPt_ok c.toCn w1
        have hi : X.N[i]? = some x := by rw [c.N]; exact h1
        split at w8
        · have w8 := isTrueE_ok w8
          subst w8
          exact s_setLct c.hK c.calm c.nd hi hl hsw (sndI it c.toCn w5) ok ho yes_read hg (fun _ _ _ _ _ => pts_nil) (fun s H C cl fp => (sndE f c.toCn.blk w7).1) (foldedSet_no (bn w3))
        · exact s_setLct c.hK c.calm c.nd hi hl hsw (sndI it c.toCn w5) ok ho (fun _ _ _ h => h) hg (fun s H C cl fp => pts_one (sndE d c.toCn.blk w8).2) (fun s H C cl fp => (sndE f c.toCn.blk w7).1) (foldedSet_no (bn w3))
        · cases w8
      · cases h
    | _ => cases h
  · cases hs
end
section
variable {R : Pr} {K : Ct} {k : Nat} {sc : Scope}
mutual
theorem sndS : ∀ (s : S) {T : Tx} {X : Cx} {st : Stmt}, Cs T R K k sc X → chkS K sc s st = true → PS X st (tS T (ex R s))
  | .pass, T, X, st, c, h => by
    unfold chkS at h
    split at h
    · exact s_pass
    · cases h
  | .set i e, T, X, st, c, h => by
    unfold chkS at h
    split at h
    · obtain ⟨h1, h2⟩ := ba h
      obtain ⟨h3, h4⟩ := ba h2
      obtain ⟨h5, h6⟩ := ba h4
      rcases Bool.or_eq_true_iff.mp h6 with h6 | h6
      · exact s_set c.nd (by rw [c.N]; exact de h1) (c.loc h3) (sndE e c.toCn h5).1 (sw_no (bn h6)) (c.fnL h3)
      · rcases Bool.or_eq_true_iff.mp h6 with h6 | h6
        · exact set_lc c (de h1) h5 h6
        · exact s_set c.nd (by rw [c.N]; exact de h1) (c.loc h3) (sndE e c.toCn h5).1 (celSw_ok c.sc h6) (c.fnL h3)
    · cases h
  | .tset is e, T, X, st, c, h => by
    unfold chkS at h
    split at h
    · rename_i l kk p v pos
      obtain ⟨h1, h2⟩ := ba h
      obtain ⟨h3, h4⟩ := ba h2
      obtain ⟨h5, h6⟩ := ba h4
      match is, h1 with
      | i :: j :: is, h1 =>
        obtain ⟨q1, q2, q3⟩ := tgNs_ok c (show tgNs K sc (i :: j :: is) l = true from h1)
        exact s_tset c.hK (sndE e c.toCn h3).1 fun he => ps_asg he (pg_tup c.calm q1 q2 q3) (sole_no (bn h5)) (sto_no (bn h6)) rfl
    · cases h
  | .six i b e, T, X, st, c, h => by
    unfold chkS at h
    split at h
    · obtain ⟨h1, h2⟩ := ba h
      obtain ⟨h3, h4⟩ := ba h2
      obtain ⟨h5, h6⟩ := ba h4
      obtain ⟨q1, q2, q3, q4⟩ := c.toCn.nm h1
      refine s_six q1 q2 q3 q4 (sndE b c.toCn h3).1 (sndE e c.toCn h5).1 fun he ho hi => ps_asg he (pg_sub ho hi set_list ?_) (sole_no (bn h6)) sto_ix rfl
      exact fun v => asg_ix fun l u s p z => by
        subst z
        rw [slice_no] at h3
        cases h3
    · cases h
  | .app i e, T, X, st, c, h => by
    unfold chkS at h
    split at h
    · obtain ⟨h1, h2⟩ := ba h
      obtain ⟨h3, h4⟩ := ba h2
      obtain ⟨h5, h6⟩ := ba h4
      have h1 := de h1
      subst h1
      obtain ⟨q1, q2, q3, q4⟩ := c.toCn.nm h3
      have hs := starEach_c (es := []) (env := X.env) (chk_star h6)
      refine s_app q1 q2 q3 q4 (sndE e c.toCn h6).1 hs fun ho ha => pe_bm PySem.F.plainAttrs_list PySem.F.slot_list_append PySem.F.type_list_append mt_append ho ha rfl ?_ h5 hs rfl
      rw [hs]
      rfl
    · cases h
  | .ex e, T, X, st, c, h => by
    unfold chkS at h
    split at h
    · obtain ⟨h1, h2⟩ := ba h
      exact s_ex (sndE e c.toCn h1).1 (sw_no (bn h2))
    · cases h
  | .aug i o e, T, X, st, c, h => by
    unfold chkS at h
    split at h
    · obtain ⟨h1, h2⟩ := ba h
      obtain ⟨h3, h4⟩ := ba h2
      obtain ⟨h5, h6⟩ := ba h4
      obtain ⟨h7, h8⟩ := ba h6
      have h8 := de h8
      subst h8
      split at h7
      · exact s_augadd c.nd (by rw [c.N]; exact de h1) (c.loc h3) (sndE e c.toCn h5).1 (c.fnL h3)
      · exact s_augsub c.nd (by rw [c.N]; exact de h1) (c.loc h3) (sndE e c.toCn h5).1 (c.fnL h3)
      · cases h7
    · cases h
  | .ret e, T, X, st, c, h => by
    unfold chkS at h
    split at h
    · cases e with
      | v i => exact ret_v c.toCn h
      | _ => exact s_ret (sndE _ c.toCn h).1
    · cases h
  | .retN, T, X, st, c, h => by
    unfold chkS at h
    split at h
    · exact s_retN
    · cases h
  | .ift d a b, T, X, st, c, h => by
    unfold chkS at h
    split at h
    · obtain ⟨h1, h2⟩ := ba h
      obtain ⟨h3, h4⟩ := ba h2
      exact s_if (sndE d c.toCn h1).2 (sndSs a c h3) (sndSs b c h4)
    · cases h
  | .for_ is it b, T, X, st, c, h => by
    unfold chkS at h
    split at h
    · obtain ⟨h1, h2⟩ := ba h
      obtain ⟨h3, h4⟩ := ba h2
      obtain ⟨h5, h6⟩ := ba h4
      obtain ⟨g, q1, q2⟩ := tgB_ok c h1
      exact s_for c.pas c.calm (sndI it c.toCn h5) q1 q2 (sndSs b c h6) (foldedSet_no (bn h3))
    · cases h
  | .forp p it b, T, X, st, c, h => by
    unfold chkS at h
    split at h
    · obtain ⟨h1, h2⟩ := ba h
      obtain ⟨h3, h4⟩ := ba h2
      obtain ⟨h5, h6⟩ := ba h4
      have q1 := (pg_pt (X := X) (nm := tgN1 K sc) c.calm (fun i e hi => by
        unfold tgN1 at hi
        split at hi
        · obtain ⟨h7, h8⟩ := ba hi
          exact ⟨c.gNm (de h7) h8, fun _ _ z => by cases z⟩
        · cases hi) p _ h1).1
      exact s_forp c.pas c.calm (sndI it c.toCn h5) q1 (tgP_tg c.hK) (sndSs b c h6) (foldedSet_no (bn h3))
    · cases h
  | .whl d b, T, X, st, c, h => by
    unfold chkS at h
    split at h
    · obtain ⟨h1, h2⟩ := ba h
      exact s_whl c.pas (sndE d c.toCn h1).2 (sndSs b c h2)
    · cases h
  | .brk, T, X, st, c, h => by
    unfold chkS at h
    split at h
    · exact s_brk
    · cases h
  | .cnt, T, X, st, c, h => by
    unfold chkS at h
    split at h
    · exact s_cnt
    · cases h
  | .rse n e, T, X, st, c, h => by
    unfold chkS at h
    split at h
    · obtain ⟨h1, h2⟩ := ba h
      obtain ⟨h3, h4⟩ := ba h2
      obtain ⟨h5, h6⟩ := ba h4
      obtain ⟨h7, h8⟩ := ba h6
      have h7 := de h7
      have M := c.exs.xm n h7
      have no := (c.exs.xd n h7).no
      rw [← c.hK] at M no
      exact s_rse c.hK (by rw [c.exs.rs]; exact h7) M no c.calm c.tk (c.room.mono c.two) (c.toCn.gl h3) (c.exs.xc n _ (de h1)) (okB_ok h5).1 (sndE e c.toCn h8).1 (starEach_c (chk_star h8))
    · cases h
  | .try_ b ie n hs, T, X, st, c, h => by
    unfold chkS at h
    split at h
    · obtain ⟨h1, h⟩ := ba h
      obtain ⟨h2, h⟩ := ba h
      obtain ⟨h3, h⟩ := ba h
      obtain ⟨h4, h⟩ := ba h
      obtain ⟨h5, h⟩ := ba h
      obtain ⟨h6, h⟩ := ba h
      obtain ⟨h7, h8⟩ := ba h
      exact s_try c.exs c.hK c.N c.sc (c.toCn.nob (by decide)) (c.toCn.nob (by decide)) c.stk c.frm c.nd c.tk (by rw [c.N]; exact de h2) (de h3) h4 (de h5) (c.toCn.gl h6) h7 h8 (fun z => by cases z) fun W pn xe tk ps => sndSs b (c.tr tk ps) h1
    · cases h
  | .dput i b e, T, X, st, c, h => by
    unfold chkS at h
    split at h
    · obtain ⟨h1, h2⟩ := ba h
      obtain ⟨h3, h4⟩ := ba h2
      obtain ⟨h5, h6⟩ := ba h4
      obtain ⟨q1, q2, q3, q4⟩ := c.toCn.nm h1
      exact s_dput (by have := c.toCn.un; omega) q1 q2 q3 q4 (sndE b c.toCn h3).1 (sndE e c.toCn h5).1 (sw_no (bn h6))
    · cases h
  | .ext i e, T, X, st, c, h => by
    unfold chkS at h
    split at h
    · obtain ⟨h1, h2⟩ := ba h
      obtain ⟨h3, h4⟩ := ba h2
      obtain ⟨h5, h6⟩ := ba h4
      have h1 := de h1
      subst h1
      obtain ⟨q1, q2, q3, q4⟩ := c.toCn.nm h3
      have hs := starEach_c (es := []) (env := X.env) (chk_star h6)
      refine s_ext q1 q2 q3 q4 (sndE e c.toCn h6).1 hs fun ho ha => pe_bm PySem.F.plainAttrs_list PySem.F.slot_list_extend PySem.F.type_list_extend mt_extend ho ha rfl ?_ h5 hs rfl
      rw [hs]
      rfl
    · cases h
  | .rem i e, T, X, st, c, h => by
    unfold chkS at h
    split at h
    · obtain ⟨h1, h2⟩ := ba h
      obtain ⟨h3, h4⟩ := ba h2
      obtain ⟨h5, h6⟩ := ba h4
      have h1 := de h1
      subst h1
      obtain ⟨q1, q2, q3, q4⟩ := c.toCn.nm h3
      have hs := starEach_c (es := []) (env := X.env) (chk_star h6)
      refine s_rem q1 q2 q3 q4 (sndE e c.toCn h6).1 hs fun ho ha => pe_bm PySem.F.plainAttrs_list PySem.F.slot_list_remove PySem.F.type_list_remove mt_remove ho ha rfl ?_ h5 hs rfl
      rw [hs]
      rfl
    · cases h
  | .mtc e cs, T, X, st, c, h => by
    unfold chkS at h
    split at h
    · obtain ⟨h1, h2⟩ := ba h
      exact s_mtc (sndE e c.toCn h1).1 (sndM cs c h2)
    · cases h
theorem sndM : ∀ (cs : Ms) {T : Tx} {X : Cx} {l : List MatchCase}, Cs T R K k sc X → chkM K sc cs l = true → PC X l (tM T (exm R cs))
  | .nil, T, X, l, c, h => by
    unfold chkM at h
    split at h
    · exact s_mnil
    · cases h
  | .val d b cs, T, X, l, c, h => by
    unfold chkM at h
    split at h
    · obtain ⟨h1, h2⟩ := ba h
      obtain ⟨h3, h4⟩ := ba h2
      exact s_mval c.hK (Nat.lt_of_succ_lt c.toCn.un) (cst_ok h1) (sndSs b c h3) (sndM cs c h4)
    · cases h
  | .any b, T, X, l, c, h => by
    unfold chkM at h
    split at h
    · exact s_many (sndSs b c h)
    · cases h
theorem sndSs : ∀ (ss : Ss) {T : Tx} {X : Cx} {l : List Stmt}, Cs T R K k sc X → chkSs K sc ss l = true → PSs X l (tS T (exs R ss))
  | .nil, T, X, l, c, h => by
    unfold chkSs at h
    split at h
    · exact s_nil
    · cases h
  | .cons s ss, T, X, l, c, h => by
    unfold chkSs at h
    split at h
    · obtain ⟨h1, h2⟩ := ba h
      exact s_cons (sndS s c h1) (sndSs ss c h2)
    · cases h
end
end
end QL

end
section
set_option Elab.async false
set_option linter.all false
set_option maxRecDepth 100000
/-! QE: methods that name super(): the small syntax is held against the text's own. -/
namespace QL
open PySem PySem.Spec PyProof.Rows L2

def chkEa (K : Ct) (sc : Scope) (d : Nat) : E → Expr → Bool
  | .sup d' j es, e => (match e with
    | .Call (.Attribute (.Call (.Name s _) [] [] _) m p2) (y :: ys) [] p4 => decide (d' = d) && (decide (s = "super") && (decide ((d, m, j) ∈ K.sps) && ((p2.endLine == p4.line) && (!(m == ("__class__" : Str)) && (decide ((y :: ys).length < 30) && ((match K.ars[j]? with
      | some (np, nd) => decide (es.len + 1 ≤ np ∧ np - (es.len + 1) ≤ nd)
      | none => false) && chkA K sc es (y :: ys)))))))
    | _ => false)
  | .bi b es, e => chkE K sc (.bi b es) e || (match es, e with
    | .cons a .nil, .Call (.Name x _) [y] [] _ => decide (x = biS b) && (glB sc x && ((match b with
      | .tuple => true
      | .sorted => true
      | _ => false) && (chkEa K sc d a y && !(match y with | .Starred _ _ => true | _ => false))))
    | _, _ => false)
  | .sl a lo hi, e => chkE K sc (.sl a lo hi) e || (match e with
    | .Subscript x (.Slice l h none _) _ => chkEa K sc d a x && ((match l with
      | none => isNonE lo
      | some l => !isNonE lo && chkE K sc lo l) && (match h with
      | none => isNonE hi
      | some h => !isNonE hi && chkE K sc hi h))
    | _ => false)
  | .rev a, e => chkE K sc (.rev a) e || (match e with
    | .Subscript x (.Slice none none (some (.UnaryOp .USub (.Constant (.int i) _ _) _)) _) _ => decide (i = 1) && chkEa K sc d a x
    | _ => false)
  | e', e => chkE K sc e' e
def chkSa (K : Ct) (sc : Scope) (d : Nat) (s : S) (st : Stmt) : Bool := chkS K sc s st || (match s, st with
  | .ret e, .Return (some v) _ => (match e with
    | .v _ => false
    | _ => true) && chkEa K sc d e v
  | .set i e, .Assign [.Name x p] v _ => decide (K.N[i]? = some x) && (locB sc x && (chkEa K sc d e v && !isCompE v))
  | .for_ is (.tsq e) b, .For tg iter body [] _ => tgB K sc is tg && (!isSetE iter && (chkEa K sc d e iter && chkSs K sc b body))
  | _, _ => false)
def chkSsa (K : Ct) (sc : Scope) (d : Nat) : Ss → List Stmt → Bool
  | .nil, [] => true
  | .cons s ss, st :: l => chkSa K sc d s st && chkSsa K sc d ss l
  | _, _ => false
section
variable {R : Pr} {K : Ct} {k d : Nat} {sc : Scope} {T : Tx} {X : Cx} {sn : Str} {body : List Stmt}
theorem sndEa (SU : SuE X (T.B.G.cl d) sn) (c : Cn T R K k sc X) : ∀ (e : E) {x : Expr}, chkEa K sc d e x = true → PEa X (.func body X.env) x (tE T (ev R e))
  | .sup d' j es, x, h => by
    unfold chkEa at h
    split at h
    · rename_i s p0 p1 m p2 y ys p4
      obtain ⟨h1, h⟩ := ba h
      obtain ⟨h2, h⟩ := ba h
      obtain ⟨h3, h⟩ := ba h
      obtain ⟨h4, h⟩ := ba h
      obtain ⟨h5, h⟩ := ba h
      obtain ⟨h6, h⟩ := ba h
      obtain ⟨h7, h8⟩ := ba h
      have h1 := de h1
      subst h1
      have h2 := de h2
      subst h2
      cases es with
      | nil => cases h8
      | cons a es =>
        have h9 : chkA K sc es ys = true := by
          have h' := h8
          unfold chkA at h'
          exact (ba h').2
        cases hF : R.fn[j]? with
        | none =>
          have ee : ev R (.sup d' j (.cons a es)) = fun _ => .no := by
            funext δ
            show (match (δ[0]? : Option Sl), R.fn[j]? with
              | some (.fz (.ob c fs ds)), some f => if R.kin c d' then (evA R (.cons a es) δ).bind fun as δ => callF f (.d (.ob c fs ds) :: as) δ else .no
              | _, _ => .no) = _
            rw [hF]
            cases δ[0]? with
            | none => rfl
            | some s => cases s with
              | fz d => cases d <;> rfl
              | _ => rfl
          rw [ee]
          refine ⟨fun pins s σ H Q I q => ?_⟩
          obtain ⟨_, _, _, q⟩ := q
          exact q.elim
        | some F =>
          obtain ⟨q1, ⟨np, nd⟩, q2, q3, q4⟩ := c.ef.sp d' j m F (de h3) hF
          have ee : ev R (.sup d' j (.cons a es)) = fSup (fun c => R.kin c d') F (evA R (.cons a es)) := by
            funext δ
            show (match (δ[0]? : Option Sl), R.fn[j]? with
              | some (.fz (.ob c fs ds)), some f => if R.kin c d' then (evA R (.cons a es) δ).bind fun as δ => callF f (.d (.ob c fs ds) :: as) δ else .no
              | _, _ => .no) = _
            rw [hF]
            dsimp only [fSup]
            cases δ[0]? with
            | none => rfl
            | some s => cases s with
              | fz d => cases d <;> rfl
              | _ => rfl
          rw [ee]
          refine s_sup (n := (Es.cons a es).len) SU c.hK q1 ?_ c.room c.tk (fun δ as δ' w => evA_len w) (sndA (.cons a es) c h8) h4 (bn h5) (starEach_c (chkA_head h8)) (chkA_star h9) ?_
          · rw [q2] at h7
            rw [q3, q4]
            exact de h7
          · unfold methodCallForm
            rw [chkA_form h8]
            simpa using h6
    · cases h
  | .bi b es, x, h => by
    unfold chkEa at h
    rcases Bool.or_eq_true_iff.mp h with h | h
    · exact PEa.of (sndE _ c h).1
    · split at h
      · rename_i a x p y pos hz
        obtain ⟨h1, h⟩ := ba h
        obtain ⟨h2, h⟩ := ba h
        obtain ⟨h3, h⟩ := ba h
        obtain ⟨h4, h5⟩ := ba h
        have h1 := de h1
        subst h1
        have hs : starEach [y] X.env = [(false, eval y X.env)] := starEach_c (es := []) fun v p z => by
          subst z
          cases h5
        have ih := sndEa SU c a h4
        have m := c.nob (bi_boot b).1
        have ee : ev R (.bi b (.cons a .nil)) = fun δ => ((ev R a δ).bind fun y δ => .ok [y.d] δ).bind fun xs δ => optR (biD b xs) δ := by
          funext δ
          show ((ev R a δ).bind fun x δ => (Rs.ok ([] : List D) δ).bind fun xs δ => .ok (x.d :: xs) δ).bind _ = _
          rfl
        rw [ee]
        cases b <;> first | (cases h3; done) | skip
        · exact sa_biT (b := .tuple) (cd_tuple c.hK) (c.gl h2) m (by decide +kernel) ih (by decide) (by decide) hs
        · exact sa_biB (b := .sorted) (cd_sorted c.hK) (c.gl h2) m (by decide +kernel) ih (by decide) (by decide) hs
      · cases h
  | .sl a lo hi, x, h => by
    unfold chkEa at h
    rcases Bool.or_eq_true_iff.mp h with h | h
    · exact PEa.of (sndE _ c h).1
    · split at h
      · rename_i x l u p2 pos hz
        obtain ⟨h1, h2⟩ := ba h
        obtain ⟨h3, h4⟩ := ba h2
        have hl : PO X l (tPartQ T fun δ => if isNonE lo then .ok none δ else (ev R lo δ).bind intP) := by
          split at h3
          · rw [h3]
            exact s_pnone
          · obtain ⟨h5, h6⟩ := ba h3
            rw [bn h5]
            exact s_psome (sndE lo c h6).1
        have hh : PO X u (tPartQ T fun δ => if isNonE hi then .ok none δ else (ev R hi δ).bind intP) := by
          split at h4
          · rw [h4]
            exact s_pnone
          · obtain ⟨h5, h6⟩ := ba h4
            rw [bn h5]
            exact s_psome (sndE hi c h6).1
        exact sa_sl c.hK (sndEa SU c a h1) hl hh
      · cases h
  | .rev a, x, h => by
    unfold chkEa at h
    rcases Bool.or_eq_true_iff.mp h with h | h
    · exact PEa.of (sndE _ c h).1
    · split at h
      · obtain ⟨h1, h2⟩ := ba h
        have h1 := de h1
        subst h1
        exact sa_rev c.hK (sndEa SU c a h2)
      · cases h
  | .v i, x, h => PEa.of (sndE _ c h).1
  | .c d, x, h => PEa.of (sndE _ c h).1
  | .g _, x, h => PEa.of (sndE _ c h).1
  | .neg _, x, h => PEa.of (sndE _ c h).1
  | .bin _ _ _, x, h => PEa.of (sndE _ c h).1
  | .cmp _ _ _, x, h => PEa.of (sndE _ c h).1
  | .ch2 _ _ _ _ _, x, h => PEa.of (sndE _ c h).1
  | .ch3 _ _ _ _ _ _ _, x, h => PEa.of (sndE _ c h).1
  | .and_ _ _, x, h => PEa.of (sndE _ c h).1
  | .or_ _ _, x, h => PEa.of (sndE _ c h).1
  | .not_ _, x, h => PEa.of (sndE _ c h).1
  | .ife _ _ _, x, h => PEa.of (sndE _ c h).1
  | .tup _, x, h => PEa.of (sndE _ c h).1
  | .lst _, x, h => PEa.of (sndE _ c h).1
  | .ix _ _, x, h => PEa.of (sndE _ c h).1
  | .ixv _ _, x, h => PEa.of (sndE _ c h).1
  | .call _ _, x, h => PEa.of (sndE _ c h).1
  | .lenv _, x, h => PEa.of (sndE _ c h).1
  | .inv _ _ _, x, h => PEa.of (sndE _ c h).1
  | .isi _ _, x, h => PEa.of (sndE _ c h).1
  | .lc _ _ _ _, x, h => PEa.of (sndE _ c h).1
  | .lct _ _ _ _, x, h => PEa.of (sndE _ c h).1
  | .meth _ _ _, x, h => PEa.of (sndE _ c h).1
  | .new _, x, h => PEa.of (sndE _ c h).1
  | .cls _ _ _, x, h => PEa.of (sndE _ c h).1
  | .dic0, x, h => PEa.of (sndE _ c h).1
  | .keys _, x, h => PEa.of (sndE _ c h).1
  | .sset _, x, h => PEa.of (sndE _ c h).1
  | .cntl _ _, x, h => PEa.of (sndE _ c h).1
  | .isk _ _, x, h => PEa.of (sndE _ c h).1
  | .callk _ _ _ _ _, x, h => PEa.of (sndE _ c h).1
  | .lr _, x, h => PEa.of (sndE _ c h).1
  | .slv _ _ _, x, h => PEa.of (sndE _ c h).1
  | .cat _ _, x, h => PEa.of (sndE _ c h).1
theorem sndSa (SU : SuE X (T.B.G.cl d) sn) (c : Cs T R K k sc X) {s : S} {st : Stmt} (h : chkSa K sc d s st = true) : PSa X (.func body X.env) st (tS T (ex R s)) := by
  unfold chkSa at h
  rcases Bool.or_eq_true_iff.mp h with h | h
  · exact PSa.of (sndS s c h)
  · split at h
    · rename_i e v pos hz
      obtain ⟨h1, h2⟩ := ba h
      cases e with
      | v i => cases h1
      | _ => exact sa_ret (sndEa SU c.toCn _ h2)
    · rename_i i e x p v pos hz
      obtain ⟨h1, h2⟩ := ba h
      obtain ⟨h3, h4⟩ := ba h2
      obtain ⟨h5, h6⟩ := ba h4
      exact sa_set c.nd (by rw [c.N]; exact de h1) (c.loc h3) (sndEa SU c.toCn e h5) (sw_no (bn h6)) (c.fnL h3)
    · rename_i is e b tg iter body' pos hz
      obtain ⟨h1, h2⟩ := ba h
      obtain ⟨h3, h4⟩ := ba h2
      obtain ⟨h5, h6⟩ := ba h4
      obtain ⟨g, q1, q2⟩ := tgB_ok c h1
      exact sa_for c.hK c.pas c.calm (sndEa SU c.toCn e h5) q1 q2 (sndSs b c h6) (foldedSet_no (bn h3))
    · cases h
theorem sndSsa (SU : SuE X (T.B.G.cl d) sn) (c : Cs T R K k sc X) : ∀ {ss : Ss} {l : List Stmt}, chkSsa K sc d ss l = true → PSsa X (.func body X.env) l (tS T (exs R ss))
  | .nil, [], _ => PSsa.of s_nil
  | .nil, _ :: _, h => by cases h
  | .cons _ _, [], h => by cases h
  | .cons s ss, st :: l, h => by
    obtain ⟨h1, h2⟩ := ba (show (chkSa K sc d s st && chkSsa K sc d ss l) = true from h)
    exact sa_cons (sndSa SU c h1) (sndSsa SU c h2)
end
end QL

end
section
set_option Elab.async false
set_option linter.all false
set_option maxRecDepth 100000
/-! Q15: the text's defs and error classes, from the head's facts; all defs at once. -/
namespace QL
open PySem PySem.Spec PyProof.Rows L2 He

/-! ### an error class's __init__ -/
def inCls (j : Nat) : Stmt → Stmt
  | .ClassDef _ _ _ b _ _ _ _ _ _ _ => b.getD j (.Pass ⟨0, 0, 0, 0⟩)
  | _ => .Pass ⟨0, 0, 0, 0⟩
structure IniD where
  cls : Str
  fld : Str
  qual : Str
  st : Stmt
abbrev IniV : Type := Option (Str × Str × Arguments × FuncBody × Scope × Addr × List Str × Addr)
def iniA (K : PySem.W.Frag) (d : IniD) : Addr := ma K (ga K d.cls) "__init__"
def iniW (K : PySem.W.Frag) (d : IniD) : IniV := match K.lookup (iniA K d) with
  | some ⟨_, _, .func fd, _⟩ => some (fd.name, fd.qualname, fd.params, fd.body, fd.scope, fd.globals, fd.closure.map (·.1), fd.builtins)
  | _ => none
def IniD.val (d : IniD) : IniV := some ("__init__", d.qual, defArgs d.st, .stmts (defBody d.st), defScope d.st, mainGlobals, ["__class__"], builtinsNs)
def codB (P : Program) (K : PySem.W.Frag) (q : Str) : Value → Bool
  | .ref c => PySem.W.codeIn K (.ref c) q && (match K.lookup c with
    | some ⟨_, _, .fields vs, _⟩ => (match (vs[2]? : Option Value) with
      | some (.str f _) => ((P.main.file : Str) == f)
      | _ => false)
    | _ => false)
  | _ => false
def celB (K : PySem.W.Frag) (D : Addr) : List (Str × Addr) → Bool
  | [(_, cc)] => (match K.lookup cc with
    | some ⟨_, _, .cell (some (.ref E)), _⟩ => decide (E = D) && (PySem.W.clsIn K E).isSome
    | _ => false)
  | _ => false
def nonB : Value → Bool
  | .none => true
  | _ => false
def IniD.ok (P : Program) (K : PySem.W.Frag) (d : IniD) : Bool := match K.lookup (iniA K d) with
  | some ⟨_, _, .func fd, _⟩ => codB P K d.qual fd.code && (celB K (ga K d.cls) fd.closure && nonB fd.defaults)
  | _ => false
/-- its shape, in the text -/
structure IniS (d : IniD) : Prop where
  body : ∃ (txt : Str) (j : Nat) (p0 p1 p2 p3 p4 p5 p6 p7 p8 p9 : Pos), defBody d.st = [.Expr (.Call (.Attribute (.Call (.Name "super" p0) [] [] p1) "__init__" p2) [.Constant (.str txt) j p3] [] p4) p5, .Assign [.Attribute (.Name "self" p6) d.fld p7] (.Name d.fld p8) p9] ∧ (p2.endLine == p4.line) = true
  par : ∃ ar, ((defArgs d.st).posonlyargs ++ (defArgs d.st).args).head? = some ar ∧ ar.arg = "self"
  sc : (defScope d.st).kind = .function ∧ (defScope d.st).isCoroutine = false ∧ (defScope d.st).isGenerator = false ∧ (defScope d.st).names.lookup ("super" : Str) = some .globalImplicit ∧ (defScope d.st).names.lookup ("__class__" : Str) = some .free ∧ (defScope d.st).names.lookup ("self" : Str) = some .local ∧ (defScope d.st).names.lookup d.fld = some .local ∧
    (∀ y ∈ (defScope d.st).names, y.2 ≠ .cell) ∧ (∀ y ∈ (defScope d.st).names, y.2 = .free → y.1 = "__class__")
  ne : d.fld ≠ "self"
  dbg : (d.fld == ("__debug__" : Str)) = false ∧ (d.fld == ("__classdict__" : Str)) = false
  bnd : ∀ (kV doc pm : Value) (an : Option Addr) (cdv ct : Value) (cc : Addr) (us : List Value), us.length = 2 → bindArgs (PySem.W.ksFn "__init__" d.qual (defArgs d.st) (defBody d.st) (defScope d.st) .none kV doc pm an cdv ct cc) ⟨us, []⟩ = pure ([("self" : Str), d.fld].zip us)
theorem ini_sup {P : Program} {K : PySem.W.Frag} {mg : Str → Option Value} {d : IniD} (S : IniS d) (e : iniW K d = d.val) (ok : d.ok P K = true) (top : (P.main.scope.names.lookup ("super" : Str)).isSome = false) (sup : mg "super" = none) (th : PySem.W.nsIn K cStatics "thirdparty.any" = some none) :
    ∃ fd, SupD P K mg (ga K d.cls) (iniA K d) fd d.fld ∧ Binds K fd ["self", d.fld] [] := by
  unfold IniD.ok at ok
  unfold iniW at e
  cases q : K.lookup (iniA K d) with
  | none => rw [q] at ok; cases ok
  | some o =>
    obtain ⟨oc, od, dt, osl⟩ := o
    rw [q] at ok e
    cases dt with
    | func fd =>
      obtain ⟨n1, n2, n3, n4, n5, n6, n7, n8, n9, n10, n11, n12, n13, n14, n15⟩ := fd
      have e2 : (some (n1, n2, n3, n4, n5, n6, n7.map (·.1), n15) : IniV) = some (("__init__" : Str), d.qual, defArgs d.st, FuncBody.stmts (defBody d.st), defScope d.st, mainGlobals, [("__class__" : Str)], builtinsNs) := e
      simp only [Option.some.injEq, Prod.mk.injEq] at e2
      obtain ⟨h1, h2, h3, h4, h5, h6, h7, h8⟩ := e2
      have ok2 : (codB P K d.qual n13 && (celB K (ga K d.cls) n7 && nonB n8)) = true := ok
      obtain ⟨c1, c02⟩ := QL.ba ok2
      obtain ⟨c2, c0⟩ := QL.ba c02
      clear c02
      unfold celB at c2
      split at c2
      · rename_i y cc
        have ey : y = "__class__" := by simpa using h7
        subst ey
        split at c2
        · rename_i k1 k2 E k3 lk
          obtain ⟨c3, c4⟩ := QL.ba c2
          have c3 := de c3
          obtain ⟨cdD, c4⟩ := Option.isSome_iff_exists.mp c4
          unfold codB at c1
          split at c1
          · rename_i c
            obtain ⟨c5, c6⟩ := QL.ba c1
            split at c6
            · rename_i k4 k5 vs k6 lk2
              split at c6
              · rename_i fl tk hv
                have e8 : n8 = .none := by
                  cases n8 <;> first | rfl | cases c0
                subst h1 h2 h3 h4 h5 h6 h8 e8
                refine ⟨_, ⟨?_, top, sup, th, S.ne, S.dbg⟩, .all fun us hl => S.bnd n9 n10 n11 n12 (.ref c) n14 cc us hl⟩
                obtain ⟨txt, j, p0, p1, p2, p3, p4, p5, p6, p7, p8, p9, hb, hl⟩ := S.body
                obtain ⟨ar, a1, a2⟩ := S.par
                obtain ⟨s1, s2, s3, s4, s5, s6, s7, s8, s9⟩ := S.sc
                refine ⟨"__init__", d.qual, _, _, .none, n9, n10, n11, n14, oc, n12, od, osl, c, cc, k4, k5, vs, k6, fl, tk, k1, k2, k3, cdD, ar, txt, j, p0, p1, p2, p3, p4, p5, p6, p7, p8, p9, ?_, q, c5, a1, a2, lk2, hv, c6, ?_, ?_, s1, s2, s3, s4, s5, s6, s7, s8, s9, hl⟩
                · rw [hb]
                · rw [lk, c3]
                · rw [← c3]; exact c4
              · cases c6
            · cases c6
          · cases c1
        · cases c2
      · cases c2
    | _ => cases ok

/-! ### error classes -/
def oexB (K : PySem.W.Frag) (C : Addr) : Bool := (match K.lookup C with
  | some ⟨.type t, _, .cls cd, sl⟩ => decide (t = "type") && (match cd.mro, sl.toList with
    | .ref C' :: bm, [_, _, _, _, some (.builtin n), _] => decide (C' = C) && (decide (n = "ValueError.__new__") && (!cd.hasDel && (cd.hasDict && PySem.HandSPX.refsVE bm)))
    | _, _ => false)
  | _ => false) && (decide (PySem.W.findIn K (.ref C) "__setattr__" = some (some (.builtin "object.__setattr__"))) && (decide (PySem.W.subIn K (.ref C) (.type "BaseException") = some true) && (decide (PySem.W.typeIn K (.ref C) = some (.type "type")) && PySem.W.keepIn K (.ref C))))
theorem oexB_ok {K : PySem.W.Frag} {C : Addr} (h : oexB K C = true) : OexC K C := by
  obtain ⟨h1, h2⟩ := QL.ba h
  obtain ⟨h3, h4⟩ := QL.ba h2
  obtain ⟨h5, h6⟩ := QL.ba h4
  obtain ⟨h7, h8⟩ := QL.ba h6
  refine ⟨?_, de h3, de h5, de h7, h8⟩
  split at h1
  · rename_i t dd cd sl lk
    obtain ⟨g1, g2⟩ := QL.ba h1
    have g1 := de g1
    subst g1
    split at g2
    · rename_i C' bm k0 k1 k2 k3 n k5 em es
      obtain ⟨g3, g4⟩ := QL.ba g2
      obtain ⟨g5, g6⟩ := QL.ba g4
      obtain ⟨g7, g8⟩ := QL.ba g6
      obtain ⟨g9, g10⟩ := QL.ba g8
      have g3 := de g3
      subst g3
      have g5 := de g5
      subst g5
      obtain ⟨cn, cb, cm, cns, cq, chd, csn, csb, cab, ccol, cdel⟩ := cd
      dsimp only at em g7 g9
      subst em
      have g7 := bn g7
      subst g7
      subst g9
      have esl : sl = #[k0, k1, k2, k3, some (.builtin "ValueError.__new__"), k5] := by
        rw [← es]
      subst esl
      exact ⟨cn, cq, cns, cb, bm, csn, csb, cab, ccol, dd, k0, k1, k2, k3, k5, lk, g10⟩
    · cases g2
  · cases h1
def ecB (K : PySem.W.Frag) (C : Addr) (f : Str) : Bool := decide (PySem.W.findIn K (.ref C) "__getattribute__" = some (some (.builtin "BaseException.__getattribute__"))) && (decide (PySem.W.findIn K (.ref C) "__getattr__" = some none) && (decide (PySem.W.subIn K (.ref C) (.type "BaseException") = some true) && (PySem.W.hasDictIn K C &&
  (decide (PySem.W.findIn K (.ref C) "__class__" = some (some (.builtin "object.__class__"))) && (decide (PySem.W.specialIn K (.builtin "object.__class__") "__get__" = some (some (.builtin "getset_descriptor.__get__"))) && (decide (PySem.W.takesIn K (.builtin "object.__class__") = some true) && (decide (PySem.W.mroIn K C (.type "object") = some true) &&
    decide (PySem.W.findIn K (.ref C) f = some none))))))))
theorem ecB_ok {K : PySem.W.Frag} {C : Addr} {f : Str} (h : ecB K C f = true) : XcD K C f := by
  obtain ⟨h1, h⟩ := QL.ba h
  obtain ⟨h2, h⟩ := QL.ba h
  obtain ⟨h3, h⟩ := QL.ba h
  obtain ⟨h4, h⟩ := QL.ba h
  obtain ⟨h5, h⟩ := QL.ba h
  obtain ⟨h6, h⟩ := QL.ba h
  obtain ⟨h7, h⟩ := QL.ba h
  obtain ⟨h8, h9⟩ := QL.ba h
  exact ⟨⟨de h1, de h2, de h3, h4, de h5, de h6, de h7, de h8⟩, ⟨de h1, de h2, de h3, h4⟩, de h9⟩
/-- C's __init__ is that of the class D, over ValueError's -/
def inB (K : PySem.W.Frag) (C D f : Addr) : Bool := decide (PySem.W.findIn K (.ref C) "__init__" = some (some (.ref f))) && (decide (PySem.W.typeIn K (.ref f) = some (.type "function")) && (decide (PySem.W.mroIn K C (.ref D) = some true) && (decide (PySem.W.ks_superIn K C D "__init__" = some (some (.builtin "ValueError.__init__"))) && decide (PySem.W.subIn K (.ref C) (.type "ValueError") = some true))))

/-- the text's error classes: names, fields, the raised ones with their __init__ (a number in ins), which is under which -/
structure ErD where
  xcs : List Str
  xfs : List Str
  xrs : List (Nat × Nat)
  sb : Nat → Nat → Bool
  ins : List IniD
def ErD.nm (e : ErD) (j : Nat) : Str := e.xcs.getD j ""
def ErD.ok (P : Program) (e : ErD) (K : PySem.W.Frag) : Bool := decide (PySem.W.nsIn K cStatics "thirdparty.any" = some none) && (e.ins.all (fun d => d.ok P K) && (e.xrs.all (fun q => oexB K (ga K (e.nm q.1)) && (ecB K (ga K (e.nm q.1)) (e.xfs.getD q.1 "") && (match e.ins[q.2]? with
    | some d => decide (d.fld = e.xfs.getD q.1 "") && inB K (ga K (e.nm q.1)) (ga K d.cls) (iniA K d)
    | none => false))) && (e.xrs.all (fun q => decide (PySem.W.kitOne K (.ref (ga K (e.nm q.1))) (.type "ValueError") = some true)) &&
  e.xrs.all fun q => (List.range e.xcs.length).all fun j => decide (PySem.W.kitOne K (.ref (ga K (e.nm q.1))) (.ref (ga K (e.nm j))) = some (e.sb q.1 j)) && decide (PySem.W.exmOne K (.ref (ga K (e.nm q.1))) (.ref (ga K (e.nm j))) = some (e.sb q.1 j)))))
def ErD.Y (e : ErD) (K : PySem.W.Frag) : Xg := ⟨fun j => ga K (e.nm j), fun j => e.xfs.getD j "", e.xrs.map (·.1)⟩
/-- the own classes: names, methods' names, class and method and def, super().m(..), which is under which -/
structure Cld where
  cls : List Str
  mts : List Str
  mtl : List (Nat × Nat × Nat)
  sps : List (Nat × Str × Nat)
  kil : List (Nat × Nat)
  cas : List Str := []
  cal : List (Nat × Nat × Str) := []
  isl : List Nat := []
def Cld.kin (z : Cld) : Nat → Nat → Bool := fun c d => decide ((c, d) ∈ z.kil)
def gd (K : PySem.W.Frag) (z : Cld) : Gd := ⟨K, fun c => ga K (z.cls.getD c ""), fun _ => ""⟩
theorem er_ok {P : Program} {w : World} {K : PySem.W.Frag} {mg : Str → Option Value} {base : Heap} {e : ErD} {R : Pr} {z : Cld} {Kt : Ct} (k1 : Kt.xcs = e.xcs) (k2 : Kt.xfs = e.xfs) (k3 : Kt.xrs = e.xrs.map (·.1)) (k4 : Kt.sb = e.sb) (h : e.ok P K = true) (hw : e.ins.map (iniW K) = e.ins.map IniD.val) (hS : ∀ d ∈ e.ins, IniS d) (top : (P.main.scope.names.lookup ("super" : Str)).isSome = false) (sup : mg "super" = none)
    (hg : ∀ x ∈ e.xcs, mg x = some (.ref (ga K x))) (hsb : R.sub = e.sb) (hl : e.xrs.all (fun q => decide (q.1 < e.xfs.length)) = true) : Ex R Kt P w (gd K z) (e.Y K) mg base := by
  obtain ⟨h1, h2⟩ := QL.ba h
  obtain ⟨h3, h4⟩ := QL.ba h2
  obtain ⟨h5, h7⟩ := QL.ba h4
  obtain ⟨hv, h6⟩ := QL.ba h7
  have nmE : ∀ {j : Nat} {x : Str}, e.xcs[j]? = some x → e.nm j = x := fun {j x} q => by
    unfold ErD.nm
    rw [List.getD_eq_getElem?_getD, q]
    rfl
  have mem : ∀ {j : Nat}, j ∈ e.xrs.map (·.1) → ∃ m, (j, m) ∈ e.xrs := fun {j} q => by
    obtain ⟨⟨a, b⟩, q1, rfl⟩ := List.mem_map.mp q
    exact ⟨b, q1⟩
  refine ⟨fun j x q => ?_, k3.symm, fun j q => ?_, fun j q => ?_, fun j q => ?_, fun i q j x hx => ?_, fun i q => ?_, fun i q j x hx => ?_, hsb.trans k4.symm⟩
  · rw [k1] at q
    show mg x = some (.ref (ga K (e.nm j)))
    rw [nmE q]
    exact hg x (List.mem_of_getElem? q)
  · rw [k3] at q
    obtain ⟨m, q⟩ := mem q
    obtain ⟨_, g2⟩ := QL.ba (List.all_eq_true.mp h5 _ q)
    exact ecB_ok (QL.ba g2).1
  · rw [k3] at q
    obtain ⟨m, q⟩ := mem q
    obtain ⟨g1, g2⟩ := QL.ba (List.all_eq_true.mp h5 _ q)
    obtain ⟨g3, g4⟩ := QL.ba g2
    refine ⟨oexB_ok g1, ?_⟩
    split at g4
    · rename_i d hd
      obtain ⟨g5, g6⟩ := QL.ba g4
      obtain ⟨g7, g8⟩ := QL.ba g6
      obtain ⟨g9, g10⟩ := QL.ba g8
      obtain ⟨g11, g12⟩ := QL.ba g10
      obtain ⟨g13, g14⟩ := QL.ba g12
      have dm := List.mem_of_getElem? hd
      have ew : iniW K d = d.val := by
        have z : (e.ins.map (iniW K))[m]? = (e.ins.map IniD.val)[m]? := by rw [hw]
        rw [List.getElem?_map, List.getElem?_map, hd] at z
        exact Option.some.inj z
      obtain ⟨fd, S1, S2⟩ := ini_sup (mg := mg) (hS d dm) ew (List.all_eq_true.mp h3 d dm) top sup (de h1)
      have ef : d.fld = (e.Y K).xf j := de g5
      rw [ef] at S1 S2
      exact ⟨iniA K d, ga K d.cls, fd, de g7, de g9, sup_ok S1, S2, de g11, de g13, de g14⟩
    · cases g4
  · rw [k3] at q
    obtain ⟨m, q⟩ := mem q
    have := de (List.all_eq_true.mp hl _ q)
    rw [k2]
    show e.xfs[j]? = some (e.xfs.getD j "")
    rw [List.getD_eq_getElem?_getD, List.getElem?_eq_getElem this]
    rfl
  · rw [k3] at q
    obtain ⟨m, q⟩ := mem q
    rw [k1] at hx
    have := List.all_eq_true.mp (List.all_eq_true.mp h6 _ q) j (List.mem_range.mpr (List.getElem?_eq_some_iff.mp hx).1)
    rw [hsb]
    exact de (QL.ba this).1
  · rw [k3] at q
    obtain ⟨m, q⟩ := mem q
    exact de (List.all_eq_true.mp hv _ q)
  · rw [k3] at q
    obtain ⟨m, q⟩ := mem q
    rw [k1] at hx
    have := List.all_eq_true.mp (List.all_eq_true.mp h6 _ q) j (List.mem_range.mpr (List.getElem?_eq_some_iff.mp hx).1)
    rw [hsb]
    exact de (QL.ba this).2
end QL

end
section
set_option Elab.async false
set_option linter.all false
set_option maxRecDepth 100000
/-! QF: a method that names super(), from the head's facts. -/
namespace QL
open PySem PySem.Spec PyProof.Rows L2 He

structure SmD where
  cls : Str
  mn : Str
  qual : Str
  st : Stmt
def SmD.ad (K : PySem.W.Frag) (d : SmD) : Addr := ma K (ga K d.cls) d.mn
def SmD.w (K : PySem.W.Frag) (d : SmD) : IniV := match K.lookup (d.ad K) with
  | some ⟨_, _, .func fd, _⟩ => some (fd.name, fd.qualname, fd.params, fd.body, fd.scope, fd.globals, fd.closure.map (·.1), fd.builtins)
  | _ => none
def SmD.val (d : SmD) : IniV := some (d.mn, d.qual, defArgs d.st, .stmts (defBody d.st), defScope d.st, mainGlobals, ["__class__"], builtinsNs)
def SmD.ok (P : Program) (K : PySem.W.Frag) (d : SmD) : Bool := PySem.W.keepIn K (.ref (d.ad K)) && (match K.lookup (d.ad K) with
  | some ⟨_, _, .func fd, _⟩ => codB P K d.qual fd.code && (celB K (ga K d.cls) fd.closure && nonB fd.defaults)
  | _ => false)
def scSB (N ps : List Str) (sc : Scope) : Bool := funB sc && (!sc.isCoroutine && (!sc.isGenerator && (decide N.Nodup && (decide (N.take ps.length = ps) && ((ps.all fun x => decide (sc.names.lookup x = some .local)) && ((sc.names.all fun y => match y.2 with
  | .cell => false
  | .free => decide (y.1 = "__class__")
  | _ => true) && (decide (sc.names.lookup ("super" : Str) = some .globalImplicit) && decide (sc.names.lookup ("__class__" : Str) = some .free))))))))
theorem scSB_ok {N ps : List Str} {sc : Scope} (h : scSB N ps sc = true) : FnScS N ps sc ∧ sc.names.lookup ("super" : Str) = some .globalImplicit ∧ sc.names.lookup ("__class__" : Str) = some .free := by
  obtain ⟨h1, h⟩ := QL.ba h
  obtain ⟨h2, h⟩ := QL.ba h
  obtain ⟨h3, h⟩ := QL.ba h
  obtain ⟨h4, h⟩ := QL.ba h
  obtain ⟨h5, h⟩ := QL.ba h
  obtain ⟨h6, h⟩ := QL.ba h
  obtain ⟨h7, h⟩ := QL.ba h
  obtain ⟨h8, h9⟩ := QL.ba h
  refine ⟨⟨funB_ok h1, bn h2, bn h3, de h4, de h5, fun x hx => de (List.all_eq_true.mp h6 x hx), fun y hy z => ?_, fun y hy z => ?_⟩, de h8, de h9⟩
  · have := List.all_eq_true.mp h7 y hy
    rw [z] at this
    cases this
  · have := List.all_eq_true.mp h7 y hy
    rw [z] at this
    exact de this
/-- its parameters -/
structure SmS (d : SmD) (ps : List Str) : Prop where
  par : ∃ ar, ((defArgs d.st).posonlyargs ++ (defArgs d.st).args).head? = some ar ∧ ps.head? = some ar.arg
  bnd : ∀ (kV doc pm : Value) (an : Option Addr) (cdv ct : Value) (cc : Addr) (us : List Value), us.length = ps.length → bindArgs (PySem.W.ksFn d.mn d.qual (defArgs d.st) (defBody d.st) (defScope d.st) .none kV doc pm an cdv ct cc) ⟨us, []⟩ = pure (ps.zip us)
/-- what is known of it behind the top -/
structure SmO (P : Program) (K : PySem.W.Frag) (d : SmD) (ps : List Str) (cc cda : Addr) (fd : FuncData) : Prop where
  fs : FunS K d.mn d.qual (defArgs d.st) (defBody d.st) (defScope d.st) (ga K d.cls) (d.ad K) cc cda fd
  fn : ∃ oc od osl, K.lookup (d.ad K) = some ⟨oc, od, .func fd, osl⟩
  pr : fd.params = defArgs d.st
  co : ∃ ccl cdd vs ccs file tf, K.lookup cda = some ⟨ccl, cdd, .fields vs, ccs⟩ ∧ vs[2]? = some (.str file tf) ∧ ((P.main.file : Str) == file) = true
  ce : ∃ cl cld csl, K.lookup cc = some ⟨cl, cld, .cell (some (.ref (ga K d.cls))), csl⟩
  cD : ∃ cdD, PySem.W.clsIn K (ga K d.cls) = some cdD
  kp : PySem.W.keepIn K (.ref (d.ad K)) = true
  bi : Binds K fd ps []
theorem sm_of {P : Program} {K : PySem.W.Frag} {d : SmD} {ps : List Str} (S : SmS d ps) (e : d.w K = d.val) (ok : d.ok P K = true) : ∃ cc cda fd, SmO P K d ps cc cda fd := by
  unfold SmD.ok at ok
  obtain ⟨kp, ok⟩ := QL.ba ok
  unfold SmD.w at e
  cases q : K.lookup (d.ad K) with
  | none => rw [q] at ok; cases ok
  | some o =>
    obtain ⟨oc, od, dt, osl⟩ := o
    rw [q] at ok e
    cases dt with
    | func fd =>
      obtain ⟨n1, n2, n3, n4, n5, n6, n7, n8, n9, n10, n11, n12, n13, n14, n15⟩ := fd
      have e2 : (some (n1, n2, n3, n4, n5, n6, n7.map (·.1), n15) : IniV) = some (d.mn, d.qual, defArgs d.st, FuncBody.stmts (defBody d.st), defScope d.st, mainGlobals, [("__class__" : Str)], builtinsNs) := e
      simp only [Option.some.injEq, Prod.mk.injEq] at e2
      obtain ⟨h1, h2, h3, h4, h5, h6, h7, h8⟩ := e2
      have ok2 : (codB P K d.qual n13 && (celB K (ga K d.cls) n7 && nonB n8)) = true := ok
      obtain ⟨c1, c02⟩ := QL.ba ok2
      obtain ⟨c2, c0⟩ := QL.ba c02
      clear c02
      unfold celB at c2
      split at c2
      · rename_i y cc
        have ey : y = "__class__" := by simpa using h7
        subst ey
        split at c2
        · rename_i k1 k2 E k3 lk
          obtain ⟨c3, c4⟩ := QL.ba c2
          have c3 := de c3
          obtain ⟨cdD, c4⟩ := Option.isSome_iff_exists.mp c4
          unfold codB at c1
          split at c1
          · rename_i c
            obtain ⟨c5, c6⟩ := QL.ba c1
            split at c6
            · rename_i k4 k5 vs k6 lk2
              split at c6
              · rename_i fl tk hv
                have e8 : n8 = .none := by
                  cases n8 <;> first | rfl | cases c0
                subst h1 h2 h3 h4 h5 h6 h8 e8
                have hcell : K.lookup cc = some ⟨k1, k2, .cell (some (.ref (ga K d.cls))), k3⟩ := by rw [lk, c3]
                refine ⟨cc, c, _, ⟨⟨⟨oc, od, n9, n10, n11, n12, n14, osl, rfl, q⟩, c5, ⟨k1, k2, k3, hcell⟩⟩, ⟨oc, od, osl, q⟩, rfl, ⟨k4, k5, vs, k6, fl, tk, lk2, hv, c6⟩, ⟨k1, k2, k3, hcell⟩, ⟨cdD, by rw [← c3]; exact c4⟩, kp, .all fun us hl => S.bnd n9 n10 n11 n12 (.ref c) n14 cc us hl⟩⟩
              · cases c6
            · cases c6
          · cases c1
        · cases c2
      · cases c2
    | _ => cases ok
/-- THE RULE for it -/
theorem fn_okM {P : Program} {w : World} {G : Gd} {Y : Xg} {mg : Str → Option Value} {base : Heap} {d : SmD} {N ps : List Str} {cc cda : Addr} {fd : FuncData} {k dc : Nat} {R : Pr} {Kt : Ct} {b : Ss} (O : SmO P G.K d ps cc cda fd) (S : SmS d ps) (hsc : scSB N ps (defScope d.st) = true) (hps : 0 < ps.length) (hcl : G.cl dc = ga G.K d.cls)
    (top : (P.main.scope.names.lookup ("super" : Str)).isSome = false) (sup : mg "super" = none) (th : PySem.W.nsIn G.K cStatics "thirdparty.any" = some none) (two : 2 ≤ k) (hN : Kt.N = N)
    (ef : Ef R Kt k P w G Y mg base) (exs_ : Ex R Kt P w G Y mg base) (hc : chkSsa Kt (defScope d.st) dc b (defBody d.st) = true) : FnK P w G Y mg base (k + 1) (d.ad G.K) (mk R ps.length N.length [] b) := by
  obtain ⟨F, hks, hkc⟩ := scSB_ok hsc
  obtain ⟨ar, p1, p2⟩ := S.par
  have hself : ps[0]? = some ar.arg := by rw [← List.head?_eq_getElem?]; exact p2
  have hN0 : N[0]? = some ar.arg := by
    have e : (N.take ps.length)[0]? = some ar.arg := by rw [F.pre]; exact hself
    rw [List.getElem?_take_of_lt hps] at e
    exact e
  have ok : FnOk P w G.K mg base (L2.CX P w) (k + 1) (d.ad G.K) fd ps (spF G Y (mk R ps.length N.length [] b)) := by
    refine fnS_ok O.fs F (fun vs H Q E h => ?_) fun A outer s H vs Q E hr h => ?_
    · obtain ⟨as, C, h1, h2, _⟩ := h
      rw [h1.len]
      exact h2
    · refine body_ok (Pd := fun t => PSsa _ _ (defBody d.st) t) rfl F.pre (fun C vs as => ?_) h
      refine sndSsa (k := k) (sn := ar.arg) ?_ ?_ hc
      · obtain ⟨oc, od, osl, lk⟩ := O.fn
        obtain ⟨ccl, cdd, vs', ccs, file, tf, z1, z2, z3⟩ := O.co
        obtain ⟨cl, cld, csl, z4⟩ := O.ce
        obtain ⟨cdD, z5⟩ := O.cD
        refine ⟨hks, hkc, ⟨d.ad G.K, oc, od, fd, osl, ar, rfl, lk, by rw [O.pr]; exact p1, rfl⟩, ⟨cda, ccl, cdd, vs', ccs, file, tf, rfl, z1, z2, z3⟩, ⟨cc, cl, cld, csl, rfl, ?_⟩, ⟨cdD, ?_⟩, top, sup, th, hN0, ?_⟩
        · show G.K.lookup cc = some ⟨cl, cld, .cell (some (.ref (G.cl dc))), csl⟩
          rw [hcl]; exact z4
        · show PySem.W.clsIn G.K (G.cl dc) = some cdD
          rw [hcl]; exact z5
        · exact F.par ar.arg (List.mem_of_getElem? hself)
      · exact {
          N := hN.symm
          nd := F.nd
          sc := rfl
          hK := rfl
          calm := rfl
          room := hr
          tk := takes_of (X := cxT P w G.K mg base N d.qual (defScope d.st) (d.ad G.K) cda cc A outer s H E) (E := E) rfl rfl rfl rfl
          ef := ef
          pas := passes_of (X := cxT P w G.K mg base N d.qual (defScope d.st) (d.ad G.K) cda cc A outer s H E) rfl
          fn := fun x hx => .inr (by
            have hx : locB (defScope d.st) x = true := hx
            show (defScope d.st).names.lookup x = some .local
            unfold locB at hx
            split at hx
            · assumption
            · rename_i z
              exact absurd rfl (F.noc _ (PySem.mem_of_lookup z))
            · cases hx)
          stk := rfl
          frm := rfl
          two := two
          exs := exs_ }
  refine ⟨⟨fd, ps, ok, rfl, fun n hn1 hn2 => ?_⟩, O.kp⟩
  have e : n = ps.length := by
    have z1 : n ≤ ps.length := hn1
    have z2 : ps.length - n ≤ 0 := hn2
    omega
  subst e
  exact ⟨[], [], .nil, O.bi, fun C => by
    show Rps G C (([] : List D).drop _) []
    rw [List.drop_nil]
    exact Rps.nil.mpr rfl⟩
end QL

end
section
set_option Elab.async false
set_option linter.all false
set_option maxRecDepth 100000
/-! Q16: all defs of the text at once; the head; the end. -/
namespace QL
open PySem PySem.Spec PyProof.Rows L2 He

inductive Kd where
  | fn | star | meth | sup | kw
  deriving DecidableEq
/-- a def: its name (a method's: qualified), statement, slots, parameters, defaults, small body; its sort; a method's class, name, class's number -/
structure Df where
  nm : Str
  st : Stmt
  N : List Str
  ps : List Str
  dv : List Dv
  b : Ss
  kd : Kd := .fn
  cl : Str := ""
  mn : Str := ""
  dc : Nat := 0
  /-- keyword-only defaults; the shapes of calls -/
  kw : List (Str × Dv) := []
  shs : List Shp := []
def dvD : Dv → D
  | .bl b => .bl b
  | .int i => .int i
  | .str x => .str x
  | _ => .non
def dvB : Dv → Bool
  | .non => true
  | .bl _ => true
  | .int _ => true
  | .str _ => true
  | _ => false
def Df.dfl (d : Df) : List D := d.dv.map dvD
def Kd.isM : Kd → Bool
  | .meth => true
  | .sup => true
  | _ => false
def Kd.n : Kd → Nat
  | .fn => 0
  | .star => 1
  | .kw => 3
  | _ => 2
def Df.at_ (d : Df) : Str × Option Str := if d.kd.isM then (d.cl, some d.mn) else (d.nm, none)
def Df.fnm (d : Df) : Str := if d.kd.isM then d.mn else d.nm
def Df.ad (K : PySem.W.Frag) (d : Df) : Addr := fAd K d.at_
def Df.dd (d : Df) : DefD := ⟨d.at_, d.fnm, d.nm, defArgs d.st, defBody d.st, defScope d.st, d.dv, d.kw⟩
def Df.sm (d : Df) : SmD := ⟨d.cl, d.mn, d.nm, d.st⟩
/-- the worth of a def above those of acc -/
def Df.fn (gl : List D) (e : ErD) (z : Cld) (acc : List Fn) (d : Df) : Fn := QL.mk ⟨acc, gl, mtF z.mtl, e.sb, z.kin, caF z.cal⟩ d.ps.length d.N.length d.dfl d.b d.shs
def tabGo (gl : List D) (e : ErD) (z : Cld) (acc : List Fn) : List Df → List Fn
  | [] => acc
  | d :: ds => tabGo gl e z (acc ++ [d.fn gl e z acc]) ds
def scB (N ps : List Str) (sc : Scope) : Bool := funB sc && (!sc.isCoroutine && (!sc.isGenerator && (decide N.Nodup && (decide (N.take ps.length = ps) && (ps.all (locB sc) && sc.names.all fun y => match y.2 with
  | .free => false
  | _ => true)))))
/-- the keyword-only parameters that a shape leaves out -/
def Df.mis (d : Df) (h : Shp) : List (Str × Dv) := d.kw.filter fun q => !decide (q.1 ∈ h.ks)
def misB (gls : List Str) : List Dv → List Sel → Bool
  | vs, .a _ :: s => misB gls vs s
  | .non :: vs, .c .non :: s => misB gls vs s
  | .bl a :: vs, .c (.bl b) :: s => (a == b) && misB gls vs s
  | .int a :: vs, .c (.int b) :: s => decide (a = b) && misB gls vs s
  | .str a :: vs, .c (.str b) :: s => decide (a = b) && misB gls vs s
  | .glo x :: vs, .g j y :: s => decide (x = y) && (decide (gls[j]? = some x) && misB gls vs s)
  | [], [] => true
  | _, _ => false
/-- a call of this shape binds what the shape says -/
def Df.BkS (d : Df) (h : Shp) : Prop := match d.mis h with
  | [] => ∀ (kV doc pm : Value) (an : Option Addr) (cdv ct : Value) (us ws : List Value), us.length = h.n → ws.length = h.ks.length → bindArgs (PySem.W.fnOf d.fnm d.nm (defArgs d.st) (defBody d.st) (defScope d.st) .none kV doc pm an cdv ct) ⟨us, h.ks.zip ws⟩ = pure (d.ps.zip (gS (us ++ ws) h.sel []))
  | q :: r => ∀ (D : Addr) (doc pm : Value) (an : Option Addr) (cdv ct : Value) (us mv ws : List Value), us.length = h.n → mv.length = r.length + 1 → ws.length = h.ks.length →
      KwChain D (((q :: r).map (·.1)).zip mv) (bindArgs (PySem.W.fnOf d.fnm d.nm (defArgs d.st) (defBody d.st) (defScope d.st) .none (.ref D) doc pm an cdv ct) ⟨us, h.ks.zip ws⟩) (d.ps.zip (gS (us ++ ws) h.sel mv))
/-- the checks' table behind the defs ds -/
def ctAt (e : ErD) (z : Cld) (gls : List Str) (ds : List Df) (N : List Str) : Ct := ⟨N, ds.map (·.nm), ds.map fun d => (d.ps.length, d.dv.length), gls, z.cls, z.mts, e.xcs, e.xfs, e.xrs.map (·.1), e.sb, ds.map fun d => d.kd.n, z.mtl, z.sps, z.kin, z.cas, z.cal, z.isl⟩
def Df.chk (e : ErD) (z : Cld) (gls : List Str) (ds : List Df) (d : Df) : Bool := match d.kd with
  | .fn => scB d.N d.ps (defScope d.st) && (d.dv.all dvB && chkSs (ctAt e z gls ds d.N) (defScope d.st) d.b (defBody d.st))
  | .meth => scB d.N d.ps (defScope d.st) && (d.dv.all dvB && chkSs (ctAt e z gls ds d.N) (defScope d.st) d.b (defBody d.st))
  | .kw => scB d.N d.ps (defScope d.st) && (d.dv.isEmpty && ((d.shs.all fun h => decide (h.sel.length = d.ps.length) && misB gls ((d.mis h).map (·.2)) h.sel) && chkSs (ctAt e z gls ds d.N) (defScope d.st) d.b (defBody d.st)))
  | .star => scB d.N d.ps (defScope d.st) && (d.dv.isEmpty && chkSs (ctAt e z gls ds d.N) (defScope d.st) d.b (defBody d.st))
  | .sup => scSB d.N d.ps (defScope d.st) && (d.dv.isEmpty && (decide (0 < d.ps.length) && (decide (z.cls[d.dc]? = some d.cl) && chkSsa (ctAt e z gls ds d.N) (defScope d.st) d.dc d.b (defBody d.st))))
def chkGo (e : ErD) (z : Cld) (gls : List Str) (done : List Df) : List Df → Bool
  | [] => true
  | d :: ds => d.chk e z gls done && chkGo e z gls (done ++ [d]) ds
def Df.F (d : Df) (K : PySem.W.Frag) (f : Addr) (fd : FuncData) : Prop := FunD K d.fnm d.nm (defArgs d.st) (defBody d.st) (defScope d.st) (d.dd.dvs K) (d.dd.kws K) f fd
/-- its parameters are bound as the small def says -/
def Df.Bp (d : Df) : Prop := ∀ (K : PySem.W.Frag) (f : Addr) (fd : FuncData), d.F K f fd → ∀ n, n ≤ d.ps.length → d.ps.length - n ≤ d.dv.length → ∃ ds, Vals ((d.dv.map (Dv.v K)).drop (d.dv.length - (d.ps.length - n))) ds ∧ Binds K fd d.ps ds
/-- .. with a star parameter -/
def Df.Bs (d : Df) : Prop := ∃ ps pv, d.ps = ps ++ [pv] ∧ ∀ (kV doc pm : Value) (an : Option Addr) (cdv ct : Value) (us rest : List Value), us.length = ps.length → bindArgs (PySem.W.fnOf d.fnm d.nm (defArgs d.st) (defBody d.st) (defScope d.st) .none kV doc pm an cdv ct) ⟨us ++ rest, []⟩ = (newTuple rest >>= fun t => pure (ps.zip us ++ [(pv, t)]))
def Df.Bn (d : Df) : Prop := match d.kd with
  | .fn => d.Bp
  | .meth => d.Bp
  | .star => d.Bs
  | .kw => ∀ h ∈ d.shs, d.BkS h
  | .sup => SmS d.sm d.ps
theorem bn0 {d : Df} (h0 : d.dv = []) (h : ∀ (kV doc pm : Value) (an : Option Addr) (cdv ct : Value) (us : List Value), us.length = d.ps.length → bindArgs (PySem.W.fnOf d.fnm d.nm (defArgs d.st) (defBody d.st) (defScope d.st) .none kV doc pm an cdv ct) ⟨us, []⟩ = pure (d.ps.zip us)) : d.Bp := fun K f fd F n h1 h2 => by
  have F' : FunD K d.fnm d.nm (defArgs d.st) (defBody d.st) (defScope d.st) [] (d.dd.kws K) f fd := by
    have e : d.dd.dvs K = [] := by
      show d.dv.map (Dv.v K) = []
      rw [h0]; rfl
    have F : FunD K d.fnm d.nm (defArgs d.st) (defBody d.st) (defScope d.st) (d.dd.dvs K) (d.dd.kws K) f fd := F
    rw [e] at F
    exact F
  rw [h0]
  exact ⟨[], by rw [List.map_nil, List.drop_nil]; exact .nil, F'.bindsN h⟩
theorem bn1 {d : Df} {v : Dv} {m : Nat} (h0 : d.dv = [v]) (hm : d.ps.length = m + 1)
    (h : ∀ (T : Addr) (kV doc pm : Value) (an : Option Addr) (cdv ct : Value) (us its : List Value), us.length = m → its.length = 1 → ∃ k, bindArgs (PySem.W.fnOf d.fnm d.nm (defArgs d.st) (defBody d.st) (defScope d.st) (.ref T) kV doc pm an cdv ct) ⟨us, []⟩ = seqItems? (.ref T) >>= k ∧ k (some its.toArray) = pure (d.ps.zip (us ++ its.drop 0)))
    (h' : ∀ (T : Addr) (kV doc pm : Value) (an : Option Addr) (cdv ct : Value) (us its : List Value), us.length = m + 1 → its.length = 1 → ∃ k, bindArgs (PySem.W.fnOf d.fnm d.nm (defArgs d.st) (defBody d.st) (defScope d.st) (.ref T) kV doc pm an cdv ct) ⟨us, []⟩ = seqItems? (.ref T) >>= k ∧ k (some its.toArray) = pure (d.ps.zip (us ++ its.drop 1))) : d.Bp := fun K f fd F n h1 h2 => by
  have e : d.dd.dvs K = [v.v K] := by
    show d.dv.map (Dv.v K) = _
    rw [h0]; rfl
  have F' : FunD K d.fnm d.nm (defArgs d.st) (defBody d.st) (defScope d.st) [v.v K] (d.dd.kws K) f fd := by
    have F : FunD K d.fnm d.nm (defArgs d.st) (defBody d.st) (defScope d.st) (d.dd.dvs K) (d.dd.kws K) f fd := F
    rw [e] at F
    exact F
  have l1 : d.dv.length = 1 := by rw [h0]; rfl
  rw [l1] at h2
  have hn : n = m ∨ n = m + 1 := by omega
  rw [h0]
  rcases hn with rfl | rfl
  · rw [hm, show [v].length - (n + 1 - n) = 0 by simp]
    exact F'.binds1 n 0 (by simp) (by simp [hm]) h
  · rw [hm, show [v].length - (m + 1 - (m + 1)) = 1 by simp]
    exact F'.binds1 (m + 1) 1 (by simp) (by simp [hm]) h'
theorem scB_ok {N ps : List Str} {sc : Scope} (h : scB N ps sc = true) : FnScope N ps sc := by
  obtain ⟨h1, h⟩ := QL.ba h
  obtain ⟨h2, h⟩ := QL.ba h
  obtain ⟨h3, h⟩ := QL.ba h
  obtain ⟨h4, h⟩ := QL.ba h
  obtain ⟨h5, h⟩ := QL.ba h
  obtain ⟨h6, h7⟩ := QL.ba h
  refine ⟨funB_ok h1, bn h2, bn h3, de h4, de h5, fun x hx => ?_, fun y hy z => ?_⟩
  · have := List.all_eq_true.mp h6 x hx
    unfold locB at this
    split at this
    · rename_i e; exact .inl e
    · rename_i e; exact .inr e
    · cases this
  · have := List.all_eq_true.mp h7 y hy
    rw [z] at this
    cases this
theorem dv_rp {G : Gd} {C : Hp} {K : PySem.W.Frag} : ∀ {l : List Dv}, l.all dvB = true → Rps G C (l.map dvD) (l.map (Dv.v K))
  | [], _ => Rps.nil.mpr rfl
  | v :: l, h => by
    obtain ⟨h1, h2⟩ := QL.ba (show (dvB v && l.all dvB) = true from h)
    refine Rps.cons.mpr ⟨_, _, rfl, ?_, dv_rp h2⟩
    cases v <;> first | (cases h1; done) | skip
    · exact Rp.non.mpr rfl
    · exact Rp.bl.mpr rfl
    · exact Rp.int.mpr rfl
    · exact Rp.str.mpr rfl


/-! ### the own classes' facts -/
def mk0B (K : PySem.W.Frag) (C : Addr) : Bool := PySem.W.makesIn K C && (eqO (PySem.W.findIn K (.ref C) "__init__") (some (some (.builtin "object.__init__"))) && PySem.W.keepIn K (.ref C))
theorem mk0B_ok {K : PySem.W.Frag} {C : Addr} (h : mk0B K C = true) : Mk0 K C := by
  obtain ⟨h1, h2⟩ := QL.ba h
  obtain ⟨h3, h4⟩ := QL.ba h2
  exact ⟨h1, eqO_ok h3, h4⟩
def tykB (K : PySem.W.Frag) (x : Str) : Bool := (Fa.cls x).ok K && (decide (PySem.W.findIn K (.ref (ga K x)) "__class__" = some (some (.builtin "object.__class__"))) && (decide (PySem.W.specialIn K (.builtin "object.__class__") "__get__" = some (some (.builtin "getset_descriptor.__get__"))) && (decide (PySem.W.takesIn K (.builtin "object.__class__") = some true) && decide (PySem.W.mroIn K (ga K x) (.type "object") = some true))))
theorem tykB_ok {K : PySem.W.Frag} {x : Str} (h : tykB K x = true) : TyK K (ga K x) := by
  obtain ⟨h1, h⟩ := QL.ba h
  obtain ⟨h2, h⟩ := QL.ba h
  obtain ⟨h3, h⟩ := QL.ba h
  obtain ⟨h4, h5⟩ := QL.ba h
  exact ⟨He.cls_ok h1, de h2, de h3, de h4, de h5⟩
def Cld.okI (z : Cld) (K : PySem.W.Frag) : Bool := z.isl.all fun d => z.kil.all fun r => !decide (r.1 = r.2) || (tykB K (z.cls.getD r.1 "") && decide (PySem.W.kitOne K (.ref (ga K (z.cls.getD r.1 ""))) (.ref (ga K (z.cls.getD d ""))) = some (z.kin r.1 d)))
def Cld.ok (z : Cld) (all : List Df) (K : PySem.W.Frag) : Bool := z.okI K && ((z.cls.all fun x => mk0B K (ga K x)) && ((z.mtl.all fun q => match all[q.2.2]?, z.mts[q.2.1]? with
    | some d, some mn => d.kd.isM && ((Fa.cls (z.cls.getD q.1 "")).ok K && (eqO (PySem.W.findIn K (.ref (ga K (z.cls.getD q.1 ""))) mn) (some (some (.ref (d.ad K)))) && (PySem.W.isFn K (.ref (d.ad K)) && PySem.W.keepIn K (.ref (d.ad K)))))
    | _, _ => false) && ((z.sps.all fun q => match all[q.2.2]? with
    | some d => d.kd.isM && (PySem.W.fnIn K (d.ad K) && (decide (PySem.W.typeIn K (.ref (d.ad K)) = some (.type "function")) && z.kil.all fun r => !decide (r.2 = q.1) || (decide (PySem.W.mroIn K (ga K (z.cls.getD r.1 "")) (.ref (ga K (z.cls.getD q.1 ""))) = some true) && decide (PySem.W.ks_superIn K (ga K (z.cls.getD r.1 "")) (ga K (z.cls.getD q.1 "")) q.2.1 = some (some (.ref (d.ad K)))))))
    | _ => false) && ((z.mts ++ z.cas).all (fun m => !decide (("" : Str) = m)) && z.cal.all fun q => match z.cas[q.2.1]? with
    | some f => (Fa.cls (z.cls.getD q.1 "")).ok K && (match PySem.W.findIn K (.ref (ga K (z.cls.getD q.1 ""))) f with
      | some (some (.str y t)) => decide (y = q.2.2) && (eqO (PySem.W.specialIn K (.str y t) "__get__") (some none) && !PySem.W.copiedNames.contains f)
      | _ => false)
    | none => false))))
structure Clf (K : PySem.W.Frag) (mg : Str → Option Value) (z : Cld) (all : List Df) : Prop where
  nw : ∀ (c : Nat) (x : Str), z.cls[c]? = some x → mg x = some (.ref ((gd K z).cl c)) ∧ Mk0 K ((gd K z).cl c)
  mt : ∀ (c m j : Nat) (mn : Str) (d : Df), (c, m, j) ∈ z.mtl → z.mts[m]? = some mn → all[j]? = some d → d.kd.isM = true ∧ Cls K ((gd K z).cl c) ∧ Meth K ((gd K z).cl c) mn (d.ad K)
  sp : ∀ (i j : Nat) (mn : Str) (d : Df), (i, mn, j) ∈ z.sps → all[j]? = some d → d.kd.isM = true ∧ ∀ c, z.kin c i = true → PySem.W.mroIn K ((gd K z).cl c) (.ref ((gd K z).cl i)) = some true ∧ PySem.W.ks_superIn K ((gd K z).cl c) ((gd K z).cl i) mn = some (some (.ref (d.ad K))) ∧ PySem.W.fnIn K (d.ad K) = true ∧ PySem.W.typeIn K (.ref (d.ad K)) = some (.type "function")
  fl : ∀ (m : Nat) (mn : Str), z.mts[m]? = some mn → ∀ i, (gd K z).fl i ≠ mn
  ca : ∀ (c a : Nat) (y f : Str), (c, a, y) ∈ z.cal → z.cas[a]? = some f → Cls K ((gd K z).cl c) ∧ ∃ v u, Con K ((gd K z).cl c) f v u ∧ ∀ C, Rp (gd K z) C (.str y) v
  fa : ∀ (a : Nat) (f : Str), z.cas[a]? = some f → ∀ i, (gd K z).fl i ≠ f
  is_ : ∀ d, d ∈ z.isl → ∀ c, z.kin c c = true → TyK K ((gd K z).cl c) ∧ PySem.W.kitOne K (.ref ((gd K z).cl c)) (.ref ((gd K z).cl d)) = some (z.kin c d)
theorem clf_of {K : PySem.W.Frag} {mg : Str → Option Value} {z : Cld} {all : List Df} (h : z.ok all K = true) (hg : ∀ x ∈ z.cls, mg x = some (.ref (ga K x))) : Clf K mg z all := by
  obtain ⟨h0, h⟩ := QL.ba h
  obtain ⟨h1, h⟩ := QL.ba h
  obtain ⟨h2, h⟩ := QL.ba h
  obtain ⟨h3, h⟩ := QL.ba h
  obtain ⟨h4, h5⟩ := QL.ba h
  have nq : ∀ {m : Str}, m ∈ z.mts ++ z.cas → ∀ i, (gd K z).fl i ≠ m := fun {m} hm i e => by
    have := List.all_eq_true.mp h4 m hm
    have e : ("" : Str) = m := e
    rw [show decide (("" : Str) = m) = true from decide_eq_true e] at this
    cases this
  refine ⟨fun c x q => ?_, fun c m j mn d q1 q2 q3 => ?_, fun i j mn d q1 q2 => ?_, fun m mn q => nq (List.mem_append_left _ (List.mem_of_getElem? q)), fun c a y f q1 q2 => ?_, fun a f q => nq (List.mem_append_right _ (List.mem_of_getElem? q)), fun d q1 c q2 => ?_⟩
  · have e : (gd K z).cl c = ga K x := by
      show ga K (z.cls.getD c "") = _
      rw [List.getD_eq_getElem?_getD, q]; rfl
    rw [e]
    have hx := List.mem_of_getElem? q
    exact ⟨hg x hx, mk0B_ok (List.all_eq_true.mp h1 x hx)⟩
  · have w := List.all_eq_true.mp h2 _ q1
    dsimp only at w
    rw [q2, q3] at w
    obtain ⟨w1, w⟩ := QL.ba w
    obtain ⟨w2, w⟩ := QL.ba w
    obtain ⟨w3, w⟩ := QL.ba w
    obtain ⟨w4, w5⟩ := QL.ba w
    exact ⟨w1, He.cls_ok w2, eqO_ok w3, w4, w5⟩
  · have w := List.all_eq_true.mp h3 _ q1
    dsimp only at w
    rw [q2] at w
    obtain ⟨w1, w⟩ := QL.ba w
    obtain ⟨w2, w⟩ := QL.ba w
    obtain ⟨w3, w4⟩ := QL.ba w
    refine ⟨w1, fun c hc => ?_⟩
    have w5 := List.all_eq_true.mp w4 _ (de hc)
    dsimp only at w5
    rw [show (!decide (i = i)) = false by simp, Bool.false_or] at w5
    obtain ⟨w6, w7⟩ := QL.ba w5
    exact ⟨de w6, de w7, w2, de w3⟩
  · have w := List.all_eq_true.mp h5 _ q1
    dsimp only at w
    rw [q2] at w
    obtain ⟨w1, w2⟩ := QL.ba w
    refine ⟨He.cls_ok w1, ?_⟩
    split at w2
    · rename_i y' t' hq
      obtain ⟨w3, w4⟩ := QL.ba w2
      obtain ⟨w5, w6⟩ := QL.ba w4
      have w3 := de w3
      subst w3
      exact ⟨.str y', .str y' t', ⟨hq, ⟨t', rfl⟩, eqO_ok w5, bn w6⟩, fun C => Rp.str.mpr rfl⟩
    · cases w2
  · have w := List.all_eq_true.mp (List.all_eq_true.mp h0 d q1) _ (de q2)
    dsimp only at w
    rw [show (!decide (c = c)) = false by simp, Bool.false_or] at w
    obtain ⟨w1, w2⟩ := QL.ba w
    exact ⟨tykB_ok w1, de w2⟩

section
variable {P : Program} {w : World} {K : PySem.W.Frag} {mg : Str → Option Value} {base : Heap} {e : ErD} {z : Cld} {gls : List Str} {gl : List D} {all : List Df}
def Df.Ok (P : Program) (w : World) (K : PySem.W.Frag) (mg : Str → Option Value) (base : Heap) (e : ErD) (z : Cld) (gl : List D) (k : Nat) (d : Df) (F : Fn) : Prop := match d.kd with
  | .kw => mg d.nm = some (.ref (d.ad K)) ∧ F.shs = d.shs ∧ ∀ h ∈ d.shs, FnN P w (gd K z) (e.Y K) mg base k (d.ad K) F h gl
  | .fn => mg d.nm = some (.ref (d.ad K)) ∧ FnK P w (gd K z) (e.Y K) mg base k (d.ad K) F
  | .star => mg d.nm = some (.ref (d.ad K)) ∧ FnS P w (gd K z) (e.Y K) mg base k (d.ad K) F
  | _ => FnK P w (gd K z) (e.Y K) mg base k (d.ad K) F
theorem Df.Ok.mono {d : Df} {F : Fn} {j k : Nat} (h : d.Ok P w K mg base e z gl j F) (l : j ≤ k) : d.Ok P w K mg base e z gl k F := by
  unfold Df.Ok at h ⊢
  split at h
  · exact ⟨h.1, h.2.1, fun s hs => (h.2.2 s hs).mono l⟩
  · exact ⟨h.1, h.2.mono l⟩
  · exact ⟨h.1, h.2.mono l⟩
  · exact h.mono l
/-- what is built so far -/
structure Bt (P : Program) (w : World) (K : PySem.W.Frag) (mg : Str → Option Value) (base : Heap) (e : ErD) (z : Cld) (gl : List D) (k : Nat) (acc : List Fn) (done : List Df) : Prop where
  len : acc.length = done.length
  at_ : ∀ (j : Nat) (d : Df), done[j]? = some d → ∃ F, acc[j]? = some F ∧ F.np = d.ps.length ∧ F.dfl.length = d.dv.length ∧ d.Ok P w K mg base e z gl k F
theorem Bt.inv {k : Nat} {acc : List Fn} {done : List Df} (B : Bt P w K mg base e z gl k acc done) {j : Nat} {F : Fn} (h : acc[j]? = some F) : ∃ d, done[j]? = some d ∧ F.np = d.ps.length ∧ F.dfl.length = d.dv.length ∧ d.Ok P w K mg base e z gl k F := by
  have hj := (List.getElem?_eq_some_iff.mp h).1
  rw [B.len] at hj
  obtain ⟨F', h1, h2⟩ := B.at_ j _ (List.getElem?_eq_getElem hj)
  rw [h] at h1
  cases h1
  exact ⟨_, List.getElem?_eq_getElem hj, h2⟩
theorem Bt.ef {k : Nat} {acc : List Fn} {done rest : List Df} (B : Bt P w K mg base e z gl k acc done) (C : Clf K mg z all) (ha : all = done ++ rest) (hg : ∀ (j : Nat) (x : Str), gls[j]? = some x → ∃ d v u, gl[j]? = some d ∧ mg x = some u ∧ RelV v u ∧ ∀ C, Rp (gd K z) C d v) (hf : ∀ x, x ∈ bnames → mg x = none) (N : List Str) :
    Ef ⟨acc, gl, mtF z.mtl, e.sb, z.kin, caF z.cal⟩ (ctAt e z gls done N) k P w (gd K z) (e.Y K) mg base := by
  have pre : ∀ {j : Nat} {d : Df}, done[j]? = some d → all[j]? = some d := fun {j d} q => by
    rw [ha, List.getElem?_append_left (List.getElem?_eq_some_iff.mp q).1]
    exact q
  have dt : ∀ {j : Nat} {x : Str} {a : Nat × Nat} {q : Nat}, (ctAt e z gls done N).fns[j]? = some x → (ctAt e z gls done N).ars[j]? = some a → (ctAt e z gls done N).kds[j]? = some q → ∃ d, done[j]? = some d ∧ x = d.nm ∧ a = (d.ps.length, d.dv.length) ∧ q = d.kd.n := fun {j x a q} h1 h2 h3 => by
    have h1 : (done.map (·.nm))[j]? = some x := h1
    have h2 : (done.map fun d => (d.ps.length, d.dv.length))[j]? = some a := h2
    have h3 : (done.map fun d => d.kd.n)[j]? = some q := h3
    rw [List.getElem?_map] at h1 h2 h3
    cases hd : done[j]? with
    | none => rw [hd] at h1; cases h1
    | some d =>
      rw [hd] at h1 h2 h3
      cases h1
      cases h2
      cases h3
      exact ⟨d, rfl, rfl, rfl, rfl⟩
  have isM : ∀ {d : Df} {F : Fn}, d.kd.isM = true → d.Ok P w K mg base e z gl k F → FnK P w (gd K z) (e.Y K) mg base k (d.ad K) F := fun {d F} h h' => by
    unfold Df.Ok at h'
    cases hk : d.kd with
    | fn => rw [hk] at h; cases h
    | star => rw [hk] at h; cases h
    | kw => rw [hk] at h; cases h
    | meth => rw [hk] at h'; exact h'
    | sup => rw [hk] at h'; exact h'
  have arq : ∀ {j : Nat} {d : Df}, done[j]? = some d → (ctAt e z gls done N).ars[j]? = some (d.ps.length, d.dv.length) := fun {j d} q => by
    show (done.map fun d => (d.ps.length, d.dv.length))[j]? = _
    rw [List.getElem?_map, q]
    rfl
  refine ⟨fun j x a h1 h2 h3 => ?_, hg, hf, fun j x a h1 h2 h3 => ?_, rfl, rfl, fun c m j mn F h1 h2 h3 => ?_, fun i j mn F h1 h2 => ?_, C.nw, C.fl, rfl, C.ca, C.fa, fun j x h1 h3 => ?_, C.is_⟩
  · obtain ⟨d, q1, rfl, rfl, q4⟩ := dt h1 h2 h3
    obtain ⟨F, w1, w2, w3, w4⟩ := B.at_ j d q1
    unfold Df.Ok at w4
    cases hk : d.kd with
    | fn =>
      rw [hk] at w4
      exact ⟨F, d.ad K, w1, w2, w3, w4.1, w4.2⟩
    | _ => rw [hk] at q4; cases q4
  · obtain ⟨d, q1, rfl, rfl, q4⟩ := dt h1 h2 h3
    obtain ⟨F, w1, w2, w3, w4⟩ := B.at_ j d q1
    unfold Df.Ok at w4
    cases hk : d.kd with
    | star =>
      rw [hk] at w4
      exact ⟨F, d.ad K, w1, w2, w4.1, w4.2⟩
    | _ => rw [hk] at q4; cases q4
  · obtain ⟨d, q1, q2, q3, q4⟩ := B.inv (show acc[j]? = some F from h3)
    obtain ⟨w1, w2, w3⟩ := C.mt c m j mn d h1 h2 (pre q1)
    exact ⟨⟨w2, d.ad K, w3, isM w1 q4⟩, _, arq q1, q2, q3⟩
  · obtain ⟨d, q1, q2, q3, q4⟩ := B.inv (show acc[j]? = some F from h2)
    obtain ⟨w1, w2⟩ := C.sp i j mn d h1 (pre q1)
    refine ⟨fun c hc => ?_, _, arq q1, q2, q3⟩
    obtain ⟨r1, r2, r3, r4⟩ := w2 c hc
    exact ⟨r1, d.ad K, r2, r3, r4, isM w1 q4⟩
  · have h1' : (done.map (·.nm))[j]? = some x := h1
    have h3' : (done.map fun d => d.kd.n)[j]? = some 3 := h3
    rw [List.getElem?_map] at h1' h3'
    cases hd : done[j]? with
    | none => rw [hd] at h1'; cases h1'
    | some d =>
      rw [hd] at h1' h3'
      have e1 : d.nm = x := Option.some.inj h1'
      have e3 : d.kd.n = 3 := Option.some.inj h3'
      obtain ⟨F, w1, w2, w3, w4⟩ := B.at_ j d hd
      unfold Df.Ok at w4
      cases hk : d.kd with
      | kw =>
        rw [hk] at w4
        obtain ⟨v1, v2, v3⟩ := w4
        exact ⟨F, d.ad K, w1, by rw [← e1]; exact v1, fun i h hi => v3 h (by rw [← v2]; exact List.mem_of_getElem? hi)⟩
      | fn => rw [hk] at e3; cases e3
      | star => rw [hk] at e3; cases e3
      | meth => rw [hk] at e3; cases e3
      | sup => rw [hk] at e3; cases e3
/-- the head's facts of a def -/
def Df.Hf (P : Program) (K : PySem.W.Frag) (mg : Str → Option Value) (d : Df) : Prop := d.Bn ∧ match d.kd with
  | .fn => mg d.nm = some (.ref (d.ad K)) ∧ ∃ fd, d.F K (d.ad K) fd
  | .star => mg d.nm = some (.ref (d.ad K)) ∧ ∃ fd, d.F K (d.ad K) fd
  | .kw => mg d.nm = some (.ref (d.ad K)) ∧ ∃ fd, d.F K (d.ad K) fd
  | .meth => ∃ fd, d.F K (d.ad K) fd
  | .sup => ∃ cc cda fd, SmO P K d.sm d.ps cc cda fd
abbrev ExA (P : Program) (w : World) (K : PySem.W.Frag) (mg : Str → Option Value) (base : Heap) (e : ErD) (z : Cld) (gls : List Str) : Prop := ∀ (ds : List Df) (N : List Str) (R : Pr), R.sub = e.sb → Ex R (ctAt e z gls ds N) P w (gd K z) (e.Y K) mg base
theorem def_fn {acc : List Fn} {done : List Df} {k : Nat} {d : Df} {f : Addr} {fd : FuncData} (two : 2 ≤ k) (hE : ∀ N, Ef ⟨acc, gl, mtF z.mtl, e.sb, z.kin, caF z.cal⟩ (ctAt e z gls done N) k P w (gd K z) (e.Y K) mg base) (hX : ExA P w K mg base e z gls)
    (h1 : scB d.N d.ps (defScope d.st) = true) (h4 : chkSs (ctAt e z gls done d.N) (defScope d.st) d.b (defBody d.st) = true) (cdv : Value) (A : Around) (outer : List PySem.Env) (s : Shared) (H C : Hp) (vs : List V) (as : List Sl) (E : XK) (hr : Room k (A.deeper (envOfC d.nm (defScope d.st) s.heap.objs.size f cdv))) :
    PSs (cxOf (L2.CX P w) P w K mg base d.N d.nm (defScope d.st) f cdv A outer s H E) (defBody d.st) (tS (txOf (gd K z) (e.Y K) H C vs as E) (exs ⟨acc, gl, mtF z.mtl, e.sb, z.kin, caF z.cal⟩ d.b)) := by
  have S := scB_ok h1
  refine sndSs (K := ctAt e z gls done d.N) (k := k) (sc := defScope d.st) d.b ?_ h4
  exact {
    N := rfl
    nd := S.nd
    sc := rfl
    hK := rfl
    calm := rfl
    room := hr
    tk := takes_of (X := cxOf (L2.CX P w) P w K mg base d.N d.nm (defScope d.st) f cdv A outer s H E) (E := E) rfl rfl rfl rfl
    ef := hE d.N
    pas := passes_of (X := cxOf (L2.CX P w) P w K mg base d.N d.nm (defScope d.st) f cdv A outer s H E) rfl
    fn := fun _ _ => .inl rfl
    stk := rfl
    frm := rfl
    two := two
    exs := hX done d.N _ rfl }
theorem def_fk {acc : List Fn} {done : List Df} {k : Nat} {d : Df} {f : Addr} {fd : FuncData} (two : 2 ≤ k) (hE : ∀ N, Ef ⟨acc, gl, mtF z.mtl, e.sb, z.kin, caF z.cal⟩ (ctAt e z gls done N) k P w (gd K z) (e.Y K) mg base) (hX : ExA P w K mg base e z gls)
    (h1 : scB d.N d.ps (defScope d.st) = true) (h3 : d.dv.all dvB = true) (h4 : chkSs (ctAt e z gls done d.N) (defScope d.st) d.b (defBody d.st) = true) (F : d.F K f fd) (B : d.Bp) : FnOk P w K mg base (L2.CX P w) (k + 1) f fd d.ps (spF (gd K z) (e.Y K) (d.fn gl e z acc)) ∧ FnK P w (gd K z) (e.Y K) mg base (k + 1) f (d.fn gl e z acc) := by
  have ok : FnOk P w K mg base (L2.CX P w) (k + 1) f fd d.ps (spF (gd K z) (e.Y K) (d.fn gl e z acc)) := fn_ok (dfl := d.dfl) (G := gd K z) (Y := e.Y K) (R := ⟨acc, gl, mtF z.mtl, e.sb, z.kin, caF z.cal⟩) F (scB_ok h1) rfl fun cdv A outer s H C vs as E hr => def_fn (fd := fd) two hE hX h1 h4 cdv A outer s H C vs as E hr
  refine ⟨ok, ⟨fd, d.ps, ok, rfl, fun n hn1 hn2 => ?_⟩, F.kp⟩
  have hn2 : d.ps.length - n ≤ d.dv.length := by
    have q : (d.fn gl e z acc).dfl.length = d.dv.length := List.length_map ..
    rw [q] at hn2
    exact hn2
  obtain ⟨ds, q1, q2⟩ := B K f fd F n hn1 hn2
  refine ⟨_, ds, q1, q2, fun C => ?_⟩
  show Rps (gd K z) C ((d.dv.map dvD).drop ((d.dv.map dvD).length - (d.ps.length - n))) _
  rw [List.length_map]
  exact Rps.drop _ (dv_rp h3)
abbrev Hga (K : PySem.W.Frag) (z : Cld) (gls : List Str) (gl : List D) : Prop := ∀ (j : Nat) (x : Str) (ds : List D), gls[j]? = some x → gl[j]? = some (.tup ds) → ∀ C, Rp (gd K z) C (.tup ds) (.ref (ga K x))
theorem misB_ok {C : Hp} (hga : Hga K z gls gl) : ∀ (s : List Sel) (vs : List Dv), misB gls vs s = true → ∀ md, misD gl s = some md → Rps (gd K z) C md (vs.map (Dv.v K))
  | [], vs, h, md, e => by
    cases e
    cases vs with
    | nil => exact Rps.nil.mpr rfl
    | cons v vs => cases v <;> (unfold misB at h; cases h)
  | .a _ :: s, vs, h, md, e => misB_ok hga s vs (by unfold misB at h; exact h) md e
  | .c d :: s, vs, h, md, e => by
    obtain ⟨r, e1, rfl⟩ := Option.map_eq_some_iff.mp (show (misD gl s).map (fun r => d :: r) = some md from e)
    cases vs with
    | nil => cases d <;> (unfold misB at h; cases h)
    | cons v vs =>
      cases v <;> cases d <;> first
        | (unfold misB at h; cases h; done)
        | skip
      · unfold misB at h
        exact Rps.cons.mpr ⟨_, _, rfl, Rp.non.mpr rfl, misB_ok hga s vs h r e1⟩
      · unfold misB at h
        obtain ⟨h1, h2⟩ := QL.ba h
        have := eq_of_beq h1
        subst this
        exact Rps.cons.mpr ⟨_, _, rfl, Rp.bl.mpr rfl, misB_ok hga s vs h2 r e1⟩
      · unfold misB at h
        obtain ⟨h1, h2⟩ := QL.ba h
        have := de h1
        subst this
        exact Rps.cons.mpr ⟨_, _, rfl, Rp.int.mpr rfl, misB_ok hga s vs h2 r e1⟩
      · unfold misB at h
        obtain ⟨h1, h2⟩ := QL.ba h
        have := de h1
        subst this
        exact Rps.cons.mpr ⟨_, _, rfl, Rp.str.mpr rfl, misB_ok hga s vs h2 r e1⟩
  | .g j y :: s, vs, h, md, e => by
    obtain ⟨d, e0, e2⟩ := Option.bind_eq_some_iff.mp (show ((selD gl [] (.g j y)).bind fun d => (misD gl s).map fun r => d :: r) = some md from e)
    obtain ⟨r, e1, rfl⟩ := Option.map_eq_some_iff.mp e2
    cases vs with
    | nil => unfold misB at h; cases h
    | cons v vs =>
      cases v <;> first
        | (unfold misB at h; cases h; done)
        | skip
      rename_i x
      unfold misB at h
      obtain ⟨h1, h⟩ := QL.ba h
      obtain ⟨h2, h3⟩ := QL.ba h
      have e0 : (match gl[j]? with
        | some (.tup ds) => some (D.tup ds)
        | _ => none) = some d := e0
      split at e0
      · rename_i ds eg
        cases e0
        exact Rps.cons.mpr ⟨_, _, rfl, hga j x ds (de h2) eg C, misB_ok hga s vs h3 r e1⟩
      · cases e0
/-- a def with keyword-only parameters -/
theorem def_kw {acc : List Fn} {done : List Df} {k : Nat} {d : Df} {f : Addr} {fd : FuncData} (two : 2 ≤ k) (hE : ∀ N, Ef ⟨acc, gl, mtF z.mtl, e.sb, z.kin, caF z.cal⟩ (ctAt e z gls done N) k P w (gd K z) (e.Y K) mg base) (hX : ExA P w K mg base e z gls) (hga : Hga K z gls gl)
    (h1 : scB d.N d.ps (defScope d.st) = true) (h2 : d.dv.isEmpty = true) (h3 : (d.shs.all fun h => decide (h.sel.length = d.ps.length) && misB gls ((d.mis h).map (·.2)) h.sel) = true) (h4 : chkSs (ctAt e z gls done d.N) (defScope d.st) d.b (defBody d.st) = true) (F : d.F K f fd) (B : ∀ h ∈ d.shs, d.BkS h) :
    ∀ h ∈ d.shs, FnN P w (gd K z) (e.Y K) mg base (k + 1) f (d.fn gl e z acc) h gl := by
  have ok : FnOk P w K mg base (L2.CX P w) (k + 1) f fd d.ps (spF (gd K z) (e.Y K) (QL.mk ⟨acc, gl, mtF z.mtl, e.sb, z.kin, caF z.cal⟩ d.ps.length d.N.length d.dfl d.b)) := fn_ok (G := gd K z) (Y := e.Y K) (R := ⟨acc, gl, mtF z.mtl, e.sb, z.kin, caF z.cal⟩) F (scB_ok h1) rfl fun cdv A outer s H C vs as E hr => def_fn (fd := fd) two hE hX h1 h4 cdv A outer s H C vs as E hr
  intro h hh
  obtain ⟨c1, c2⟩ := QL.ba (List.all_eq_true.mp h3 h hh)
  have b := B h hh
  have e0 : d.dd.dvs K = [] := by
    show d.dv.map (Dv.v K) = []
    rw [List.isEmpty_iff.mp h2]; rfl
  have F' : FunD K d.fnm d.nm (defArgs d.st) (defBody d.st) (defScope d.st) [] (d.dd.kws K) f fd := by
    have F : FunD K d.fnm d.nm (defArgs d.st) (defBody d.st) (defScope d.st) (d.dd.dvs K) (d.dd.kws K) f fd := F
    rw [e0] at F
    exact F
  have rel : ∀ (mz : List V), mz = ((d.mis h).map (·.2)).map (Dv.v K) → ∀ (C : Hp) (ds es as : List D) (vs zs : List V), Rps (gd K z) C ds vs → Rps (gd K z) C es zs → vs.length = h.n → zs.length = h.ks.length → selDs gl (ds ++ es) h.sel = some as → as.length = (d.fn gl e z acc).np ∧ Rps (gd K z) C as (gS (vs ++ zs) h.sel mz) := fun mz hm C ds es as vs zs r1 r2 _ _ hs => by
    obtain ⟨q1, q2⟩ := gS_rps (r1.append r2) h.sel (mz := mz) (fun md hmd => by rw [hm]; exact misB_ok hga h.sel _ c2 md hmd) hs
    exact ⟨q2.trans (de c1), q1⟩
  cases hm : d.mis h with
  | nil =>
    unfold Df.BkS at b
    rw [hm] at b
    exact ⟨⟨fd, d.ps, _, _, ok, kb_all F' b, rel [] (by rw [hm]; rfl)⟩, F.kp⟩
  | cons q r =>
    unfold Df.BkS at b
    rw [hm] at b
    have q0 : q ∈ d.mis h := by rw [hm]; exact List.mem_cons_self ..
    have q1 : q ∈ d.kw := (List.mem_filter.mp q0).1
    have q2 : (q.1, q.2.v K) ∈ d.dd.kws K := List.mem_map.mpr ⟨q, q1, rfl⟩
    obtain ⟨mv, kb⟩ := kb_some F' ((d.mis h).map fun q => (q.1, q.2.v K)) (fun z => by
      rw [z] at q2
      cases q2) (fun q hq => by
      obtain ⟨p, hp, rfl⟩ := List.mem_map.mp hq
      exact List.mem_map.mpr ⟨p, (List.mem_filter.mp hp).1, rfl⟩) (n := h.n) (ks := h.ks) (sel := h.sel) (ps := d.ps) (fun D doc pm an cdv ct us mv ws l1 l2 l3 => by
      have := b D doc pm an cdv ct us mv ws l1 (by rw [l2, hm]; simp) l3
      rw [hm, List.map_map]
      exact this)
    exact ⟨⟨fd, d.ps, _, _, ok, kb, rel _ (by rw [List.map_map, List.map_map]; rfl)⟩, F.kp⟩
/-- one more def -/
theorem def_ok {acc : List Fn} {done : List Df} {k : Nat} {d : Df} (two : 2 ≤ k) (hE : ∀ N, Ef ⟨acc, gl, mtF z.mtl, e.sb, z.kin, caF z.cal⟩ (ctAt e z gls done N) k P w (gd K z) (e.Y K) mg base) (hX : ExA P w K mg base e z gls) (hga : Hga K z gls gl) (top : (P.main.scope.names.lookup ("super" : Str)).isSome = false) (sup : mg "super" = none) (th : PySem.W.nsIn K cStatics "thirdparty.any" = some none)
    (hc : d.chk e z gls done = true) (hf : d.Hf P K mg) : d.Ok P w K mg base e z gl (k + 1) (d.fn gl e z acc) := by
  obtain ⟨hb, hf⟩ := hf
  unfold Df.Bn at hb
  unfold Df.chk at hc
  unfold Df.Ok
  cases hk : d.kd with
  | fn =>
    rw [hk] at hc hb hf
    dsimp only at hc hb hf ⊢
    obtain ⟨h1, h2⟩ := QL.ba hc
    obtain ⟨h3, h4⟩ := QL.ba h2
    obtain ⟨g, fd, F⟩ := hf
    exact ⟨g, (def_fk two hE hX h1 h3 h4 F hb).2⟩
  | kw =>
    rw [hk] at hc hb hf
    dsimp only at hc hb hf ⊢
    obtain ⟨h1, h⟩ := QL.ba hc
    obtain ⟨h2, h⟩ := QL.ba h
    obtain ⟨h3, h4⟩ := QL.ba h
    obtain ⟨g, fd, F⟩ := hf
    exact ⟨g, rfl, def_kw two hE hX hga h1 h2 h3 h4 F hb⟩
  | meth =>
    rw [hk] at hc hb hf
    dsimp only at hc hb hf ⊢
    obtain ⟨h1, h2⟩ := QL.ba hc
    obtain ⟨h3, h4⟩ := QL.ba h2
    obtain ⟨fd, F⟩ := hf
    exact (def_fk two hE hX h1 h3 h4 F hb).2
  | star =>
    rw [hk] at hc hb hf
    dsimp only at hc hb hf ⊢
    obtain ⟨h1, h2⟩ := QL.ba hc
    obtain ⟨h3, h4⟩ := QL.ba h2
    obtain ⟨g, fd, F⟩ := hf
    obtain ⟨ps, pv, ep, hbd⟩ := hb
    have h3 : d.dv = [] := List.isEmpty_iff.mp h3
    have F' : FunD K d.fnm d.nm (defArgs d.st) (defBody d.st) (defScope d.st) [] (d.dd.kws K) (d.ad K) fd := by
      have q : d.dd.dvs K = [] := by
        show d.dv.map (Dv.v K) = []
        rw [h3]; rfl
      have F : FunD K d.fnm d.nm (defArgs d.st) (defBody d.st) (defScope d.st) (d.dd.dvs K) (d.dd.kws K) (d.ad K) fd := F
      rw [q] at F
      exact F
    have S := scB_ok h1
    rw [ep] at S
    have r := fn_okS (P := P) (w := w) (mg := mg) (base := base) (G := gd K z) (Y := e.Y K) (R := ⟨acc, gl, mtF z.mtl, e.sb, z.kin, caF z.cal⟩) (dfl := d.dfl) (b := d.b) (k := k) F' S hbd fun cdv A outer s H C vs as E hr => def_fn (fd := fd) two hE hX h1 h4 cdv A outer s H C vs as E hr
    refine ⟨g, ?_⟩
    have el : d.ps.length = ps.length + 1 := by rw [ep, List.length_append]; rfl
    unfold Df.fn
    rw [el]
    exact ⟨r.ex, r.kp⟩
  | sup =>
    rw [hk] at hc hb hf
    dsimp only at hc hb hf ⊢
    obtain ⟨h1, h⟩ := QL.ba hc
    obtain ⟨h2, h⟩ := QL.ba h
    obtain ⟨h3, h⟩ := QL.ba h
    obtain ⟨h4, h5⟩ := QL.ba h
    obtain ⟨cc, cda, fd, O⟩ := hf
    have ea : d.ad K = d.sm.ad K := by
      unfold Df.ad Df.at_
      rw [hk]
      rfl
    have hcl : (gd K z).cl d.dc = ga K d.cl := by
      show ga K (z.cls.getD d.dc "") = _
      rw [List.getD_eq_getElem?_getD, de h4]; rfl
    have r := fn_okM (w := w) (base := base) (G := gd K z) (Y := e.Y K) (R := ⟨acc, gl, mtF z.mtl, e.sb, z.kin, caF z.cal⟩) (d := d.sm) (k := k) O hb h1 (de h3) hcl top sup th two rfl (hE d.N) (hX done d.N _ rfl) h5
    have ed : d.dfl = [] := by
      unfold Df.dfl
      rw [List.isEmpty_iff.mp h2]; rfl
    unfold Df.fn
    rw [ed, ea]
    exact ⟨r.ex, r.kp⟩
/-- all of them -/
theorem build (C : Clf K mg z all) (hg : ∀ (j : Nat) (x : Str), gls[j]? = some x → ∃ d v u, gl[j]? = some d ∧ mg x = some u ∧ RelV v u ∧ ∀ C, Rp (gd K z) C d v) (hfr : ∀ x, x ∈ bnames → mg x = none) (hX : ExA P w K mg base e z gls) (hga : Hga K z gls gl) (top : (P.main.scope.names.lookup ("super" : Str)).isSome = false) (sup : mg "super" = none) (th : PySem.W.nsIn K cStatics "thirdparty.any" = some none) :
    ∀ (ds rest done : List Df) (acc : List Fn) (k : Nat), all = done ++ (ds ++ rest) → 2 ≤ k → Bt P w K mg base e z gl k acc done → chkGo e z gls done ds = true → (∀ d ∈ ds, d.Hf P K mg) → Bt P w K mg base e z gl (k + ds.length) (tabGo gl e z acc ds) (done ++ ds)
  | [], rest, done, acc, k, _, _, B, _, _ => by
    rw [List.append_nil]
    exact B
  | d :: ds, rest, done, acc, k, ha, h2, B, hc, hd => by
    obtain ⟨c1, c2⟩ := QL.ba (show (d.chk e z gls done && chkGo e z gls (done ++ [d]) ds) = true from hc)
    have FK := def_ok h2 (B.ef C ha hg hfr) hX hga top sup th c1 (hd d (List.mem_cons_self ..))
    have step := build C hg hfr hX hga top sup th ds rest (done ++ [d]) (acc ++ [d.fn gl e z acc]) (k + 1) (by rw [ha]; simp) (by omega) ⟨by simp [B.len], fun j d' q => ?_⟩ c2 fun d' hd' => hd d' (List.mem_cons_of_mem _ hd')
    · rw [List.append_assoc, List.singleton_append] at step
      rw [List.length_cons, show k + (ds.length + 1) = k + 1 + ds.length by omega]
      exact step
    · by_cases hj : j < done.length
      · rw [List.getElem?_append_left hj] at q
        obtain ⟨F, q1, q2, q3, q4⟩ := B.at_ j d' q
        exact ⟨F, by rw [List.getElem?_append_left (by rw [B.len]; exact hj)]; exact q1, q2, q3, q4.mono (Nat.le_succ k)⟩
      · have ej : j = done.length := by
          have := (List.getElem?_eq_some_iff.mp q).1
          rw [List.length_append] at this
          simp at this
          omega
        subst ej
        rw [List.getElem?_append_right (Nat.le_refl _), Nat.sub_self] at q
        cases q
        refine ⟨_, ?_, rfl, List.length_map .., FK⟩
        rw [← B.len, List.getElem?_append_right (Nat.le_refl _), Nat.sub_self]
        rfl
end

/-! ### the module's constants -/
mutual
def gvB (K : PySem.W.Frag) : D → Value → Bool
  | .non, u => (match u with
    | .none => true
    | _ => false)
  | .bl a, u => (match u with
    | .bool b => a == b
    | _ => false)
  | .int i, u => (match u with
    | .int j _ => decide (j = i)
    | _ => false)
  | .str x, u => (match u with
    | .str y _ => decide (y = x)
    | _ => false)
  | .tup ds, u => (match u with
    | .ref a => (match K.lookup a with
      | some ⟨.type c, _, .seq its _, _⟩ => decide (c = "tuple") && (decide (its.size ≤ sizeLine) && gvBs K ds its.toList)
      | _ => false)
    | _ => false)
  | _, _ => false
def gvBs (K : PySem.W.Frag) : List D → List Value → Bool
  | [], us => us.isEmpty
  | d :: ds, us => (match us with
    | u :: us => gvB K d u && gvBs K ds us
    | [] => false)
end
section
variable {K : PySem.W.Frag} {z : Cld}
mutual
theorem gvB_ok : ∀ (d : D) (u : Value), gvB K d u = true → ∃ v, RelV v u ∧ ∀ C, Rp (gd K z) C d v
  | .non, u, h => by
    unfold gvB at h
    split at h
    · exact ⟨.non, rfl, fun C => Rp.non.mpr rfl⟩
    · cases h
  | .bl a, u, h => by
    unfold gvB at h
    split at h
    · rename_i b
      have : a = b := by simpa using h
      subst this
      exact ⟨.bl a, rfl, fun C => Rp.bl.mpr rfl⟩
    · cases h
  | .int i, u, h => by
    unfold gvB at h
    split at h
    · rename_i j t
      have := de h
      subst this
      exact ⟨.int j, ⟨t, rfl⟩, fun C => Rp.int.mpr rfl⟩
    · cases h
  | .str x, u, h => by
    unfold gvB at h
    split at h
    · rename_i y t
      have := de h
      subst this
      exact ⟨.str y, ⟨t, rfl⟩, fun C => Rp.str.mpr rfl⟩
    · cases h
  | .tup ds, u, h => by
    unfold gvB at h
    split at h
    · rename_i a
      split at h
      · rename_i c od its n osl lk
        obtain ⟨h1, h⟩ := QL.ba h
        obtain ⟨h2, h3⟩ := QL.ba h
        have h1 := de h1
        subst h1
        obtain ⟨vs, r1, r2⟩ := gvBs_ok ds its.toList h3
        exact ⟨.ref a, rfl, fun C => Rp.tup.mpr ⟨a, vs, rfl, .inr ⟨_, its, n, lk, rfl, rfl, de h2, r1⟩, r2 C⟩⟩
      · cases h
    · cases h
  | .lst _, _, h => by unfold gvB at h; cases h
  | .rol _, _, h => by unfold gvB at h; cases h
  | .dic _ _, _, h => by unfold gvB at h; cases h
  | .ob _ _ _, _, h => by unfold gvB at h; cases h
theorem gvBs_ok : ∀ (ds : List D) (us : List Value), gvBs K ds us = true → ∃ vs, Vals vs us ∧ ∀ C, Rps (gd K z) C ds vs
  | [], us, h => by
    unfold gvBs at h
    rw [List.isEmpty_iff.mp h]
    exact ⟨[], .nil, fun C => Rps.nil.mpr rfl⟩
  | d :: ds, us, h => by
    unfold gvBs at h
    split at h
    · rename_i u us
      obtain ⟨h1, h2⟩ := QL.ba h
      obtain ⟨v, r1, r2⟩ := gvB_ok d u h1
      obtain ⟨vs, r3, r4⟩ := gvBs_ok ds us h2
      exact ⟨v :: vs, .cons r1 r3, fun C => Rps.cons.mpr ⟨v, vs, rfl, r2 C, r4 C⟩⟩
    · cases h
end
end
def gnB (K : PySem.W.Frag) (x : Str) (d : D) : Bool := match PySem.W.nsIn K mainGlobals x with
  | some (some u) => gvB K d u
  | _ => false

/-! ### the head's Hook -/
structure Hd where
  n : Nat
  ds : List Df
  e : ErD
  gls : List Str
  gi : List D
  z : Cld := ⟨[], [], [], [], [], [], [], []⟩
def Df.isF (d : Df) : Bool := !d.kd.isM
def Df.isS (d : Df) : Bool := decide (d.kd = .sup)
def Hd.fs (h : Hd) : List Df := h.ds.filter Df.isF
def Hd.ns (h : Hd) : List Df := h.ds.filter fun d => !d.isS
def Hd.ss (h : Hd) : List Df := h.ds.filter Df.isS
def Hd.fa (h : Hd) : List Fa := h.fs.map (fun d => .glo d.nm) ++ ((h.e.xcs ++ h.z.cls).map .glo ++ ((("super" : Str) :: bnames).map .free))
def Hd.gl (h : Hd) : List D := h.gi
def Hd.fr (h : Hd) (g : Addr → Option Obj) : PySem.W.Frag := frG g (cStatics :: asD g h.n)
abbrev AlQ : Type := AlD × (List IniV × (List IniV × Bool))
def Hd.obs (h : Hd) (P : Program) (K : PySem.W.Frag) : AlQ := (obsD h.fa (h.ns.map Df.dd) K, (h.e.ins.map (iniW K), (h.ss.map fun d => d.sm.w K, h.e.ok P K && (h.ss.all (fun d => d.sm.ok P K) && (h.z.ok h.ds K && (h.gls.zip h.gi).all fun q => gnB K q.1 q.2)))))
def Hd.val (h : Hd) : AlQ := (valD (h.ns.map Df.dd), (h.e.ins.map IniD.val, (h.ss.map fun d => d.sm.val, true)))
def Hd.hook (h : Hd) (P : Program) : PySem.W.Hook where
  α := AlQ
  obs := fun s => h.obs P (h.fr s.heap.get?)
  val := fun _ => h.val
  says := fun _ hp => ∃ K : PySem.W.Frag, K.In hp ∧ h.obs P K = h.val
  of := fun _ _ e => ⟨_, frG_in, e⟩
  keeps := fun _ _ _ ⟨K, hK, c⟩ k => ⟨K, PySem.W.Frag.In.keeps hK k, c⟩
def Hd.ob (h : Hd) (P : Program) (s : PySem.W.SharedT) : AlQ := h.obs P (h.fr (HandSHeadRun.getT s))
theorem Hd.ob_eq (h : Hd) (P : Program) (s : PySem.W.SharedT) : h.ob P s = (h.hook P).obs s.abs := by
  have e : HandSHeadRun.getT s = s.abs.heap.get? := funext (HandSHeadRun.getT_eq s)
  show h.obs P (h.fr (HandSHeadRun.getT s)) = h.obs P (h.fr s.abs.heap.get?)
  rw [e]

theorem chk_app {e : ErD} {z : Cld} {gls : List Str} : ∀ {ds : List Df} {d : Df} {done : List Df}, chkGo e z gls done (ds ++ [d]) = true → chkGo e z gls done ds = true ∧ d.chk e z gls (done ++ ds) = true
  | [], d, done, h => by
    rw [List.append_nil]
    exact ⟨rfl, (QL.ba (show (d.chk e z gls done && true) = true from h)).1⟩
  | c :: ds, d, done, h => by
    obtain ⟨h1, h2⟩ := QL.ba (show (c.chk e z gls done && chkGo e z gls (done ++ [c]) (ds ++ [d])) = true from h)
    obtain ⟨h3, h4⟩ := chk_app h2
    rw [List.append_assoc] at h4
    exact ⟨by show (c.chk e z gls done && _) = true; rw [h1, h3]; rfl, h4⟩
/-- from the head's facts: the law's def keeps its promise -/
theorem law_ok {P : Program} {w : World} {K : PySem.W.Frag} {mg : Str → Option Value} {hp base : Heap} {h : Hd} {ds : List Df} {d : Df} (KX : K.In hp) (G : hp.Ns mainGlobals mg) (c : h.obs P K = h.val) (hs : h.ds = ds ++ [d]) (hkd : d.kd = .fn) (hc : chkGo h.e h.z h.gls [] h.ds = true) (hb : ∀ d ∈ h.ds, d.Bn) (hi : ∀ d ∈ h.e.ins, IniS d)
    (top : (P.main.scope.names.lookup ("super" : Str)).isSome = false) (hl : h.e.xrs.all (fun q => decide (q.1 < h.e.xfs.length)) = true) (hg : h.gls.length = h.gi.length) :
    mg d.nm = some (.ref (d.ad K)) ∧ ∃ fd, d.F K (d.ad K) fd ∧ ∀ base, FnOk P w K mg base (L2.CX P w) (2 + ds.length + 1) (d.ad K) fd d.ps (spF (gd K h.z) (h.e.Y K) (d.fn h.gl h.e h.z (tabGo h.gl h.e h.z [] ds))) := by
  have c1 : SaysD h.fa (h.ns.map Df.dd) K := congrArg (fun z : AlQ => z.1) c
  have c2 : h.e.ins.map (iniW K) = h.e.ins.map IniD.val := congrArg (fun z : AlQ => z.2.1) c
  have c4 : (h.ss.map fun d => d.sm.w K) = h.ss.map fun d => d.sm.val := congrArg (fun z : AlQ => z.2.2.1) c
  have c5 : (h.e.ok P K && (h.ss.all (fun d => d.sm.ok P K) && (h.z.ok h.ds K && (h.gls.zip h.gi).all fun q => gnB K q.1 q.2))) = true := congrArg (fun z : AlQ => z.2.2.2) c
  obtain ⟨c3, c5⟩ := QL.ba c5
  obtain ⟨c6, c8⟩ := QL.ba c5
  obtain ⟨c7, c9⟩ := QL.ba c8
  have fact : ∀ {f : Fa}, f ∈ h.fa → f.ok K = true := fun {f} hf => by
    obtain ⟨i, hi, e⟩ := List.mem_iff_getElem.mp hf
    exact c1.fact i (f := f) (by rw [List.getElem?_eq_getElem hi, e])
  have adF : ∀ {d : Df}, d.kd.isM = false → d.ad K = ga K d.nm := fun {d} q => by
    unfold Df.ad Df.at_
    rw [q]
    rfl
  have gD : ∀ d ∈ h.ds, d.kd.isM = false → mg d.nm = some (.ref (d.ad K)) := fun d hd q => by
    rw [adF q]
    exact glo_ok KX G (fact (List.mem_append_left _ (List.mem_map.mpr ⟨d, List.mem_filter.mpr ⟨hd, by unfold Df.isF; rw [q]; rfl⟩, rfl⟩)))
  have gX : ∀ x ∈ h.e.xcs ++ h.z.cls, mg x = some (.ref (ga K x)) := fun x hx => glo_ok KX G (fact (List.mem_append_right _ (List.mem_append_left _ (List.mem_map.mpr ⟨x, hx, rfl⟩))))
  have gF : ∀ x ∈ (("super" : Str) :: bnames), mg x = none := fun x hx => free_ok KX G (fact (List.mem_append_right _ (List.mem_append_right _ (List.mem_map.mpr ⟨x, hx, rfl⟩))))
  have gI : ∀ (j : Nat) (x : Str) (d : D), h.gls[j]? = some x → h.gi[j]? = some d → ∃ u, mg x = some u ∧ gvB K d u = true := fun j x d h1 h2 => by
    have w := List.all_eq_true.mp c9 (x, d) (List.mem_of_getElem? (i := j) (by rw [List.getElem?_zip_eq_some]; exact ⟨h1, h2⟩))
    dsimp only at w
    unfold gnB at w
    split at w
    · rename_i u hu
      exact ⟨u, PySem.W.mg_of KX G hu, w⟩
    · cases w
  have fD : ∀ d ∈ h.ds, d.isS = false → ∃ fd, d.F K (d.ad K) fd := fun d hd q => by
    have hm : d ∈ h.ns := List.mem_filter.mpr ⟨hd, by rw [q]; rfl⟩
    obtain ⟨i, hi, e⟩ := List.mem_iff_getElem.mp hm
    exact c1.def_ i (d := d.dd) (by rw [List.getElem?_map, List.getElem?_eq_getElem hi, e]; rfl)
  have hf : ∀ d ∈ h.ds, d.Hf P K mg := fun d hd => by
    refine ⟨hb d hd, ?_⟩
    cases hk : d.kd with
    | fn => exact ⟨gD d hd (by rw [hk]; rfl), fD d hd (by unfold Df.isS; rw [hk]; rfl)⟩
    | star => exact ⟨gD d hd (by rw [hk]; rfl), fD d hd (by unfold Df.isS; rw [hk]; rfl)⟩
    | kw => exact ⟨gD d hd (by rw [hk]; rfl), fD d hd (by unfold Df.isS; rw [hk]; rfl)⟩
    | meth => exact fD d hd (by unfold Df.isS; rw [hk]; rfl)
    | sup =>
      have hm : d ∈ h.ss := List.mem_filter.mpr ⟨hd, by unfold Df.isS; rw [hk]; rfl⟩
      have b := hb d hd
      unfold Df.Bn at b
      rw [hk] at b
      refine sm_of b ?_ (List.all_eq_true.mp c6 d hm)
      obtain ⟨i, hi, e⟩ := List.mem_iff_getElem.mp hm
      have q : (h.ss.map fun d => d.sm.w K)[i]? = (h.ss.map fun d => d.sm.val)[i]? := by rw [c4]
      rw [List.getElem?_map, List.getElem?_map, List.getElem?_eq_getElem hi, e] at q
      exact Option.some.inj q
  have C := clf_of (mg := mg) c7 fun x hx => gX x (List.mem_append_right _ hx)
  have th : PySem.W.nsIn K cStatics "thirdparty.any" = some none := by
    unfold ErD.ok at c3
    exact de (QL.ba c3).1
  have dm : d ∈ h.ds := by rw [hs]; exact List.mem_append_right _ (List.mem_singleton.mpr rfl)
  rw [hs] at hc
  obtain ⟨k1, k2⟩ := chk_app hc
  obtain ⟨fd, F⟩ := fD d dm (by unfold Df.isS; rw [hkd]; rfl)
  refine ⟨gD d dm (by rw [hkd]; rfl), fd, F, fun base => ?_⟩
  have hX : ExA P w K mg base h.e h.z h.gls := fun ds N R hR => er_ok rfl rfl rfl rfl c3 c2 hi top (gF _ (List.mem_cons_self ..)) (fun x hx => gX x (List.mem_append_left _ hx)) hR hl
  have hg2 : ∀ (j : Nat) (x : Str), h.gls[j]? = some x → ∃ d v u, h.gl[j]? = some d ∧ mg x = some u ∧ RelV v u ∧ ∀ C, Rp (gd K h.z) C d v := fun j x h1 => by
    have hj := (List.getElem?_eq_some_iff.mp h1).1
    obtain ⟨u, q1, q2⟩ := gI j x _ h1 (List.getElem?_eq_getElem (by omega))
    obtain ⟨v, r1, r2⟩ := gvB_ok (z := h.z) _ u q2
    exact ⟨_, v, u, (List.getElem?_eq_getElem (l := h.gi) (by omega) : h.gi[j]? = some _), q1, r1, r2⟩
  have hga : Hga K h.z h.gls h.gl := fun j x ds h1 h2 C => by
    have w := List.all_eq_true.mp c9 (x, .tup ds) (List.mem_of_getElem? (i := j) (by rw [List.getElem?_zip_eq_some]; exact ⟨h1, h2⟩))
    dsimp only at w
    unfold gnB at w
    split at w
    · rename_i u hu
      obtain ⟨v, r1, r2⟩ := gvB_ok (z := h.z) _ u w
      obtain ⟨a, xs, rfl, r3⟩ := Rp.tup.mp (r2 C)
      have eu : u = .ref a := r1
      have e : ga K x = a := by
        unfold ga
        rw [hu, eu]
      rw [e]
      exact r2 C
    · cases w
  have BT := build (w := w) (base := base) (gl := h.gl) C hg2 (fun x hx => gF x (List.mem_cons_of_mem _ hx)) hX hga top (gF _ (List.mem_cons_self ..)) th ds [d] [] [] 2 (by rw [hs]; rfl) (Nat.le_refl _) ⟨rfl, fun j d q => by simp at q⟩ k1 fun d' hd' => hf d' (by rw [hs]; exact List.mem_append_left _ hd')
  have EF := BT.ef (gl := h.gl) C (rest := [d]) (by rw [hs]; rfl) hg2 fun x hx => gF x (List.mem_cons_of_mem _ hx)
  have b := hb d dm
  unfold Df.Bn at b
  unfold Df.chk at k2
  rw [hkd] at b k2
  obtain ⟨h1, h2⟩ := QL.ba k2
  obtain ⟨h3, h4⟩ := QL.ba h2
  exact (def_fk (by omega) EF hX h1 h3 h4 F b).1
theorem ints_rp {G : Gd} {C : Hp} : ∀ {ns : List Int}, Rps G C (ns.map D.int) (ns.map V.int)
  | [] => Rps.nil.mpr rfl
  | n :: ns => Rps.cons.mpr ⟨_, _, rfl, Rp.int.mpr rfl, ints_rp⟩
/-- the law's promise, from the small def's run -/
theorem sp_law {G : Gd} {Y : Xg} {F : Fn} {H : Hp} {a : Addr} {ns : List Int} (hn : F.np = 1) (hS : SqL G.K H a (ns.map V.int)) (hr : ∃ outs, F.run [.fz (.rol (ns.map D.int))] = .ok (.fz (.bl true)) outs) : spF G Y F [.ref a] H (fun v _ => v = .bl true) fun _ _ _ => False := by
  obtain ⟨outs, hr⟩ := hr
  refine ⟨[.fz (.rol (ns.map D.int))], H, ⟨rfl, L2.Same.refl _, fun i s v h1 h2 => ?_, fun i j x y b ne h1 => ?_⟩, hn.symm, ?_⟩
  · match i, h1, h2 with
    | 0, h1, h2 =>
      cases h1
      cases h2
      exact Rp.rol.mpr ⟨a, _, rfl, hS, ints_rp⟩
    | i + 1, h1, h2 => simp at h1
  · match i, h1 with
    | 0, h1 => cases h1
    | i + 1, h1 => simp at h1
  · rw [hr]
    exact fun v H' C' _ hv => Rp.bl.mp (show Rp G C' (.bl true) v from hv)
/-! ### the end -/
theorem walk_q {l : PySem.W.OpenLaw} {n k : Nat} {q : Program} {loose : List Str} {XP : (Str → Option Value) → Heap → Prop} {YP : World → Heap → Prop} {d : DefRec} {x : Str}
    (hn : l.most = some n) (hn2 : n ≤ sizeLine) (hdf : d.params.defaults = []) (hr : Room k callerA)
    (F : ∀ (w : World) (mg : Str → Option Value) (fa : Addr) (h : Heap), YP w h → h.Ns mainGlobals mg → mg d.name = some (.ref fa) →
      ∃ (K : PySem.W.Frag) (fd : FuncData) (sp : Sp), K.In h ∧ (∀ (s : Shared) (u : Value), BindsTo s fd ⟨[u], []⟩ [(x, u)]) ∧
        (∀ (H : Hp) (a : Addr) (ns : List Int), ns.length ≤ n → SqL K H a (ns.map V.int) → sp [.ref a] H (fun v _ => v = .bl true) fun _ _ _ => False) ∧
        ∀ base : Heap, K.In base → base.Ns mainGlobals mg → FnOk l.prog w K mg base (L2.CX l.prog w) k fa fd [x] sp) :
    PySem.W.WalkO q loose XP YP l.row.toRowW d [] (fun f vs => PySem.call f vs) := by
  refine Att.attach_call hn hdf fun w s₀ s₁ mg mb fa o pm cd doc a vs ns G Y ho hd hcd hmg hobj hints hlen hg => ?_
  obtain ⟨K, fd, sp, KX, hb, hsp, hF⟩ := F w mg fa _ Y G.T.g hmg
  refine law_call KX G.T.g G.T.b G.T.builtins G.T.nolimit hg hobj hints (Nat.le_trans hlen hn2) hr hF hb (fun H hO hS => hsp H a ns hlen hS) fun H er s' z => ?_
  obtain ⟨_, _, _, _, _, _, _, _, _, _, _, _, zz⟩ := z
  exact zz.elim
end QL

end
section
set_option Elab.async false
set_option linter.all false
set_option maxRecDepth 100000
/-! QW: the small syntax walked by its plain meaning: what is wanted ahead of each part. -/
namespace QL
open PySem

def Rs.W {α : Type} (r : Rs α) (Q : α → Env → Prop) (E : Xn → Env → Prop) : Prop := match r with
  | .ok a δ => Q a δ
  | .er x δ => E x δ
  | .no => False
/-- a def's run -/
def Fn.Runs (f : Fn) (as : List Sl) (Q : Rv → List Sl → Prop) (E : Xn → List Sl → Prop) : Prop := match f.run as with
  | .ok r outs => Q r outs
  | .er x outs => E x outs
  | .no => False
/-- nothing leaves -/
abbrev noE : Xn → Env → Prop := fun _ _ => False
section
variable {α β : Type} {Q : α → Env → Prop} {E : Xn → Env → Prop} {δ : Env} {P : Pr}
theorem w_ok {a : α} : (Rs.ok a δ).W Q E ↔ Q a δ := Iff.rfl
theorem w_er {x : Xn} : (Rs.er x δ : Rs α).W Q E ↔ E x δ := Iff.rfl
theorem w_no : (Rs.no : Rs α).W Q E ↔ False := Iff.rfl
theorem w_bind {r : Rs β} {f : β → Env → Rs α} : (r.bind f).W Q E ↔ r.W (fun a δ => (f a δ).W Q E) E := by cases r <;> rfl
theorem w_opt {o : Option α} : (optR o δ).W Q E ↔ ∃ a, o = some a ∧ Q a δ := by
  cases o with
  | none => exact ⟨fun h => h.elim, fun ⟨_, h, _⟩ => by cases h⟩
  | some a => exact ⟨fun h => ⟨a, rfl, h⟩, fun ⟨_, h, q⟩ => by cases h; exact q⟩
theorem w_mono {r : Rs α} {Q' : α → Env → Prop} {E' : Xn → Env → Prop} (h : r.W Q E) (hq : ∀ a δ, Q a δ → Q' a δ) (he : ∀ x δ, E x δ → E' x δ) : r.W Q' E' := by
  cases r with
  | ok a δ => exact hq _ _ h
  | er x δ => exact he _ _ h
  | no => exact h
theorem ite_opt {p : Prop} [Decidable p] {a b : α} : ((if p then some a else none) = some b) ↔ (p ∧ a = b) := by
  by_cases h : p <;> simp [h]
end
section
variable {Q : Rv → Env → Prop} {E : Xn → Env → Prop} {δ : Env} {P : Pr}
theorem _root_.List.set_getElem?_self' {α : Type} {l : List α} {i : Nat} {a : α} (h : l[i]? = some a) : l.set i a = l := by
  obtain ⟨h1, h2⟩ := List.getElem?_eq_some_iff.mp h
  rw [← h2]
  exact List.set_getElem_self h1
/-- a test -/
def tst (c : Env → Rs Rv) (δ : Env) (T F : Env → Prop) (E : Xn → Env → Prop) : Prop := (c δ).W (fun x δ => ∃ t, x = .fz (.bl t) ∧ (t = true → T δ) ∧ (t = false → F δ)) E
theorem w_v {i : Nat} : (ev P (.v i) δ).W Q E ↔ (useSl δ i).W Q E := Iff.rfl
theorem w_c {d : D} : (ev P (.c d) δ).W Q E ↔ Q (.fz d) δ := Iff.rfl
theorem w_g {k : Nat} : (ev P (.g k) δ).W Q E ↔ ∃ a, (P.gl[k]?).map Rv.fz = some a ∧ Q a δ := w_opt
theorem w_neg {a : QL.E} : (ev P (.neg a) δ).W Q E ↔ (ev P a δ).W (fun x δ => ∃ i, x.d = .int i ∧ Q (.fz (.int (-i))) δ) E := by
  show ((ev P a δ).bind _).W Q E ↔ _
  rw [w_bind]
  cases ev P a δ with
  | ok x δ1 =>
    show Rs.W (match x.d with | .int i => .ok (.fz (.int (-i))) δ1 | _ => .no) Q E ↔ ∃ i, x.d = .int i ∧ _
    cases x.d <;> first | exact ⟨fun h => ⟨_, rfl, h⟩, fun ⟨_, h, q⟩ => by cases h; exact q⟩ | exact ⟨fun h => h.elim, fun ⟨_, h, q⟩ => by cases h⟩
  | er x δ1 => exact Iff.rfl
  | no => exact Iff.rfl
theorem w_bin {o : BOp} {a b : QL.E} : (ev P (.bin o a b) δ).W Q E ↔ (ev P a δ).W (fun x δ => (ev P b δ).W (fun y δ => ∃ z, binD o x.d y.d = some z ∧ Q z δ) E) E := by
  show ((ev P a δ).bind fun x δ => (ev P b δ).bind fun y δ => optR (binD o x.d y.d) δ).W Q E ↔ _
  simp only [w_bind, w_opt]
theorem w_cmp {o : COp} {a b : QL.E} : (ev P (.cmp o a b) δ).W Q E ↔ (ev P a δ).W (fun x δ => (ev P b δ).W (fun y δ => ∃ c, cmpD o x.d y.d = some c ∧ Q (.fz (.bl c)) δ) E) E := by
  show ((ev P a δ).bind fun x δ => (ev P b δ).bind fun y δ => optR ((cmpD o x.d y.d).map fun c => .fz (.bl c)) δ).W Q E ↔ _
  simp only [w_bind, w_opt, Option.map_eq_some_iff]
  constructor <;> intro h <;> refine w_mono h (fun x δ h => w_mono h (fun y δ h => ?_) fun _ _ h => h) fun _ _ h => h
  · obtain ⟨_, ⟨c, h1, rfl⟩, h2⟩ := h; exact ⟨c, h1, h2⟩
  · obtain ⟨c, h1, h2⟩ := h; exact ⟨_, ⟨c, h1, rfl⟩, h2⟩
theorem w_boolA {x : Rv} {r : Rs Rv} : Rs.W (match x with | .fz (.bl true) => r | .fz (.bl false) => .ok (.fz (.bl false)) δ | _ => .no) Q E ↔ ∃ t, x = .fz (.bl t) ∧ (t = true → r.W Q E) ∧ (t = false → Q (.fz (.bl false)) δ) := by
  split
  · exact ⟨fun h => ⟨true, rfl, fun _ => h, fun z => by cases z⟩, fun ⟨t, e, h, _⟩ => by cases e; exact h rfl⟩
  · exact ⟨fun h => ⟨false, rfl, (fun z => by cases z), fun _ => h⟩, fun ⟨t, e, _, h⟩ => by cases e; exact h rfl⟩
  · rename_i h1 h2
    exact ⟨fun h => h.elim, fun ⟨t, e, _, _⟩ => by cases t <;> first | exact absurd e h1 | exact absurd e h2⟩
theorem w_and {a b : QL.E} : (ev P (.and_ a b) δ).W Q E ↔ (ev P a δ).W (fun x δ => ∃ t, x = .fz (.bl t) ∧ (t = true → (ev P b δ).W Q E) ∧ (t = false → Q (.fz (.bl false)) δ)) E := by
  show ((ev P a δ).bind _).W Q E ↔ _
  rw [w_bind]
  constructor <;> intro h <;> refine w_mono h (fun x δ h => ?_) fun _ _ h => h
  · exact w_boolA.mp h
  · exact w_boolA.mpr h
theorem w_boolO {x : Rv} {r : Rs Rv} : Rs.W (match x with | .fz (.bl true) => .ok (.fz (.bl true)) δ | .fz (.bl false) => r | _ => .no) Q E ↔ ∃ t, x = .fz (.bl t) ∧ (t = true → Q (.fz (.bl true)) δ) ∧ (t = false → r.W Q E) := by
  split
  · exact ⟨fun h => ⟨true, rfl, fun _ => h, fun z => by cases z⟩, fun ⟨t, e, h, _⟩ => by cases e; exact h rfl⟩
  · exact ⟨fun h => ⟨false, rfl, (fun z => by cases z), fun _ => h⟩, fun ⟨t, e, _, h⟩ => by cases e; exact h rfl⟩
  · rename_i h1 h2
    exact ⟨fun h => h.elim, fun ⟨t, e, _, _⟩ => by cases t <;> first | exact absurd e h1 | exact absurd e h2⟩
theorem w_or {a b : QL.E} : (ev P (.or_ a b) δ).W Q E ↔ (ev P a δ).W (fun x δ => ∃ t, x = .fz (.bl t) ∧ (t = true → Q (.fz (.bl true)) δ) ∧ (t = false → (ev P b δ).W Q E)) E := by
  show ((ev P a δ).bind _).W Q E ↔ _
  rw [w_bind]
  constructor <;> intro h <;> refine w_mono h (fun x δ h => ?_) fun _ _ h => h
  · exact w_boolO.mp h
  · exact w_boolO.mpr h
theorem w_not {a : QL.E} : (ev P (.not_ a) δ).W Q E ↔ (ev P a δ).W (fun x δ => ∃ t, x = .fz (.bl t) ∧ Q (.fz (.bl (!t))) δ) E := by
  show ((ev P a δ).bind _).W Q E ↔ _
  rw [w_bind]
  constructor <;> intro h <;> refine w_mono h (fun x δ h => ?_) fun _ _ h => h
  · split at h
    · exact ⟨_, rfl, h⟩
    · exact h.elim
  · obtain ⟨t, rfl, h⟩ := h
    exact h
theorem w_two {x : Rv} {α : Type} {Q : α → Env → Prop} {r s : Rs α} : Rs.W (match x with | .fz (.bl true) => r | .fz (.bl false) => s | _ => .no) Q E ↔ ∃ t, x = .fz (.bl t) ∧ (t = true → r.W Q E) ∧ (t = false → s.W Q E) := by
  split
  · exact ⟨fun h => ⟨true, rfl, fun _ => h, fun z => by cases z⟩, fun ⟨t, e, h, _⟩ => by cases e; exact h rfl⟩
  · exact ⟨fun h => ⟨false, rfl, (fun z => by cases z), fun _ => h⟩, fun ⟨t, e, _, h⟩ => by cases e; exact h rfl⟩
  · rename_i h1 h2
    exact ⟨fun h => h.elim, fun ⟨t, e, _, _⟩ => by cases t <;> first | exact absurd e h1 | exact absurd e h2⟩
theorem w_ife {c a b : QL.E} : (ev P (.ife c a b) δ).W Q E ↔ (ev P c δ).W (fun x δ => ∃ t, x = .fz (.bl t) ∧ (t = true → (ev P a δ).W Q E) ∧ (t = false → (ev P b δ).W Q E)) E := by
  show ((ev P c δ).bind _).W Q E ↔ _
  rw [w_bind]
  constructor <;> intro h <;> refine w_mono h (fun x δ h => ?_) fun _ _ h => h
  · exact w_two.mp h
  · exact w_two.mpr h
theorem w_tup {es : Es} : (ev P (.tup es) δ).W Q E ↔ (evs P es δ).W (fun xs δ => xs.length ≤ LIM ∧ Q (.fz (.tup xs)) δ) E := by
  show ((evs P es δ).bind fun xs δ => if xs.length ≤ LIM then .ok (.fz (.tup xs)) δ else .no).W Q E ↔ _
  rw [w_bind]
  constructor <;> intro h <;> refine w_mono h (fun x δ h => ?_) fun _ _ h => h
  · split at h
    · exact ⟨by assumption, h⟩
    · exact h.elim
  · rw [if_pos h.1]; exact h.2
theorem w_lst {es : Es} : (ev P (.lst es) δ).W Q E ↔ (evs P es δ).W (fun xs δ => xs.length ≤ LIM ∧ Q (.lv xs) δ) E := by
  show ((evs P es δ).bind fun xs δ => if xs.length ≤ LIM then .ok (.lv xs) δ else .no).W Q E ↔ _
  rw [w_bind]
  constructor <;> intro h <;> refine w_mono h (fun x δ h => ?_) fun _ _ h => h
  · split at h
    · exact ⟨by assumption, h⟩
    · exact h.elim
  · rw [if_pos h.1]; exact h.2
theorem w_nil {Q : List D → Env → Prop} : (evs P .nil δ).W Q E ↔ Q [] δ := Iff.rfl
theorem w_cons {Q : List D → Env → Prop} {e : QL.E} {es : Es} : (evs P (.cons e es) δ).W Q E ↔ (ev P e δ).W (fun x δ => (evs P es δ).W (fun xs δ => Q (x.d :: xs) δ) E) E := by
  show ((ev P e δ).bind fun x δ => (evs P es δ).bind fun xs δ => .ok (x.d :: xs) δ).W Q E ↔ _
  simp only [w_bind, w_ok]
theorem w_ix {a i : QL.E} : (ev P (.ix a i) δ).W Q E ↔ (ev P a δ).W (fun x δ => (ev P i δ).W (fun y δ => ∃ z, ixD x.d y.d = some z ∧ Q (.fz z) δ) E) E := by
  show ((ev P a δ).bind fun x δ => (ev P i δ).bind fun y δ => optR ((ixD x.d y.d).map Rv.fz) δ).W Q E ↔ _
  simp only [w_bind, w_opt, Option.map_eq_some_iff]
  constructor <;> intro h <;> refine w_mono h (fun x δ h => w_mono h (fun y δ h => ?_) fun _ _ h => h) fun _ _ h => h
  · obtain ⟨_, ⟨c, h1, rfl⟩, h2⟩ := h; exact ⟨c, h1, h2⟩
  · obtain ⟨c, h1, h2⟩ := h; exact ⟨_, ⟨c, h1, rfl⟩, h2⟩
theorem w_ixv {s : Nat} {i : QL.E} : (ev P (.ixv s i) δ).W Q E ↔ ∃ a, lookSl δ s = some a ∧ (ev P i δ).W (fun y δ => ∃ x z, lookSl δ s = some x ∧ ixD x y.d = some z ∧ Q (.fz z) δ) E := by
  show ((optR (lookSl δ s) δ).bind fun _ δ => (ev P i δ).bind fun y δ => optR ((lookSl δ s).bind fun x => (ixD x y.d).map Rv.fz) δ).W Q E ↔ _
  simp only [w_bind, w_opt, Option.bind_eq_some_iff, Option.map_eq_some_iff]
  constructor <;> rintro ⟨a, h1, h2⟩ <;> refine ⟨a, h1, w_mono h2 (fun y δ h => ?_) fun _ _ h => h⟩
  · obtain ⟨_, ⟨x, g1, z, g2, rfl⟩, g3⟩ := h; exact ⟨x, z, g1, g2, g3⟩
  · obtain ⟨x, z, g1, g2, g3⟩ := h; exact ⟨_, ⟨x, g1, z, g2, rfl⟩, g3⟩
theorem w_bi {b : Bi} {es : Es} : (ev P (.bi b es) δ).W Q E ↔ (evs P es δ).W (fun xs δ => ∃ z, biD b xs = some z ∧ Q z δ) E := by
  show ((evs P es δ).bind fun xs δ => optR (biD b xs) δ).W Q E ↔ _
  simp only [w_bind, w_opt]
theorem w_lenv {s : Nat} : (ev P (.lenv s) δ).W Q E ↔ ∃ a z, lookSl δ s = some a ∧ biD .len [a] = some z ∧ Q z δ := by
  show (optR ((lookSl δ s).bind fun x => biD .len [x]) δ).W Q E ↔ _
  rw [w_opt]
  constructor
  · rintro ⟨z, h1, h2⟩
    obtain ⟨a, g1, g2⟩ := Option.bind_eq_some_iff.mp h1
    exact ⟨a, z, g1, g2, h2⟩
  · rintro ⟨a, z, g1, g2, h2⟩
    exact ⟨z, Option.bind_eq_some_iff.mpr ⟨a, g1, g2⟩, h2⟩
theorem w_inv {n : Bool} {a : QL.E} {s : Nat} : (ev P (.inv n a s) δ).W Q E ↔ (ev P a δ).W (fun x δ => ∃ y c, lookSl δ s = some y ∧ cmpD (if n then .nin else .isin) x.d y = some c ∧ Q (.fz (.bl c)) δ) E := by
  show ((ev P a δ).bind fun x δ => optR ((lookSl δ s).bind fun y => (cmpD (if n then .nin else .isin) x.d y).map fun c => .fz (.bl c)) δ).W Q E ↔ _
  simp only [w_bind, w_opt, Option.bind_eq_some_iff, Option.map_eq_some_iff]
  constructor <;> intro h <;> refine w_mono h (fun x δ h => ?_) fun _ _ h => h
  · obtain ⟨_, ⟨y, g1, c, g2, rfl⟩, g3⟩ := h; exact ⟨y, c, g1, g2, g3⟩
  · obtain ⟨y, c, g1, g2, g3⟩ := h; exact ⟨_, ⟨y, g1, c, g2, rfl⟩, g3⟩
theorem w_isi {a : QL.E} {ts : List Ty} : (ev P (.isi a ts) δ).W Q E ↔ (ev P a δ).W (fun x δ => ∃ c, isTys x.d ts = some c ∧ Q (.fz (.bl c)) δ) E := by
  show ((ev P a δ).bind fun x δ => optR ((isTys x.d ts).map fun b => .fz (.bl b)) δ).W Q E ↔ _
  simp only [w_bind, w_opt, Option.map_eq_some_iff]
  constructor <;> intro h <;> refine w_mono h (fun x δ h => ?_) fun _ _ h => h
  · obtain ⟨_, ⟨c, h1, rfl⟩, h2⟩ := h; exact ⟨c, h1, h2⟩
  · obtain ⟨c, h1, h2⟩ := h; exact ⟨_, ⟨c, h1, rfl⟩, h2⟩
theorem w_ch2 {o p : COp} {a b c : QL.E} : (ev P (.ch2 o p a b c) δ).W Q E ↔ (ev P a δ).W (fun x δ => (ev P b δ).W (fun y δ => ∃ t, cmpD o x.d y.d = some t ∧ (t = true → (ev P c δ).W (fun z δ => ∃ u, cmpD p y.d z.d = some u ∧ Q (.fz (.bl u)) δ) E) ∧ (t = false → Q (.fz (.bl false)) δ)) E) E := by
  have e : ev P (.ch2 o p a b c) δ = (ev P a δ).bind fun x δ => (ev P b δ).bind fun y δ => match cmpD o x.d y.d with
    | some true => (ev P c δ).bind fun z δ => optR ((cmpD p y.d z.d).map fun c => .fz (.bl c)) δ
    | some false => .ok (.fz (.bl false)) δ
    | none => .no := rfl
  rw [e]
  simp only [w_bind]
  constructor <;> intro h <;> refine w_mono h (fun x δ h => w_mono h (fun y δ h => ?_) fun _ _ h => h) fun _ _ h => h
  · split at h
    · rename_i g
      refine ⟨true, g, fun _ => ?_, fun z => by cases z⟩
      rw [w_bind] at h
      refine w_mono h (fun z δ h => ?_) fun _ _ h => h
      obtain ⟨_, h1, h2⟩ := w_opt.mp h
      obtain ⟨u, h3, rfl⟩ := Option.map_eq_some_iff.mp h1
      exact ⟨u, h3, h2⟩
    · rename_i g
      exact ⟨false, g, (fun z => by cases z), fun _ => h⟩
    · exact h.elim
  · obtain ⟨t, g, h1, h2⟩ := h
    rw [g]
    cases t with
    | true =>
      show Rs.W ((ev P c δ).bind _) Q E
      rw [w_bind]
      refine w_mono (h1 rfl) (fun z δ h => ?_) fun _ _ h => h
      obtain ⟨u, h3, h4⟩ := h
      exact w_opt.mpr ⟨_, Option.map_eq_some_iff.mpr ⟨u, h3, rfl⟩, h4⟩
    | false => exact h2 rfl
theorem w_ch3 {o p q : COp} {a b c d : QL.E} : (ev P (.ch3 o p q a b c d) δ).W Q E ↔ (ev P a δ).W (fun x δ => (ev P b δ).W (fun y δ => ∃ t, cmpD o x.d y.d = some t ∧ (t = true → (ev P c δ).W (fun z δ => ∃ u, cmpD p y.d z.d = some u ∧ (u = true → (ev P d δ).W (fun w δ => ∃ v, cmpD q z.d w.d = some v ∧ Q (.fz (.bl v)) δ) E) ∧ (u = false → Q (.fz (.bl false)) δ)) E) ∧ (t = false → Q (.fz (.bl false)) δ)) E) E := by
  have e : ev P (.ch3 o p q a b c d) δ = (ev P a δ).bind fun x δ => (ev P b δ).bind fun y δ => match cmpD o x.d y.d with
    | some true => (ev P c δ).bind fun z δ => (match cmpD p y.d z.d with
      | some true => (ev P d δ).bind fun w δ => optR ((cmpD q z.d w.d).map fun c => .fz (.bl c)) δ
      | some false => .ok (.fz (.bl false)) δ
      | none => .no)
    | some false => .ok (.fz (.bl false)) δ
    | none => .no := rfl
  rw [e]
  simp only [w_bind]
  constructor <;> intro h <;> refine w_mono h (fun x δ h => w_mono h (fun y δ h => ?_) fun _ _ h => h) fun _ _ h => h
  · split at h
    · rename_i g
      refine ⟨true, g, fun _ => ?_, fun z => by cases z⟩
      rw [w_bind] at h
      refine w_mono h (fun z δ h => ?_) fun _ _ h => h
      split at h
      · rename_i g2
        refine ⟨true, g2, fun _ => ?_, fun z => by cases z⟩
        rw [w_bind] at h
        refine w_mono h (fun z δ h => ?_) fun _ _ h => h
        obtain ⟨_, h1, h2⟩ := w_opt.mp h
        obtain ⟨u, h3, rfl⟩ := Option.map_eq_some_iff.mp h1
        exact ⟨u, h3, h2⟩
      · rename_i g2
        exact ⟨false, g2, (fun z => by cases z), fun _ => h⟩
      · exact h.elim
    · rename_i g
      exact ⟨false, g, (fun z => by cases z), fun _ => h⟩
    · exact h.elim
  · obtain ⟨t, g, h1, h2⟩ := h
    rw [g]
    cases t with
    | true =>
      show Rs.W ((ev P c δ).bind _) Q E
      rw [w_bind]
      refine w_mono (h1 rfl) (fun z δ h => ?_) fun _ _ h => h
      obtain ⟨u, g2, h3, h4⟩ := h
      rw [g2]
      cases u with
      | true =>
        show Rs.W ((ev P d δ).bind _) Q E
        rw [w_bind]
        refine w_mono (h3 rfl) (fun z δ h => ?_) fun _ _ h => h
        obtain ⟨u, h5, h6⟩ := h
        exact w_opt.mpr ⟨_, Option.map_eq_some_iff.mpr ⟨u, h5, rfl⟩, h6⟩
      | false => exact h4 rfl
    | false => exact h2 rfl
/-- a call -/
theorem w_call {k : Nat} {es : Es} {f : Fn} (hf : P.fn[k]? = some f) : (ev P (.call k es) δ).W Q E ↔ (evA P es δ).W (fun as δ => (callF f as δ).W Q E) E := by
  have e : ev P (.call k es) δ = (evA P es δ).bind fun as δ => callF f as δ := by
    show (match P.fn[k]? with
      | some f => (evA P es δ).bind fun as δ => callF f as δ
      | none => .no) = _
    rw [hf]
  rw [e, w_bind]
theorem w_anil {Q : List Ag → Env → Prop} : (evA P .nil δ).W Q E ↔ Q [] δ := Iff.rfl
theorem w_alr {Q : List Ag → Env → Prop} {s : Nat} {es : Es} : (evA P (.cons (.lr s) es) δ).W Q E ↔ ∃ a, lookSl δ s = some a ∧ (evA P es δ).W (fun xs δ => Q (.r s :: xs) δ) E := by
  show ((optR (lookSl δ s) δ).bind fun _ δ => (evA P es δ).bind fun xs δ => .ok (.r s :: xs) δ).W Q E ↔ _
  simp only [w_bind, w_opt, w_ok]
theorem w_acons {Q : List Ag → Env → Prop} {e : QL.E} {es : Es} (he : isLr e = none) : (evA P (.cons e es) δ).W Q E ↔ (ev P e δ).W (fun x δ => (evA P es δ).W (fun xs δ => Q (.d x.d :: xs) δ) E) E := by
  have e : evA P (.cons e es) δ = (ev P e δ).bind fun x δ => (evA P es δ).bind fun xs δ => .ok (.d x.d :: xs) δ := by
    show (match isLr e with
      | some s => (optR (lookSl δ s) δ).bind fun _ δ => (evA P es δ).bind fun xs δ => .ok (Ag.r s :: xs) δ
      | none => (ev P e δ).bind fun x δ => (evA P es δ).bind fun xs δ => .ok (Ag.d x.d :: xs) δ) = _
    rw [he]
  rw [e]
  simp only [w_bind, w_ok]
theorem w_callF {f : Fn} {as : List Ag} {ss : List Sl} (h1 : as.length ≤ f.np ∧ f.np - as.length ≤ f.dfl.length) (h2 : noDup as = true) (h3 : argSls δ as = some ss) : (callF f as δ).W Q E ↔ f.Runs (ss ++ (f.dfl.drop (f.dfl.length - (f.np - as.length))).map Sl.fz) (fun r outs => ∃ δ', putBack δ as outs = some δ' ∧ Q r δ') (fun x outs => ∃ δ', putBack δ as outs = some δ' ∧ E x δ') := by
  have e : callF f as δ = match f.run (ss ++ (f.dfl.drop (f.dfl.length - (f.np - as.length))).map Sl.fz) with
    | .ok r outs => (match putBack δ as outs with | some δ' => .ok r δ' | none => .no)
    | .er x outs => (match putBack δ as outs with | some δ' => .er x δ' | none => .no)
    | .no => .no := by
    unfold callF
    rw [h3, h2, show decide (as.length ≤ f.np ∧ f.np - as.length ≤ f.dfl.length) = true from decide_eq_true h1]
    rfl
  rw [e]
  unfold Fn.Runs
  cases f.run (ss ++ (f.dfl.drop (f.dfl.length - (f.np - as.length))).map Sl.fz) with
  | ok r outs =>
    dsimp only
    cases putBack δ as outs with
    | none => exact ⟨fun h => False.elim h, fun ⟨_, z, _⟩ => by cases z⟩
    | some δ' => exact ⟨fun h => ⟨δ', rfl, h⟩, fun ⟨_, z, h⟩ => by cases z; exact h⟩
  | er x outs =>
    dsimp only
    cases putBack δ as outs with
    | none => exact ⟨fun h => False.elim h, fun ⟨_, z, _⟩ => by cases z⟩
    | some δ' => exact ⟨fun h => ⟨δ', rfl, h⟩, fun ⟨_, z, h⟩ => by cases z; exact h⟩
  | no => exact Iff.rfl
theorem Runs.mono {f : Fn} {as : List Sl} {Q Q' : Rv → List Sl → Prop} {E E' : Xn → List Sl → Prop} (h : f.Runs as Q E) (hq : ∀ r o, Q r o → Q' r o) (he : ∀ x o, E x o → E' x o) : f.Runs as Q' E' := by
  unfold Fn.Runs at h ⊢
  split at h
  · exact hq _ _ h
  · exact he _ _ h
  · exact h

/-! ### statements -/
end
section
variable {Q : Fl → Env → Prop} {E : Xn → Env → Prop} {δ : Env} {P : Pr}
theorem w_snil : (exs P .nil δ).W Q E ↔ Q .nx δ := Iff.rfl
theorem w_scons {s : S} {ss : Ss} : (exs P (.cons s ss) δ).W Q E ↔ (ex P s δ).W (fun f δ => match f with | .nx => (exs P ss δ).W Q E | f => Q f δ) E := by
  show ((ex P s δ).bind fun f δ => match f with | .nx => exs P ss δ | f => .ok f δ).W Q E ↔ _
  rw [w_bind]
  constructor <;> intro h <;> refine w_mono h (fun f δ h => ?_) fun _ _ h => h
  · cases f <;> exact h
  · cases f <;> exact h
theorem w_pass : (ex P .pass δ).W Q E ↔ Q .nx δ := Iff.rfl
theorem w_set {i : Nat} {e : QL.E} : (ex P (.set i e) δ).W Q E ↔ (ev P e δ).W (fun r δ => ∃ δ', putSl δ i r = some δ' ∧ Q .nx δ') E := by
  show ((ev P e δ).bind fun r δ => (optR (putSl δ i r) δ).bind fun δ' _ => .ok .nx δ').W Q E ↔ _
  simp only [w_bind, w_opt, w_ok]
theorem w_tset {is : List Nat} {e : QL.E} : (ex P (.tset is e) δ).W Q E ↔ (ev P e δ).W (fun r δ => ∃ ds δ', r.d = .tup ds ∧ putAll δ is ds = some δ' ∧ Q .nx δ') E := by
  show ((ev P e δ).bind fun r δ => match r.d with
    | .tup ds => (optR (putAll δ is ds) δ).bind fun δ' _ => .ok .nx δ'
    | _ => .no).W Q E ↔ _
  rw [w_bind]
  constructor <;> intro h <;> refine w_mono h (fun r δ h => ?_) fun _ _ h => h
  · split at h
    · rename_i ds g
      obtain ⟨δ', h1, h2⟩ := w_opt.mp (w_bind.mp h)
      exact ⟨ds, δ', g, h1, h2⟩
    · exact h.elim
  · obtain ⟨ds, δ', g, h1, h2⟩ := h
    rw [g]
    exact w_bind.mpr (w_opt.mpr ⟨δ', h1, h2⟩)
theorem w_six {i : Nat} {k e : QL.E} : (ex P (.six i k e) δ).W Q E ↔ (ev P e δ).W (fun y δ => ∃ l, liveSl δ i = some l ∧ (ev P k δ).W (fun x δ => ∃ j δ', x.d = .int j ∧ chgSl δ i (fun ds => (L2.ixN ds.length j).map fun n => ds.set n y.d) = some δ' ∧ Q .nx δ') E) E := by
  show ((ev P e δ).bind fun y δ => (optR (liveSl δ i) δ).bind fun _ δ => (ev P k δ).bind fun x δ => match x.d with
    | .int j => (optR (chgSl δ i fun ds => (L2.ixN ds.length j).map fun n => ds.set n y.d) δ).bind fun δ' _ => .ok .nx δ'
    | _ => .no).W Q E ↔ _
  simp only [w_bind, w_opt]
  constructor <;> intro h <;> refine w_mono h (fun y δ h => ?_) fun _ _ h => h
  · obtain ⟨l, h1, h2⟩ := h
    refine ⟨l, h1, w_mono h2 (fun x δ h => ?_) fun _ _ h => h⟩
    split at h
    · rename_i j g
      obtain ⟨δ', h3, h4⟩ := w_opt.mp (w_bind.mp h)
      exact ⟨j, δ', g, h3, h4⟩
    · exact h.elim
  · obtain ⟨l, h1, h2⟩ := h
    refine ⟨l, h1, w_mono h2 (fun x δ h => ?_) fun _ _ h => h⟩
    obtain ⟨j, δ', g, h3, h4⟩ := h
    rw [g]
    exact w_bind.mpr (w_opt.mpr ⟨δ', h3, h4⟩)
theorem w_app {i : Nat} {e : QL.E} : (ex P (.app i e) δ).W Q E ↔ ∃ l, liveSl δ i = some l ∧ (ev P e δ).W (fun y δ => ∃ δ', chgSl δ i (fun ds => if ds.length < LIM then some (ds ++ [y.d]) else none) = some δ' ∧ Q .nx δ') E := by
  show ((optR (liveSl δ i) δ).bind fun _ δ => (ev P e δ).bind fun y δ => (optR (chgSl δ i fun ds => if ds.length < LIM then some (ds ++ [y.d]) else none) δ).bind fun δ' _ => .ok .nx δ').W Q E ↔ _
  simp only [w_bind, w_opt, w_ok]
theorem w_ex {e : QL.E} : (ex P (.ex e) δ).W Q E ↔ (ev P e δ).W (fun _ δ => Q .nx δ) E := by
  show ((ev P e δ).bind fun _ δ => .ok .nx δ).W Q E ↔ _
  simp only [w_bind, w_ok]
theorem w_retv {i : Nat} : (ex P (.ret (.v i)) δ).W Q E ↔ (moveSl δ i).W (fun r δ => Q (.rt r) δ) E := by
  show ((moveSl δ i).bind fun r δ => .ok (.rt r) δ).W Q E ↔ _
  simp only [w_bind, w_ok]
theorem w_ret {e : QL.E} (h : isV e = none) : (ex P (.ret e) δ).W Q E ↔ (ev P e δ).W (fun r δ => Q (.rt r) δ) E := by
  have z : ex P (.ret e) δ = (ev P e δ).bind fun r δ => .ok (.rt r) δ := by
    cases e <;> first | rfl | cases h
  rw [z]
  simp only [w_bind, w_ok]
theorem w_retN : (ex P .retN δ).W Q E ↔ Q (.rt (.fz .non)) δ := Iff.rfl
theorem w_brk : (ex P .brk δ).W Q E ↔ Q .bk δ := Iff.rfl
theorem w_cnt : (ex P .cnt δ).W Q E ↔ Q .ct δ := Iff.rfl
theorem w_ift {c : QL.E} {a b : Ss} : (ex P (.ift c a b) δ).W Q E ↔ (ev P c δ).W (fun x δ => ∃ t, x = .fz (.bl t) ∧ (t = true → (exs P a δ).W Q E) ∧ (t = false → (exs P b δ).W Q E)) E := by
  have z : ex P (.ift c a b) δ = (ev P c δ).bind fun x δ => match x with
    | .fz (.bl true) => exs P a δ
    | .fz (.bl false) => exs P b δ
    | _ => .no := rfl
  rw [z, w_bind]
  constructor <;> intro h <;> refine w_mono h (fun x δ h => ?_) fun _ _ h => h
  · exact w_two.mp h
  · exact w_two.mpr h
theorem w_for {is : List Nat} {it : I} {b : Ss} : (ex P (.for_ is it b) δ).W Q E ↔ (evI P it δ).W (fun xs δ => (forGo is (exs P b) xs δ).W Q E) E := by
  show ((evI P it δ).bind fun xs δ => forGo is (exs P b) xs δ).W Q E ↔ _
  rw [w_bind]
theorem w_rse {c : Nat} {e : QL.E} : (ex P (.rse c e) δ).W Q E ↔ (ev P e δ).W (fun r δ => E ⟨c, some r.d⟩ δ) E := by
  show ((ev P e δ).bind fun r δ => .er ⟨c, some r.d⟩ δ).W Q E ↔ _
  simp only [w_bind, w_er]
theorem w_try {b : Ss} {ie c : Nat} {hs : List HS} : (ex P (.try_ b ie c hs) δ).W Q E ↔ (exs P b δ).W Q (fun x δ => (P.sub x.c c = true → (hand P x ie hs δ).W Q E) ∧ (P.sub x.c c = false → E x δ)) := by
  have z : ex P (.try_ b ie c hs) δ = match exs P b δ with
    | .er x δ' => if P.sub x.c c then hand P x ie hs δ' else .er x δ'
    | r => r := rfl
  rw [z]
  cases exs P b δ with
  | ok f δ' => exact Iff.rfl
  | no => exact Iff.rfl
  | er x δ' =>
    show Rs.W (if P.sub x.c c = true then _ else _) Q E ↔ (P.sub x.c c = true → _) ∧ (P.sub x.c c = false → _)
    cases P.sub x.c c with
    | true => exact ⟨fun h => ⟨fun _ => h, fun z => by cases z⟩, fun h => h.1 rfl⟩
    | false => exact ⟨fun h => ⟨(fun z => by cases z), fun _ => h⟩, fun h => h.2 rfl⟩
/-- a loop by what holds ahead of each turn -/
theorem for_inv {is : List Nat} {body : Env → Rs Fl} (J : List D → Env → Prop) (turn : ∀ x xs δ, J (x :: xs) δ → ∃ δ1, bindT δ is x = some δ1 ∧ (body δ1).W (fun f δ2 => match f with | .nx => J xs δ2 | .ct => J xs δ2 | .bk => Q .nx δ2 | .rt r => Q (.rt r) δ2) E) (done : ∀ δ, J [] δ → Q .nx δ) :
    ∀ (xs : List D) (δ : Env), J xs δ → (forGo is body xs δ).W Q E
  | [], δ, h => done δ h
  | x :: xs, δ, h => by
    obtain ⟨δ1, h1, h2⟩ := turn x xs δ h
    unfold forGo
    rw [h1]
    show Rs.W ((body δ1).bind _) Q E
    rw [w_bind]
    refine w_mono h2 (fun f δ2 h => ?_) fun _ _ h => h
    cases f with
    | nx => exact for_inv J turn done xs δ2 h
    | ct => exact for_inv J turn done xs δ2 h
    | bk => exact h
    | rt r => exact h
end
section
variable {E : Xn → Env → Prop} {δ : Env} {P : Pr}
theorem w_seq {Q : List D → Env → Prop} {e : QL.E} : (evI P (.seq e) δ).W Q E ↔ (ev P e δ).W (fun x δ => ∃ xs, itemsOf x.d = some xs ∧ Q xs δ) E := by
  show ((ev P e δ).bind fun x δ => optR (itemsOf x.d) δ).W Q E ↔ _
  simp only [w_bind, w_opt]
theorem w_rng1 {Q : List D → Env → Prop} {e : QL.E} : (evI P (.rng1 e) δ).W Q E ↔ (ev P e δ).W (fun x δ => ∃ j, x.d = .int j ∧ (-(2 ^ 62) ≤ j ∧ j < 2 ^ 62) ∧ Q (rangeD 0 j.toNat) δ) E := by
  show ((ev P e δ).bind fun x δ => match x.d with
    | .int j => if -(2 ^ 62) ≤ j ∧ j < 2 ^ 62 then .ok (rangeD 0 j.toNat) δ else .no
    | _ => .no).W Q E ↔ _
  rw [w_bind]
  constructor <;> intro h <;> refine w_mono h (fun r δ h => ?_) fun _ _ h => h
  · split at h
    · rename_i j g
      split at h
      · exact ⟨j, g, by assumption, h⟩
      · exact h.elim
    · exact h.elim
  · obtain ⟨j, g, h1, h2⟩ := h
    rw [g]
    show Rs.W (if _ then _ else _) Q E
    rw [if_pos h1]
    exact h2
/-- a comprehension whose parts leave the slots as they are -/
theorem lcGo_map {i : Nat} {tst elt : Env → Rs Rv} {p : D → Bool} {g : D → D} (hi : δ[i]? = some .un) : ∀ (xs acc : List D), acc.length + xs.length ≤ LIM → (∀ x ∈ xs, tst (δ.set i (.fz x)) = .ok (.fz (.bl (p x))) (δ.set i (.fz x)) ∧ (p x = true → ∃ r, elt (δ.set i (.fz x)) = .ok r (δ.set i (.fz x)) ∧ r.d = g x)) → lcGo i tst elt xs acc δ = .ok (acc ++ (xs.filter p).map g) δ
  | [], acc, _, _ => by simp [lcGo]
  | x :: xs, acc, hl, h => by
    obtain ⟨h1, h2⟩ := h x (List.mem_cons_self ..)
    have back : (δ.set i (.fz x)).set i .un = δ := by
      rw [List.set_set]
      exact List.set_getElem?_self' hi
    have hl' : acc.length + xs.length + 1 ≤ LIM := by simpa [Nat.add_assoc] using hl
    unfold lcGo
    rw [h1]
    cases hp : p x with
    | true =>
      obtain ⟨r, h3, h4⟩ := h2 hp
      show ((elt (δ.set i (.fz x))).ne.bind _) = _
      rw [h3]
      show (if acc.length < LIM then lcGo i tst elt xs (acc ++ [r.d]) ((δ.set i (.fz x)).set i .un) else .no) = _
      rw [if_pos (by omega), back, lcGo_map hi xs _ (by simp; omega) fun y hy => h y (List.mem_cons_of_mem _ hy), h4, List.filter_cons_of_pos hp, List.map_cons, List.append_assoc]
      rfl
    | false =>
      show lcGo i tst elt xs acc ((δ.set i (.fz x)).set i .un) = _
      rw [back, lcGo_map hi xs _ (by omega) fun y hy => h y (List.mem_cons_of_mem _ hy), List.filter_cons_of_neg (by rw [hp]; decide)]
theorem w_lc {Q : Rv → Env → Prop} {i : Nat} {it : I} {c e : QL.E} : (ev P (.lc i it c e) δ).W Q E ↔ (evI P it δ).W (fun xs δ => (lcRun i (ev P c) (ev P e) xs δ).W Q E) E := by
  show ((evI P it δ).bind fun xs δ => lcRun i (ev P c) (ev P e) xs δ).W Q E ↔ _
  rw [w_bind]
theorem lc_map {Q : Rv → Env → Prop} {i : Nat} {tst elt : Env → Rs Rv} {p : D → Bool} {g : D → D} {s : Sl} {xs : List D} (hs : lcSl δ i = some s) (hi : δ[i]? = some s) (hl : xs.length ≤ LIM) (h : ∀ x ∈ xs, tst (δ.set i (.fz x)) = .ok (.fz (.bl (p x))) (δ.set i (.fz x)) ∧ (p x = true → ∃ r, elt (δ.set i (.fz x)) = .ok r (δ.set i (.fz x)) ∧ r.d = g x)) (q : Q (.lv ((xs.filter p).map g)) δ) : (lcRun i tst elt xs δ).W Q E := by
  unfold lcRun
  rw [hs]
  have lt := (List.getElem?_eq_some_iff.mp hi).1
  have := lcGo_map (δ := δ.set i .un) (i := i) (tst := tst) (elt := elt) (p := p) (g := g) (by rw [List.getElem?_set_self lt]) xs [] (by simpa using hl) (by simpa [List.set_set] using h)
  show Rs.W ((lcGo i tst elt xs [] (δ.set i .un)).bind _) Q E
  rw [this]
  show Q (.lv ([] ++ (xs.filter p).map g)) ((δ.set i .un).set i s)
  rw [List.nil_append, List.set_set, List.set_getElem?_self' hi]
  exact q
/-- a def's run by its body -/
theorem runs_of {R : Pr} {np n : Nat} {dfl : List D} {b : Ss} {as : List Sl} {Q : Rv → List Sl → Prop} {E : Xn → List Sl → Prop} (h : (exs R b (as ++ List.replicate (n - as.length) .un)).W (fun f δ => match f with
    | .nx => lpOk as δ = true ∧ Q (.fz .non) (δ.take as.length)
    | .rt r => lpOk as δ = true ∧ Q r (δ.take as.length)
    | _ => False) (fun x δ => lpOk as δ = true ∧ E x (δ.take as.length))) : (QL.mk R np n dfl b).Runs as Q E := by
  unfold Fn.Runs
  show match fin as (exs R b (as ++ List.replicate (n - as.length) .un)) with
    | .ok r outs => Q r outs
    | .er x outs => E x outs
    | .no => False
  cases e : exs R b (as ++ List.replicate (n - as.length) .un) with
  | no => rw [e] at h; exact h.elim
  | er x δ =>
    rw [e] at h
    obtain ⟨h1, h2⟩ := h
    unfold fin
    dsimp only
    rw [if_pos h1]
    exact h2
  | ok f δ =>
    rw [e] at h
    cases f with
    | nx =>
      obtain ⟨h1, h2⟩ := h
      unfold fin
      dsimp only
      rw [if_pos h1]
      exact h2
    | rt r =>
      obtain ⟨h1, h2⟩ := h
      unfold fin
      dsimp only
      rw [if_pos h1]
      exact h2
    | bk => exact h.elim
    | ct => exact h.elim
end
end QL

end
section
set_option Elab.async false
set_option linter.all false
set_option maxRecDepth 100000
/-! QV: the plain walk's equations, for simp. -/
namespace QL
open PySem L2
section
variable {δ : Env} {P : Pr} {i j : Int} {d e : D} {ds es : List D}
@[simp] theorem e_bok {α β : Type} {a : α} {f : α → Env → Rs β} : (Rs.ok a δ).bind f = f a δ := rfl
@[simp] theorem e_ber {α β : Type} {x : Xn} {f : α → Env → Rs β} : (Rs.er x δ).bind f = .er x δ := rfl
@[simp] theorem e_opt {α : Type} {a : α} : optR (some a) δ = .ok a δ := rfl
@[simp] theorem e_dfz : (Rv.fz d).d = d := rfl
@[simp] theorem e_dlv : (Rv.lv ds).d = .lst ds := rfl
@[simp] theorem e_sfz : (Rv.fz d).sl = .fz d := rfl
@[simp] theorem e_slv : (Rv.lv ds).sl = .lv ds := rfl
@[simp] theorem e_ex {α : Type} {p : Prop} {a : α} {Q : α → Prop} : (∃ z, (p ∧ a = z) ∧ Q z) ↔ p ∧ Q a := ⟨fun ⟨_, ⟨h1, h2⟩, h3⟩ => ⟨h1, h2 ▸ h3⟩, fun ⟨h1, h2⟩ => ⟨a, ⟨h1, rfl⟩, h2⟩⟩
@[simp] theorem e_bt {p : Prop} {a : Bool} {Q R : Prop} : (∃ t, Rv.fz (D.bl a) = .fz (.bl t) ∧ (t = true → Q) ∧ (t = false → R)) ↔ (a = true → Q) ∧ (a = false → R) := ⟨fun ⟨_, h, q⟩ => by cases h; exact q, fun q => ⟨_, rfl, q⟩⟩
@[simp] theorem e_add : binD .add (.int i) (.int j) = some (.fz (.int (i + j))) := rfl
@[simp] theorem e_sub : binD .sub (.int i) (.int j) = some (.fz (.int (i - j))) := rfl
@[simp] theorem e_mul : binD .mul (.int i) (.int j) = if (-(2 ^ 64) < i ∧ i < 2 ^ 64) ∨ (-(2 ^ 64) < j ∧ j < 2 ^ 64) then some (.fz (.int (i * j))) else none := rfl
@[simp] theorem e_mod : binD .mod (.int i) (.int j) = if 0 < j then some (.fz (.int (i % j))) else none := rfl
@[simp] theorem e_fdv : binD .fdv (.int i) (.int j) = if 0 < j ∧ j < 1073741824 then some (.fz (.int (i / j))) else none := rfl
@[simp] theorem e_pow : binD .pow (.int i) (.int j) = if 0 ≤ j ∧ j ≤ 1000000 ∧ i.natAbs < 2 ^ 64 then some (.fz (.int (i ^ j.toNat))) else none := rfl
@[simp] theorem e_lt : cmpD .lt (.int i) (.int j) = some (decide (i < j)) := rfl
@[simp] theorem e_le : cmpD .le (.int i) (.int j) = some (decide (i ≤ j)) := rfl
@[simp] theorem e_gt : cmpD .gt (.int i) (.int j) = some (decide (j < i)) := rfl
@[simp] theorem e_ge : cmpD .ge (.int i) (.int j) = some (decide (j ≤ i)) := rfl
@[simp] theorem e_eq : cmpD .eq (.int i) (.int j) = some (decide (i = j)) := rfl
@[simp] theorem e_ne : cmpD .ne (.int i) (.int j) = some (!decide (i = j)) := rfl
theorem e_eqg : cmpD .eq d e = if (eqOk 60 d && eqOk 60 e) = true then some (eqD d e) else none := rfl
theorem e_neg : cmpD .ne d e = if (eqOk 60 d && eqOk 60 e) = true then some (!eqD d e) else none := rfl
@[simp] theorem e_isn : cmpD .isn d .non = some (isN d) := rfl
@[simp] theorem e_nisn : cmpD .nisn d .non = some (!isN d) := rfl
theorem e_nin : cmpD .nin d (.lst ds) = if inOk d ds = true then some (!inD d ds) else none := rfl
theorem e_isin : cmpD .isin d (.lst ds) = if inOk d ds = true then some (inD d ds) else none := rfl
@[simp] theorem e_isb {a b : Bool} : cmpD .isb (.bl a) (.bl b) = some (a == b) := rfl
@[simp] theorem e_nisb {a b : Bool} : cmpD .nisb (.bl a) (.bl b) = some (!(a == b)) := rfl
@[simp] theorem e_ixl : ixD (.lst ds) (.int i) = atI ds i := rfl
@[simp] theorem e_ixt : ixD (.tup ds) (.int i) = atI ds i := rfl
@[simp] theorem e_lenl : biD .len [.lst ds] = some (.fz (.int ds.length)) := rfl
@[simp] theorem e_lent : biD .len [.tup ds] = some (.fz (.int ds.length)) := rfl
@[simp] theorem e_max : biD .max2 [.int i, .int j] = some (.fz (.int (if j > i then j else i))) := rfl
@[simp] theorem e_min : biD .min2 [.int i, .int j] = some (.fz (.int (if j < i then j else i))) := rfl
@[simp] theorem e_abs : biD .abs [.int i] = some (.fz (.int (if i < 0 then -i else i))) := rfl
@[simp] theorem e_int : biD .int1 [.int i] = some (.fz (.int i)) := rfl
@[simp] theorem e_intb {a : Bool} : biD .int1 [.bl a] = some (.fz (.int (if a then 1 else 0))) := rfl
@[simp] theorem e_tpl : biD .tuple [.lst ds] = some (.fz (.tup ds)) := rfl
@[simp] theorem e_tpt : biD .tuple [.tup ds] = some (.fz (.tup ds)) := rfl
@[simp] theorem e_lsl : biD .list [.lst ds] = some (.lv ds) := rfl
@[simp] theorem e_lst : biD .list [.tup ds] = some (.lv ds) := rfl
@[simp] theorem e_srl : biD .sorted [.lst ds] = (intsOf ds).map fun l => .lv ((sortI l).map D.int) := rfl
@[simp] theorem e_srt : biD .sorted [.tup ds] = (intsOf ds).map fun l => .lv ((sortI l).map D.int) := rfl
@[simp] theorem e_all : biD .all [.lst ds] = (boolsOf ds).map fun l => .fz (.bl (l.all id)) := rfl
@[simp] theorem e_any : biD .any [.lst ds] = (boolsOf ds).map fun l => .fz (.bl (l.any id)) := rfl
@[simp] theorem e_sum : biD .sum [.lst ds] = (intsOf ds).map fun l => .fz (.int l.sum) := rfl
@[simp] theorem intsOf_map : ∀ l : List Int, intsOf (l.map D.int) = some l
  | [] => rfl
  | x :: l => by
    show (intsOf (l.map D.int)).map (x :: ·) = _
    rw [intsOf_map l]
    rfl
@[simp] theorem boolsOf_map : ∀ l : List Bool, boolsOf (l.map D.bl) = some l
  | [] => rfl
  | x :: l => by
    show (boolsOf (l.map D.bl)).map (x :: ·) = _
    rw [boolsOf_map l]
    rfl
theorem q_non : eqD .non .non = true := by simp [eqD]
theorem q_bl {a b : Bool} : eqD (.bl a) (.bl b) = (a == b) := by simp [eqD]
theorem q_int : eqD (.int i) (.int j) = (i == j) := by simp [eqD]
theorem q_str {x y : Str} : eqD (.str x) (.str y) = (x == y) := by simp [eqD]
theorem q_lst : eqD (.lst ds) (.lst es) = eqDs ds es := by simp [eqD]
theorem q_tup : eqD (.tup ds) (.tup es) = eqDs ds es := by simp [eqD]
theorem q_nil : eqDs [] [] = true := by simp [eqDs]
theorem q_cons : eqDs (d :: ds) (e :: es) = (eqD d e && eqDs ds es) := by simp [eqDs]
theorem q_onon {n : Nat} : eqOk n .non = true := by simp [eqOk]
theorem q_obl {n : Nat} {a : Bool} : eqOk n (.bl a) = true := by simp [eqOk]
theorem q_oint {n : Nat} : eqOk n (.int i) = true := by simp [eqOk]
theorem q_olst {n : Nat} : eqOk (n + 1) (.lst ds) = eqOks n ds := by simp [eqOk]
theorem q_otup {n : Nat} : eqOk (n + 1) (.tup ds) = eqOks n ds := by simp [eqOk]
theorem q_olst' : eqOk 60 (.lst ds) = eqOks 59 ds := by simp [eqOk]
theorem q_otup' : eqOk 60 (.tup ds) = eqOks 59 ds := by simp [eqOk]
theorem q_otup9 : eqOk 59 (.tup ds) = eqOks 58 ds := by simp [eqOk]
theorem q_olst9 : eqOk 59 (.lst ds) = eqOks 58 ds := by simp [eqOk]
theorem q_onil {n : Nat} : eqOks n [] = true := by simp [eqOks]
theorem q_ocons {n : Nat} : eqOks n (d :: ds) = (eqOk n d && eqOks n ds) := by simp [eqOks]
@[simp] theorem e_items1 : itemsOf (.lst ds) = some ds := rfl
@[simp] theorem e_items2 : itemsOf (.tup ds) = some ds := rfl
@[simp] theorem e_items3 : itemsOf (.rol ds) = some ds := rfl
@[simp] theorem e_ite {α : Type} {p : Prop} [Decidable p] {a b : α} : ((if p then some a else none) = some b) ↔ (p ∧ a = b) := ite_opt
theorem atI_nat {n : Nat} {x : D} (h : ds[n]? = some x) : atI ds (n : Int) = some x := by
  have hl := (List.getElem?_eq_some_iff.mp h).1
  unfold atI ixN
  rw [if_pos (Int.natCast_nonneg n), if_pos (by omega)]
  show ds[(n : Int).toNat]? = some x
  rw [Int.toNat_natCast]
  exact h
theorem atI_int {k : Int} {x : D} (h0 : 0 ≤ k) (h : ds[k.toNat]? = some x) : atI ds k = some x := by
  have := atI_nat h
  rw [Int.toNat_of_nonneg h0] at this
  exact this
end
end QL

end
section
set_option Elab.async false
set_option linter.all false
set_option maxRecDepth 100000
/-! QN: what a small def gives: calls with data, with a stream; bodies. -/
namespace QL

def nlp : Sl → Bool
  | .lp _ => false
  | _ => true
theorem putSl_eq {δ : Env} {i : Nat} {r : Rv} : putSl δ i r = if (δ[i]?).any nlp = true then some (δ.set i r.sl) else none := by
  unfold putSl
  cases δ[i]? with
  | none => rfl
  | some t => cases t <;> rfl
def lcs : Sl → Bool
  | .un => true
  | .fz _ => true
  | _ => false
theorem lcSl_eq {δ : Env} {i : Nat} : lcSl δ i = if (δ[i]?).any lcs = true then δ[i]? else none := by
  unfold lcSl
  cases δ[i]? with
  | none => rfl
  | some t => cases t <;> rfl
@[simp] theorem nlp_un : nlp .un = true := rfl
@[simp] theorem nlp_fz {d : D} : nlp (.fz d) = true := rfl
@[simp] theorem nlp_lv {ds : List D} : nlp (.lv ds) = true := rfl
@[simp] theorem nlp_lp {ds : List D} : nlp (.lp ds) = false := rfl
@[simp] theorem nlp_dv {ks : List L2.Key} {ds : List D} : nlp (.dv ks ds) = true := rfl
@[simp] theorem lcs_un : lcs .un = true := rfl
@[simp] theorem lcs_fz {d : D} : lcs (.fz d) = true := rfl
@[simp] theorem lcs_lv {ds : List D} : lcs (.lv ds) = false := rfl
@[simp] theorem lcs_lp {ds : List D} : lcs (.lp ds) = false := rfl
theorem nlp_of {t : Sl} (h : lcs t = true) : nlp t = true := by cases t <;> first | rfl | cases h
/-- on these data it returns r, raises x -/
def Gv (f : Fn) (ds : List D) (r : Rv) : Prop := f.np = ds.length ∧ ∃ o, f.run (ds.map Sl.fz) = .ok r o ∧ o.length = ds.length
def Ge (f : Fn) (ds : List D) (x : Xn) : Prop := f.np = ds.length ∧ ∃ o, f.run (ds.map Sl.fz) = .er x o ∧ o.length = ds.length
/-- .. with an own list ahead, which is s' then -/
def Gs (f : Fn) (s : List D) (ds : List D) (r : Rv) (s' : List D) : Prop := f.np = ds.length + 1 ∧ ∃ o, f.run (.lp s :: ds.map Sl.fz) = .ok r (.lp s' :: o) ∧ o.length = ds.length
section
variable {f : Fn} {ds : List D} {r : Rv} {x : Xn} {δ : Env} {o : List Sl} {s s' : List D} {i : Nat} {a b c d e : D}
theorem argSls_d : ∀ ds : List D, argSls δ (ds.map Ag.d) = some (ds.map Sl.fz)
  | [] => rfl
  | d :: ds => by
    show ((argSl δ (.d d)).bind fun s => (argSls δ (ds.map Ag.d)).map fun r => s :: r) = _
    rw [argSls_d ds]
    rfl
theorem noDup_d : ∀ ds : List D, noDup (ds.map Ag.d) = true
  | [] => rfl
  | _ :: ds => noDup_d ds
theorem noDup_rd {i : Nat} (ds : List D) : noDup (.r i :: ds.map Ag.d) = true := by
  unfold noDup
  rw [noDup_d, Bool.and_true, List.all_eq_true]
  intro a ha
  obtain ⟨d, _, rfl⟩ := List.mem_map.mp ha
  rfl
theorem putBack_d : ∀ (ds : List D) (o : List Sl), o.length = ds.length → putBack δ (ds.map Ag.d) o = some δ
  | [], _, _ => by unfold putBack; rfl
  | _ :: ds, [], h => by simp at h
  | _ :: ds, _ :: o, h => by
    show putBack δ (ds.map Ag.d) o = some δ
    exact putBack_d ds o (by simpa using h)
theorem callF_gv (h : Gv f ds r) : callF f (ds.map Ag.d) δ = .ok r δ := by
  obtain ⟨hn, o, h1, h2⟩ := h
  unfold callF
  have e : (decide ((ds.map Ag.d).length ≤ f.np ∧ f.np - (ds.map Ag.d).length ≤ f.dfl.length) && noDup (ds.map Ag.d)) = true := by
    rw [noDup_d, List.length_map, hn]; simp
  rw [e, argSls_d]
  dsimp only
  rw [List.length_map, hn, Nat.sub_self, Nat.sub_zero, List.drop_length, List.map_nil, List.append_nil, h1]
  dsimp only
  rw [putBack_d ds o h2]
theorem callF_ge (h : Ge f ds x) : callF f (ds.map Ag.d) δ = .er x δ := by
  obtain ⟨hn, o, h1, h2⟩ := h
  unfold callF
  have e : (decide ((ds.map Ag.d).length ≤ f.np ∧ f.np - (ds.map Ag.d).length ≤ f.dfl.length) && noDup (ds.map Ag.d)) = true := by
    rw [noDup_d, List.length_map, hn]; simp
  rw [e, argSls_d]
  dsimp only
  rw [List.length_map, hn, Nat.sub_self, Nat.sub_zero, List.drop_length, List.map_nil, List.append_nil, h1]
  dsimp only
  rw [putBack_d ds o h2]
theorem callF_gs (h : Gs f s ds r s') : (δ[i]? = some (.lp s) → callF f (.r i :: ds.map Ag.d) δ = .ok r (δ.set i (.lp s'))) ∧ (δ[i]? = some (.lv s) → callF f (.r i :: ds.map Ag.d) δ = .ok r (δ.set i (.lv s'))) := by
  obtain ⟨hn, o, h1, h2⟩ := h
  have go : ∀ {t t' : Sl}, argSl δ (.r i) = some (.lp s) → (chgSl δ i fun _ => some s') = some (δ.set i t') → callF f (.r i :: ds.map Ag.d) δ = .ok r (δ.set i t') := fun {t t'} e1 e2 => by
    unfold callF
    have e : (decide ((Ag.r i :: ds.map Ag.d).length ≤ f.np ∧ f.np - (Ag.r i :: ds.map Ag.d).length ≤ f.dfl.length) && noDup (Ag.r i :: ds.map Ag.d)) = true := by
      rw [noDup_rd, List.length_cons, List.length_map, hn]; simp
    have ea : argSls δ (Ag.r i :: ds.map Ag.d) = some (.lp s :: ds.map Sl.fz) := by
      show ((argSl δ (.r i)).bind fun s => (argSls δ (ds.map Ag.d)).map fun r => s :: r) = _
      rw [e1, argSls_d]
      rfl
    rw [e, ea]
    dsimp only
    rw [List.length_cons, List.length_map, hn, Nat.sub_self, Nat.sub_zero, List.drop_length, List.map_nil, List.append_nil, h1]
    dsimp only
    show (match (chgSl δ i fun _ => some s').bind fun δ' => putBack δ' (ds.map Ag.d) o with | some δ' => Rs.ok r δ' | none => .no) = _
    rw [e2]
    show (match putBack (δ.set i t') (ds.map Ag.d) o with | some δ' => Rs.ok r δ' | none => .no) = _
    rw [putBack_d ds o h2]
  refine ⟨fun hi => go (t := .lp s) ?_ ?_, fun hi => go (t := .lv s) ?_ ?_⟩
  · unfold argSl; dsimp only; rw [hi]
  · unfold chgSl; rw [hi]; rfl
  · unfold argSl; dsimp only; rw [hi]
  · unfold chgSl; rw [hi]; rfl
theorem gc1 (h : Gv f [a] r) : callF f [.d a] δ = .ok r δ := callF_gv h
theorem gc2 (h : Gv f [a, b] r) : callF f [.d a, .d b] δ = .ok r δ := callF_gv h
theorem gc3 (h : Gv f [a, b, c] r) : callF f [.d a, .d b, .d c] δ = .ok r δ := callF_gv h
theorem gc4 (h : Gv f [a, b, c, d] r) : callF f [.d a, .d b, .d c, .d d] δ = .ok r δ := callF_gv h
theorem gc5 (h : Gv f [a, b, c, d, e] r) : callF f [.d a, .d b, .d c, .d d, .d e] δ = .ok r δ := callF_gv h
theorem gx1 (h : Ge f [a] x) : callF f [.d a] δ = .er x δ := callF_ge h
theorem gx2 (h : Ge f [a, b] x) : callF f [.d a, .d b] δ = .er x δ := callF_ge h
theorem gx3 (h : Ge f [a, b, c] x) : callF f [.d a, .d b, .d c] δ = .er x δ := callF_ge h
theorem gs0 (h : Gs f s [] r s') (hi : δ[i]? = some (.lp s)) : callF f [.r i] δ = .ok r (δ.set i (.lp s')) := (callF_gs h).1 hi
theorem gs1 (h : Gs f s [a] r s') (hi : δ[i]? = some (.lp s)) : callF f [.r i, .d a] δ = .ok r (δ.set i (.lp s')) := (callF_gs h).1 hi
theorem gs2 (h : Gs f s [a, b] r s') (hi : δ[i]? = some (.lp s)) : callF f [.r i, .d a, .d b] δ = .ok r (δ.set i (.lp s')) := (callF_gs h).1 hi
theorem gs3 (h : Gs f s [a, b, c] r s') (hi : δ[i]? = some (.lp s)) : callF f [.r i, .d a, .d b, .d c] δ = .ok r (δ.set i (.lp s')) := (callF_gs h).1 hi
theorem gl0 (h : Gs f s [] r s') (hi : δ[i]? = some (.lv s)) : callF f [.r i] δ = .ok r (δ.set i (.lv s')) := (callF_gs h).2 hi
theorem gl1 (h : Gs f s [a] r s') (hi : δ[i]? = some (.lv s)) : callF f [.r i, .d a] δ = .ok r (δ.set i (.lv s')) := (callF_gs h).2 hi
theorem gl2 (h : Gs f s [a, b] r s') (hi : δ[i]? = some (.lv s)) : callF f [.r i, .d a, .d b] δ = .ok r (δ.set i (.lv s')) := (callF_gs h).2 hi
theorem gl3 (h : Gs f s [a, b, c] r s') (hi : δ[i]? = some (.lv s)) : callF f [.r i, .d a, .d b, .d c] δ = .ok r (δ.set i (.lv s')) := (callF_gs h).2 hi
theorem lpOk_d : ∀ (ds : List D) (δ : Env), ds.length ≤ δ.length → lpOk (ds.map Sl.fz) δ = true
  | [], _, _ => rfl
  | _ :: ds, [], h => by simp at h
  | _ :: ds, _ :: δ, h => lpOk_d ds δ (by simpa using h)
variable {R : Pr} {np n : Nat} {dfl : List D} {bd : Ss} {shs : List Shp}
theorem gv_of (hn : np = ds.length) (h : ∃ δ', exs R bd (ds.map Sl.fz ++ List.replicate (n - ds.length) .un) = .ok (.rt r) δ' ∧ ds.length ≤ δ'.length) : Gv (QL.mk R np n dfl bd shs) ds r := by
  obtain ⟨δ', h1, h2⟩ := h
  refine ⟨hn, δ'.take ds.length, ?_, by rw [List.length_take]; omega⟩
  show fin (ds.map Sl.fz) (exs R bd (ds.map Sl.fz ++ List.replicate (n - (ds.map Sl.fz).length) .un)) = _
  rw [List.length_map, h1]
  unfold fin
  dsimp only
  rw [if_pos (lpOk_d ds δ' h2), List.length_map]
theorem ge_of (hn : np = ds.length) (h : ∃ δ', exs R bd (ds.map Sl.fz ++ List.replicate (n - ds.length) .un) = .er x δ' ∧ ds.length ≤ δ'.length) : Ge (QL.mk R np n dfl bd shs) ds x := by
  obtain ⟨δ', h1, h2⟩ := h
  refine ⟨hn, δ'.take ds.length, ?_, by rw [List.length_take]; omega⟩
  show fin (ds.map Sl.fz) (exs R bd (ds.map Sl.fz ++ List.replicate (n - (ds.map Sl.fz).length) .un)) = _
  rw [List.length_map, h1]
  unfold fin
  dsimp only
  rw [if_pos (lpOk_d ds δ' h2), List.length_map]
theorem gs_of (hn : np = ds.length + 1) (h : ∃ δ', exs R bd (.lp s :: (ds.map Sl.fz ++ List.replicate (n - (ds.length + 1)) .un)) = .ok (.rt r) (.lp s' :: δ') ∧ ds.length ≤ δ'.length) : Gs (QL.mk R np n dfl bd shs) s ds r s' := by
  obtain ⟨δ', h1, h2⟩ := h
  refine ⟨hn, δ'.take ds.length, ?_, by rw [List.length_take]; omega⟩
  show fin (.lp s :: ds.map Sl.fz) (exs R bd ((.lp s :: ds.map Sl.fz) ++ List.replicate (n - (Sl.lp s :: ds.map Sl.fz).length) .un)) = _
  rw [List.length_cons, List.length_map, List.cons_append, h1]
  unfold fin
  dsimp only
  have e : lpOk (.lp s :: ds.map Sl.fz) (.lp s' :: δ') = true := lpOk_d ds δ' h2
  rw [if_pos e, List.length_cons, List.length_map, List.take_succ_cons]
/-- by the walk -/
theorem gv_w (hn : np = ds.length) (h : (exs R bd (ds.map Sl.fz ++ List.replicate (n - ds.length) .un)).W (fun f δ => f = .rt r ∧ ds.length ≤ δ.length) (fun _ _ => False)) : Gv (QL.mk R np n dfl bd shs) ds r := by
  refine gv_of hn ?_
  cases e : exs R bd (ds.map Sl.fz ++ List.replicate (n - ds.length) .un) with
  | ok f δ => rw [e] at h; obtain ⟨rfl, h⟩ := h; exact ⟨δ, rfl, h⟩
  | er x δ => rw [e] at h; exact h.elim
  | no => rw [e] at h; exact h.elim
theorem gs_w (hn : np = ds.length + 1) (h : (exs R bd (.lp s :: (ds.map Sl.fz ++ List.replicate (n - (ds.length + 1)) .un))).W (fun f δ => f = .rt r ∧ δ[0]? = some (.lp s') ∧ ds.length + 1 ≤ δ.length) (fun _ _ => False)) : Gs (QL.mk R np n dfl bd shs) s ds r s' := by
  refine gs_of hn ?_
  cases e : exs R bd (.lp s :: (ds.map Sl.fz ++ List.replicate (n - (ds.length + 1)) .un)) with
  | ok f δ =>
    rw [e] at h
    obtain ⟨rfl, h1, h2⟩ := h
    cases δ with
    | nil => simp at h1
    | cons t δ =>
      cases (Option.some.inj h1)
      exact ⟨δ, rfl, by simpa using h2⟩
  | er x δ => rw [e] at h; exact h.elim
  | no => rw [e] at h; exact h.elim
theorem ge_w (hn : np = ds.length) (h : (exs R bd (ds.map Sl.fz ++ List.replicate (n - ds.length) .un)).W (fun _ _ => False) (fun y δ => y = x ∧ ds.length ≤ δ.length)) : Ge (QL.mk R np n dfl bd shs) ds x := by
  refine ge_of hn ?_
  cases e : exs R bd (ds.map Sl.fz ++ List.replicate (n - ds.length) .un) with
  | ok f δ => rw [e] at h; exact h.elim
  | er y δ => rw [e] at h; obtain ⟨rfl, h⟩ := h; exact ⟨δ, rfl, h⟩
  | no => rw [e] at h; exact h.elim
end
section
variable {P : Pr} {δ δ' : Env} {Q : Fl → Env → Prop} {E : Xn → Env → Prop}
theorem w_go {s : S} {ss : Ss} (h : ex P s δ = .ok .nx δ') (k : (exs P ss δ').W Q E) : (exs P (.cons s ss) δ).W Q E := by
  rw [w_scons, h]
  exact k
/-- (.., .., ..)[i], the row's parts known -/
theorem ev_ixt {es : Es} {ds : List D} {i : QL.E} (h : evs P es δ = .ok ds δ) (hl : ds.length ≤ LIM) : ev P (.ix (.tup es) i) δ = (ev P i δ).bind fun y δ => optR ((ixD (.tup ds) y.d).map Rv.fz) δ := by
  show ((ev P (.tup es) δ).bind fun x δ => (ev P i δ).bind fun y δ => optR ((ixD x.d y.d).map Rv.fz) δ) = _
  have e : ev P (.tup es) δ = .ok (.fz (.tup ds)) δ := by
    show ((evs P es δ).bind fun xs δ => if xs.length ≤ LIM then Rs.ok (Rv.fz (.tup xs)) δ else .no) = _
    rw [h]
    show (if ds.length ≤ LIM then Rs.ok (Rv.fz (.tup ds)) δ else .no) = _
    rw [if_pos hl]
  rw [e]
  rfl
/-- a comprehension whose parts leave the slots as they are, as an equation -/
theorem lc_eq {i : Nat} {tst elt : Env → Rs Rv} {p : D → Bool} {g : D → D} {s : Sl} {xs : List D} (hs : lcSl δ i = some s) (hi : δ[i]? = some s) (hl : xs.length ≤ LIM) (h : ∀ x ∈ xs, tst (δ.set i (.fz x)) = .ok (.fz (.bl (p x))) (δ.set i (.fz x)) ∧ (p x = true → ∃ r, elt (δ.set i (.fz x)) = .ok r (δ.set i (.fz x)) ∧ r.d = g x)) : lcRun i tst elt xs δ = .ok (.lv ((xs.filter p).map g)) δ := by
  unfold lcRun
  rw [hs]
  have lt := (List.getElem?_eq_some_iff.mp hi).1
  have := lcGo_map (δ := δ.set i .un) (i := i) (tst := tst) (elt := elt) (p := p) (g := g) (by rw [List.getElem?_set_self lt]) xs [] (by simpa using hl) (by simpa [List.set_set] using h)
  show (lcGo i tst elt xs [] (δ.set i .un)).bind _ = _
  rw [this]
  show Rs.ok (Rv.lv ([] ++ (xs.filter p).map g)) ((δ.set i .un).set i s) = _
  rw [List.nil_append, List.set_set, List.set_getElem?_self' hi]
/-- .. without a test -/
theorem lc_eq1 {i : Nat} {elt : Env → Rs Rv} {g : D → D} {s : Sl} {xs : List D} (hs : lcSl δ i = some s) (hi : δ[i]? = some s) (hl : xs.length ≤ LIM) (h : ∀ x ∈ xs, ∃ r, elt (δ.set i (.fz x)) = .ok r (δ.set i (.fz x)) ∧ r.d = g x) : lcRun i (ev P (.c (.bl true))) elt xs δ = .ok (.lv (xs.map g)) δ := by
  rw [lc_eq (tst := ev P (.c (.bl true))) (p := fun _ => true) (g := g) hs hi hl fun x hx => ⟨rfl, fun _ => h x hx⟩]
  rw [List.filter_eq_self.mpr fun _ _ => rfl]
theorem lc_eq2 {i : Nat} {elt : Env → Rs Rv} {g : D → D} {s : Sl} {xs : List D} (hs : lcSl δ i = some s) (hi : δ[i]? = some s) (hl : xs.length ≤ LIM) (h : ∀ x ∈ xs, ∃ r, elt (δ.set i (.fz x)) = .ok r (δ.set i (.fz x)) ∧ r.d = g x) : lcRun i (fun δ => Rs.ok (Rv.fz (.bl true)) δ) elt xs δ = .ok (.lv (xs.map g)) δ := lc_eq1 (P := ⟨[], [], fun _ _ => none, fun _ _ => false, fun _ _ => false, fun _ _ => none⟩) hs hi hl h
end
end QL

end
section
set_option Elab.async false
set_option linter.all false
/-! KL: the kinds' plain words, in plain Lean. Kinds by number: 0 list, 1 bag, 2 set, 3 heads, 4 first, 5 tails, 6 last, 7 ends. -/
namespace KL
open QL

/-! ### the first ones -/
def selH (s : List Int) : List Int → List Int
  | [] => []
  | x :: r => if x ∈ s then selH s r else x :: selH (x :: s) r
theorem selH_mem : ∀ (l s : List Int) (k : Int), k ∈ selH s l ↔ k ∈ l ∧ k ∉ s
  | [], s, k => by simp [selH]
  | x :: r, s, k => by
    unfold selH
    split
    · rename_i h
      rw [selH_mem r s k, List.mem_cons]
      constructor
      · exact fun ⟨a, b⟩ => ⟨.inr a, b⟩
      · rintro ⟨rfl | a, b⟩
        · exact absurd h b
        · exact ⟨a, b⟩
    · rename_i h
      rw [List.mem_cons, selH_mem r (x :: s) k, List.mem_cons, List.mem_cons]
      constructor
      · rintro (rfl | ⟨a, b⟩)
        · exact ⟨.inl rfl, h⟩
        · exact ⟨.inr a, fun z => b (.inr z)⟩
      · rintro ⟨rfl | a, b⟩
        · exact .inl rfl
        · by_cases e : k = x
          · exact .inl e
          · exact .inr ⟨a, fun z => z.elim e b⟩
theorem selH_congr : ∀ (l : List Int) {s t : List Int}, (∀ k, k ∈ s ↔ k ∈ t) → selH s l = selH t l
  | [], _, _, _ => rfl
  | x :: r, s, t, h => by
    unfold selH
    by_cases e : x ∈ s
    · rw [if_pos e, if_pos ((h x).mp e)]
      exact selH_congr r h
    · rw [if_neg e, if_neg fun z => e ((h x).mpr z)]
      congr 1
      exact selH_congr r fun k => by rw [List.mem_cons, List.mem_cons, h k]
theorem selH_pos {x : Int} {r s : List Int} (h : x ∈ s) : selH s (x :: r) = selH s r := by rw [selH, if_pos h]
theorem selH_neg {x : Int} {r s : List Int} (h : x ∉ s) : selH s (x :: r) = x :: selH (x :: s) r := by rw [selH, if_neg h]
theorem selH_app : ∀ (a b s : List Int), selH s (a ++ b) = selH s a ++ selH (a ++ s) b
  | [], b, s => rfl
  | x :: a, b, s => by
    rw [List.cons_append]
    by_cases h : x ∈ s
    · rw [selH_pos h, selH_pos h, selH_app a b s]
      congr 1
      refine selH_congr b fun k => ?_
      simp only [List.mem_append, List.cons_append, List.mem_cons]
      constructor
      · exact fun z => .inr z
      · rintro (rfl | z)
        · exact .inr h
        · exact z
    · rw [selH_neg h, selH_neg h, selH_app a b (x :: s), List.cons_append]
      congr 2
      refine selH_congr b fun k => ?_
      simp only [List.mem_append, List.cons_append, List.mem_cons]
      constructor
      · rintro (a | b | c)
        · exact .inr (.inl a)
        · exact .inl b
        · exact .inr (.inr c)
      · rintro (a | b | c)
        · exact .inr (.inl a)
        · exact .inl b
        · exact .inr (.inr c)
theorem selH_selH : ∀ (l : List Int) {s t : List Int}, (∀ k, k ∈ t → k ∈ s) → selH s (selH t l) = selH s l
  | [], _, _, _ => rfl
  | x :: r, s, t, h => by
    by_cases e : x ∈ t
    · have e1 : selH t (x :: r) = selH t r := by rw [selH, if_pos e]
      have e2 : selH s (x :: r) = selH s r := by rw [selH, if_pos (h x e)]
      rw [e1, e2]
      exact selH_selH r h
    · have e1 : selH t (x :: r) = x :: selH (x :: t) r := by rw [selH, if_neg e]
      rw [e1]
      by_cases e2 : x ∈ s
      · rw [selH, if_pos e2, selH, if_pos e2]
        refine selH_selH r fun k hk => ?_
        rcases List.mem_cons.mp hk with rfl | hk
        · exact e2
        · exact h k hk
      · rw [selH, if_neg e2, selH, if_neg e2]
        congr 1
        refine selH_selH r fun k hk => ?_
        rcases List.mem_cons.mp hk with rfl | hk
        · exact List.mem_cons_self ..
        · exact List.mem_cons_of_mem _ (h k hk)
theorem selH_nd : ∀ (l s : List Int), (selH s l).Nodup
  | [], _ => List.nodup_nil
  | x :: r, s => by
    unfold selH
    split
    · exact selH_nd r s
    · exact List.nodup_cons.mpr ⟨fun z => ((selH_mem r _ x).mp z).2 (List.mem_cons_self ..), selH_nd r _⟩
theorem selH_len : ∀ (l s : List Int), (selH s l).length ≤ l.length
  | [], _ => Nat.le_refl _
  | x :: r, s => by
    unfold selH
    split
    · exact Nat.le_succ_of_le (selH_len r s)
    · exact Nat.succ_le_succ (selH_len r _)
def heads (l : List Int) : List Int := selH [] l
def tails (l : List Int) : List Int := (heads l.reverse).reverse
theorem heads_mem {l : List Int} {k : Int} : k ∈ heads l ↔ k ∈ l := by unfold heads; rw [selH_mem]; simp
theorem tails_mem {l : List Int} {k : Int} : k ∈ tails l ↔ k ∈ l := by unfold tails; rw [List.mem_reverse, heads_mem, List.mem_reverse]
theorem heads2 (l : List Int) : heads (heads l) = heads l := selH_selH l fun _ h => h
theorem heads_app (a b : List Int) : heads (heads a ++ heads b) = heads (a ++ b) := by
  unfold heads
  rw [selH_app, selH_app, List.append_nil, List.append_nil, selH_selH a fun _ h => h, selH_selH b fun _ h => by cases h]
  congr 1
  exact selH_congr b fun k => heads_mem
theorem tails2 (l : List Int) : tails (tails l) = tails l := by
  unfold tails
  rw [List.reverse_reverse, heads2]
theorem tails_app (a b : List Int) : tails (tails a ++ tails b) = tails (a ++ b) := by
  unfold tails
  rw [List.reverse_append, List.reverse_reverse, List.reverse_reverse, heads_app, List.reverse_append]
/-! ### the last one -/
def lst (l : List Int) : List Int := match l.getLast? with
  | some x => [x]
  | none => []
theorem lst_nil : lst [] = [] := rfl
theorem lst_one {x : Int} : lst [x] = [x] := rfl
theorem lst_snoc (l : List Int) (x : Int) : lst (l ++ [x]) = [x] := by unfold lst; simp
theorem dl {l : List Int} (h : l ≠ []) : l.dropLast ++ [l.getLast h] = l := by
  induction l with
  | nil => exact absurd rfl h
  | cons x r ih =>
    cases r with
    | nil => rfl
    | cons y s =>
      show x :: ((y :: s).dropLast ++ [(y :: s).getLast (by simp)]) = _
      rw [ih (by simp)]
theorem lst_app (a b : List Int) : lst (a ++ b) = if b = [] then lst a else lst b := by
  by_cases h : b = []
  · subst h; simp
  · rw [if_neg h]
    have : b = b.dropLast ++ [b.getLast h] := (dl h).symm
    rw [this, ← List.append_assoc, lst_snoc, lst_snoc]
theorem lst_cons (x : Int) (l : List Int) : ∃ y, lst (x :: l) = [y] ∧ y ∈ x :: l := by
  have h : (x :: l) = (x :: l).dropLast ++ [(x :: l).getLast (by simp)] := (dl (by simp)).symm
  refine ⟨(x :: l).getLast (by simp), ?_, List.getLast_mem _⟩
  conv => lhs; rw [h]
  exact lst_snoc _ _
theorem lst_drop (l : List Int) : l.drop (l.length - 1) = lst l := by
  cases l with
  | nil => rfl
  | cons x r =>
    have h : (x :: r) = (x :: r).dropLast ++ [(x :: r).getLast (by simp)] := (dl (by simp)).symm
    conv => rhs; rw [h]
    rw [lst_snoc]
    conv => lhs; rw [h]
    rw [List.length_append, List.length_singleton, Nat.add_sub_cancel, List.drop_left]
def ends (l : List Int) : List Int := l.take 1 ++ lst l
theorem ends_app (a b : List Int) : ends (ends a ++ ends b) = ends (a ++ b) := by
  unfold ends
  cases a with
  | nil =>
    cases b with
    | nil => rfl
    | cons y s =>
      obtain ⟨z, h1, _⟩ := lst_cons y s
      simp [lst_nil, h1]
      rfl
  | cons x r =>
    obtain ⟨z, h1, _⟩ := lst_cons x r
    cases b with
    | nil =>
      simp [lst_nil, h1]
      rfl
    | cons y s =>
      obtain ⟨u, h2, _⟩ := lst_cons y s
      have e : lst (x :: (r ++ y :: s)) = [u] := by
        rw [← List.cons_append, lst_app, if_neg (by simp), h2]
      simp [h1, h2, e]
      rfl
/-! ### sorted -/
theorem sortI_app (a b : List Int) : sortI (sortI a ++ sortI b) = sortI (a ++ b) := sorted_one ((sortI_perm _).trans ((List.Perm.append (sortI_perm a) (sortI_perm b)).trans (sortI_perm _).symm)) (sortI_sorted _) (sortI_sorted _)
theorem sortI2 (a : List Int) : sortI (sortI a) = sortI a := sorted_one (sortI_perm _) (sortI_sorted _) (sortI_sorted _)
theorem sortI_mem {l : List Int} {k : Int} : k ∈ sortI l ↔ k ∈ l := (sortI_perm l).mem_iff
theorem sortU_app (a b : List Int) : sortU (sortU a ++ sortU b) = sortU (a ++ b) := lt_one (sortU_lt _) (sortU_lt _) fun k => by simp only [sortU_mem, List.mem_append]
theorem sortU2 (a : List Int) : sortU (sortU a) = sortU a := lt_one (sortU_lt _) (sortU_lt _) fun k => by rw [sortU_mem]
/-- each once, neighbours -/
def once (acc : List Int) : List Int → List Int
  | [] => acc
  | x :: r => once (if lst acc = [x] then acc else acc ++ [x]) r
theorem once_ok : ∀ (l acc : List Int), acc.Pairwise (· < ·) → l.Pairwise (· ≤ ·) → (∀ x ∈ acc, ∀ y ∈ l, x ≤ y) → (once acc l).Pairwise (· < ·) ∧ ∀ k, k ∈ once acc l ↔ k ∈ acc ∨ k ∈ l
  | [], acc, h, _, _ => ⟨h, fun k => by simp [once]⟩
  | x :: r, acc, h, hl, hx => by
    obtain ⟨h1, h2⟩ := List.pairwise_cons.mp hl
    unfold once
    by_cases e : lst acc = [x]
    · rw [if_pos e]
      have xm : x ∈ acc := by
        cases acc with
        | nil => cases e
        | cons y s =>
          obtain ⟨z, q1, q2⟩ := lst_cons y s
          rw [q1] at e
          cases e
          exact q2
      obtain ⟨g1, g2⟩ := once_ok r acc h h2 fun a ha b hb => hx a ha b (List.mem_cons_of_mem _ hb)
      refine ⟨g1, fun k => ?_⟩
      rw [g2, List.mem_cons]
      constructor
      · rintro (a | b)
        · exact .inl a
        · exact .inr (.inr b)
      · rintro (a | rfl | b)
        · exact .inl a
        · exact .inl xm
        · exact .inr b
    · rw [if_neg e]
      have lt : ∀ a ∈ acc, a < x := by
        intro a ha
        have le := hx a ha x (List.mem_cons_self ..)
        refine (Int.lt_or_eq_of_le le).elim id fun z => absurd ?_ e
        subst z
        -- a is in acc and no element is above it: it is the last
        cases acc with
        | nil => cases ha
        | cons y s =>
          obtain ⟨z, q1, q2⟩ := lst_cons y s
          rw [q1]
          have hz : z ≤ a := hx z q2 a (List.mem_cons_self ..)
          have : a ≤ z := by
            have hq : (y :: s) = (y :: s).dropLast ++ [(y :: s).getLast (by simp)] := (dl (by simp)).symm
            have ez : (y :: s).getLast (by simp) = z := by
              have := q1
              rw [hq, lst_snoc] at this
              exact List.cons.inj this |>.1
            rw [ez] at hq
            rw [hq] at ha h
            rcases List.mem_append.mp ha with ha | ha
            · exact Int.le_of_lt ((List.pairwise_append.mp h).2.2 a ha z (by simp))
            · rw [List.mem_singleton.mp ha]; exact Int.le_refl _
          have : z = a := by omega
          rw [this]
      have nacc : (acc ++ [x]).Pairwise (· < ·) := List.pairwise_append.mpr ⟨h, List.pairwise_singleton .., fun a ha b hb => by rw [List.mem_singleton.mp hb]; exact lt a ha⟩
      obtain ⟨g1, g2⟩ := once_ok r (acc ++ [x]) nacc h2 fun a ha b hb => by
        rcases List.mem_append.mp ha with ha | ha
        · exact hx a ha b (List.mem_cons_of_mem _ hb)
        · rw [List.mem_singleton.mp ha]; exact h1 b hb
      refine ⟨g1, fun k => ?_⟩
      rw [g2, List.mem_append, List.mem_singleton, List.mem_cons, or_assoc]
theorem once_sort (l : List Int) : once [] (sortI l) = sortU l := by
  obtain ⟨h1, h2⟩ := once_ok (sortI l) [] List.Pairwise.nil (sortI_sorted l) fun _ h => by cases h
  exact lt_one h1 (sortU_lt l) fun k => by rw [h2, sortU_mem, sortI_mem]; simp

/-! ### plain words -/
def plainL : Nat → List Int → List Int
  | 0, l => l
  | 1, l => sortI l
  | 2, l => sortU l
  | 3, l => heads l
  | 4, l => l.take 1
  | 5, l => tails l
  | 6, l => lst l
  | 7, l => ends l
  | _, l => l
theorem plain_nil (k : Nat) : plainL k [] = [] := by
  unfold plainL
  split <;> rfl
theorem take1_app (a b : List Int) : (a.take 1 ++ b.take 1).take 1 = (a ++ b).take 1 := by
  cases a with
  | nil => simp [List.take_take]
  | cons x r => simp
theorem plain_app (k : Nat) (a b : List Int) : plainL k (plainL k a ++ plainL k b) = plainL k (a ++ b) := by
  match k with
  | 0 => rfl
  | 1 => exact sortI_app a b
  | 2 => exact sortU_app a b
  | 3 => exact heads_app a b
  | 4 => exact take1_app a b
  | 5 => exact tails_app a b
  | 6 =>
    show lst (lst a ++ lst b) = lst (a ++ b)
    rw [lst_app, lst_app]
    cases b with
    | nil =>
      rw [if_pos lst_nil, if_pos rfl]
      cases a with
      | nil => rfl
      | cons x r =>
        obtain ⟨z, h1, _⟩ := lst_cons x r
        rw [h1]; rfl
    | cons y s =>
      obtain ⟨z, h1, _⟩ := lst_cons y s
      rw [h1, if_neg (by simp), if_neg (by simp), lst_one]
  | 7 => exact ends_app a b
  | n + 8 => rfl
theorem plain2 (k : Nat) (a : List Int) : plainL k (plainL k a) = plainL k a := by
  have := plain_app k a []
  rw [plain_nil, List.append_nil, List.append_nil] at this
  exact this
theorem plain_appl (k : Nat) (a b : List Int) : plainL k (plainL k a ++ b) = plainL k (a ++ b) := by
  rw [← plain_app k (plainL k a) b, plain2, plain_app]
theorem plain_appr (k : Nat) (a b : List Int) : plainL k (a ++ plainL k b) = plainL k (a ++ b) := by
  rw [← plain_app k a (plainL k b), plain2, plain_app]
theorem plain_sub (k : Nat) (a : List Int) : ∀ x ∈ plainL k a, x ∈ a := by
  unfold plainL
  split <;> intro x hx
  · exact hx
  · exact sortI_mem.mp hx
  · exact (sortU_mem _ x).mp hx
  · exact heads_mem.mp hx
  · exact List.mem_of_mem_take hx
  · exact tails_mem.mp hx
  · have hx : x ∈ lst a := hx
    cases a with
    | nil => cases hx
    | cons y s =>
      obtain ⟨z, h1, h2⟩ := lst_cons y s
      rw [h1] at hx
      rw [List.mem_singleton.mp hx]
      exact h2
  · have hx : x ∈ ends a := hx
    unfold ends at hx
    rcases List.mem_append.mp hx with hx | hx
    · exact List.mem_of_mem_take hx
    · cases a with
      | nil => cases hx
      | cons y s =>
        obtain ⟨z, h1, h2⟩ := lst_cons y s
        rw [h1] at hx
        rw [List.mem_singleton.mp hx]
        exact h2
  · exact hx
theorem insU_len (x : Int) : ∀ l : List Int, (insU x l).length ≤ l.length + 1
  | [] => Nat.le_refl _
  | y :: ys => by
    unfold insU
    split
    · exact Nat.le_refl _
    · split
      · exact Nat.le_succ _
      · exact Nat.succ_le_succ (insU_len x ys)
theorem sortU_len : ∀ l : List Int, (sortU l).length ≤ l.length
  | [] => Nat.le_refl _
  | x :: l => Nat.le_trans (insU_len x _) (Nat.succ_le_succ (sortU_len l))
theorem lst_len (l : List Int) : (lst l).length ≤ 1 := by
  unfold lst
  split <;> simp
theorem plain_len (k : Nat) (a : List Int) : (plainL k a).length ≤ a.length + 1 := by
  unfold plainL
  split
  · omega
  · rw [(sortI_perm a).length_eq]; omega
  · have := sortU_len a; omega
  · have := selH_len a []; exact Nat.le_succ_of_le this
  · rw [List.length_take]; omega
  · show (heads a.reverse).reverse.length ≤ _
    rw [List.length_reverse]
    have := selH_len a.reverse []
    rw [List.length_reverse] at this
    exact Nat.le_succ_of_le this
  · have := lst_len a; omega
  · show (a.take 1 ++ lst a).length ≤ _
    rw [List.length_append, List.length_take]
    cases a with
    | nil => simp [lst_nil]
    | cons y s => have := lst_len (y :: s); simp; omega
  · omega
end KL
namespace KL
open QL
/-! ### words as data -/
abbrev Wd (l : List Int) : D := .tup (l.map D.int)
abbrev Ld (l : List Int) : D := .lst (l.map D.int)
def cutL (l : List Int) (lo hi : Option Int) : List Int := (l.drop (HT.sIx l.length 0 lo)).take (HT.sIx l.length l.length hi - HT.sIx l.length 0 lo)
theorem cutD_map (l : List Int) (lo hi : Option Int) : cutD (l.map D.int) lo hi = (cutL l lo hi).map D.int := by
  unfold cutD cutL
  rw [List.length_map, List.map_take, List.map_drop]
@[simp] theorem sl_w (l : List Int) (lo hi : Option Int) : slD (.tup (l.map D.int)) lo hi = some (.fz (.tup ((cutL l lo hi).map D.int))) := by
  show some (Rv.fz (.tup (cutD (l.map D.int) lo hi))) = _
  rw [cutD_map]
@[simp] theorem sl_l (l : List Int) (lo hi : Option Int) : slD (.lst (l.map D.int)) lo hi = some (.lv ((cutL l lo hi).map D.int)) := by
  show some (Rv.lv (cutD (l.map D.int) lo hi)) = _
  rw [cutD_map]
theorem sIx_pos {n d : Nat} {k : Int} (h : 0 ≤ k) : HT.sIx n d (some k) = min k.toNat n := by
  unfold HT.sIx
  dsimp only
  rw [if_neg (by omega)]
theorem cut_hi {l : List Int} {k : Int} (h : 0 ≤ k) : cutL l none (some k) = l.take k.toNat := by
  unfold cutL
  rw [sIx_pos h]
  show (l.drop 0).take (min k.toNat l.length - 0) = _
  rw [List.drop_zero, Nat.sub_zero]
  by_cases q : k.toNat ≤ l.length
  · rw [Nat.min_eq_left q]
  · rw [Nat.min_eq_right (by omega), List.take_of_length_le (Nat.le_refl _), List.take_of_length_le (by omega)]
theorem cut_lo {l : List Int} {k : Int} (h : 0 ≤ k) : cutL l (some k) none = l.drop k.toNat := by
  unfold cutL
  rw [sIx_pos h]
  show (l.drop (min k.toNat l.length)).take (l.length - min k.toNat l.length) = _
  by_cases q : k.toNat ≤ l.length
  · rw [Nat.min_eq_left q, List.take_of_length_le (by rw [List.length_drop]; omega)]
  · rw [Nat.min_eq_right (by omega), List.drop_length, List.drop_eq_nil_of_le (by omega)]
    simp
theorem cut_m1 {l : List Int} : cutL l (some (-1)) none = lst l := by
  unfold cutL
  have e : HT.sIx l.length 0 (some (-1)) = l.length - 1 := by
    unfold HT.sIx
    dsimp only
    rw [if_pos (by decide)]
    omega
  rw [e]
  show (l.drop (l.length - 1)).take (l.length - (l.length - 1)) = _
  rw [List.take_of_length_le (by rw [List.length_drop]; omega), lst_drop]
theorem cut_sub {l : List Int} {lo hi : Option Int} : (∀ x ∈ cutL l lo hi, x ∈ l) ∧ (cutL l lo hi).length ≤ l.length := by
  unfold cutL
  refine ⟨fun x hx => List.mem_of_mem_drop (List.mem_of_mem_take hx), ?_⟩
  rw [List.length_take, List.length_drop]
  omega
@[simp] theorem rev_w (l : List Int) : revD (.tup (l.map D.int)) = some (.fz (.tup (l.reverse.map D.int))) := by
  show some (Rv.fz (.tup (l.map D.int).reverse)) = _
  rw [List.map_reverse]
@[simp] theorem rev_l (l : List Int) : revD (.lst (l.map D.int)) = some (.lv (l.reverse.map D.int)) := by
  show some (Rv.lv (l.map D.int).reverse) = _
  rw [List.map_reverse]
theorem add_w {a b : List Int} (h : a.length + b.length ≤ 100000) : binD .add (.tup (a.map D.int)) (.tup (b.map D.int)) = some (.fz (.tup ((a ++ b).map D.int))) := by
  show (if (a.map D.int).length + (b.map D.int).length ≤ LIM then some (Rv.fz (.tup (a.map D.int ++ b.map D.int))) else none) = _
  rw [List.length_map, List.length_map, if_pos (by unfold LIM; exact h), List.map_append]
theorem add_l {a b : List Int} (h : a.length + b.length ≤ 100000) : binD .add (.lst (a.map D.int)) (.lst (b.map D.int)) = some (.lv ((a ++ b).map D.int)) := by
  show (if (a.map D.int).length + (b.map D.int).length ≤ LIM then some (Rv.lv (a.map D.int ++ b.map D.int)) else none) = _
  rw [List.length_map, List.length_map, if_pos (by unfold LIM; exact h), List.map_append]
theorem eqDs_map : ∀ a b : List Int, eqDs (a.map D.int) (b.map D.int) = decide (a = b)
  | [], [] => by simp [eqDs]
  | [], _ :: _ => by simp [eqDs]
  | _ :: _, [] => by simp [eqDs]
  | x :: a, y :: b => by
    rw [List.map_cons, List.map_cons, q_cons, eqDs_map a b, q_int]
    by_cases h : x = y
    · subst h; by_cases h2 : a = b <;> simp [h2]
    · simp [h]
theorem eqOks_map (n : Nat) : ∀ a : List Int, eqOks n (a.map D.int) = true
  | [] => q_onil
  | x :: a => by rw [List.map_cons, q_ocons, q_oint, eqOks_map n a]; rfl
theorem eq_w (a b : List Int) : cmpD .eq (.tup (a.map D.int)) (.tup (b.map D.int)) = some (decide (a = b)) := by
  rw [e_eqg, q_otup', q_otup', eqOks_map, eqOks_map, q_tup, eqDs_map]; rfl
theorem ne_w (a b : List Int) : cmpD .ne (.tup (a.map D.int)) (.tup (b.map D.int)) = some (!decide (a = b)) := by
  rw [e_neg, q_otup', q_otup', eqOks_map, eqOks_map, q_tup, eqDs_map]; rfl
theorem eq_l (a b : List Int) : cmpD .eq (.lst (a.map D.int)) (.lst (b.map D.int)) = some (decide (a = b)) := by
  rw [e_eqg, q_olst', q_olst', eqOks_map, eqOks_map, q_lst, eqDs_map]; rfl
theorem ne_l (a b : List Int) : cmpD .ne (.lst (a.map D.int)) (.lst (b.map D.int)) = some (!decide (a = b)) := by
  rw [e_neg, q_olst', q_olst', eqOks_map, eqOks_map, q_lst, eqDs_map]; rfl
end KL
namespace KL
open QL
/-! ### a dict of seen letters -/
def uniqL (acc : List Int) : List Int → List Int
  | [] => acc
  | x :: r => uniqL (if x ∈ acc then acc else acc ++ [x]) r
theorem uniqL_sel : ∀ (l acc : List Int), uniqL acc l = acc ++ selH acc l
  | [], acc => by simp [uniqL, selH]
  | x :: r, acc => by
    unfold uniqL
    by_cases h : x ∈ acc
    · rw [if_pos h, selH_pos h, uniqL_sel r acc]
    · rw [if_neg h, selH_neg h, uniqL_sel r (acc ++ [x]), List.append_assoc, List.singleton_append]
      congr 2
      exact selH_congr r fun k => by simp [or_comm]
theorem uniq_heads (l : List Int) : uniqL [] l = heads l := by rw [uniqL_sel]; rfl
abbrev sK (acc : List Int) : List L2.Key := acc.map Sum.inl
abbrev sV (acc : List Int) : List D := acc.map fun _ => D.bl true
theorem key_any (x : Int) : ∀ acc : List Int, ((sK acc).any fun j => decide (j = Sum.inl x)) = decide (x ∈ acc)
  | [] => by simp
  | y :: acc => by
    show ((Sum.inl y :: sK acc).any fun j => decide (j = (Sum.inl x : L2.Key))) = _
    rw [List.any_cons, key_any x acc]
    by_cases h : y = x
    · subst h; simp
    · have : ¬ ((Sum.inl y : L2.Key) = Sum.inl x) := fun z => h (Sum.inl.inj z)
      simp [this, Ne.symm h, h]
theorem zip_true (x : Int) : ∀ acc : List Int, List.zipWith (fun j y => if j = (Sum.inl x : L2.Key) then D.bl true else y) (sK acc) (sV acc) = sV acc
  | [] => rfl
  | y :: acc => by
    show List.zipWith _ (Sum.inl y :: sK acc) (D.bl true :: sV acc) = _
    rw [List.zipWith_cons_cons, zip_true x acc]
    split <;> rfl
theorem dput_seen (acc : List Int) (x : Int) : dputD (sK acc) (sV acc) (Sum.inl x) (.bl true) = (sK (if x ∈ acc then acc else acc ++ [x]), sV (if x ∈ acc then acc else acc ++ [x])) := by
  unfold dputD
  rw [key_any]
  by_cases h : x ∈ acc
  · rw [if_pos h, if_pos (decide_eq_true h), zip_true]
  · rw [if_neg h, if_neg (by simp [h])]
    simp
theorem keys_seen (acc : List Int) : (sK acc).map keyD = acc.map D.int := by
  rw [List.map_map]
  rfl
def okT : D → Prop
  | .dic _ _ => False
  | .ob _ _ _ => False
  | .rol _ => False
  | _ => True
def isL : D → Bool
  | .int i => decide (0 ≤ i) && decide (i < 1000000000)
  | _ => false
def isWd : D → Bool
  | .tup ds => ds.all isL
  | _ => false
/-- a row of letters, as a tuple or as a list -/
def Row (d : D) (l : List Int) : Prop := d = .tup (l.map D.int) ∨ d = .lst (l.map D.int)
end KL
namespace KL
open QL
def RowD (d : D) (ds : List D) : Prop := d = .tup ds ∨ d = .lst ds
/-- the rows' parts -/
inductive Rows : List D → List (List D) → Prop
  | nil : Rows [] []
  | cons {d : D} {ds : List D} {l : List D} {m : List (List D)} (h : RowD d ds) (r : Rows l m) : Rows (d :: l) (ds :: m)
def lts (l : List Int) : Prop := ∀ x ∈ l, 0 ≤ x ∧ x < 1000000000
theorem lts_isL {l : List Int} (h : lts l) : ∀ d ∈ l.map D.int, isL d = true := by
  intro d hd
  obtain ⟨x, hx, rfl⟩ := List.mem_map.mp hd
  obtain ⟨h1, h2⟩ := h x hx
  simp [isL, h1, h2]
theorem lts_all {l : List Int} (h : lts l) : (l.map D.int).all isL = true := List.all_eq_true.mpr (lts_isL h)
theorem okT_map {l : List Int} : ∀ d ∈ l.map D.int, okT d := by
  intro d hd
  obtain ⟨x, _, rfl⟩ := List.mem_map.mp hd
  trivial
theorem lts_app {a b : List Int} (ha : lts a) (hb : lts b) : lts (a ++ b) := fun x hx => (List.mem_append.mp hx).elim (ha x) (hb x)
theorem lts_plain {k : Nat} {a : List Int} (ha : lts a) : lts (plainL k a) := fun x hx => ha x (plain_sub k a x hx)
end KL
namespace KL
open QL
/-! ### the law's own ways to the first and the last ones -/
def gI (l : List Int) : D → D
  | .int i => .int (l.getD i.toNat 0)
  | d => d
def pH (l : List Int) : D → Bool
  | .int i => !decide (l.getD i.toNat 0 ∈ l.take i.toNat)
  | _ => false
def pT (l : List Int) : D → Bool
  | .int i => !decide (l.getD i.toNat 0 ∈ l.drop (i.toNat + 1))
  | _ => false
theorem getD_at {l : List Int} {a : Nat} (h : a < l.length) : l.getD ((a : Int).toNat) 0 = l[a] := by
  rw [Int.toNat_natCast, List.getD_eq_getElem?_getD, List.getElem?_eq_getElem h]; rfl
theorem heads_go (l : List Int) : ∀ (n a : Nat), a + n = l.length → ((rangeD (a : Int) n).filter (pH l)).map (gI l) = (selH (l.take a) (l.drop a)).map D.int
  | 0, a, h => by
    rw [List.drop_eq_nil_of_le (by omega)]; rfl
  | n + 1, a, h => by
    have ha : a < l.length := by omega
    have er : rangeD (a : Int) (n + 1) = .int a :: rangeD ((a + 1 : Nat) : Int) n := rfl
    have ih := heads_go l n (a + 1) (by omega)
    have et : ∀ k, k ∈ l.take (a + 1) ↔ k ∈ l[a] :: l.take a := fun k => by
      have e1 : l.take (a + 1) = l.take a ++ [l[a]] := by rw [List.take_add_one, List.getElem?_eq_getElem ha]; rfl
      rw [e1, List.mem_append, List.mem_singleton, List.mem_cons, or_comm]
    have ep : pH l (.int a) = !decide (l[a] ∈ l.take a) := by
      show (!decide (l.getD ((a : Int).toNat) 0 ∈ l.take ((a : Int).toNat))) = _
      rw [getD_at ha, Int.toNat_natCast]
    have eg : gI l (.int a) = .int l[a] := by
      show D.int (l.getD ((a : Int).toNat) 0) = _
      rw [getD_at ha]
    rw [er, List.drop_eq_getElem_cons ha]
    by_cases hx : l[a] ∈ l.take a
    · rw [List.filter_cons_of_neg (by rw [ep]; simp [hx]), ih, selH_pos hx]
      congr 1
      refine selH_congr _ fun k => ?_
      rw [et k, List.mem_cons]
      exact ⟨fun z => z.elim (fun e => e ▸ hx) id, .inr⟩
    · rw [List.filter_cons_of_pos (by rw [ep]; simp [hx]), List.map_cons, ih, selH_neg hx, List.map_cons, eg]
      congr 2
      exact selH_congr _ et
theorem heads_law (l : List Int) : ((rangeD 0 l.length).filter (pH l)).map (gI l) = (heads l).map D.int := by
  have := heads_go l l.length 0 (by omega)
  rw [Int.natCast_zero] at this
  rw [this]; rfl
def selT : List Int → List Int
  | [] => []
  | x :: r => if x ∈ r then selT r else x :: selT r
theorem tails_sel : ∀ l : List Int, tails l = selT l
  | [] => rfl
  | x :: r => by
    have ih := tails_sel r
    unfold tails heads at ih ⊢
    rw [List.reverse_cons, selH_app, List.append_nil, List.reverse_append, ih]
    by_cases h : x ∈ r
    · rw [selT, if_pos h, selH_pos (by simpa using h)]; rfl
    · rw [selT, if_neg h, selH_neg (by simpa using h)]; rfl
theorem tails_go (l : List Int) : ∀ (n a : Nat), a + n = l.length → ((rangeD (a : Int) n).filter (pT l)).map (gI l) = (selT (l.drop a)).map D.int
  | 0, a, h => by
    rw [List.drop_eq_nil_of_le (by omega)]; rfl
  | n + 1, a, h => by
    have ha : a < l.length := by omega
    have er : rangeD (a : Int) (n + 1) = .int a :: rangeD ((a + 1 : Nat) : Int) n := rfl
    have ih := tails_go l n (a + 1) (by omega)
    have ep : pT l (.int a) = !decide (l[a] ∈ l.drop (a + 1)) := by
      show (!decide (l.getD ((a : Int).toNat) 0 ∈ l.drop ((a : Int).toNat + 1))) = _
      rw [getD_at ha, Int.toNat_natCast]
    have eg : gI l (.int a) = .int l[a] := by
      show D.int (l.getD ((a : Int).toNat) 0) = _
      rw [getD_at ha]
    rw [er, List.drop_eq_getElem_cons ha]
    unfold selT
    by_cases hx : l[a] ∈ l.drop (a + 1)
    · rw [List.filter_cons_of_neg (by rw [ep]; simp [hx]), ih, if_pos hx]
    · rw [List.filter_cons_of_pos (by rw [ep]; simp [hx]), List.map_cons, ih, if_neg hx, List.map_cons, eg]
theorem tails_law (l : List Int) : ((rangeD 0 l.length).filter (pT l)).map (gI l) = (tails l).map D.int := by
  have := tails_go l l.length 0 (by omega)
  rw [Int.natCast_zero] at this
  rw [this, tails_sel]; rfl
theorem inD_map (x : Int) : ∀ l : List Int, inD (.int x) (l.map D.int) = decide (x ∈ l)
  | [] => by simp [inD]
  | y :: l => by
    have ih := inD_map x l
    unfold inD at ih ⊢
    rw [List.map_cons, List.any_cons, ih, q_int]
    by_cases h : y = x
    · subst h; simp
    · simp [h, Ne.symm h]
theorem flat_map (l : List Int) : (l.map D.int).all flatD = true := by
  rw [List.all_eq_true]
  intro d hd
  obtain ⟨x, _, rfl⟩ := List.mem_map.mp hd
  rfl
theorem inOk_map (x : Int) (l : List Int) : inOk (.int x) (l.map D.int) = true := by unfold inOk; rw [flat_map]; rfl
theorem nin_l (x : Int) (l : List Int) : cmpD .nin (.int x) (.lst (l.map D.int)) = some (!decide (x ∈ l)) := by
  rw [e_nin, inOk_map, inD_map]; rfl
theorem isin_l (x : Int) (l : List Int) : cmpD .isin (.int x) (.lst (l.map D.int)) = some (decide (x ∈ l)) := by
  rw [e_isin, inOk_map, inD_map]; rfl
theorem range_mem : ∀ (n : Nat) (a : Int) (d : D), d ∈ rangeD a n → ∃ i : Int, d = .int i ∧ a ≤ i ∧ i < a + n
  | 0, a, d, h => by cases h
  | n + 1, a, d, h => by
    rcases List.mem_cons.mp h with rfl | h
    · exact ⟨a, rfl, by omega, by omega⟩
    · obtain ⟨i, h1, h2, h3⟩ := range_mem n (a + 1) d h
      exact ⟨i, h1, by omega, by omega⟩
theorem range_len : ∀ (n : Nat) (a : Int), (rangeD a n).length = n
  | 0, _ => rfl
  | n + 1, a => by rw [rangeD, List.length_cons, range_len n]
theorem atI_l {l : List Int} {i : Int} (h0 : 0 ≤ i) (h1 : i < l.length) : L2.atI (l.map D.int) i = some (.int (l.getD i.toNat 0)) := by
  refine atI_int h0 ?_
  have : i.toNat < l.length := by omega
  rw [List.getElem?_map, List.getElem?_eq_getElem this, List.getD_eq_getElem?_getD, List.getElem?_eq_getElem this]
  rfl
end KL
namespace KL
open QL
theorem sortU_few {l ls : List Int} (h : ∀ x ∈ l, x ∈ ls) : (sortU l).length ≤ ls.length := nd_le (lt_nd (sortU_lt l)) fun k hk => h k ((sortU_mem l k).mp hk)
def rowD (q : Bool × List Int) : D := if q.1 then .lst (q.2.map D.int) else .tup (q.2.map D.int)
theorem rows_of : ∀ rs : List (Bool × List Int), Rows (rs.map rowD) (rs.map fun q => q.2.map D.int)
  | [] => .nil
  | (true, l) :: rs => .cons (.inr rfl) (rows_of rs)
  | (false, l) :: rs => .cons (.inl rfl) (rows_of rs)
theorem flat_of (rs : List (Bool × List Int)) : (rs.map fun q => q.2.map D.int).flatten = ((rs.map fun q => q.2).flatten).map D.int := by
  rw [List.map_flatten, List.map_map]; rfl
theorem cutD_hi {ds : List D} {k : Int} (h : 0 ≤ k) : cutD ds none (some k) = ds.take k.toNat := by
  unfold cutD
  rw [sIx_pos h]
  show (ds.drop 0).take (min k.toNat ds.length - 0) = _
  rw [List.drop_zero, Nat.sub_zero]
  by_cases q : k.toNat ≤ ds.length
  · rw [Nat.min_eq_left q]
  · rw [Nat.min_eq_right (by omega), List.take_of_length_le (Nat.le_refl _), List.take_of_length_le (by omega)]
theorem cutD_lo {ds : List D} {k : Int} (h : 0 ≤ k) : cutD ds (some k) none = ds.drop k.toNat := by
  unfold cutD
  rw [sIx_pos h]
  show (ds.drop (min k.toNat ds.length)).take (ds.length - min k.toNat ds.length) = _
  by_cases q : k.toNat ≤ ds.length
  · rw [Nat.min_eq_left q, List.take_of_length_le (by rw [List.length_drop]; omega)]
  · rw [Nat.min_eq_right (by omega), List.drop_length, List.drop_eq_nil_of_le (by omega)]
    simp
theorem slD_l (ds : List D) (lo hi : Option Int) : slD (.lst ds) lo hi = some (.lv (cutD ds lo hi)) := rfl
end KL

end
section
set_option Elab.async false
set_option linter.all false
/-! KF: effects on plain words, in plain Lean. -/
namespace KL
open QL
abbrev Ef (c : Bool) (l : List Int) : D := .tup [.bl c, .tup (l.map D.int)]
abbrev Eff := Bool × List Int
def normE (k : Nat) (e : Eff) : Eff := (e.1 || (decide (k = 6) && !decide (e.2 = [])), e.2)
def thenE (k : Nat) (a b : Eff) : Eff := if b.1 = true then b else normE k (a.1, plainL k (a.2 ++ b.2))
def onE (k : Nat) (e : Eff) (s : List Int) : List Int := if e.1 = true then e.2 else plainL k (s ++ e.2)
theorem eq_e (a b : Bool) (l m : List Int) : cmpD .eq (Ef a l) (Ef b m) = some (decide (a = b ∧ l = m)) := by
  simp only [e_eqg, q_otup', q_ocons, q_obl, q_otup9, q_onil, eqOks_map, q_tup, q_cons, q_bl, eqDs_map, q_nil]
  cases a <;> cases b <;> by_cases h : l = m <;> simp [h]
theorem ne_e (a b : Bool) (l m : List Int) : cmpD .ne (Ef a l) (Ef b m) = some (!decide (a = b ∧ l = m)) := by
  simp only [e_neg, q_otup', q_ocons, q_obl, q_otup9, q_onil, eqOks_map, q_tup, q_cons, q_bl, eqDs_map, q_nil]
  cases a <;> cases b <;> by_cases h : l = m <;> simp [h]
theorem eq_e1 (a : Bool) (l : List Int) : cmpD .eq (Ef a l) (Ef a l) = some true := by rw [eq_e]; simp
theorem ne_e1 (a : Bool) (l : List Int) : cmpD .ne (Ef a l) (Ef a l) = some false := by rw [ne_e]; simp
theorem lst_ne {l : List Int} (h : l ≠ []) : lst l ≠ [] := by
  cases l with
  | nil => exact absurd rfl h
  | cons x r => obtain ⟨z, h1, _⟩ := lst_cons x r; rw [h1]; simp
theorem plain_ne {k : Nat} {l : List Int} (h : plainL k l = []) : l = [] := by
  cases l with
  | nil => rfl
  | cons x r =>
    exfalso
    have xm : x ∈ x :: r := List.mem_cons_self ..
    unfold plainL at h
    split at h
    · cases h
    · have := sortI_mem.mpr xm; rw [h] at this; cases this
    · have := (sortU_mem _ x).mpr xm; rw [h] at this; cases this
    · have := heads_mem.mpr xm; rw [h] at this; cases this
    · simp at h
    · have := tails_mem.mpr xm; rw [h] at this; cases this
    · exact lst_ne (by simp) h
    · unfold ends at h; simp at h
    · cases h
theorem last6 {a b : List Int} (hb : b ≠ []) (hp : plainL 6 b = b) : plainL 6 (a ++ b) = b := by
  show lst (a ++ b) = b
  rw [lst_app, if_neg hb]
  exact hp
section
variable {k : Nat} {a b c : Eff} {s : List Int}
theorem norm_w : (normE k a).2 = a.2 := rfl
theorem norm_t {l : List Int} : normE k (true, l) = (true, l) := by unfold normE; simp
theorem norm_norm : normE k (normE k a) = normE k a := by
  unfold normE
  cases a.1 <;> simp
theorem then_norm : normE k (thenE k a b) = thenE k a b := by
  unfold thenE
  split
  · rename_i h
    obtain ⟨x, l⟩ := b
    cases h
    exact norm_t
  · exact norm_norm
theorem then_idle (hp : plainL k a.2 = a.2) : thenE k (false, []) a = normE k a := by
  unfold thenE
  obtain ⟨x, l⟩ := a
  cases x with
  | true => rw [if_pos rfl, norm_t]
  | false =>
    rw [if_neg (by simp)]
    show normE k (false, plainL k ([] ++ l)) = _
    rw [List.nil_append]
    exact congrArg (fun w => normE k (false, w)) hp
theorem then_nl : thenE k (normE k a) b = thenE k a b := by
  unfold thenE
  split
  · rfl
  · unfold normE
    simp only [Prod.mk.injEq, and_true]
    by_cases h : a.2 = []
    · rw [h]; simp
    · have : ¬ plainL k (a.2 ++ b.2) = [] := fun e => by
        have := plain_ne e
        simp at this
        exact h this.1
      simp [this]
      cases a.1 <;> cases decide (k = 6) <;> simp
theorem then_nr (hp : plainL k b.2 = b.2) : thenE k a (normE k b) = thenE k a b := by
  obtain ⟨x, l⟩ := b
  cases x with
  | true => rw [norm_t]
  | false =>
    by_cases h6 : k = 6
    · subst h6
      by_cases hl : l = []
      · subst hl; rfl
      · have e : normE 6 (false, l) = (true, l) := by unfold normE; simp [hl]
        rw [e]
        unfold thenE
        rw [if_pos rfl, if_neg (by simp)]
        show (true, l) = normE 6 (a.1, plainL 6 (a.2 ++ l))
        rw [last6 hl hp]
        unfold normE
        simp [hl]
    · have e : normE k (false, l) = (false, l) := by unfold normE; simp [h6]
      rw [e]
theorem then_plain (hb : plainL k b.2 = b.2) : plainL k (thenE k a b).2 = (thenE k a b).2 := by
  unfold thenE
  split
  · exact hb
  · exact plain2 k _
theorem then_assoc (hb : plainL k b.2 = b.2) (hc : plainL k c.2 = c.2) : thenE k (thenE k a b) c = thenE k a (thenE k b c) := by
  by_cases h : c.1 = true
  · have e : ∀ x, thenE k x c = c := fun x => by unfold thenE; rw [if_pos h]
    rw [e, e, e]
  · have e : ∀ x, thenE k x c = normE k (x.1, plainL k (x.2 ++ c.2)) := fun x => by unfold thenE; rw [if_neg h]
    rw [e b, then_nr (by exact plain2 k _)]
    by_cases hb1 : b.1 = true
    · have e1 : thenE k a b = b := by unfold thenE; rw [if_pos hb1]
      rw [e1, e b, hb1, norm_t]
      unfold thenE
      rw [if_pos rfl]
    · have e1 : thenE k a b = normE k (a.1, plainL k (a.2 ++ b.2)) := by unfold thenE; rw [if_neg hb1]
      rw [e1, then_nl, e]
      show normE k (a.1, plainL k (plainL k (a.2 ++ b.2) ++ c.2)) = _
      have e2 : ∀ w, thenE k a (b.1, w) = normE k (a.1, plainL k (a.2 ++ w)) := fun w => by unfold thenE; rw [if_neg hb1]
      rw [e2, plain_appl, plain_appr, List.append_assoc]
theorem on_norm (hp : plainL k a.2 = a.2) : onE k (normE k a) s = onE k a s := by
  obtain ⟨x, l⟩ := a
  cases x with
  | true => rw [norm_t]
  | false =>
    by_cases h6 : k = 6
    · subst h6
      by_cases hl : l = []
      · subst hl; rfl
      · have e : normE 6 (false, l) = (true, l) := by unfold normE; simp [hl]
        rw [e]
        unfold onE
        rw [if_pos rfl, if_neg (by simp)]
        exact (last6 hl hp).symm
    · have e : normE k (false, l) = (false, l) := by unfold normE; simp [h6]
      rw [e]
theorem on_plain (hp : plainL k a.2 = a.2) : plainL k (onE k a s) = onE k a s := by
  unfold onE
  split
  · exact hp
  · exact plain2 k _
theorem on_then (hb : plainL k b.2 = b.2) : onE k (thenE k a b) s = onE k b (onE k a s) := by
  by_cases h : b.1 = true
  · unfold thenE
    rw [if_pos h]
    unfold onE
    rw [if_pos h, if_pos h]
  · unfold thenE
    rw [if_neg h, on_norm (by exact plain2 k _)]
    unfold onE
    rw [if_neg h]
    dsimp only
    split
    · rfl
    · rw [plain_appl, plain_appr, List.append_assoc]
theorem on_idle (hp : plainL k s = s) : onE k (false, []) s = s := by
  unfold onE
  rw [if_neg (by simp), List.append_nil]
  exact hp
theorem then_len : (thenE k a b).2.length ≤ a.2.length + b.2.length + 1 := by
  unfold thenE
  split
  · omega
  · have := plain_len k (a.2 ++ b.2)
    rw [List.length_append] at this
    exact this
theorem then_mem {x : Int} (h : x ∈ (thenE k a b).2) : x ∈ a.2 ∨ x ∈ b.2 := by
  unfold thenE at h
  split at h
  · exact .inr h
  · exact List.mem_append.mp (plain_sub k _ x h)
theorem on_len : (onE k a s).length ≤ s.length + a.2.length + 1 := by
  unfold onE
  split
  · omega
  · have := plain_len k (s ++ a.2)
    rw [List.length_append] at this
    exact this
theorem on_mem {x : Int} (h : x ∈ onE k a s) : x ∈ s ∨ x ∈ a.2 := by
  unfold onE at h
  split at h
  · exact .inr h
  · exact List.mem_append.mp (plain_sub k _ x h)
end
def foldE (k : Nat) : Eff → List Eff → Eff
  | w, [] => w
  | w, e :: r => foldE k (thenE k w e) r
abbrev EfD (e : Eff) : D := Ef e.1 e.2
theorem pr_0 {a b : D} : L2.atI [a, b] 0 = some a := rfl
theorem pr_1 {a b : D} : L2.atI [a, b] 1 = some b := rfl
end KL

end
section
set_option Elab.async false
set_option linter.all false
/-! KG: the least letter that is not in a word. -/
namespace KL
open QL
def fr (l : List Int) : Nat → Int → Int
  | 0, n => n
  | m + 1, n => fr l m (if n ∈ l then n + 1 else n)
theorem fr_inv (l : List Int) : ∀ (m : Nat) (n : Int) (j : Nat), 0 ≤ n → n ≤ j → (∀ i : Int, 0 ≤ i → i < n → i ∈ l) → (n = j ∨ n ∉ l) → 0 ≤ fr l m n ∧ fr l m n ≤ j + m ∧ (∀ i : Int, 0 ≤ i → i < fr l m n → i ∈ l) ∧ (fr l m n = j + m ∨ fr l m n ∉ l)
  | 0, n, j, h0, hj, hi, hn => ⟨h0, by unfold fr; omega, hi, by unfold fr; rcases hn with h | h; exact .inl (by omega); exact .inr h⟩
  | m + 1, n, j, h0, hj, hi, hn => by
    unfold fr
    by_cases hm : n ∈ l
    · rw [if_pos hm]
      have e : n = j := hn.elim id fun z => absurd hm z
      obtain ⟨a, b, c, d⟩ := fr_inv l m (n + 1) (j + 1) (by omega) (by omega) (fun i i0 i1 => by
        by_cases e : i = n
        · rw [e]; exact hm
        · exact hi i i0 (by omega)) (.inl (by omega))
      refine ⟨a, by omega, c, ?_⟩
      rcases d with d | d
      · exact .inl (by omega)
      · exact .inr d
    · rw [if_neg hm]
      obtain ⟨a, b, c, d⟩ := fr_inv l m n (j + 1) h0 (by omega) hi (.inr hm)
      refine ⟨a, by omega, c, ?_⟩
      rcases d with d | d
      · exact .inl (by omega)
      · exact .inr d
def fresh (l : List Int) : Int := fr l l.length 0
theorem fresh_spec (l : List Int) : 0 ≤ fresh l ∧ fresh l ≤ l.length ∧ (∀ i : Int, 0 ≤ i → i < fresh l → i ∈ l) ∧ fresh l ∉ l := by
  obtain ⟨a, b, c, d⟩ := fr_inv l l.length 0 0 (by omega) (by omega) (fun i i0 i1 => by omega) (.inl rfl)
  refine ⟨a, by unfold fresh; omega, c, ?_⟩
  rcases d with d | d
  · intro hm
    have e : fr l l.length 0 = l.length := by omega
    have e2 : fresh l = l.length := e
    rw [e2] at hm
    rw [e] at c
    have nd : ((List.range (l.length + 1)).map (fun i : Nat => (i : Int))).Nodup := by
      rw [List.nodup_iff_pairwise_ne, List.pairwise_map]
      exact List.Pairwise.imp (fun {a b} h => by omega) (List.nodup_iff_pairwise_ne.mp List.nodup_range)
    have := nd_le nd (m := l) fun x hx => by
      obtain ⟨i, hi, rfl⟩ := List.mem_map.mp hx
      have := List.mem_range.mp hi
      by_cases q : i = l.length
      · rw [q]; exact hm
      · exact c i (by omega) (by omega)
    rw [List.length_map, List.length_range] at this
    omega
  · exact d
/-- a letter that is ahead of all and new is in the plain word, unless the last one alone counts -/
theorem fresh_in {k : Nat} {f : Int} {l : List Int} (h : ¬ (k = 6 ∧ l ≠ [])) : f ∈ plainL k (f :: l) := by
  have xm : f ∈ f :: l := List.mem_cons_self ..
  unfold plainL
  split
  · exact xm
  · exact sortI_mem.mpr xm
  · exact (sortU_mem _ f).mpr xm
  · exact heads_mem.mpr xm
  · simp
  · exact tails_mem.mpr xm
  · have : l = [] := Classical.byContradiction fun z => h ⟨rfl, z⟩
    subst this
    exact xm
  · show f ∈ (f :: l).take 1 ++ lst (f :: l)
    simp
  · exact xm
theorem parted {k : Nat} {l : List Int} (h : ¬ (k = 6 ∧ l ≠ [])) : plainL k (plainL k [fresh l] ++ l) ≠ l := by
  rw [plain_appl]
  intro e
  have := fresh_in (k := k) (f := fresh l) (l := l) h
  rw [List.singleton_append] at e
  rw [e] at this
  exact (fresh_spec l).2.2.2 this
/-- unlike effects, the state that parts them -/
def partS (k : Nat) (a b : Eff) : List Int := if a.2 = b.2 then plainL k [fresh a.2] else []
theorem parts {k : Nat} {a b : Eff} (pa : plainL k a.2 = a.2) (pb : plainL k b.2 = b.2) (h : ¬ normE k a = normE k b) : onE k a (partS k a b) ≠ onE k b (partS k a b) := by
  obtain ⟨x, l⟩ := a
  obtain ⟨y, m⟩ := b
  dsimp only at pa pb
  unfold partS
  dsimp only
  by_cases e : l = m
  · subst e
    rw [if_pos rfl]
    have n6 : ¬ (k = 6 ∧ l ≠ []) := fun ⟨h6, hl⟩ => h (by unfold normE; simp [h6, hl])
    have hxy : x ≠ y := fun z => h (by rw [z])
    have q := parted n6
    unfold onE
    cases x <;> cases y <;> simp at hxy ⊢
    · exact q
    · exact fun z => q z.symm
  · rw [if_neg e]
    have o : ∀ (c : Bool) (w : List Int), plainL k w = w → onE k (c, w) [] = w := fun c w hw => by
      unfold onE
      cases c
      · rw [if_neg (by simp)]; exact hw
      · rw [if_pos rfl]
    rw [o x l pa, o y m pb]
    exact e
end KL

end
section
set_option Elab.async false
set_option linter.all false
/-! KH: effects that change places. -/
namespace KL
open QL
/-! ### forms of plain words -/
theorem form4 {l : List Int} (h : plainL 4 l = l) : l = [] ∨ ∃ x, l = [x] := by
  have h : l.take 1 = l := h
  cases l with
  | nil => exact .inl rfl
  | cons x r => exact .inr ⟨x, by rw [← h]; rfl⟩
theorem form6 {l : List Int} (h : plainL 6 l = l) : l = [] ∨ ∃ x, l = [x] := by
  have h : lst l = l := h
  cases l with
  | nil => exact .inl rfl
  | cons x r => obtain ⟨z, h1, _⟩ := lst_cons x r; exact .inr ⟨z, by rw [← h, h1]⟩
theorem form7 {l : List Int} (h : plainL 7 l = l) : l = [] ∨ ∃ x y, l = [x, y] := by
  have h : ends l = l := h
  unfold ends at h
  cases l with
  | nil => exact .inl rfl
  | cons x r =>
    obtain ⟨z, h1, _⟩ := lst_cons x r
    rw [h1] at h
    exact .inr ⟨x, z, by rw [← h]; rfl⟩
theorem nd3 {l : List Int} (h : plainL 3 l = l) : l.Nodup := by
  have h : heads l = l := h
  rw [← h]; exact selH_nd l []
theorem nd_rev {l : List Int} : l.reverse.Nodup ↔ l.Nodup := (List.reverse_perm l).nodup_iff
theorem nd5 {l : List Int} (h : plainL 5 l = l) : l.Nodup := by
  have h : tails l = l := h
  rw [← h]
  unfold tails
  rw [nd_rev]
  exact selH_nd _ []
theorem selH_id : ∀ (l s : List Int), l.Nodup → (∀ x ∈ l, x ∉ s) → selH s l = l
  | [], _, _, _ => rfl
  | x :: r, s, h, hs => by
    obtain ⟨h1, h2⟩ := List.nodup_cons.mp h
    rw [selH_neg (hs x (List.mem_cons_self ..))]
    congr 1
    refine selH_id r (x :: s) h2 fun y hy => ?_
    rw [List.mem_cons]
    rintro (rfl | z)
    · exact h1 hy
    · exact hs y (List.mem_cons_of_mem _ hy) z
theorem heads_id {l : List Int} (h : l.Nodup) : heads l = l := selH_id l [] h fun _ _ => by simp
theorem selH_none : ∀ {l s : List Int}, (∀ x ∈ l, x ∈ s) → selH s l = []
  | [], _, _ => rfl
  | x :: r, s, h => by rw [selH_pos (h x (List.mem_cons_self ..))]; exact selH_none fun y hy => h y (List.mem_cons_of_mem _ hy)
theorem heads_app2 {a b : List Int} (ha : a.Nodup) : heads (a ++ b) = a ++ selH a b := by
  unfold heads
  rw [selH_app, List.append_nil]
  congr 1
  exact heads_id ha
theorem selT_abs : ∀ {a b : List Int}, (∀ x ∈ a, x ∈ b) → selT (a ++ b) = selT b
  | [], _, _ => rfl
  | x :: a, b, h => by
    rw [List.cons_append, selT, if_pos (List.mem_append.mpr (.inr (h x (List.mem_cons_self ..))))]
    exact selT_abs fun y hy => h y (List.mem_cons_of_mem _ hy)
theorem selT_mid : ∀ {c a b : List Int}, (∀ x ∈ a, x ∈ b) → selT (c ++ (a ++ b)) = selT (c ++ b)
  | [], a, b, h => selT_abs h
  | x :: c, a, b, h => by
    rw [List.cons_append, List.cons_append, selT, selT, selT_mid h]
    have e : x ∈ c ++ (a ++ b) ↔ x ∈ c ++ b := by
      simp only [List.mem_append]
      constructor
      · rintro (z | z | z)
        · exact .inl z
        · exact .inr (h x z)
        · exact .inr z
      · rintro (z | z)
        · exact .inl z
        · exact .inr (.inr z)
    by_cases q : x ∈ c ++ b
    · rw [if_pos q, if_pos (e.mpr q)]
    · rw [if_neg q, if_neg fun z => q (e.mp z)]
theorem selT_suf : ∀ (a b : List Int), ∃ x, selT (a ++ b) = x ++ selT b
  | [], b => ⟨[], rfl⟩
  | y :: a, b => by
    obtain ⟨x, e⟩ := selT_suf a b
    rw [List.cons_append, selT]
    split
    · exact ⟨x, e⟩
    · exact ⟨y :: x, by rw [e]; rfl⟩
/-! ### an effect with a clear one ahead -/
def keptB (k : Nat) (base part : List Int) : Bool := decide (plainL k (base ++ part) = base)
section
variable {base part : List Int}
theorem kept0 (h : part ≠ []) : keptB 0 base part = false := by
  unfold keptB
  rw [decide_eq_false]
  intro e
  have e : base ++ part = base := e
  exact h (List.append_right_eq_self.mp e)
theorem kept1 (h : part ≠ []) : keptB 1 base part = false := by
  unfold keptB
  rw [decide_eq_false]
  intro e
  have e : sortI (base ++ part) = base := e
  have := congrArg List.length e
  rw [(sortI_perm _).length_eq, List.length_append] at this
  exact h (List.eq_nil_of_length_eq_zero (by omega))
theorem kept2 (pb : plainL 2 base = base) : keptB 2 base part = (part.map fun x => decide (x ∈ base)).all id := by
  have pb : sortU base = base := pb
  unfold keptB
  rw [List.all_map]
  show decide (sortU (base ++ part) = base) = _
  rw [Bool.eq_iff_iff, decide_eq_true_eq, List.all_eq_true]
  constructor
  · intro e x hx
    simp only [Function.comp, id, decide_eq_true_eq]
    rw [← e, sortU_mem]
    exact List.mem_append_right _ hx
  · intro h
    conv => rhs; rw [← pb]
    refine lt_one (sortU_lt _) (sortU_lt _) fun k => ?_
    rw [sortU_mem, sortU_mem, List.mem_append]
    refine ⟨fun z => z.elim id fun z => ?_, .inl⟩
    have := h k z
    simpa using this
theorem kept3 (pb : plainL 3 base = base) : keptB 3 base part = (part.map fun x => decide (x ∈ base)).all id := by
  unfold keptB
  rw [List.all_map]
  show decide (heads (base ++ part) = base) = _
  rw [Bool.eq_iff_iff, decide_eq_true_eq, List.all_eq_true]
  constructor
  · intro e x hx
    simp only [Function.comp, id, decide_eq_true_eq]
    rw [← e, heads_mem]
    exact List.mem_append_right _ hx
  · intro h
    rw [heads_app2 (nd3 pb), selH_none, List.append_nil]
    intro x hx
    have := h x hx
    simpa using this
theorem kept4 (pb : plainL 4 base = base) (hp : part ≠ []) : keptB 4 base part = !decide (base = []) := by
  unfold keptB
  show decide ((base ++ part).take 1 = base) = _
  rcases form4 pb with rfl | ⟨x, rfl⟩
  · cases part with
    | nil => exact absurd rfl hp
    | cons y r => simp
  · simp
theorem kept7 {b0 b1 p0 p1 : Int} : keptB 7 [b0, b1] [p0, p1] = decide (b1 = p1) := by
  unfold keptB
  show decide (ends ([b0, b1] ++ [p0, p1]) = [b0, b1]) = _
  have : ends ([b0, b1] ++ [p0, p1]) = [b0, p1] := rfl
  rw [this]
  rw [decide_eq_decide]
  simp only [List.cons.injEq, and_true, true_and]
  exact eq_comm
theorem kept7n {p0 p1 : Int} : keptB 7 [] [p0, p1] = false := by
  unfold keptB
  rw [decide_eq_false]
  intro e
  have e : [p0, p1] = ([] : List Int) := e
  cases e
theorem kept5 (pb : plainL 5 base = base) (pp : plainL 5 part = part) : keptB 5 base part = decide (part.length ≤ base.length ∧ base.drop (base.length - part.length) = part) := by
  have pb : tails base = base := pb
  have pp : tails part = part := pp
  rw [tails_sel] at pb pp
  unfold keptB
  show decide (tails (base ++ part) = base) = _
  rw [decide_eq_decide, tails_sel]
  constructor
  · intro e
    obtain ⟨x, hx⟩ := selT_suf base part
    rw [e, pp] at hx
    rw [hx]
    refine ⟨by simp, ?_⟩
    rw [List.length_append, Nat.add_sub_cancel, List.drop_left]
  · rintro ⟨h1, h2⟩
    obtain ⟨c, hc⟩ : ∃ c, c = base.take (base.length - part.length) := ⟨_, rfl⟩
    have e : base = c ++ part := by
      conv => lhs; rw [← List.take_append_drop (base.length - part.length) base]
      rw [h2, ← hc]
    rw [e] at pb ⊢
    rw [List.append_assoc, selT_mid fun x hx => hx]
    exact pb
end
/-! ### two effects that clear nothing -/
def bothB (k : Nat) (a b : List Int) : Bool := decide (plainL k (a ++ b) = plainL k (b ++ a))
section
variable {a b : List Int}
theorem both1 : bothB 1 a b = true := decide_eq_true (sorted_one ((sortI_perm _).trans (List.perm_append_comm.trans (sortI_perm _).symm)) (sortI_sorted _) (sortI_sorted _))
theorem both2 : bothB 2 a b = true := decide_eq_true (lt_one (sortU_lt _) (sortU_lt _) fun k => by show k ∈ sortU _ ↔ k ∈ sortU _; rw [sortU_mem, sortU_mem, List.mem_append, List.mem_append, or_comm])
theorem both4 {x y : Int} : bothB 4 [x] [y] = decide ([x] = [y]) := rfl
theorem both7 {p q r s : Int} : bothB 7 [p, q] [r, s] = decide ([p, q] = [r, s]) := by
  unfold bothB
  have e1 : plainL 7 ([p, q] ++ [r, s]) = [p, s] := rfl
  have e2 : plainL 7 ([r, s] ++ [p, q]) = [r, q] := rfl
  rw [e1, e2, decide_eq_decide]
  simp only [List.cons.injEq, and_true]
  exact ⟨fun ⟨h1, h2⟩ => ⟨h1, h2.symm⟩, fun ⟨h1, h2⟩ => ⟨h1, h2.symm⟩⟩
theorem heads_swap1 (ha : a.Nodup) (hb : b.Nodup) (h : a.length ≤ b.length) : heads (a ++ b) = heads (b ++ a) ↔ a = b.take a.length := by
  rw [heads_app2 ha, heads_app2 hb]
  constructor
  · intro e
    have := congrArg (List.take a.length) e
    rw [List.take_left, List.take_append_of_le_length h] at this
    exact this
  · intro e
    have e2 : b = a ++ b.drop a.length := by
      conv => lhs; rw [← List.take_append_drop a.length b]
      rw [← e]
    rw [e2] at hb ⊢
    have ds := (List.nodup_append.mp hb)
    rw [selH_none (l := a) (fun x hx => List.mem_append_left _ hx), List.append_nil, selH_app, selH_none (l := a) (fun x hx => hx), List.nil_append]
    congr 1
    rw [selH_congr _ (t := a) (fun k => by simp)]
    refine selH_id _ _ ds.2.1 fun x hx z => ?_
    exact ds.2.2 x z x hx rfl
theorem heads_swap (ha : a.Nodup) (hb : b.Nodup) : heads (a ++ b) = heads (b ++ a) ↔ a.take b.length = b.take a.length := by
  by_cases h : a.length ≤ b.length
  · rw [heads_swap1 ha hb h, List.take_of_length_le h]
  · rw [eq_comm, heads_swap1 hb ha (by omega), List.take_of_length_le (l := b) (by omega), eq_comm]
theorem both3 (pa : plainL 3 a = a) (pb : plainL 3 b = b) : bothB 3 a b = decide (a.take b.length = b.take a.length) := decide_eq_decide.mpr (heads_swap (nd3 pa) (nd3 pb))
theorem both5 (pa : plainL 5 a = a) (pb : plainL 5 b = b) : bothB 5 a b = decide (a.drop (a.length - b.length) = b.drop (b.length - a.length)) := by
  refine decide_eq_decide.mpr ?_
  show tails (a ++ b) = tails (b ++ a) ↔ _
  unfold tails
  rw [List.reverse_append, List.reverse_append, List.reverse_inj, eq_comm, heads_swap (nd_rev.mpr (nd5 pa)) (nd_rev.mpr (nd5 pb)), List.length_reverse, List.length_reverse, List.take_reverse, List.take_reverse, List.reverse_inj]
end
/-! ### both orders -/
section
variable {k : Nat} {a b : Eff}
theorem then_flag : (thenE k a b).1 = (a.1 || b.1 || (decide (k = 6) && !decide ((thenE k a b).2 = []))) := by
  unfold thenE
  by_cases h : b.1 = true
  · rw [if_pos h, h]; simp
  · rw [if_neg h]
    have : b.1 = false := by simpa using h
    rw [this, Bool.or_false]
    rfl
theorem then_eq : thenE k a b = thenE k b a ↔ (thenE k a b).2 = (thenE k b a).2 := by
  constructor
  · exact fun e => congrArg Prod.snd e
  · intro e
    refine Prod.ext ?_ e
    rw [then_flag, then_flag (a := b) (b := a), e, Bool.or_comm a.1 b.1]
def swapB (k : Nat) (a b : Eff) : Bool := decide ((thenE k a b).2 = (thenE k b a).2)
theorem then_f {l m : List Int} {c : Bool} : (thenE k (c, l) (false, m)).2 = plainL k (l ++ m) := rfl
theorem then_t {l m : List Int} {c : Bool} : (thenE k (c, l) (true, m)).2 = m := rfl
theorem swap_il (hb : plainL k b.2 = b.2) : swapB k (false, []) b = true := by
  unfold swapB
  rw [then_idle hb, norm_w]
  obtain ⟨c, l⟩ := b
  rw [then_f, List.append_nil]
  exact decide_eq_true hb.symm
theorem swap_comm : swapB k a b = swapB k b a := decide_eq_decide.mpr eq_comm
end
end KL

end
section
set_option Elab.async false
set_option linter.all false
/-! KI: words that are swallowed, words that are taken twice. -/
namespace KL
open QL
def hidB (k : Nat) (s m : List Int) : Bool := decide (s = []) || ((decide (k = 2) || decide (k = 5)) && (s.map fun x => decide (x ∈ m)).all id) || (decide (k = 6) && !decide (m = []))
theorem all_in {s m : List Int} : (s.map fun x => decide (x ∈ m)).all id = true ↔ ∀ x ∈ s, x ∈ m := by
  rw [List.all_map, List.all_eq_true]
  simp
theorem first_of {k : Nat} (h : k = 3 ∨ k = 4 ∨ k = 7) (l : List Int) : (plainL k l).take 1 = l.take 1 := by
  cases l with
  | nil => rw [plain_nil]
  | cons x r =>
    rcases h with rfl | rfl | rfl
    · show (heads (x :: r)).take 1 = _
      unfold heads
      rw [selH_neg (by simp)]
      rfl
    · rfl
    · rfl
theorem lst_tails (l : List Int) : lst (tails l) = lst l := by
  cases hr : l.reverse with
  | nil =>
    have : l = [] := by simpa using hr
    subst this; rfl
  | cons x r =>
    have e1 : l = r.reverse ++ [x] := by rw [← List.reverse_reverse l, hr]; simp
    unfold tails heads
    rw [hr, selH_neg (by simp), List.reverse_cons, lst_snoc, e1, lst_snoc]
theorem lst_lst (l : List Int) : lst (lst l) = lst l := by
  cases l with
  | nil => rfl
  | cons x r => obtain ⟨z, h1, _⟩ := lst_cons x r; rw [h1]; rfl
theorem last_of {k : Nat} (h : k = 5 ∨ k = 6 ∨ k = 7) (l : List Int) : lst (plainL k l) = lst l := by
  rcases h with rfl | rfl | rfl
  · exact lst_tails l
  · exact lst_lst l
  · show lst (l.take 1 ++ lst l) = lst l
    rw [lst_app]
    split
    · rename_i h
      rw [h]
      cases l with
      | nil => rfl
      | cons x r => exact absurd h (lst_ne (by simp))
    · exact lst_lst l
theorem len_of {k : Nat} (h : k = 0 ∨ k = 1) (l : List Int) : (plainL k l).length = l.length := by
  rcases h with rfl | rfl
  · rfl
  · exact (sortI_perm l).length_eq
theorem mem_of {k : Nat} (h : k = 2 ∨ k = 5) (l : List Int) (x : Int) : x ∈ plainL k l ↔ x ∈ l := by
  rcases h with rfl | rfl
  · exact sortU_mem l x
  · exact tails_mem
theorem set_of {a b : List Int} (h : ∀ x, x ∈ a ↔ x ∈ b) : plainL 2 a = plainL 2 b := lt_one (sortU_lt _) (sortU_lt _) fun k => by
  show k ∈ sortU _ ↔ k ∈ sortU _
  rw [sortU_mem, sortU_mem, h]
theorem heads_abs {a b : List Int} (h : ∀ x ∈ b, x ∈ a) : heads (a ++ b) = heads a := by
  unfold heads
  rw [selH_app, List.append_nil, selH_none h, List.append_nil]
theorem take1_abs {a b : List Int} (h : ∀ x ∈ b, x ∈ a) : (a ++ b).take 1 = a.take 1 := by
  cases a with
  | nil =>
    cases b with
    | nil => rfl
    | cons y r => have := h y (List.mem_cons_self ..); cases this
  | cons x r => rfl
/-- hidden words make no difference -/
theorem hid_t {k : Nat} {s m : List Int} (h : hidB k s m = true) (w : List Int) : plainL k (s ++ (w ++ m)) = plainL k (w ++ m) := by
  unfold hidB at h
  rw [Bool.or_eq_true, Bool.or_eq_true, Bool.and_eq_true, Bool.and_eq_true, Bool.or_eq_true, decide_eq_true_eq, decide_eq_true_eq, decide_eq_true_eq, decide_eq_true_eq, all_in] at h
  rcases h with (rfl | ⟨rfl | rfl, h⟩) | ⟨rfl, h⟩
  · rfl
  · refine set_of fun x => ?_
    simp only [List.mem_append]
    constructor
    · rintro (z | z)
      · exact .inr (h x z)
      · exact z
    · exact .inr
  · show tails _ = tails _
    rw [tails_sel, tails_sel]
    exact selT_abs fun x hx => List.mem_append_right _ (h x hx)
  · have hm : m ≠ [] := by simpa using h
    show lst _ = lst _
    rw [lst_app, if_neg (by simp [hm])]
def dueW (k : Nat) (s m : List Int) : List Int := if k = 6 then [] else plainL k [fresh (s ++ m)]
theorem app_mid (k : Nat) (a b c : List Int) : plainL k (a ++ (plainL k b ++ c)) = plainL k (a ++ (b ++ c)) := by
  rw [← plain_appr k a (plainL k b ++ c), plain_appl, plain_appr]
theorem hid_f {k : Nat} (hk : k < 8) {s m : List Int} (h : hidB k s m = false) : plainL k (s ++ (dueW k s m ++ m)) ≠ plainL k (dueW k s m ++ m) := by
  unfold hidB at h
  rw [Bool.or_eq_false_iff, Bool.or_eq_false_iff, decide_eq_false_iff_not] at h
  obtain ⟨⟨hs, h1⟩, h2⟩ := h
  obtain ⟨_, _, _, hf⟩ := fresh_spec (s ++ m)
  have hfs : fresh (s ++ m) ∉ s := fun z => hf (List.mem_append_left _ z)
  have hfm : fresh (s ++ m) ∉ m := fun z => hf (List.mem_append_right _ z)
  unfold dueW
  obtain ⟨f, ef⟩ : ∃ f, f = fresh (s ++ m) := ⟨_, rfl⟩
  rw [← ef] at hfs hfm ⊢
  have dist : ∀ (k : Nat), (k = 2 ∨ k = 5) → ((s.map fun x => decide (x ∈ m)).all id) = false → plainL k (s ++ ([f] ++ m)) ≠ plainL k ([f] ++ m) := fun k hk h e => by
    have : ¬ ∀ x ∈ s, x ∈ m := fun z => by rw [all_in.mpr z] at h; cases h
    refine this fun x hx => ?_
    have q : x ∈ plainL k (s ++ ([f] ++ m)) := (mem_of hk _ x).mpr (List.mem_append_left _ hx)
    rw [e, mem_of hk] at q
    rcases List.mem_append.mp q with q | q
    · rw [List.mem_singleton.mp q] at hx; exact absurd hx hfs
    · exact q
  have len : ∀ (k : Nat), (k = 0 ∨ k = 1) → plainL k (s ++ ([f] ++ m)) ≠ plainL k ([f] ++ m) := fun k hk e => by
    have := congrArg List.length e
    rw [len_of hk, len_of hk, List.length_append] at this
    exact hs (List.eq_nil_of_length_eq_zero (by omega))
  have fst : ∀ (k : Nat), (k = 3 ∨ k = 4 ∨ k = 7) → plainL k (s ++ ([f] ++ m)) ≠ plainL k ([f] ++ m) := fun k hk e => by
    have := congrArg (List.take 1) e
    rw [first_of hk, first_of hk] at this
    cases s with
    | nil => exact hs rfl
    | cons x r =>
      have : [x] = [f] := this
      have : x = f := by simpa using this
      rw [this] at hfs
      exact hfs (List.mem_cons_self ..)
  match k, hk with
  | 0, _ => rw [if_neg (by decide), app_mid, plain_appl]; exact len 0 (by decide)
  | 1, _ => rw [if_neg (by decide), app_mid, plain_appl]; exact len 1 (by decide)
  | 2, _ => rw [if_neg (by decide), app_mid, plain_appl]; exact dist 2 (by decide) (by simpa using h1)
  | 3, _ => rw [if_neg (by decide), app_mid, plain_appl]; exact fst 3 (by decide)
  | 4, _ => rw [if_neg (by decide), app_mid, plain_appl]; exact fst 4 (by decide)
  | 5, _ => rw [if_neg (by decide), app_mid, plain_appl]; exact dist 5 (by decide) (by simpa using h1)
  | 6, _ =>
    rw [if_pos rfl]
    have hm : m = [] := by simpa using h2
    subst hm
    show lst (s ++ ([] ++ [])) ≠ lst ([] ++ [])
    simp only [List.append_nil]
    exact lst_ne hs
  | 7, _ => rw [if_neg (by decide), app_mid, plain_appl]; exact fst 7 (by decide)
/-! ### twice -/
def dueK (j k : Nat) : Bool := match j with
  | 0 => !(decide (k = 0) || decide (k = 1))
  | 1 => decide (k = 2) || decide (k = 4) || decide (k = 3)
  | _ => decide (k = 2) || decide (k = 6) || decide (k = 5)
def LLw (j : Nat) (h w g : List Int) : List (List Int) := match j with
  | 0 => [h, w, w, []]
  | _ => [h, w, g, w]
def SSw (j : Nat) (h w g : List Int) : List (List Int) := match j with
  | 0 => [h, w, []]
  | 1 => [h, w, g]
  | _ => [h, g, w]
theorem tw_nil (j k : Nat) (h g : List Int) : plainL k (LLw j h [] g).flatten = plainL k (SSw j h [] g).flatten := by
  match j with
  | 0 => simp [LLw, SSw]
  | 1 => simp [LLw, SSw]
  | n + 2 => simp [LLw, SSw]
theorem lst_end {a w : List Int} (h : w ≠ []) : lst (a ++ w) = lst w := by rw [lst_app, if_neg h]
theorem tw_t {j k : Nat} (hj : j < 3) (hk : k < 8) {w : List Int} (hd : dueK j k = true) (h g : List Int) : plainL k (LLw j h w g).flatten = plainL k (SSw j h w g).flatten := by
  by_cases hw : w = []
  · subst hw; exact tw_nil j k h g
  match j, hj with
  | 0, _ =>
    simp only [LLw, SSw, List.flatten_cons, List.flatten_nil, List.append_nil]
    have ab : ∀ x ∈ w, x ∈ h ++ w := fun x hx => List.mem_append_right _ hx
    match k, hk with
    | 0, _ => cases hd
    | 1, _ => cases hd
    | 2, _ => exact set_of fun x => by simp
    | 3, _ => show heads _ = heads _; rw [← List.append_assoc, heads_abs ab]
    | 4, _ => show List.take 1 _ = List.take 1 _; rw [← List.append_assoc, take1_abs ab]
    | 5, _ => show tails _ = tails _; rw [tails_sel, tails_sel, selT_mid fun x hx => hx]
    | 6, _ => show lst _ = lst _; rw [← List.append_assoc, lst_end hw, lst_end hw]
    | 7, _ =>
      show List.take 1 _ ++ lst _ = List.take 1 _ ++ lst _
      rw [← List.append_assoc, lst_end hw, lst_end hw, take1_abs ab]
  | 1, _ =>
    simp only [LLw, SSw, List.flatten_cons, List.flatten_nil, List.append_nil]
    have e : h ++ (w ++ (g ++ w)) = (h ++ (w ++ g)) ++ w := by simp
    have ab : ∀ x ∈ w, x ∈ h ++ (w ++ g) := fun x hx => by simp [hx]
    match k, hk with
    | 0, _ => cases hd
    | 1, _ => cases hd
    | 2, _ =>
      refine set_of fun x => ?_
      · simp only [List.mem_append]
        constructor
        · rintro (z | z | z | z)
          · exact .inl z
          · exact .inr (.inl z)
          · exact .inr (.inr z)
          · exact .inr (.inl z)
        · rintro (z | z | z)
          · exact .inl z
          · exact .inr (.inl z)
          · exact .inr (.inr (.inl z))
    | 3, _ => show heads _ = heads _; rw [e, heads_abs ab]
    | 4, _ => show List.take 1 _ = List.take 1 _; rw [e, take1_abs ab]
    | 5, _ => cases hd
    | 6, _ => cases hd
    | 7, _ => cases hd
  | 2, _ =>
    simp only [LLw, SSw, List.flatten_cons, List.flatten_nil, List.append_nil]
    match k, hk with
    | 0, _ => cases hd
    | 1, _ => cases hd
    | 2, _ =>
      refine set_of fun x => ?_
      · simp only [List.mem_append]
        constructor
        · rintro (z | z | z | z)
          · exact .inl z
          · exact .inr (.inr z)
          · exact .inr (.inl z)
          · exact .inr (.inr z)
        · rintro (z | z | z)
          · exact .inl z
          · exact .inr (.inr (.inl z))
          · exact .inr (.inl z)
    | 3, _ => cases hd
    | 4, _ => cases hd
    | 5, _ => show tails _ = tails _; rw [tails_sel, tails_sel, selT_mid fun x hx => List.mem_append_right _ hx]
    | 6, _ =>
      show lst _ = lst _
      have e1 : h ++ (w ++ (g ++ w)) = (h ++ (w ++ g)) ++ w := by simp
      have e2 : h ++ (g ++ w) = (h ++ g) ++ w := by simp
      rw [e1, e2, lst_end hw, lst_end hw]
    | 7, _ => cases hd
theorem tw_f {j k : Nat} (hj : j < 3) (hk : k < 8) {w : List Int} (hw : w ≠ []) (hd : dueK j k = false) : plainL k (LLw j [] w (plainL k [fresh w])).flatten ≠ plainL k (SSw j [] w (plainL k [fresh w])).flatten := by
  obtain ⟨_, _, _, hf⟩ := fresh_spec w
  obtain ⟨f, ef⟩ : ∃ f, f = fresh w := ⟨_, rfl⟩
  rw [← ef] at hf ⊢
  have wl : 0 < w.length := List.length_pos_iff.mpr hw
  have len : ∀ (k : Nat) (a b : List Int), (k = 0 ∨ k = 1) → a.length ≠ b.length → plainL k a ≠ plainL k b := fun k a b hk h e => by
    have := congrArg List.length e
    rw [len_of hk, len_of hk] at this
    exact h this
  match j, hj with
  | 0, _ =>
    simp only [LLw, SSw, List.flatten_cons, List.flatten_nil, List.append_nil, List.nil_append]
    have : k = 0 ∨ k = 1 := by
      unfold dueK at hd
      simp at hd
      by_cases h0 : k = 0
      · exact .inl h0
      · exact .inr (hd h0)
    exact len k _ _ this (by simp; omega)
  | 1, _ =>
    simp only [LLw, SSw, List.flatten_cons, List.flatten_nil, List.append_nil, List.nil_append]
    rw [app_mid, plain_appr]
    have lastN : ∀ k, (k = 5 ∨ k = 6 ∨ k = 7) → plainL k (w ++ ([f] ++ w)) ≠ plainL k (w ++ [f]) := fun k hk e => by
      have := congrArg lst e
      rw [last_of hk, last_of hk, lst_snoc, ← List.append_assoc, lst_end hw] at this
      cases w with
      | nil => exact hw rfl
      | cons x r =>
        obtain ⟨z, h1, h2⟩ := lst_cons x r
        rw [h1] at this
        have : z = f := by simpa using this
        rw [this] at h2
        exact hf h2
    match k, hk with
    | 0, _ => exact len 0 _ _ (by decide) (by simp; omega)
    | 1, _ => exact len 1 _ _ (by decide) (by simp; omega)
    | 2, _ => cases hd
    | 3, _ => cases hd
    | 4, _ => cases hd
    | 5, _ => exact lastN 5 (by decide)
    | 6, _ => exact lastN 6 (by decide)
    | 7, _ => exact lastN 7 (by decide)
  | 2, _ =>
    simp only [LLw, SSw, List.flatten_cons, List.flatten_nil, List.append_nil, List.nil_append]
    rw [app_mid, plain_appl]
    have firstN : ∀ k, (k = 3 ∨ k = 4 ∨ k = 7) → plainL k (w ++ ([f] ++ w)) ≠ plainL k ([f] ++ w) := fun k hk e => by
      have := congrArg (List.take 1) e
      rw [first_of hk, first_of hk] at this
      cases w with
      | nil => exact hw rfl
      | cons x r =>
        have : [x] = [f] := this
        have : x = f := by simpa using this
        rw [this] at hf
        exact hf (List.mem_cons_self ..)
    match k, hk with
    | 0, _ => exact len 0 _ _ (by decide) (by simp; omega)
    | 1, _ => exact len 1 _ _ (by decide) (by simp; omega)
    | 2, _ => cases hd
    | 3, _ => exact firstN 3 (by decide)
    | 4, _ => exact firstN 4 (by decide)
    | 5, _ => cases hd
    | 6, _ => cases hd
    | 7, _ => exact firstN 7 (by decide)
/-- asked: the same where it is due, not the same where it is not and the pair is () and the fresh word -/
def dueB (j k : Nat) (w : List Int) : Bool := decide (w = []) || dueK j k
theorem tw_ok {j k : Nat} (hj : j < 3) (hk : k < 8) (w h g : List Int) :
    (dueB j k w = true → plainL k (LLw j h w g).flatten = plainL k (SSw j h w g).flatten) ∧
    (dueB j k w = false → h = [] → g = plainL k [fresh w] → plainL k (LLw j h w g).flatten ≠ plainL k (SSw j h w g).flatten) := by
  unfold dueB
  constructor
  · intro hd
    rcases (Bool.or_eq_true _ _).mp hd with h1 | h1
    · have := of_decide_eq_true h1; subst this; exact tw_nil j k h g
    · exact tw_t hj hk h1 h g
  · intro hd h0 hg
    obtain ⟨h1, h2⟩ := (Bool.or_eq_false_iff).mp hd
    subst h0; subst hg
    exact tw_f hj hk (of_decide_eq_false h1) h2
end KL

end
section
set_option Elab.async false
set_option linter.all false
/-! KJ: rests, in plain Lean. -/
namespace KL
open QL
/-! ### rows without some letters, each once -/
def goT : List Int → List Int → List Int × List Int
  | [], t => ([], t)
  | x :: r, t => if x ∈ t then goT r (t.erase x) else (x :: (goT r t).1, (goT r t).2)
def delL (row : List Int) : List Int → List Int
  | [] => row
  | x :: r => delL (row.erase x) r
theorem goT_c1 (a : Int) : ∀ (r t : List Int), (goT r t).1.count a = r.count a - t.count a
  | [], t => by simp [goT]
  | x :: r, t => by
    unfold goT
    by_cases h : x ∈ t
    · rw [if_pos h, goT_c1 a r, List.count_erase, List.count_cons]
      by_cases e : x = a
      · subst e
        have := List.count_pos_iff.mpr h
        simp; omega
      · simp [e]
    · rw [if_neg h, List.count_cons, goT_c1 a r, List.count_cons]
      by_cases e : x = a
      · subst e
        have := List.count_eq_zero.mpr h
        simp; omega
      · simp [e]
theorem goT_c2 (a : Int) : ∀ (r t : List Int), (goT r t).2.count a = t.count a - r.count a
  | [], t => by simp [goT]
  | x :: r, t => by
    unfold goT
    by_cases h : x ∈ t
    · rw [if_pos h, goT_c2 a r, List.count_erase, List.count_cons]
      by_cases e : x = a
      · subst e
        have := List.count_pos_iff.mpr h
        simp; omega
      · simp [e]
    · rw [if_neg h, goT_c2 a r, List.count_cons]
      by_cases e : x = a
      · subst e
        have := List.count_eq_zero.mpr h
        simp; omega
      · simp [e]
theorem goT_sub : ∀ (r t : List Int), (goT r t).1.Sublist r
  | [], t => List.Sublist.refl _
  | x :: r, t => by
    unfold goT
    split
    · exact (goT_sub r _).cons x
    · exact (goT_sub r t).cons_cons x
theorem delL_c (a : Int) : ∀ (l row : List Int), (delL row l).count a = row.count a - l.count a
  | [], row => by simp [delL]
  | x :: l, row => by
    unfold delL
    rw [delL_c a l, List.count_erase, List.count_cons]
    by_cases e : x = a
    · subst e; simp; omega
    · simp [e]
theorem delL_sub : ∀ (l row : List Int), (delL row l).Sublist row
  | [], row => List.Sublist.refl _
  | x :: l, row => (delL_sub l _).trans List.erase_sublist
theorem nil_count {l : List Int} : l = [] ↔ ∀ a, l.count a = 0 := by
  constructor
  · rintro rfl; simp
  · intro h
    cases l with
    | nil => rfl
    | cons x r => have := h x; simp at this
theorem goT_nil {r t : List Int} : (goT r t).2 = [] ↔ ∀ a, t.count a ≤ r.count a := by
  rw [nil_count]
  constructor
  · intro h a; have := h a; rw [goT_c2] at this; omega
  · intro h a; have := h a; rw [goT_c2]; omega
/-! ### sorted words -/
theorem sorted_of {w : List Int} (h : w.Pairwise (· ≤ ·)) : sortI w = w := sorted_one (sortI_perm _) (sortI_sorted _) h
theorem plain1 {w : List Int} : plainL 1 w = w ↔ w.Pairwise (· ≤ ·) := ⟨fun h => by rw [← h]; exact sortI_sorted w, sorted_of⟩
theorem plain2' {w : List Int} : plainL 2 w = w ↔ w.Pairwise (· < ·) := ⟨fun h => by rw [← h]; exact sortU_lt w, fun h => lt_one (sortU_lt w) h fun k => sortU_mem w k⟩
theorem le_of_lt {w : List Int} (h : w.Pairwise (· < ·)) : w.Pairwise (· ≤ ·) := h.imp fun h => Int.le_of_lt h
theorem nd_of_lt {w : List Int} (h : w.Pairwise (· < ·)) : w.Nodup := h.imp fun h => Int.ne_of_lt h
theorem count_nd {l : List Int} (h : l.Nodup) (a : Int) : l.count a = if a ∈ l then 1 else 0 := by
  by_cases q : a ∈ l
  · rw [if_pos q]
    have := List.count_pos_iff.mpr q
    have := List.nodup_iff_count.mp h a
    omega
  · rw [if_neg q]; exact List.count_eq_zero.mpr q
theorem cnt_one {a b : List Int} (h : ∀ k, a.count k = b.count k) (ha : a.Pairwise (· ≤ ·)) (hb : b.Pairwise (· ≤ ·)) : a = b := sorted_one (List.perm_iff_count.mpr h) ha hb
theorem goT_del {b : List Int} (hb : b.Pairwise (· ≤ ·)) (a : List Int) : (goT b a).1 = delL b a := cnt_one (fun k => by rw [goT_c1, delL_c]) (hb.sublist (goT_sub b a)) (hb.sublist (delL_sub a b))
/-! ### rests -/
def Vd (k : Nat) (a b r : List Int) : Prop := plainL k r = r ∧ plainL k (a ++ r) = b
instance (k : Nat) (a b r : List Int) : Decidable (Vd k a b r) := inferInstanceAs (Decidable (_ ∧ _))
structure IsRest (k : Nat) (a b w : List Int) : Prop where
  vd : Vd k a b w
  sub : w.Sublist b
  min : ∀ r, Vd k a b r → w.length ≤ r.length
  uni : ∀ r, Vd k a b r → r.length = w.length → (k = 7 → r.Sublist b) → r = w
def restP : Nat → List Int → List Int → Option (List Int)
  | 1, a, b => if (goT b a).2 = [] then some (goT b a).1 else none
  | 2, a, b => if (goT b a).2 = [] then some (goT b a).1 else none
  | 5, a, b => ((List.range (b.length + 1)).reverse.find? fun n => decide (a.filter (fun x => !decide (x ∈ b.drop n)) = b.take n)).map fun n => b.drop n
  | 6, a, b => if a = b then some [] else if b = [] then none else some b
  | 7, a, b => if a = b then some [] else if a ≠ [] ∧ a.take 1 ≠ b.take 1 then none else some b
  | _, a, b => if b.take a.length = a then some (b.drop a.length) else none
theorem restP_0 {a b : List Int} : restP 0 a b = if b.take a.length = a then some (b.drop a.length) else none := rfl
theorem restP_3 {a b : List Int} : restP 3 a b = if b.take a.length = a then some (b.drop a.length) else none := rfl
theorem restP_4 {a b : List Int} : restP 4 a b = if b.take a.length = a then some (b.drop a.length) else none := rfl
theorem restP_1 {a b : List Int} : restP 1 a b = if (goT b a).2 = [] then some (goT b a).1 else none := rfl
theorem restP_2 {a b : List Int} : restP 2 a b = if (goT b a).2 = [] then some (goT b a).1 else none := rfl
theorem restP_5 {a b : List Int} : restP 5 a b = ((List.range (b.length + 1)).reverse.find? fun n => decide (a.filter (fun x => !decide (x ∈ b.drop n)) = b.take n)).map fun n => b.drop n := rfl
theorem restP_6 {a b : List Int} : restP 6 a b = if a = b then some [] else if b = [] then none else some b := rfl
theorem restP_7 {a b : List Int} : restP 7 a b = if a = b then some [] else if a ≠ [] ∧ a.take 1 ≠ b.take 1 then none else some b := rfl
def RestSpec (k : Nat) (a b : List Int) : Option (List Int) → Prop
  | some w => IsRest k a b w ∧ (k = 1 ∨ k = 2 ∨ w <:+ b)
  | none => ∀ r, ¬ Vd k a b r
section
variable {a b : List Int}
theorem pre_iff : b.take a.length = a ↔ ∃ r, b = a ++ r := by
  constructor
  · intro h
    exact ⟨b.drop a.length, by conv => lhs; rw [← List.take_append_drop a.length b, h]⟩
  · rintro ⟨r, rfl⟩
    exact List.take_left
theorem rest0 : RestSpec 0 a b (restP 0 a b) := by
  rw [restP_0]
  by_cases h : b.take a.length = a
  · rw [if_pos h]
    obtain ⟨r, rfl⟩ := pre_iff.mp h
    rw [List.drop_left]
    have go : ∀ s, Vd 0 a (a ++ r) s → s = r := fun s h => List.append_cancel_left (h.2 : a ++ s = a ++ r)
    exact ⟨⟨⟨rfl, rfl⟩, List.sublist_append_right _ _, fun s h => by rw [go s h]; exact Nat.le_refl _, fun s h _ _ => go s h⟩, .inr (.inr ⟨a, rfl⟩)⟩
  · rw [if_neg h]
    exact fun r hr => h (pre_iff.mpr ⟨r, hr.2.symm⟩)
theorem rest1 (pa : plainL 1 a = a) (pb : plainL 1 b = b) : RestSpec 1 a b (restP 1 a b) := by
  rw [restP_1]
  have sb := plain1.mp pb
  have vd : ∀ r, Vd 1 a b r ↔ r.Pairwise (· ≤ ·) ∧ ∀ x, a.count x + r.count x = b.count x := fun r => by
    unfold Vd
    rw [plain1]
    refine and_congr_right fun hr => ?_
    constructor
    · intro e x
      rw [← e, ← List.count_append]
      exact ((sortI_perm (a ++ r)).count_eq x).symm
    · intro h
      refine cnt_one (fun x => ?_) (sortI_sorted _) sb
      rw [← h x, ← List.count_append]
      exact (sortI_perm (a ++ r)).count_eq x
  by_cases h : (goT b a).2 = []
  · rw [if_pos h]
    have h' := goT_nil.mp h
    have sg := sb.sublist (goT_sub b a)
    have v0 : Vd 1 a b (goT b a).1 := (vd _).mpr ⟨sg, fun x => by rw [goT_c1]; have := h' x; omega⟩
    have go : ∀ s, Vd 1 a b s → s = (goT b a).1 := fun s hs => cnt_one (fun x => by
      have h1 := ((vd _).mp hs).2 x
      rw [goT_c1]; omega) ((vd _).mp hs).1 sg
    exact ⟨⟨v0, goT_sub b a, fun s h => by rw [go s h]; exact Nat.le_refl _, fun s h _ _ => go s h⟩, .inl rfl⟩
  · rw [if_neg h]
    exact fun r hr => h (goT_nil.mpr fun x => by have := ((vd r).mp hr).2 x; omega)
theorem rest2 (pa : plainL 2 a = a) (pb : plainL 2 b = b) : RestSpec 2 a b (restP 2 a b) := by
  rw [restP_2]
  have sb := plain2'.mp pb
  have na := nd_of_lt (plain2'.mp pa)
  have nb := nd_of_lt sb
  have vd : ∀ r, Vd 2 a b r ↔ r.Pairwise (· < ·) ∧ ∀ x, (x ∈ a ∨ x ∈ r) ↔ x ∈ b := fun r => by
    unfold Vd
    rw [plain2']
    refine and_congr_right fun hr => ?_
    constructor
    · intro e x
      rw [← e]
      show _ ↔ x ∈ sortU (a ++ r)
      rw [sortU_mem, List.mem_append]
    · intro h
      refine lt_one (sortU_lt _) sb fun x => ?_
      show x ∈ sortU (a ++ r) ↔ _
      rw [sortU_mem, List.mem_append]
      exact h x
  have sg := sb.sublist (goT_sub b a)
  have mem : ∀ x, x ∈ (goT b a).1 ↔ x ∈ b ∧ x ∉ a := fun x => by
    rw [← List.count_pos_iff, goT_c1, count_nd nb, count_nd na]
    by_cases h1 : x ∈ b <;> by_cases h2 : x ∈ a <;> simp [h1, h2]
  by_cases h : (goT b a).2 = []
  · rw [if_pos h]
    have h' : ∀ x, x ∈ a → x ∈ b := fun x hx => by
      have := goT_nil.mp h x
      have h2 := List.count_pos_iff.mpr hx
      exact List.count_pos_iff.mp (by omega)
    have v0 : Vd 2 a b (goT b a).1 := (vd _).mpr ⟨sg, fun x => by
      rw [mem]
      by_cases q : x ∈ a
      · simp [q, h' x q]
      · simp [q]⟩
    have sub : ∀ s, Vd 2 a b s → ∀ x ∈ (goT b a).1, x ∈ s := fun s hs x hx => by
      obtain ⟨q1, q2⟩ := (mem x).mp hx
      exact (((vd _).mp hs).2 x).mpr q1 |>.elim (fun z => absurd z q2) id
    have mn : ∀ s, Vd 2 a b s → (goT b a).1.length ≤ s.length := fun s hs => nd_le (nd_of_lt sg) (sub s hs)
    refine ⟨⟨v0, goT_sub b a, mn, fun s hs hl _ => ?_⟩, .inr (.inl rfl)⟩
    have ls := ((vd _).mp hs).1
    refine lt_one ls sg fun x => ⟨fun hx => Classical.byContradiction fun hn => ?_, sub s hs x⟩
    have := nd_le (l := x :: (goT b a).1) (m := s) (List.nodup_cons.mpr ⟨hn, nd_of_lt sg⟩) fun y hy => by
      rcases List.mem_cons.mp hy with rfl | hy
      · exact hx
      · exact sub s hs y hy
    rw [List.length_cons] at this
    omega
  · rw [if_neg h]
    refine fun r hr => h (goT_nil.mpr fun x => ?_)
    rw [count_nd na, count_nd nb]
    have := ((vd r).mp hr).2 x
    by_cases q : x ∈ a
    · simp [q, this.mp (.inl q)]
    · simp [q]
theorem sub_len {l m : List Int} (h : l.Sublist m) (e : m.length = l.length) : m = l := (h.eq_of_length e.symm).symm
theorem selH_sub : ∀ (l s : List Int), (selH s l).Sublist l
  | [], _ => List.Sublist.refl _
  | x :: r, s => by
    unfold selH
    split
    · exact (selH_sub r s).cons x
    · exact (selH_sub r _).cons_cons x
theorem rest3 (pa : plainL 3 a = a) (pb : plainL 3 b = b) : RestSpec 3 a b (restP 3 a b) := by
  rw [restP_3]
  have na := nd3 pa
  have nb := nd3 pb
  have vd : ∀ r, Vd 3 a b r → b = a ++ selH a r := fun r hr => by
    have : heads (a ++ r) = b := hr.2
    rw [heads_app2 na] at this
    exact this.symm
  by_cases h : b.take a.length = a
  · rw [if_pos h]
    obtain ⟨r, rfl⟩ := pre_iff.mp h
    rw [List.drop_left]
    have ds := List.nodup_append.mp nb
    have pr : plainL 3 r = r := heads_id ds.2.1
    have go : ∀ s, Vd 3 a (a ++ r) s → r = selH a s := fun s h => List.append_cancel_left (vd s h)
    refine ⟨⟨⟨pr, pb⟩, List.sublist_append_right _ _, fun s h => ?_, fun s h hl _ => ?_⟩, .inr (.inr ⟨a, rfl⟩)⟩
    · rw [go s h]; exact selH_len s a
    · have := go s h
      rw [this] at hl ⊢
      exact sub_len (selH_sub s a) hl
  · rw [if_neg h]
    exact fun r hr => h (pre_iff.mpr ⟨_, vd r hr⟩)
theorem rest4 (pa : plainL 4 a = a) (pb : plainL 4 b = b) : RestSpec 4 a b (restP 4 a b) := by
  rw [restP_4]
  rcases form4 pa with rfl | ⟨x, rfl⟩
  · rw [if_pos (by simp)]
    have go : ∀ s, Vd 4 [] b s → s = b := fun s h => by
      have h2 : plainL 4 s = b := h.2
      rw [← h2, h.1]
    exact ⟨⟨⟨pb, pb⟩, List.Sublist.refl _, fun s h => by rw [go s h]; exact Nat.le_refl _, fun s h _ _ => go s h⟩, .inr (.inr ⟨[], rfl⟩)⟩
  · have v : ∀ r, Vd 4 [x] b r → b = [x] := fun r hr => hr.2.symm
    by_cases h : b = [x]
    · subst h
      rw [if_pos (show List.take [x].length [x] = [x] from rfl)]
      refine ⟨⟨⟨rfl, rfl⟩, List.nil_sublist _, fun _ _ => Nat.zero_le _, fun r _ hl _ => List.eq_nil_of_length_eq_zero hl⟩, .inr (.inr ⟨[x], rfl⟩)⟩
    · rw [if_neg]
      · exact fun r hr => h (v r hr)
      · intro e
        rcases form4 pb with rfl | ⟨y, rfl⟩
        · cases e
        · exact h e
theorem selT_app : ∀ (a r : List Int), a.Nodup → selT (a ++ r) = a.filter (fun x => !decide (x ∈ r)) ++ selT r
  | [], r, _ => rfl
  | x :: a, r, h => by
    obtain ⟨h1, h2⟩ := List.nodup_cons.mp h
    rw [List.cons_append, selT, selT_app a r h2]
    by_cases q : x ∈ r
    · rw [if_pos (List.mem_append.mpr (.inr q)), List.filter_cons_of_neg (by simp [q])]
    · rw [if_neg (by simp [h1, q]), List.filter_cons_of_pos (by simp [q])]; rfl
theorem selT_id {r : List Int} (h : r.Nodup) : selT r = r := by
  have := selT_app r [] h
  simp at this
  rw [this, selT]
  simp
theorem rest5 (pa : plainL 5 a = a) (pb : plainL 5 b = b) : RestSpec 5 a b (restP 5 a b) := by
  rw [restP_5]
  have na := nd5 pa
  have nb := nd5 pb
  have pl : ∀ r : List Int, plainL 5 r = r ↔ r.Nodup := fun r => ⟨nd5, fun h => by show tails r = r; rw [tails_sel]; exact selT_id h⟩
  have vd : ∀ r, Vd 5 a b r ↔ ∃ n, n ≤ b.length ∧ r = b.drop n ∧ a.filter (fun x => !decide (x ∈ b.drop n)) = b.take n := fun r => by
    unfold Vd
    rw [pl]
    show r.Nodup ∧ tails (a ++ r) = b ↔ _
    rw [tails_sel]
    constructor
    · rintro ⟨h1, h2⟩
      rw [selT_app a r na, selT_id h1] at h2
      refine ⟨(a.filter (fun x => !decide (x ∈ r))).length, ?_, ?_, ?_⟩
      · rw [← h2, List.length_append]; omega
      · rw [← h2, List.drop_left]
      · have e : b.drop (a.filter (fun x => !decide (x ∈ r))).length = r := by rw [← h2, List.drop_left]
        rw [e]
        conv => rhs; rw [← h2]
        rw [List.take_left]
    · rintro ⟨n, _, rfl, h⟩
      have nd : (b.drop n).Nodup := nb.sublist (List.drop_sublist n b)
      refine ⟨nd, ?_⟩
      rw [selT_app a _ na, selT_id nd, h, List.take_append_drop]
  obtain ⟨p, hp⟩ : ∃ p : Nat → Bool, p = fun n => decide (a.filter (fun x => !decide (x ∈ b.drop n)) = b.take n) := ⟨_, rfl⟩
  have hp' : ∀ n, p n = true ↔ a.filter (fun x => !decide (x ∈ b.drop n)) = b.take n := fun n => by rw [hp]; exact decide_eq_true_iff
  rw [← hp]
  have key : ∀ N, match (List.range N).reverse.find? p with
      | some n => n < N ∧ p n = true ∧ ∀ m, n < m → m < N → p m = false
      | none => ∀ m, m < N → p m = false := by
    intro N
    induction N with
    | zero => exact fun m hm => by omega
    | succ N ih =>
      rw [List.range_succ, List.reverse_append, List.reverse_singleton, List.singleton_append]
      cases hN : p N with
      | true =>
        rw [List.find?_cons_of_pos hN]
        exact ⟨Nat.lt_succ_self _, hN, fun m h1 h2 => by omega⟩
      | false =>
        rw [List.find?_cons_of_neg (by simp [hN])]
        cases e : (List.range N).reverse.find? p with
        | some n =>
          rw [e] at ih
          obtain ⟨i1, i2, i3⟩ := ih
          refine ⟨by omega, i2, fun m h1 h2 => ?_⟩
          by_cases q : m = N
          · rw [q]; exact hN
          · exact i3 m h1 (by omega)
        | none =>
          rw [e] at ih
          intro m hm
          by_cases q : m = N
          · rw [q]; exact hN
          · exact ih m (by omega)
  have k1 := key (b.length + 1)
  cases e : (List.range (b.length + 1)).reverse.find? p with
  | some n =>
    rw [e] at k1
    obtain ⟨h1, h2, h3⟩ := k1
    have mn : ∀ s, Vd 5 a b s → ∃ m, m ≤ n ∧ s = b.drop m := fun s hs => by
      obtain ⟨m, m1, m2, m3⟩ := (vd s).mp hs
      refine ⟨m, ?_, m2⟩
      refine Classical.byContradiction fun q => ?_
      have := h3 m (by omega) (by omega)
      rw [(hp' m).mpr m3] at this
      cases this
    refine ⟨⟨(vd _).mpr ⟨n, by omega, rfl, (hp' n).mp h2⟩, List.drop_sublist n b, fun s hs => ?_, fun s hs hl _ => ?_⟩, .inr (.inr (List.drop_suffix n b))⟩
    · obtain ⟨m, m1, rfl⟩ := mn s hs
      rw [List.length_drop, List.length_drop]; omega
    · obtain ⟨m, m1, rfl⟩ := mn s hs
      rw [List.length_drop, List.length_drop] at hl
      have : m = n := by omega
      rw [this]
  | none =>
    rw [e] at k1
    intro s hs
    obtain ⟨m, m1, m2, m3⟩ := (vd s).mp hs
    have := k1 m (by omega)
    rw [(hp' m).mpr m3] at this
    cases this
theorem rest6 (pa : plainL 6 a = a) (pb : plainL 6 b = b) : RestSpec 6 a b (restP 6 a b) := by
  rw [restP_6]
  have vd : ∀ r, Vd 6 a b r → (r = [] ∧ a = b) ∨ (r ≠ [] ∧ r = b) := fun r hr => by
    have h2 : lst (a ++ r) = b := hr.2
    have h1 : lst r = r := hr.1
    by_cases h : r = []
    · subst h
      rw [List.append_nil] at h2
      exact .inl ⟨rfl, by rw [← h2]; exact pa.symm⟩
    · rw [lst_app, if_neg h, h1] at h2
      exact .inr ⟨h, h2⟩
  by_cases h : a = b
  · subst h
    rw [if_pos rfl]
    exact ⟨⟨⟨rfl, by rw [List.append_nil]; exact pa⟩, List.nil_sublist _, fun _ _ => Nat.zero_le _, fun r _ hl _ => List.eq_nil_of_length_eq_zero hl⟩, .inr (.inr ⟨a, by simp⟩)⟩
  · rw [if_neg h]
    have v : ∀ r, Vd 6 a b r → r ≠ [] ∧ r = b := fun r hr => (vd r hr).elim (fun z => absurd z.2 h) id
    by_cases hb : b = []
    · rw [if_pos hb]
      exact fun r hr => (v r hr).1 (by rw [(v r hr).2, hb])
    · rw [if_neg hb]
      refine ⟨⟨⟨pb, last6 hb pb⟩, List.Sublist.refl _, fun r hr => by rw [(v r hr).2]; exact Nat.le_refl _, fun r hr _ _ => (v r hr).2⟩, .inr (.inr ⟨[], rfl⟩)⟩
theorem ends2 {x y u v : Int} : plainL 7 ([x, y] ++ [u, v]) = [x, v] := rfl
theorem rest7 (pa : plainL 7 a = a) (pb : plainL 7 b = b) : RestSpec 7 a b (restP 7 a b) := by
  rw [restP_7]
  by_cases h : a = b
  · subst h
    rw [if_pos rfl]
    exact ⟨⟨⟨rfl, by rw [List.append_nil]; exact pa⟩, List.nil_sublist _, fun _ _ => Nat.zero_le _, fun r _ hl _ => List.eq_nil_of_length_eq_zero hl⟩, .inr (.inr ⟨a, by simp⟩)⟩
  · rw [if_neg h]
    have v : ∀ r, Vd 7 a b r → ∃ u v, r = [u, v] ∧ plainL 7 (a ++ [u, v]) = b := fun r hr => by
      rcases form7 hr.1 with rfl | ⟨x, y, rfl⟩
      · have := hr.2
        rw [List.append_nil, pa] at this
        exact absurd this h
      · exact ⟨x, y, rfl, hr.2⟩
    rcases form7 pa with rfl | ⟨x, y, rfl⟩
    · rw [if_neg (by simp)]
      have go : ∀ s, Vd 7 [] b s → s = b := fun s hs => by
        have h2 : plainL 7 s = b := hs.2
        rw [← h2, hs.1]
      exact ⟨⟨⟨pb, pb⟩, List.Sublist.refl _, fun s hs => by rw [go s hs]; exact Nat.le_refl _, fun s hs _ _ => go s hs⟩, .inr (.inr ⟨[], rfl⟩)⟩
    · rcases form7 pb with rfl | ⟨z, w, rfl⟩
      · rw [if_pos (by simp)]
        intro r hr
        obtain ⟨u, v', _, e⟩ := v r hr
        cases e
      · by_cases q : x = z
        · subst q
          rw [if_neg (by simp)]
          refine ⟨⟨⟨rfl, rfl⟩, List.Sublist.refl _, fun s hs => ?_, fun s hs hl hsub => ?_⟩, .inr (.inr ⟨[], rfl⟩)⟩
          · obtain ⟨u, v', rfl, _⟩ := v s hs; simp
          · exact (hsub rfl).eq_of_length hl
        · rw [if_pos (by simp [q])]
          intro r hr
          obtain ⟨u, v', rfl, e⟩ := v r hr
          rw [ends2] at e
          have : x = z := by simpa using congrArg (List.take 1) e
          exact q this
end
theorem rest_ok {k : Nat} (hk : k < 8) {a b : List Int} (pa : plainL k a = a) (pb : plainL k b = b) : RestSpec k a b (restP k a b) := by
  match k, hk with
  | 0, _ => exact rest0
  | 1, _ => exact rest1 pa pb
  | 2, _ => exact rest2 pa pb
  | 3, _ => exact rest3 pa pb
  | 4, _ => exact rest4 pa pb
  | 5, _ => exact rest5 pa pb
  | 6, _ => exact rest6 pa pb
  | 7, _ => exact rest7 pa pb
/-! ### the law's own rest -/
def sufGo (k : Nat) (a b : List Int) : Nat → Nat → Option (List Int)
  | 0, _ => none
  | n + 1, s => if Vd k a b (b.drop (b.length - s)) then some (b.drop (b.length - s)) else sufGo k a b n (s + 1)
def restW (k : Nat) (a b : List Int) : Option (List Int) := if k = 1 ∨ k = 2 then (if plainL k (a ++ delL b a) = b then some (delL b a) else none) else sufGo k a b (b.length + 1) 0
theorem suf_none {k : Nat} {a b : List Int} (h : ∀ r, ¬ Vd k a b r) : ∀ n s, sufGo k a b n s = none
  | 0, _ => rfl
  | n + 1, s => by unfold sufGo; rw [if_neg (h _)]; exact suf_none h n (s + 1)
theorem suf_some {k : Nat} {a b w : List Int} (h : IsRest k a b w) (hs : w <:+ b) : ∀ n s, s ≤ w.length → w.length < s + n → sufGo k a b n s = some w
  | 0, s, h1, h2 => by omega
  | n + 1, s, h1, h2 => by
    unfold sufGo
    have hw : b.drop (b.length - w.length) = w := (List.suffix_iff_eq_drop.mp hs).symm
    have hl := h.sub.length_le
    by_cases q : Vd k a b (b.drop (b.length - s))
    · rw [if_pos q]
      have := h.min _ q
      rw [List.length_drop] at this
      have e : s = w.length := by omega
      rw [e, hw]
    · rw [if_neg q]
      refine suf_some h hs n (s + 1) ?_ (by omega)
      have : s ≠ w.length := fun e => q (by rw [e, hw]; exact h.vd)
      omega
theorem restW_eq {k : Nat} (hk : k < 8) {a b : List Int} (pa : plainL k a = a) (pb : plainL k b = b) : restW k a b = restP k a b := by
  have sp := rest_ok hk pa pb
  unfold restW
  by_cases h12 : k = 1 ∨ k = 2
  · rw [if_pos h12]
    have sb : b.Pairwise (· ≤ ·) := by
      rcases h12 with rfl | rfl
      · exact plain1.mp pb
      · exact le_of_lt (plain2'.mp pb)
    have e : restP k a b = if (goT b a).2 = [] then some (goT b a).1 else none := by rcases h12 with rfl | rfl <;> rfl
    have pr : plainL k (delL b a) = delL b a := by
      rcases h12 with rfl | rfl
      · exact plain1.mpr (sb.sublist (delL_sub a b))
      · exact plain2'.mpr ((plain2'.mp pb).sublist (delL_sub a b))
    rw [e] at sp ⊢
    by_cases h : (goT b a).2 = []
    · rw [if_pos h] at sp ⊢
      rw [goT_del sb] at sp ⊢
      rw [if_pos sp.1.vd.2]
    · rw [if_neg h] at sp ⊢
      rw [if_neg fun z => sp _ ⟨pr, z⟩]
  · rw [if_neg h12]
    cases e : restP k a b with
    | none => rw [e] at sp; exact suf_none sp _ _
    | some w =>
      rw [e] at sp
      have hs : w <:+ b := sp.2.elim (fun z => absurd (.inl z) h12) fun z => z.elim (fun z => absurd (.inr z) h12) id
      have := sp.1.sub.length_le
      exact suf_some sp.1 hs _ _ (Nat.zero_le _) (by omega)
/-! ### all rows of the goal's letters -/
def subsG (rows : List (List Int)) : List Int → List (List Int)
  | [] => rows
  | x :: r => subsG (rows ++ rows.map fun q => q ++ [x]) r
theorem subs_in : ∀ {w l : List Int}, w.Sublist l → ∀ (rows : List (List Int)) (p : List Int), p ∈ rows → p ++ w ∈ subsG rows l := by
  intro w l h
  induction h with
  | slnil => intro rows p hp; simpa [subsG] using hp
  | cons x _ ih =>
    intro rows p hp
    unfold subsG
    exact ih _ p (List.mem_append_left _ hp)
  | cons_cons x _ ih =>
    intro rows p hp
    unfold subsG
    have := ih (rows ++ rows.map fun q => q ++ [x]) (p ++ [x]) (List.mem_append_right _ (List.mem_map_of_mem hp))
    rwa [List.append_assoc, List.singleton_append] at this
theorem subs_of : ∀ (l : List Int) (rows : List (List Int)) (q : List Int), q ∈ subsG rows l → ∃ p w, p ∈ rows ∧ w.Sublist l ∧ q = p ++ w
  | [], rows, q, h => ⟨q, [], h, List.Sublist.refl _, by simp⟩
  | x :: l, rows, q, h => by
    unfold subsG at h
    obtain ⟨p, w, h1, h2, rfl⟩ := subs_of l _ q h
    rcases List.mem_append.mp h1 with h1 | h1
    · exact ⟨p, w, h1, h2.cons x, rfl⟩
    · obtain ⟨p', hp, rfl⟩ := List.mem_map.mp h1
      exact ⟨p', x :: w, hp, h2.cons_cons x, by simp⟩
theorem subs_mem {l q : List Int} : q ∈ subsG [[]] l ↔ q.Sublist l := by
  constructor
  · intro h
    obtain ⟨p, w, h1, h2, rfl⟩ := subs_of l _ q h
    rw [List.mem_singleton.mp h1]; exact h2
  · intro h
    have := subs_in h [[]] [] (by simp)
    simpa using this
theorem subs_len : ∀ (l : List Int) (rows : List (List Int)), (subsG rows l).length = rows.length * 2 ^ l.length
  | [], rows => by simp [subsG]
  | x :: l, rows => by
    unfold subsG
    rw [subs_len l, List.length_append, List.length_map, List.length_cons, Nat.pow_succ]
    rw [← Nat.two_mul, Nat.mul_comm 2, Nat.mul_assoc, Nat.mul_comm 2]
def betB (r : List Int) : Option (List Int) → Bool
  | none => true
  | some q => decide (r.length < q.length)
def bestG (k : Nat) (a b : List Int) (f : Option (List Int)) : List (List Int) → Option (List Int)
  | [] => f
  | r :: rs => bestG k a b (if Vd k a b r ∧ betB r f = true then some r else f) rs
theorem best_none {k : Nat} {a b : List Int} (h : ∀ r, ¬ Vd k a b r) : ∀ rs, bestG k a b none rs = none
  | [] => rfl
  | r :: rs => by unfold bestG; rw [if_neg fun z => h r z.1]; exact best_none h rs
theorem best_some {k : Nat} {a b w : List Int} (h : IsRest k a b w) : ∀ (rs : List (List Int)) (f : Option (List Int)), (∀ r ∈ rs, r.Sublist b) → (∀ r, f = some r → Vd k a b r ∧ r.Sublist b) → (w ∈ rs ∨ f = some w) → bestG k a b f rs = some w
  | [], f, _, _, hw => hw.elim (fun z => by cases z) id
  | r :: rs, f, hr, hf, hw => by
    unfold bestG
    have hrs := fun q hq => hr q (List.mem_cons_of_mem _ hq)
    by_cases c : Vd k a b r ∧ betB r f = true
    · rw [if_pos c]
      refine best_some h rs _ hrs (fun q hq => by cases hq; exact ⟨c.1, hr r (List.mem_cons_self ..)⟩) ?_
      rcases hw with hw | hw
      · rcases List.mem_cons.mp hw with e | hw
        · exact .inr (by rw [e])
        · exact .inl hw
      · exfalso
        rw [hw] at c
        have := h.min r c.1
        have := of_decide_eq_true c.2
        omega
    · rw [if_neg c]
      refine best_some h rs _ hrs hf ?_
      rcases hw with hw | hw
      · rcases List.mem_cons.mp hw with e | hw
        · subst e
          cases f with
          | none => exact absurd ⟨h.vd, rfl⟩ c
          | some q =>
            obtain ⟨q1, q2⟩ := hf q rfl
            have l1 := h.min q q1
            have l2 : ¬ w.length < q.length := fun z => c ⟨h.vd, decide_eq_true z⟩
            exact .inr (by rw [h.uni q q1 (by omega) fun _ => q2])
        · exact .inl hw
      · exact .inr hw
theorem best_eq {k : Nat} (hk : k < 8) {a b : List Int} (pa : plainL k a = a) (pb : plainL k b = b) : bestG k a b none (subsG [[]] b) = restP k a b := by
  have sp := rest_ok hk pa pb
  cases e : restP k a b with
  | none => rw [e] at sp; exact best_none sp _
  | some w =>
    rw [e] at sp
    exact best_some sp.1 _ _ (fun r hr => subs_mem.mp hr) (fun _ z => by cases z) (.inl (subs_mem.mpr sp.1.sub))
/-! ### when a word leads to another -/
def ldB (k : Nat) (a b : List Int) : Bool := decide (a = b) || (match k with
  | 1 => a.all fun x => decide (a.count x ≤ b.count x)
  | 2 => a.all fun x => decide (x ∈ b)
  | 5 => a.all fun x => decide (x ∈ b)
  | 4 => decide (a = [])
  | 6 => !decide (b = [])
  | 7 => decide (a = []) || (!decide (b = []) && decide (a.take 1 = b.take 1))
  | _ => decide (b.take a.length = a))
theorem ldB_0 {a b : List Int} : ldB 0 a b = (decide (a = b) || decide (b.take a.length = a)) := rfl
theorem ldB_3 {a b : List Int} : ldB 3 a b = (decide (a = b) || decide (b.take a.length = a)) := rfl
theorem ldB_1 {a b : List Int} : ldB 1 a b = (decide (a = b) || a.all fun x => decide (a.count x ≤ b.count x)) := rfl
theorem ldB_2 {a b : List Int} : ldB 2 a b = (decide (a = b) || a.all fun x => decide (x ∈ b)) := rfl
theorem ldB_5 {a b : List Int} : ldB 5 a b = (decide (a = b) || a.all fun x => decide (x ∈ b)) := rfl
theorem ldB_4 {a b : List Int} : ldB 4 a b = (decide (a = b) || decide (a = [])) := rfl
theorem ldB_6 {a b : List Int} : ldB 6 a b = (decide (a = b) || !decide (b = [])) := rfl
theorem ldB_7 {a b : List Int} : ldB 7 a b = (decide (a = b) || (decide (a = []) || (!decide (b = []) && decide (a.take 1 = b.take 1)))) := rfl
theorem if_some {p : Prop} [Decidable p] {w : List Int} : (if p then some w else none).isSome = decide p := by
  by_cases h : p <;> simp [h]
theorem leads {k : Nat} (hk : k < 8) {a b : List Int} (pa : plainL k a = a) (pb : plainL k b = b) : (restP k a b).isSome = ldB k a b := by
  have pre : ∀ {a b : List Int}, decide (b.take a.length = a) = (decide (a = b) || decide (b.take a.length = a)) := fun {a b} => by
    by_cases h : a = b
    · subst h; simp
    · simp [h]
  match k, hk with
  | 0, _ => rw [restP_0, ldB_0, if_some]; exact pre
  | 1, _ =>
    rw [restP_1, ldB_1]
    rw [if_some]
    have e : decide ((goT b a).2 = []) = a.all fun x => decide (a.count x ≤ b.count x) := by
      rw [Bool.eq_iff_iff, decide_eq_true_iff, goT_nil, List.all_eq_true]
      constructor
      · intro h x _; exact decide_eq_true (h x)
      · intro h x
        by_cases q : x ∈ a
        · exact of_decide_eq_true (h x q)
        · rw [List.count_eq_zero.mpr q]; exact Nat.zero_le _
    rw [e]
    by_cases h : a = b
    · subst h; simp
    · simp [h]
  | 2, _ =>
    rw [restP_2, ldB_2]
    rw [if_some]
    have na := nd_of_lt (plain2'.mp pa)
    have nb := nd_of_lt (plain2'.mp pb)
    have e : decide ((goT b a).2 = []) = a.all fun x => decide (x ∈ b) := by
      rw [Bool.eq_iff_iff, decide_eq_true_iff, goT_nil, List.all_eq_true]
      constructor
      · intro h x hx
        have := h x
        rw [count_nd na, count_nd nb, if_pos hx] at this
        by_cases q : x ∈ b
        · exact decide_eq_true q
        · rw [if_neg q] at this; omega
      · intro h x
        rw [count_nd na, count_nd nb]
        by_cases q : x ∈ a
        · rw [if_pos q, if_pos (of_decide_eq_true (h x q))]; exact Nat.le_refl _
        · rw [if_neg q]; exact Nat.zero_le _
    rw [e]
    by_cases h : a = b
    · subst h; simp
    · simp [h]
  | 3, _ => rw [restP_3, ldB_3, if_some]; exact pre
  | 4, _ =>
    rw [restP_4, ldB_4]
    rw [if_some]
    rcases form4 pa with rfl | ⟨x, rfl⟩
    · simp
    · rcases form4 pb with rfl | ⟨y, rfl⟩
      · simp
      · simp [eq_comm]
  | 5, _ =>
    have sp := rest5 pa pb
    rw [ldB_5]
    cases e : restP 5 a b with
    | some w =>
      rw [e] at sp
      have h2 : tails (a ++ w) = b := sp.1.vd.2
      have : a.all (fun x => decide (x ∈ b)) = true := List.all_eq_true.mpr fun x hx => decide_eq_true (by
        rw [← h2, tails_mem]; exact List.mem_append_left _ hx)
      rw [this]; simp
    | none =>
      rw [e] at sp
      have h1 : a ≠ b := fun h => sp [] ⟨rfl, by rw [List.append_nil, pa, h]⟩
      have h2 : ¬ a.all (fun x => decide (x ∈ b)) = true := fun h => by
        refine sp b ⟨pb, ?_⟩
        show tails (a ++ b) = b
        have pb' : tails b = b := pb
        rw [tails_sel] at pb' ⊢
        rw [selT_abs fun x hx => of_decide_eq_true (List.all_eq_true.mp h x hx)]
        exact pb'
      simp only [Bool.not_eq_true] at h2
      rw [h2]; simp [h1]
  | 6, _ =>
    rw [restP_6, ldB_6]
    by_cases h : a = b
    · simp [h]
    · by_cases hb : b = []
      · rw [if_neg h, if_pos hb]; simp [hb, h]; exact fun z => h (by rw [z, hb])
      · rw [if_neg h, if_neg hb]; simp [hb]
  | 7, _ =>
    rw [restP_7, ldB_7]
    by_cases h : a = b
    · simp [h]
    · rw [if_neg h]
      by_cases ha : a = []
      · simp [ha]
      · by_cases hq : a.take 1 = b.take 1
        · have hb : b ≠ [] := fun e => by
            rw [e] at hq
            cases a with
            | nil => exact ha rfl
            | cons x r => cases hq
          rw [if_neg (by simp [hq])]; simp [hq, hb]
        · rw [if_pos ⟨ha, hq⟩]; simp [h, ha, hq]
/-- a drawn word that leads there is never shorter -/
theorem rest_drawn {k : Nat} (hk : k < 8) {a p : List Int} (pa : plainL k a = a) (pp : plainL k p = p) : ∃ w, restP k a (plainL k (a ++ p)) = some w ∧ w.length ≤ p.length ∧ (w.length < p.length ∨ k = 7 ∨ w = p) := by
  have sp := rest_ok hk pa (b := plainL k (a ++ p)) (plain2 k _)
  cases e : restP k a (plainL k (a ++ p)) with
  | none => rw [e] at sp; exact absurd ⟨pp, rfl⟩ (sp p)
  | some w =>
    rw [e] at sp
    have h1 := sp.1.min p ⟨pp, rfl⟩
    refine ⟨w, rfl, h1, ?_⟩
    by_cases h2 : w.length < p.length
    · exact .inl h2
    · by_cases h7 : k = 7
      · exact .inr (.inl h7)
      · exact .inr (.inr (sp.1.uni p ⟨pp, rfl⟩ (by omega) fun z => absurd z h7).symm)
end KL

end
section
set_option Elab.async false
set_option linter.all false
/-! KM: least steps, in plain Lean. -/
namespace KL
open QL
def stepG (rest : Option (List Int)) (a b : Eff) : Option Eff := if a = b then some (false, []) else match rest with
  | some w => if a.1 = b.1 ∧ (b.1 = false ∨ w.length < b.2.length) then some (false, w) else if b.1 = true then some b else none
  | none => if b.1 = true then some b else none
def stepP (k : Nat) (a b : Eff) : Option Eff := stepG (restP k a.2 b.2) a b
/-- an effect that leads there, in normal form, of a plain word -/
def Ld2 (k : Nat) (a b e : Eff) : Prop := (plainL k e.2 = e.2 ∧ normE k e = e) ∧ thenE k a e = b
instance (k : Nat) (a b e : Eff) : Decidable (Ld2 k a b e) := inferInstanceAs (Decidable (_ ∧ _))
structure IsStep (k : Nat) (a b e : Eff) : Prop where
  ld : Ld2 k a b e
  sub : e.2.Sublist b.2
  min : ∀ f, Ld2 k a b f → e.2.length ≤ f.2.length
  idle : e = (false, []) ↔ a = b
  goal : a = b ∨ e.2.length < b.2.length ∨ e = b
def StepSpec (k : Nat) (a b : Eff) : Option Eff → Prop
  | some e => IsStep k a b e
  | none => ∀ f, ¬ Ld2 k a b f
section
variable {k : Nat} {a b : Eff}
theorem norm6 {e : Eff} (h : normE 6 e = e) (h1 : e.1 = false) : e.2 = [] := by
  have := congrArg Prod.fst h
  unfold normE at this
  rw [h1] at this
  simpa using this
theorem norm_ne (h : k ≠ 6) (e : Eff) : normE k e = e := by unfold normE; simp [h]
theorem ld_t {f : Eff} (h : Ld2 k a b f) (h1 : f.1 = true) : f = b := by
  have := h.2
  unfold thenE at this
  rwa [if_pos h1] at this
theorem ld_f {f : Eff} (h6 : k ≠ 6) (h : Ld2 k a b f) (h1 : f.1 = false) : a.1 = b.1 ∧ Vd k a.2 b.2 f.2 := by
  have := h.2
  unfold thenE at this
  rw [if_neg (by rw [h1]; decide), norm_ne h6] at this
  exact ⟨(congrArg Prod.fst this :), h.1.1, (congrArg Prod.snd this :)⟩
theorem ld_6 {f : Eff} (pa : plainL 6 a.2 = a.2) (na : normE 6 a = a) (h : Ld2 6 a b f) (h1 : f.1 = false) : a = b := by
  have e := norm6 h.1.2 h1
  have := h.2
  unfold thenE at this
  rw [if_neg (by rw [h1]; decide), e, List.append_nil, pa] at this
  rw [← this]
  exact na.symm
theorem ld_idle (pa : plainL k a.2 = a.2) (na : normE k a = a) : Ld2 k a a (false, []) := by
  refine ⟨⟨plain_nil k, by unfold normE; simp⟩, ?_⟩
  unfold thenE
  rw [if_neg (by decide)]
  show normE k (a.1, plainL k (a.2 ++ [])) = a
  rw [List.append_nil, pa]
  exact na
theorem ld_goal (pb : plainL k b.2 = b.2) (nb : normE k b = b) (h : b.1 = true) : Ld2 k a b b := by
  refine ⟨⟨pb, nb⟩, ?_⟩
  unfold thenE
  rw [if_pos h]
theorem step_ok (hk : k < 8) (pa : plainL k a.2 = a.2) (pb : plainL k b.2 = b.2) (na : normE k a = a) (nb : normE k b = b) : StepSpec k a b (stepP k a b) := by
  unfold stepP stepG
  by_cases hab : a = b
  · rw [if_pos hab]
    subst hab
    exact ⟨ld_idle pa na, List.nil_sublist _, fun _ _ => Nat.zero_le _, ⟨fun _ => rfl, fun _ => rfl⟩, .inl rfl⟩
  · rw [if_neg hab]
    have sp := rest_ok hk pa pb
    -- the goal itself
    have gl : (∀ f, Ld2 k a b f → f.1 = false → b.2.length ≤ f.2.length) → b.1 = true → IsStep k a b b := fun h h1 =>
      ⟨ld_goal pb nb h1, List.Sublist.refl _, fun f hf => by
        cases hf1 : f.1 with
        | true => rw [ld_t hf hf1]; exact Nat.le_refl _
        | false => exact h f hf hf1, ⟨fun e => (by rw [e] at h1; cases h1), fun e => absurd e hab⟩, .inr (.inr rfl)⟩
    -- none at all
    have nn : (∀ f, Ld2 k a b f → f.1 = false → False) → b.1 = false → ∀ f, ¬ Ld2 k a b f := fun h h1 f hf => by
      cases hf1 : f.1 with
      | true => rw [ld_t hf hf1, h1] at hf1; cases hf1
      | false => exact h f hf hf1
    have tail : ∀ (h : ∀ f, Ld2 k a b f → f.1 = false → b.1 = true ∧ b.2.length ≤ f.2.length), StepSpec k a b (if b.1 = true then some b else none) := fun h => by
      by_cases h1 : b.1 = true
      · rw [if_pos h1]
        exact gl (fun f hf h2 => (h f hf h2).2) h1
      · rw [if_neg h1]
        exact nn (fun f hf h2 => h1 (h f hf h2).1) (by simpa using h1)
    by_cases h6 : k = 6
    · subst h6
      have none6 : ∀ f, Ld2 6 a b f → f.1 = false → b.1 = true ∧ b.2.length ≤ f.2.length := fun f hf h1 => absurd (ld_6 pa na hf h1) hab
      have c0 : ∀ w, restP 6 a.2 b.2 = some w → ¬ (a.1 = b.1 ∧ (b.1 = false ∨ w.length < b.2.length)) := fun w hw ⟨q1, q2⟩ => by
        have hne : a.2 ≠ b.2 := fun e => hab (Prod.ext q1 e)
        rcases q2 with q2 | q2
        · exact hne (by rw [norm6 na (by rw [q1, q2]), norm6 nb q2])
        · rw [restP_6, if_neg hne] at hw
          by_cases hb : b.2 = []
          · rw [hb] at q2; simp at q2
          · rw [if_neg hb] at hw
            cases hw
            omega
      cases hr : restP 6 a.2 b.2 with
      | none => exact tail none6
      | some w =>
        dsimp only
        rw [if_neg (c0 w hr)]
        exact tail none6
    · cases hr : restP k a.2 b.2 with
      | none =>
        rw [hr] at sp
        exact tail fun f hf h1 => absurd (ld_f h6 hf h1).2 (sp _)
      | some w =>
        rw [hr] at sp
        dsimp only
        by_cases c : a.1 = b.1 ∧ (b.1 = false ∨ w.length < b.2.length)
        · rw [if_pos c]
          refine ⟨⟨⟨sp.1.vd.1, norm_ne h6 _⟩, ?_⟩, sp.1.sub, fun f hf => ?_, ⟨fun e => ?_, fun e => absurd e hab⟩, .inr ?_⟩
          · unfold thenE
            rw [if_neg (by simp), norm_ne h6]
            exact Prod.ext c.1 sp.1.vd.2
          · cases hf1 : f.1 with
            | true =>
              have e := ld_t hf hf1
              rw [e] at hf1 ⊢
              rcases c.2 with q | q
              · rw [q] at hf1; cases hf1
              · exact Nat.le_of_lt q
            | false => exact sp.1.min _ (ld_f h6 hf hf1).2
          · have ew : w = [] := congrArg Prod.snd e
            have := sp.1.vd.2
            rw [ew, List.append_nil, pa] at this
            exact absurd (Prod.ext c.1 this) hab
          · rcases c.2 with q | q
            · by_cases hl : w.length < b.2.length
              · exact .inl hl
              · have := sp.1.sub.length_le
                exact .inr (Prod.ext q.symm (sp.1.sub.eq_of_length (by omega)))
            · exact .inl q
        · rw [if_neg c]
          refine tail fun f hf h1 => ?_
          obtain ⟨e1, v⟩ := ld_f h6 hf h1
          have l1 := sp.1.min _ v
          have n1 : ¬ (b.1 = false ∨ w.length < b.2.length) := fun z => c ⟨e1, z⟩
          refine ⟨?_, ?_⟩
          · cases hb : b.1 with
            | true => rfl
            | false => exact absurd (.inl hb) n1
          · have : ¬ w.length < b.2.length := fun z => n1 (.inr z)
            omega
/-- a drawn effect that leads there never has fewer letters -/
theorem step_drawn {p : Eff} (hk : k < 8) (pa : plainL k a.2 = a.2) (pp : plainL k p.2 = p.2) : ∃ e, stepP k (normE k a) (normE k (thenE k a p)) = some e ∧ e.2.length ≤ p.2.length := by
  have pt : plainL k (thenE k a p).2 = (thenE k a p).2 := then_plain pp
  have sp := step_ok (a := normE k a) (b := normE k (thenE k a p)) hk pa pt norm_norm norm_norm
  have l : Ld2 k (normE k a) (normE k (thenE k a p)) (normE k p) := ⟨⟨pp, norm_norm⟩, by rw [then_norm, then_nl, then_nr pp]⟩
  cases e : stepP k (normE k a) (normE k (thenE k a p)) with
  | none => rw [e] at sp; exact absurd l (sp _)
  | some f => rw [e] at sp; exact ⟨f, rfl, sp.min (normE k p) l⟩
end
/-! ### all effects of the goal's letters -/
def ltO (n : Nat) : Option Nat → Bool
  | none => true
  | some m => decide (n < m)
def few1 (k : Nat) (a b : Eff) (r : List Int) (f : Option Nat) (c : Bool) : Option Nat := if Ld2 k a b (c, r) ∧ ltO r.length f = true then some r.length else f
def fewG (k : Nat) (a b : Eff) (f : Option Nat) : List (List Int) → Option Nat
  | [] => f
  | r :: rs => fewG k a b (few1 k a b r (few1 k a b r f false) true) rs
theorem few_none {k : Nat} {a b : Eff} (h : ∀ f, ¬ Ld2 k a b f) : ∀ rs, fewG k a b none rs = none
  | [] => rfl
  | r :: rs => by
    have e : ∀ c, few1 k a b r none c = none := fun c => by unfold few1; rw [if_neg fun z => h _ z.1]
    unfold fewG
    rw [e, e]
    exact few_none h rs
theorem few1_ok {k : Nat} {a b e : Eff} (h : IsStep k a b e) (r : List Int) (f : Option Nat) (c : Bool) (hf : ∀ n, f = some n → e.2.length ≤ n) :
    (∀ n, few1 k a b r f c = some n → e.2.length ≤ n) ∧ (f = some e.2.length → few1 k a b r f c = some e.2.length) ∧ (e = (c, r) → few1 k a b r f c = some e.2.length) := by
  unfold few1
  by_cases q : Ld2 k a b (c, r) ∧ ltO r.length f = true
  · rw [if_pos q]
    have l1 := h.min _ q.1
    refine ⟨fun n hn => by cases hn; exact l1, fun e1 => ?_, fun e1 => by rw [e1]⟩
    subst e1
    have := of_decide_eq_true q.2
    dsimp only at l1
    omega
  · rw [if_neg q]
    refine ⟨hf, id, fun e1 => ?_⟩
    have q2 : ¬ ltO r.length f = true := fun z => q ⟨by rw [← e1]; exact h.ld, z⟩
    cases f with
    | none => exact absurd rfl q2
    | some m =>
      have l2 := hf m rfl
      have l3 : ¬ r.length < m := fun z => q2 (decide_eq_true z)
      have l4 : e.2.length = r.length := by rw [e1]
      have : m = e.2.length := by omega
      rw [this]
theorem few_some {k : Nat} {a b e : Eff} (h : IsStep k a b e) : ∀ (rs : List (List Int)) (f : Option Nat), (∀ n, f = some n → e.2.length ≤ n) → (e.2 ∈ rs ∨ f = some e.2.length) → fewG k a b f rs = some e.2.length
  | [], f, _, hw => hw.elim (fun z => by cases z) id
  | r :: rs, f, hf, hw => by
    unfold fewG
    obtain ⟨a1, a2, a3⟩ := few1_ok h r f false hf
    obtain ⟨b1, b2, b3⟩ := few1_ok h r (few1 k a b r f false) true a1
    refine few_some h rs _ b1 ?_
    rcases hw with hw | hw
    · rcases List.mem_cons.mp hw with e1 | hw
      · refine .inr ?_
        cases h1 : e.1 with
        | true => exact b3 (Prod.ext h1 e1)
        | false => exact b2 (a3 (Prod.ext h1 e1))
      · exact .inl hw
    · exact .inr (b2 (a2 hw))
theorem few_eq {k : Nat} (hk : k < 8) {a b : Eff} (pa : plainL k a.2 = a.2) (pb : plainL k b.2 = b.2) (na : normE k a = a) (nb : normE k b = b) : fewG k a b none (subsG [[]] b.2) = (stepP k a b).map fun e => e.2.length := by
  have sp := step_ok hk pa pb na nb
  cases e : stepP k a b with
  | none => rw [e] at sp; exact few_none sp _
  | some f => rw [e] at sp; exact few_some sp _ _ (fun _ z => by cases z) (.inl (subs_mem.mpr sp.sub))
/-! ### as data -/
def oW : Option (List Int) → D
  | none => .non
  | some w => Wd w
def oE : Option Eff → D
  | none => .non
  | some e => EfD e
def oN : Option Nat → D
  | none => .non
  | some n => .int n
theorem ints_map : ∀ l : List Int, intsOf (l.map D.int) = some l
  | [] => rfl
  | x :: l => by rw [List.map_cons, intsOf, ints_map l]; rfl
theorem rem_l (l : List Int) (x : Int) (h : x ∈ l) : remD (l.map D.int) (.int x) = some ((l.erase x).map D.int) := by
  unfold remD
  rw [ints_map]
  dsimp only
  rw [if_pos h]
end KL

end
section
set_option Elab.async false
set_option linter.all false
/-! KN: narrower kinds, in plain Lean. -/
namespace KL
open QL
def undB (n w : Nat) : Bool := decide (n = w) || decide (w = 0) || (decide (n = 2) && (decide (w = 1) || decide (w = 3) || decide (w = 5))) || (decide (n = 4) && (decide (w = 7) || decide (w = 3))) || (decide (n = 6) && (decide (w = 7) || decide (w = 5)))
theorem und_cases {n w : Nat} (h : undB n w = true) : n = w ∨ w = 0 ∨ (n = 2 ∧ (w = 1 ∨ w = 3 ∨ w = 5)) ∨ (n = 4 ∧ (w = 7 ∨ w = 3)) ∨ (n = 6 ∧ (w = 7 ∨ w = 5)) := by
  unfold undB at h
  simp only [Bool.or_eq_true, Bool.and_eq_true, decide_eq_true_eq] at h
  rcases h with (((h | h) | h) | h) | h
  · exact .inl h
  · exact .inr (.inl h)
  · exact .inr (.inr (.inl ⟨h.1, by rcases h.2 with (h | h) | h <;> simp [h]⟩))
  · exact .inr (.inr (.inr (.inl h)))
  · exact .inr (.inr (.inr (.inr h)))
theorem und_plain {n w : Nat} (h : undB n w = true) (l : List Int) : plainL n (plainL w l) = plainL n l := by
  rcases und_cases h with rfl | rfl | ⟨rfl, rfl | rfl | rfl⟩ | ⟨rfl, rfl | rfl⟩ | ⟨rfl, rfl | rfl⟩
  · exact plain2 _ _
  · rfl
  · exact set_of fun x => sortI_mem
  · exact set_of fun x => heads_mem
  · exact set_of fun x => tails_mem
  · exact first_of (by decide) l
  · exact first_of (by decide) l
  · exact last_of (by decide) l
  · exact last_of (by decide) l
theorem und_app {n w : Nat} (h : undB n w = true) (a b : List Int) : plainL n (plainL w (a ++ b)) = plainL n (plainL n a ++ plainL n b) := by rw [und_plain h, plain_app]
/-- the effect with its word made plain -/
def narE (n : Nat) (e : Eff) : Eff := normE n (e.1, plainL n e.2)
theorem nar_plain (n : Nat) (e : Eff) : plainL n (narE n e).2 = (narE n e).2 := plain2 n _
theorem nar_norm (n : Nat) (e : Eff) : normE n (narE n e) = narE n e := norm_norm
theorem nil_iff {k : Nat} {l : List Int} : plainL k l = [] ↔ l = [] := ⟨plain_ne, fun h => by rw [h, plain_nil]⟩
theorem norm_eq {n : Nat} {c d : Bool} {l : List Int} (h : (c || (decide (n = 6) && !decide (l = []))) = (d || (decide (n = 6) && !decide (l = [])))) : normE n (c, l) = normE n (d, l) := by
  unfold normE
  dsimp only
  rw [h]
/-- the wide normal form makes no difference -/
theorem nar_wide {n w : Nat} (h : undB n w = true) (e : Eff) : narE n (normE w e) = narE n e := by
  obtain ⟨c, l⟩ := e
  by_cases h6 : w = 6
  · subst h6
    have hn : n = 6 := by rcases und_cases h with h | h | ⟨_, h | h | h⟩ | ⟨_, h | h⟩ | ⟨_, h | h⟩ <;> first | exact h | omega
    subst hn
    refine norm_eq ?_
    show ((c || (decide (6 = 6) && !decide (l = []))) || (decide (6 = 6) && !decide (plainL 6 l = []))) = (c || (decide (6 = 6) && !decide (plainL 6 l = [])))
    have e : decide (plainL 6 l = []) = decide (l = []) := decide_eq_decide.mpr nil_iff
    rw [e]
    cases c <;> cases decide (l = []) <;> rfl
  · rw [norm_ne h6]
theorem nar_then {n w : Nat} (h : undB n w = true) (a b : Eff) : narE n (thenE w a b) = thenE n (narE n a) (narE n b) := by
  unfold narE
  rw [then_nl, then_nr (plain2 n _)]
  unfold thenE
  by_cases hb : b.1 = true
  · rw [if_pos hb, if_pos hb, hb]
    exact norm_t
  · rw [if_neg hb, if_neg hb]
    have := nar_wide h (a.1, plainL w (a.2 ++ b.2))
    unfold narE at this
    rw [this]
    show normE n (a.1, plainL n (plainL w (a.2 ++ b.2))) = normE n (a.1, plainL n (plainL n a.2 ++ plainL n b.2))
    rw [und_app h]
theorem nar_on {n w : Nat} (h : undB n w = true) (e : Eff) (s : List Int) : onE n (narE n e) (plainL n s) = plainL n (onE w e s) := by
  unfold narE
  rw [on_norm (by exact plain2 n _)]
  unfold onE
  by_cases he : e.1 = true
  · rw [if_pos he, if_pos he]
  · rw [if_neg he, if_neg he]
    show plainL n (plainL n s ++ plainL n e.2) = plainL n (plainL w (s ++ e.2))
    rw [und_app h]
/-- a step under the wide kind, narrowed, leads there; the least one has no more letters -/
theorem nar_step {n w : Nat} (hn : n < 8) (h : undB n w = true) {a b u : Eff} (hu : thenE w (normE w a) u = normE w b) :
    thenE n (narE n a) (narE n u) = narE n b ∧ ∃ e, stepP n (narE n a) (narE n b) = some e ∧ thenE n (narE n a) e = narE n b ∧ e.2.length ≤ (narE n u).2.length := by
  have e1 : thenE n (narE n a) (narE n u) = narE n b := by
    have := congrArg (narE n) hu
    rw [nar_then h, nar_wide h, nar_wide h] at this
    exact this
  have sp := step_ok hn (nar_plain n a) (nar_plain n b) (nar_norm n a) (nar_norm n b)
  have l : Ld2 n (narE n a) (narE n b) (narE n u) := ⟨⟨nar_plain n u, nar_norm n u⟩, e1⟩
  refine ⟨e1, ?_⟩
  cases e : stepP n (narE n a) (narE n b) with
  | none => rw [e] at sp; exact absurd l (sp _)
  | some f => rw [e] at sp; exact ⟨f, rfl, sp.ld.2, sp.min _ l⟩
/-- the table of parted words -/
def PTD : List (List Int × List Int) := [([1, 2], [2, 1]), ([1, 1], [1]), ([1, 2, 3], [1, 3]), ([1, 2, 1], [1, 2]), ([1, 2, 1], [2, 1])]
def ptB (n w : Nat) (p : List Int × List Int) : Bool := decide (plainL w p.1 = plainL w p.2) && !decide (plainL n p.1 = plainL n p.2)
def partG (n w : Nat) : Option (List Int × List Int) := PTD.find? (ptB n w)
theorem part_und : ∀ n, n < 8 → ∀ w, w < 8 → (partG n w).isNone = undB n w := by decide +kernel
end KL

end
section
set_option Elab.async false
set_option linter.all false
set_option maxRecDepth 100000
set_option maxHeartbeats 0
namespace LW
open PySem PySem.Spec PyProof.Rows L2 He QL
def top (i : Nat) : Stmt := PySem.Challenge.pw_leastshelf_k07_narrower_kinds.main.body.getD i (.Pass ⟨0, 0, 0, 0⟩)
/-- _law_stream -/
def b0 : Ss := (.cons (.ret (.lst (.cons (.lc 1 (.seq (.slv 0 (.c .non) (.c (.int 63)))) (.c (.bl true)) (.bi .int1 (.cons (.v 1) .nil))) (.cons (.c (.int 0)) (.cons (.c (.int 0)) .nil))))) .nil)
def d0 : Df := ⟨"_law_stream", top 37, ["_law_script", "_law_cell"], ["_law_script"], [], b0, .fn, "", "", 0, [], []⟩
/-- _law_mixed -/
def b1 : Ss := (.cons (.set 2 (.bin .mod (.bi .int1 (.cons (.bin .mul (.v 0) (.bin .add (.c (.int 314159265358979323)) (.bin .mul (.c (.int 271828182845)) (.v 1)))) .nil)) (.c (.int 1000000000000000003)))) (.cons (.ret (.bin .mod (.bi .int1 (.cons (.bin .mul (.v 2) (.bin .add (.v 2) (.bin .mul (.c (.int 57721566490153)) (.v 1)))) .nil)) (.c (.int 1000000000000000009)))) .nil))
def d1 : Df := ⟨"_law_mixed", top 38, ["_law_cell", "_law_place", "_law_one"], ["_law_cell", "_law_place"], [], b1, .fn, "", "", 0, [], []⟩
/-- _law_draw -/
def b2 : Ss := (.cons (.ift (.and_ (.cmp .eq (.ixv 0 (.c (.int 2))) (.c (.int 0))) (.cmp .lt (.ixv 0 (.c (.int 1))) (.bi .len (.cons (.ixv 0 (.c (.int 0))) .nil)))) (.cons (.set 2 (.ix (.ixv 0 (.c (.int 0))) (.ixv 0 (.c (.int 1))))) (.cons (.six 0 (.c (.int 1)) (.bin .add (.ixv 0 (.c (.int 1))) (.c (.int 1)))) (.cons (.six 0 (.c (.int 2)) (.bi .abs (.cons (.v 2) .nil))) (.cons (.ift (.cmp .lt (.ixv 0 (.c (.int 2))) (.bin .pow (.c (.int 10)) (.c (.int 18)))) (.cons (.six 0 (.c (.int 2)) (.call 1 (.cons (.v 2) (.cons (.ixv 0 (.c (.int 1))) .nil)))) .nil) .nil) .nil)))) .nil) (.cons (.set 3 (.bin .mod (.bi .int1 (.cons (.ixv 0 (.c (.int 2))) .nil)) (.v 1))) (.cons (.six 0 (.c (.int 2)) (.bin .fdv (.bi .int1 (.cons (.ixv 0 (.c (.int 2))) .nil)) (.v 1))) (.cons (.ret (.v 3)) .nil))))
def d2 : Df := ⟨"_law_draw", top 39, ["_law_stream_here", "_law_many", "_law_cell", "_law_value"], ["_law_stream_here", "_law_many"], [], b2, .fn, "", "", 0, [], []⟩
/-- _law_pick -/
def b3 : Ss := (.cons (.ret (.bin .mod (.bi .int1 (.cons (.call 2 (.cons (.lr 0) (.cons (.c (.int 10)) .nil))) .nil)) (.v 1))) .nil)
def d3 : Df := ⟨"_law_pick", top 40, ["_law_stream_here", "_law_many"], ["_law_stream_here", "_law_many"], [], b3, .fn, "", "", 0, [], []⟩
/-- _law_kind -/
def b4 : Ss := (.cons (.ret (.ix (.tup (.cons (.c (.str "list")) (.cons (.c (.str "bag")) (.cons (.c (.str "set")) (.cons (.c (.str "first")) (.cons (.c (.str "last")) (.cons (.c (.str "ends")) (.cons (.c (.str "heads")) (.cons (.c (.str "tails")) .nil))))))))) (.call 3 (.cons (.lr 0) (.cons (.c (.int 8)) .nil))))) .nil)
def d4 : Df := ⟨"_law_kind", top 41, ["_law_stream_here"], ["_law_stream_here"], [], b4, .fn, "", "", 0, [], []⟩
/-- _law_under -/
def b5 : Ss := (.cons (.ift (.or_ (.cmp .eq (.v 0) (.v 1)) (.cmp .eq (.v 1) (.c (.str "list")))) (.cons (.ret (.c (.bl true))) .nil) .nil) (.cons (.ift (.cmp .eq (.v 0) (.c (.str "set"))) (.cons (.ret (.cmp .isin (.v 1) (.tup (.cons (.c (.str "bag")) (.cons (.c (.str "heads")) (.cons (.c (.str "tails")) .nil)))))) .nil) .nil) (.cons (.ret (.cmp .isin (.tup (.cons (.v 0) (.cons (.v 1) .nil))) (.tup (.cons (.tup (.cons (.c (.str "first")) (.cons (.c (.str "ends")) .nil))) (.cons (.tup (.cons (.c (.str "first")) (.cons (.c (.str "heads")) .nil))) (.cons (.tup (.cons (.c (.str "last")) (.cons (.c (.str "ends")) .nil))) (.cons (.tup (.cons (.c (.str "last")) (.cons (.c (.str "tails")) .nil))) .nil))))))) .nil)))
def d5 : Df := ⟨"_law_under", top 53, ["_law_narrow", "_law_wide"], ["_law_narrow", "_law_wide"], [], b5, .fn, "", "", 0, [], []⟩
/-- _law_lower -/
def b6 : Ss := (.cons (.ift (.cmp .lt (.call 3 (.cons (.lr 0) (.cons (.c (.int 10)) .nil))) (.c (.int 4))) (.cons (.ret (.call 4 (.cons (.lr 0) .nil))) .nil) .nil) (.cons (.set 2 (.tup (.cons (.c (.str "list")) (.cons (.c (.str "bag")) (.cons (.c (.str "set")) (.cons (.c (.str "first")) (.cons (.c (.str "last")) (.cons (.c (.str "ends")) (.cons (.c (.str "heads")) (.cons (.c (.str "tails")) .nil)))))))))) (.cons (.set 3 (.lc 4 (.seq (.v 2)) (.call 5 (.cons (.v 4) (.cons (.v 1) .nil))) (.v 4))) (.cons (.ret (.ixv 3 (.call 3 (.cons (.lr 0) (.cons (.lenv 3) .nil))))) .nil))))
def d6 : Df := ⟨"_law_lower", top 55, ["_law_stream_here", "_law_wide", "_law_names", "_law_below", "_law_name"], ["_law_stream_here", "_law_wide"], [], b6, .fn, "", "", 0, [], []⟩
/-- _law_letters -/
def b7 : Ss := (.cons (.set 1 (.bin .add (.c (.int 1)) (.call 3 (.cons (.lr 0) (.cons (.c (.int 10)) .nil))))) (.cons (.set 2 (.cmp .gt (.call 3 (.cons (.lr 0) (.cons (.c (.int 10)) .nil))) (.c (.int 7)))) (.cons (.set 3 (.lst .nil)) (.cons (.for_ [4] (.rng1 (.v 1)) (.cons (.set 5 (.v 4)) (.cons (.ift (.v 2) (.cons (.set 5 (.bin .sub (.c (.int 9)) (.v 4))) .nil) .nil) (.cons (.ift (.and_ (.v 2) (.cmp .lt (.v 4) (.c (.int 3)))) (.cons (.set 5 (.bin .add (.v 5) (.bin .mul (.c (.int 10)) (.call 2 (.cons (.lr 0) (.cons (.bin .pow (.c (.int 10)) (.c (.int 8))) .nil)))))) .nil) .nil) (.cons (.app 3 (.v 5)) .nil))))) (.cons (.ret (.v 3)) .nil)))))
def d7 : Df := ⟨"_law_letters", top 42, ["_law_stream_here", "_law_many", "_law_wide", "_law_letters_here", "_law_k", "_law_letter"], ["_law_stream_here"], [], b7, .fn, "", "", 0, [], []⟩
/-- _law_plain -/
def b8 : Ss := (.cons (.set 2 (.bi .list (.cons (.v 1) .nil))) (.cons (.ift (.cmp .eq (.v 0) (.c (.str "bag"))) (.cons (.set 2 (.bi .sorted (.cons (.v 2) .nil))) .nil) .nil) (.cons (.ift (.cmp .eq (.v 0) (.c (.str "set"))) (.cons (.set 2 (.sset (.v 2))) .nil) .nil) (.cons (.ift (.cmp .eq (.v 0) (.c (.str "first"))) (.cons (.set 2 (.slv 2 (.c .non) (.c (.int 1)))) .nil) .nil) (.cons (.ift (.and_ (.cmp .eq (.v 0) (.c (.str "last"))) (.cmp .gt (.lenv 2) (.c (.int 0)))) (.cons (.set 2 (.lst (.cons (.ixv 2 (.bin .sub (.lenv 2) (.c (.int 1)))) .nil))) .nil) .nil) (.cons (.ift (.and_ (.cmp .eq (.v 0) (.c (.str "ends"))) (.cmp .gt (.lenv 2) (.c (.int 0)))) (.cons (.set 2 (.lst (.cons (.ixv 2 (.c (.int 0))) (.cons (.ixv 2 (.bin .sub (.lenv 2) (.c (.int 1)))) .nil)))) .nil) .nil) (.cons (.ift (.cmp .eq (.v 0) (.c (.str "heads"))) (.cons (.set 2 (.lc 3 (.rng1 (.lenv 2)) (.cmp .nin (.ixv 2 (.v 3)) (.slv 2 (.c .non) (.v 3))) (.ixv 2 (.v 3)))) .nil) .nil) (.cons (.ift (.cmp .eq (.v 0) (.c (.str "tails"))) (.cons (.set 2 (.lc 3 (.rng1 (.lenv 2)) (.cmp .nin (.ixv 2 (.v 3)) (.slv 2 (.bin .add (.v 3) (.c (.int 1))) (.c .non))) (.ixv 2 (.v 3)))) .nil) .nil) (.cons (.ret (.bi .tuple (.cons (.v 2) .nil))) .nil)))))))))
def d8 : Df := ⟨"_law_plain", top 45, ["_law_kind_here", "_law_word", "_law_row", "_law_k"], ["_law_kind_here", "_law_word"], [], b8, .fn, "", "", 0, [], []⟩
/-- _law_raw -/
def b9 : Ss := (.cons (.set 2 (.ix (.tup (.cons (.c (.int 0)) (.cons (.c (.int 1)) (.cons (.c (.int 2)) (.cons (.c (.int 3)) (.cons (.c (.int 4)) (.cons (.c (.int 5)) (.cons (.c (.int 0)) (.cons (.c (.int 1)) (.cons (.c (.int 2)) (.cons (.c (.int 7)) .nil))))))))))) (.call 3 (.cons (.lr 0) (.cons (.c (.int 10)) .nil))))) (.cons (.ret (.bi .tuple (.cons (.lc 3 (.rng1 (.v 2)) (.c (.bl true)) (.ixv 1 (.call 3 (.cons (.lr 0) (.cons (.lenv 1) .nil))))) .nil))) .nil))
def d9 : Df := ⟨"_law_raw", top 43, ["_law_stream_here", "_law_letters_here", "_law_size", "_law_k"], ["_law_stream_here", "_law_letters_here"], [], b9, .fn, "", "", 0, [], []⟩
/-- Kind.plain -/
def b10 : Ss := (.cons (.ret (.bi .tuple (.cons (.v 1) .nil))) .nil)
def d10 : Df := ⟨"Kind.plain", inCls 1 (top 11), ["self", "word"], ["self", "word"], [], b10, .meth, "Kind", "plain", 0, [], []⟩
/-- BagKind.plain -/
def b11 : Ss := (.cons (.ret (.bi .tuple (.cons (.bi .sorted (.cons (.sup 1 10 (.cons (.v 1) .nil)) .nil)) .nil))) .nil)
def d11 : Df := ⟨"BagKind.plain", inCls 1 (top 12), ["self", "word"], ["self", "word"], [], b11, .sup, "BagKind", "plain", 1, [], []⟩
/-- SetKind.plain -/
def b12 : Ss := (.cons (.set 2 (.lst .nil)) (.cons (.for_ [3] (.tsq (.sup 2 11 (.cons (.v 1) .nil))) (.cons (.ift (.cmp .ne (.slv 2 (.neg (.c (.int 1))) (.c .non)) (.lst (.cons (.v 3) .nil))) (.cons (.app 2 (.v 3)) .nil) .nil) .nil)) (.cons (.ret (.bi .tuple (.cons (.v 2) .nil))) .nil)))
def d12 : Df := ⟨"SetKind.plain", inCls 1 (top 13), ["self", "word", "different", "letter"], ["self", "word"], [], b12, .sup, "SetKind", "plain", 2, [], []⟩
/-- HeadsKind.plain -/
def b13 : Ss := (.cons (.set 2 .dic0) (.cons (.for_ [3] (.tsq (.sup 3 10 (.cons (.v 1) .nil))) (.cons (.dput 2 (.v 3) (.c (.bl true))) .nil)) (.cons (.ret (.bi .tuple (.cons (.keys 2) .nil))) .nil)))
def d13 : Df := ⟨"HeadsKind.plain", inCls 1 (top 14), ["self", "word", "seen", "letter"], ["self", "word"], [], b13, .sup, "HeadsKind", "plain", 3, [], []⟩
/-- FirstKind.plain -/
def b14 : Ss := (.cons (.ret (.sl (.sup 4 13 (.cons (.v 1) .nil)) (.c .non) (.c (.int 1)))) .nil)
def d14 : Df := ⟨"FirstKind.plain", inCls 1 (top 15), ["self", "word"], ["self", "word"], [], b14, .sup, "FirstKind", "plain", 4, [], []⟩
/-- TailsKind.plain -/
def b15 : Ss := (.cons (.set 2 .dic0) (.cons (.for_ [3] (.tsq (.rev (.sup 5 10 (.cons (.v 1) .nil)))) (.cons (.dput 2 (.v 3) (.c (.bl true))) .nil)) (.cons (.ret (.bi .tuple (.cons (.rev (.keys 2)) .nil))) .nil)))
def d15 : Df := ⟨"TailsKind.plain", inCls 1 (top 16), ["self", "word", "seen", "letter"], ["self", "word"], [], b15, .sup, "TailsKind", "plain", 5, [], []⟩
/-- LastKind.plain -/
def b16 : Ss := (.cons (.ret (.sl (.sup 6 15 (.cons (.v 1) .nil)) (.neg (.c (.int 1))) (.c .non))) .nil)
def d16 : Df := ⟨"LastKind.plain", inCls 1 (top 17), ["self", "word"], ["self", "word"], [], b16, .sup, "LastKind", "plain", 6, [], []⟩
/-- EndsKind.plain -/
def b17 : Ss := (.cons (.set 2 (.sup 7 10 (.cons (.v 1) .nil))) (.cons (.ret (.bin .add (.slv 2 (.c .non) (.c (.int 1))) (.slv 2 (.neg (.c (.int 1))) (.c .non)))) .nil))
def d17 : Df := ⟨"EndsKind.plain", inCls 1 (top 18), ["self", "word", "whole"], ["self", "word"], [], b17, .sup, "EndsKind", "plain", 7, [], []⟩
/-- kind_named -/
def b18 : Ss := (.cons (.mtc (.v 0) (.val (.str "list") (.cons (.ret (.new 0)) .nil) (.val (.str "bag") (.cons (.ret (.new 1)) .nil) (.val (.str "set") (.cons (.ret (.new 2)) .nil) (.val (.str "first") (.cons (.ret (.new 4)) .nil) (.val (.str "last") (.cons (.ret (.new 6)) .nil) (.val (.str "ends") (.cons (.ret (.new 7)) .nil) (.val (.str "heads") (.cons (.ret (.new 3)) .nil) (.val (.str "tails") (.cons (.ret (.new 5)) .nil) (.any (.cons (.rse 0 (.v 0)) .nil))))))))))) .nil)
def d18 : Df := ⟨"kind_named", top 19, ["name"], ["name"], [], b18, .fn, "", "", 0, [], []⟩
/-- is_letter -/
def b19 : Ss := (.cons (.ret (.and_ (.isi (.v 0) [.int]) (.and_ (.not_ (.isi (.v 0) [.bool])) (.ch2 .le .lt (.c (.int 0)) (.v 0) (.g 2))))) .nil)
def d19 : Df := ⟨"is_letter", top 20, ["thing"], ["thing"], [], b19, .fn, "", "", 0, [], []⟩
/-- check_word -/
def b20 : Ss := (.cons (.ift (.not_ (.isi (.v 0) [.tuple, .list])) (.cons (.rse 1 (.c (.int 0))) .nil) .nil) (.cons (.for_ [1] (.rng1 (.lenv 0)) (.cons (.ift (.not_ (.call 19 (.cons (.ixv 0 (.v 1)) .nil))) (.cons (.rse 1 (.v 1)) .nil) .nil) .nil)) (.cons (.ret (.bi .tuple (.cons (.v 0) .nil))) .nil)))
def d20 : Df := ⟨"check_word", top 21, ["thing", "place"], ["thing"], [], b20, .fn, "", "", 0, [], []⟩
/-- plain_word -/
def b21 : Ss := (.cons (.set 2 (.call 18 (.cons (.v 0) .nil))) (.cons (.ret (.meth (.v 2) 0 (.cons (.call 20 (.cons (.v 1) .nil)) .nil))) .nil))
def d21 : Df := ⟨"plain_word", top 22, ["kind", "word", "merging"], ["kind", "word"], [], b21, .fn, "", "", 0, [], []⟩
/-- _law_normal -/
def b22 : Ss := (.cons (.ift (.and_ (.cmp .eq (.v 0) (.c (.str "last"))) (.cmp .ne (.ixv 1 (.c (.int 1))) (.tup .nil))) (.cons (.ret (.tup (.cons (.c (.bl true)) (.cons (.ixv 1 (.c (.int 1))) .nil)))) .nil) .nil) (.cons (.ret (.tup (.cons (.ixv 1 (.c (.int 0))) (.cons (.ixv 1 (.c (.int 1))) .nil)))) .nil))
def d22 : Df := ⟨"_law_normal", top 47, ["_law_kind_here", "_law_effect"], ["_law_kind_here", "_law_effect"], [], b22, .fn, "", "", 0, [], []⟩
/-- _law_joined -/
def b23 : Ss := (.cons (.ret (.call 8 (.cons (.v 0) (.cons (.bin .add (.v 1) (.v 2)) .nil)))) .nil)
def d23 : Df := ⟨"_law_joined", top 46, ["_law_kind_here", "_law_left", "_law_right"], ["_law_kind_here", "_law_left", "_law_right"], [], b23, .fn, "", "", 0, [], []⟩
/-- _law_then -/
def b24 : Ss := (.cons (.ift (.ixv 2 (.c (.int 0))) (.cons (.ret (.tup (.cons (.c (.bl true)) (.cons (.ixv 2 (.c (.int 1))) .nil)))) .nil) .nil) (.cons (.ret (.call 22 (.cons (.v 0) (.cons (.tup (.cons (.ixv 1 (.c (.int 0))) (.cons (.call 23 (.cons (.v 0) (.cons (.ixv 1 (.c (.int 1))) (.cons (.ixv 2 (.c (.int 1))) .nil)))) .nil))) .nil)))) .nil))
def d24 : Df := ⟨"_law_then", top 48, ["_law_kind_here", "_law_first", "_law_second"], ["_law_kind_here", "_law_first", "_law_second"], [], b24, .fn, "", "", 0, [], []⟩
/-- formed -/
def b25 : Ss := (.cons (.ift (.and_ (.cmp .eq (.cat (.v 0) 0) (.c (.str "last"))) (.cmp .gt (.lenv 2) (.c (.int 0)))) (.cons (.ret (.tup (.cons (.c (.bl true)) (.cons (.v 2) .nil)))) .nil) .nil) (.cons (.ret (.tup (.cons (.v 1) (.cons (.v 2) .nil)))) .nil))
def d25 : Df := ⟨"formed", top 27, ["merging", "clear", "word"], ["merging", "clear", "word"], [], b25, .fn, "", "", 0, [], []⟩
/-- narrowed_effect -/
def b26 : Ss := (.cons (.set 2 (.call 18 (.cons (.v 0) .nil))) (.cons (.tset [3, 4] (.v 1)) (.cons (.ret (.call 25 (.cons (.v 2) (.cons (.v 3) (.cons (.meth (.v 2) 0 (.cons (.v 4) .nil)) .nil))))) .nil)))
def d26 : Df := ⟨"narrowed_effect", top 32, ["kind", "effect", "merging", "clear", "word"], ["kind", "effect"], [], b26, .fn, "", "", 0, [], []⟩
/-- made_of -/
def b27 : Ss := (.cons (.tset [3, 4] (.v 1)) (.cons (.ift (.v 3) (.cons (.ret (.v 4)) .nil) .nil) (.cons (.ret (.meth (.v 0) 0 (.cons (.bin .add (.v 2) (.v 4)) .nil))) .nil)))
def d27 : Df := ⟨"made_of", top 29, ["merging", "effect", "state", "clear", "word"], ["merging", "effect", "state"], [], b27, .fn, "", "", 0, [], []⟩
/-- effect_on -/
def b28 : Ss := (.cons (.ret (.call 27 (.cons (.call 18 (.cons (.v 0) .nil)) (.cons (.v 1) (.cons (.v 2) .nil))))) .nil)
def d28 : Df := ⟨"effect_on", top 31, ["kind", "effect", "state"], ["kind", "effect", "state"], [], b28, .fn, "", "", 0, [], []⟩
/-- Kind.rest_between -/
def b29 : Ss := (.cons (.ift (.cmp .ne (.slv 2 (.c .non) (.lenv 1)) (.v 1)) (.cons (.ret (.c .non)) .nil) .nil) (.cons (.ret (.slv 2 (.lenv 1) (.c .non))) .nil))
def d29 : Df := ⟨"Kind.rest_between", inCls 2 (top 11), ["self", "one", "other"], ["self", "one", "other"], [], b29, .meth, "Kind", "rest_between", 0, [], []⟩
/-- BagKind.rest_between -/
def b30 : Ss := (.cons (.set 3 (.bi .list (.cons (.v 1) .nil))) (.cons (.set 4 (.lst .nil)) (.cons (.for_ [5] (.seq (.v 2)) (.cons (.ift (.inv false (.v 5) 3) (.cons (.rem 3 (.v 5)) .nil) (.cons (.app 4 (.v 5)) .nil)) .nil)) (.cons (.ift (.cmp .gt (.lenv 3) (.c (.int 0))) (.cons (.ret (.c .non)) .nil) .nil) (.cons (.ret (.bi .tuple (.cons (.v 4) .nil))) .nil)))))
def d30 : Df := ⟨"BagKind.rest_between", inCls 2 (top 12), ["self", "one", "other", "taken", "left", "letter"], ["self", "one", "other"], [], b30, .meth, "BagKind", "rest_between", 1, [], []⟩
/-- TailsKind.rest_between -/
def b31 : Ss := (.cons (.for_ [3] (.rngd (.lenv 2) (.neg (.c (.int 1)))) (.cons (.set 4 (.slv 2 (.v 3) (.c .non))) (.cons (.ift (.cmp .eq (.bi .tuple (.cons (.lc 5 (.seq (.v 1)) (.inv true (.v 5) 4) (.v 5)) .nil)) (.slv 2 (.c .non) (.v 3))) (.cons (.ret (.v 4)) .nil) .nil) .nil))) (.cons (.ret (.c .non)) .nil))
def d31 : Df := ⟨"TailsKind.rest_between", inCls 2 (top 16), ["self", "one", "other", "cut", "end", "letter"], ["self", "one", "other"], [], b31, .meth, "TailsKind", "rest_between", 5, [], []⟩
/-- LastKind.rest_between -/
def b32 : Ss := (.cons (.ift (.cmp .eq (.v 1) (.v 2)) (.cons (.ret (.tup .nil)) .nil) .nil) (.cons (.ift (.cmp .eq (.lenv 2) (.c (.int 0))) (.cons (.ret (.c .non)) .nil) .nil) (.cons (.ret (.v 2)) .nil)))
def d32 : Df := ⟨"LastKind.rest_between", inCls 2 (top 17), ["self", "one", "other"], ["self", "one", "other"], [], b32, .meth, "LastKind", "rest_between", 6, [], []⟩
/-- EndsKind.rest_between -/
def b33 : Ss := (.cons (.ift (.cmp .eq (.v 1) (.v 2)) (.cons (.ret (.tup .nil)) .nil) .nil) (.cons (.ift (.and_ (.cmp .gt (.lenv 1) (.c (.int 0))) (.cmp .ne (.slv 1 (.c .non) (.c (.int 1))) (.slv 2 (.c .non) (.c (.int 1))))) (.cons (.ret (.c .non)) .nil) .nil) (.cons (.ret (.v 2)) .nil)))
def d33 : Df := ⟨"EndsKind.rest_between", inCls 2 (top 18), ["self", "one", "other"], ["self", "one", "other"], [], b33, .meth, "EndsKind", "rest_between", 7, [], []⟩
/-- step_of -/
def b34 : Ss := (.cons (.ift (.cmp .eq (.v 1) (.v 2)) (.cons (.ret (.g 4)) .nil) .nil) (.cons (.tset [3, 4] (.v 1)) (.cons (.tset [5, 6] (.v 2)) (.cons (.set 7 (.meth (.v 0) 1 (.cons (.v 4) (.cons (.v 6) .nil)))) (.cons (.ift (.and_ (.cmp .nisn (.v 7) (.c .non)) (.and_ (.cmp .eq (.v 3) (.v 5)) (.or_ (.not_ (.v 5)) (.cmp .lt (.lenv 7) (.lenv 6))))) (.cons (.ret (.tup (.cons (.c (.bl false)) (.cons (.v 7) .nil)))) .nil) .nil) (.cons (.ift (.v 5) (.cons (.ret (.v 2)) .nil) .nil) (.cons (.ret (.c .non)) .nil)))))))
def d34 : Df := ⟨"step_of", top 34, ["merging", "one", "other", "begun", "base", "clear", "word", "gap"], ["merging", "one", "other"], [], b34, .fn, "", "", 0, [], []⟩
/-- step -/
def b35 : Ss := (.cons (.set 3 (.call 18 (.cons (.v 0) .nil))) (.cons (.set 4 (.call 25 (.cons (.v 3) (.cons (.ixv 1 (.c (.int 0))) (.cons (.ixv 1 (.c (.int 1))) .nil))))) (.cons (.set 5 (.call 25 (.cons (.v 3) (.cons (.ixv 2 (.c (.int 0))) (.cons (.ixv 2 (.c (.int 1))) .nil))))) (.cons (.ret (.call 34 (.cons (.v 3) (.cons (.v 4) (.cons (.v 5) .nil))))) .nil))))
def d35 : Df := ⟨"step", top 35, ["kind", "one", "other", "merging", "before", "behind"], ["kind", "one", "other"], [], b35, .fn, "", "", 0, [], []⟩
/-- followed -/
def b36 : Ss := (.cons (.tset [3, 4] (.v 2)) (.cons (.ift (.v 3) (.cons (.ret (.v 2)) .nil) .nil) (.cons (.tset [5, 6] (.v 1)) (.cons (.ret (.call 25 (.cons (.v 0) (.cons (.v 5) (.cons (.meth (.v 0) 0 (.cons (.bin .add (.v 6) (.v 4)) .nil)) .nil))))) .nil))))
def d36 : Df := ⟨"followed", top 28, ["merging", "first", "second", "clear", "word", "begun", "base"], ["merging", "first", "second"], [], b36, .fn, "", "", 0, [], []⟩
/-- then -/
def b37 : Ss := (.cons (.set 2 (.call 18 (.cons (.v 0) .nil))) (.cons (.set 3 (.g 4)) (.cons (.for_ [4] (.seq (.v 1)) (.cons (.set 3 (.call 36 (.cons (.v 2) (.cons (.v 3) (.cons (.v 4) .nil))))) .nil)) (.cons (.ret (.v 3)) .nil))))
def d37 : Df := ⟨"then", top 30, ["kind", "effects", "merging", "whole", "effect"], ["kind", "effects"], [], b37, .star, "", "", 0, [], []⟩
/-- _law_is_number -/
def b38 : Ss := (.cons (.ret (.and_ (.isi (.v 0) [.int]) (.not_ (.isi (.v 0) [.bool])))) .nil)
def d38 : Df := ⟨"_law_is_number", top 49, ["_law_thing"], ["_law_thing"], [], b38, .fn, "", "", 0, [], []⟩
/-- _law_is_word -/
def b39 : Ss := (.cons (.ret (.and_ (.isi (.v 0) [.tuple]) (.bi .all (.cons (.lc 1 (.seq (.v 0)) (.c (.bl true)) (.call 38 (.cons (.v 1) .nil))) .nil)))) .nil)
def d39 : Df := ⟨"_law_is_word", top 50, ["_law_thing", "_law_letter"], ["_law_thing"], [], b39, .fn, "", "", 0, [], []⟩
/-- _law_is_effect -/
def b40 : Ss := (.cons (.ift (.or_ (.not_ (.isi (.v 0) [.tuple])) (.cmp .ne (.lenv 0) (.c (.int 2)))) (.cons (.ret (.c (.bl false))) .nil) .nil) (.cons (.ret (.and_ (.isi (.ixv 0 (.c (.int 0))) [.bool]) (.call 39 (.cons (.ixv 0 (.c (.int 1))) .nil)))) .nil))
def d40 : Df := ⟨"_law_is_effect", top 51, ["_law_thing"], ["_law_thing"], [], b40, .fn, "", "", 0, [], []⟩
/-- _law_narrowed -/
def b41 : Ss := (.cons (.set 3 (.call 22 (.cons (.v 1) (.cons (.v 2) .nil)))) (.cons (.ret (.call 22 (.cons (.v 0) (.cons (.tup (.cons (.ixv 3 (.c (.int 0))) (.cons (.call 8 (.cons (.v 0) (.cons (.ixv 3 (.c (.int 1))) .nil))) .nil))) .nil)))) .nil))
def d41 : Df := ⟨"_law_narrowed", top 58, ["_law_narrow", "_law_wide", "_law_effect", "_law_first"], ["_law_narrow", "_law_wide", "_law_effect"], [], b41, .fn, "", "", 0, [], []⟩
/-- _law_on -/
def b42 : Ss := (.cons (.ift (.ixv 1 (.c (.int 0))) (.cons (.ret (.ixv 1 (.c (.int 1)))) .nil) .nil) (.cons (.ret (.call 23 (.cons (.v 0) (.cons (.v 2) (.cons (.ixv 1 (.c (.int 1))) .nil))))) .nil))
def d42 : Df := ⟨"_law_on", top 52, ["_law_kind_here", "_law_effect", "_law_state"], ["_law_kind_here", "_law_effect", "_law_state"], [], b42, .fn, "", "", 0, [], []⟩
/-- _law_effects -/
def b43 : Ss := (.cons (.set 5 (.call 24 (.cons (.v 1) (.cons (.v 2) (.cons (.v 3) .nil))))) (.cons (.set 6 (.lst .nil)) (.cons (.for_ [7] (.seq (.tup (.cons (.v 2) (.cons (.v 3) (.cons (.v 5) .nil))))) (.cons (.set 8 (.call 26 (.cons (.v 0) (.cons (.v 7) .nil)))) (.cons (.ift (.or_ (.not_ (.call 40 (.cons (.v 8) .nil))) (.cmp .ne (.v 8) (.call 41 (.cons (.v 0) (.cons (.v 1) (.cons (.v 7) .nil)))))) (.cons (.ret (.c (.bl false))) .nil) .nil) (.cons (.set 9 (.call 28 (.cons (.v 0) (.cons (.v 8) (.cons (.call 8 (.cons (.v 0) (.cons (.v 4) .nil))) .nil))))) (.cons (.ift (.or_ (.not_ (.call 39 (.cons (.v 9) .nil))) (.cmp .ne (.v 9) (.call 8 (.cons (.v 0) (.cons (.call 42 (.cons (.v 1) (.cons (.v 7) (.cons (.v 4) .nil)))) .nil))))) (.cons (.ret (.c (.bl false))) .nil) .nil) (.cons (.ift (.cmp .ne (.v 9) (.call 21 (.cons (.v 0) (.cons (.call 28 (.cons (.v 1) (.cons (.v 7) (.cons (.v 4) .nil)))) .nil)))) (.cons (.ret (.c (.bl false))) .nil) .nil) (.cons (.app 6 (.v 8)) .nil))))))) (.cons (.ift (.or_ (.cmp .ne (.cls 37 1 (.cons (.v 0) (.cons (.ixv 6 (.c (.int 0))) (.cons (.ixv 6 (.c (.int 1))) .nil)))) (.ixv 6 (.c (.int 2)))) (.cmp .ne (.call 26 (.cons (.v 0) (.cons (.cls 37 1 (.cons (.v 1) (.cons (.v 2) (.cons (.v 3) .nil)))) .nil))) (.ixv 6 (.c (.int 2))))) (.cons (.ret (.c (.bl false))) .nil) .nil) (.cons (.for_ [10] (.seq (.tup (.cons (.c (.int 1)) (.cons (.c (.int 2)) .nil)))) (.cons (.set 11 (.ix (.tup (.cons (.v 2) (.cons (.v 3) (.cons (.v 5) .nil)))) (.v 10))) (.cons (.set 12 (.call 35 (.cons (.v 1) (.cons (.v 2) (.cons (.v 11) .nil))))) (.cons (.ift (.and_ (.cmp .isn (.v 12) (.c .non)) (.cmp .eq (.v 10) (.c (.int 2)))) (.cons (.ret (.c (.bl false))) .nil) .nil) (.cons (.ift (.cmp .nisn (.v 12) (.c .non)) (.cons (.set 8 (.call 26 (.cons (.v 0) (.cons (.v 12) .nil)))) (.cons (.set 13 (.call 35 (.cons (.v 0) (.cons (.ixv 6 (.c (.int 0))) (.cons (.ixv 6 (.v 10)) .nil))))) (.cons (.ift (.or_ (.cmp .ne (.call 24 (.cons (.v 0) (.cons (.ixv 6 (.c (.int 0))) (.cons (.v 8) .nil)))) (.ixv 6 (.v 10))) (.not_ (.call 40 (.cons (.v 13) .nil)))) (.cons (.ret (.c (.bl false))) .nil) .nil) (.cons (.ift (.or_ (.cmp .ne (.call 24 (.cons (.v 0) (.cons (.ixv 6 (.c (.int 0))) (.cons (.v 13) .nil)))) (.ixv 6 (.v 10))) (.cmp .gt (.bi .len (.cons (.ixv 13 (.c (.int 1))) .nil)) (.bi .len (.cons (.ixv 8 (.c (.int 1))) .nil)))) (.cons (.ret (.c (.bl false))) .nil) .nil) .nil)))) .nil) .nil))))) (.cons (.ret (.c (.bl true))) .nil))))))
def d43 : Df := ⟨"_law_effects", top 59, ["_law_narrow", "_law_wide", "_law_one", "_law_other", "_law_state", "_law_whole", "_law_lower_here", "_law_effect", "_law_told", "_law_made", "_law_k", "_law_goal", "_law_upper", "_law_least"], ["_law_narrow", "_law_wide", "_law_one", "_law_other", "_law_state"], [], b43, .fn, "", "", 0, [], []⟩
/-- _law_near -/
def b44 : Ss := (.cons (.set 3 (.call 3 (.cons (.lr 0) (.cons (.c (.int 10)) .nil)))) (.cons (.ift (.cmp .lt (.v 3) (.c (.int 2))) (.cons (.ret (.v 2)) .nil) .nil) (.cons (.ift (.cmp .eq (.v 3) (.c (.int 5))) (.cons (.ret (.slv 2 (.c (.int 1)) (.c .non))) .nil) .nil) (.cons (.ift (.cmp .eq (.v 3) (.c (.int 6))) (.cons (.ret (.slv 2 (.c .non) (.bi .max2 (.cons (.c (.int 0)) (.cons (.bin .sub (.lenv 2) (.c (.int 1))) .nil))))) .nil) .nil) (.cons (.ift (.cmp .eq (.v 3) (.c (.int 7))) (.cons (.ret (.rev (.v 2))) .nil) .nil) (.cons (.set 4 (.call 9 (.cons (.lr 0) (.cons (.v 1) .nil)))) (.cons (.ift (.or_ (.cmp .eq (.v 3) (.c (.int 2))) (.cmp .eq (.v 3) (.c (.int 3)))) (.cons (.ret (.bin .add (.v 2) (.v 4))) .nil) .nil) (.cons (.ift (.cmp .eq (.v 3) (.c (.int 4))) (.cons (.ret (.bin .add (.v 4) (.v 2))) .nil) .nil) (.cons (.ift (.and_ (.cmp .eq (.v 3) (.c (.int 8))) (.cmp .gt (.lenv 2) (.c (.int 0)))) (.cons (.set 5 (.call 3 (.cons (.lr 0) (.cons (.lenv 2) .nil)))) (.cons (.ret (.bin .add (.bin .add (.slv 2 (.c .non) (.v 5)) (.tup (.cons (.ixv 1 (.call 3 (.cons (.lr 0) (.cons (.lenv 1) .nil)))) .nil))) (.slv 2 (.bin .add (.v 5) (.c (.int 1))) (.c .non)))) .nil)) .nil) (.cons (.ret (.v 4)) .nil))))))))))
def d44 : Df := ⟨"_law_near", top 44, ["_law_stream_here", "_law_letters_here", "_law_word", "_law_way", "_law_other", "_law_at"], ["_law_stream_here", "_law_letters_here", "_law_word"], [], b44, .fn, "", "", 0, [], []⟩
/-- _law_family -/
def b45 : Ss := (.cons (.set 1 (.call 18 (.cons (.v 0) .nil))) (.cons (.set 2 (.lst (.cons (.isk (.v 1) 1) (.cons (.isk (.v 1) 2) (.cons (.isk (.v 1) 3) .nil))))) (.cons (.set 2 (.bin .add (.v 2) (.lst (.cons (.isk (.v 1) 4) (.cons (.isk (.v 1) 5) (.cons (.isk (.v 1) 6) .nil)))))) (.cons (.set 3 (.lst (.cons (.cmp .isin (.v 0) (.tup (.cons (.c (.str "bag")) (.cons (.c (.str "set")) .nil)))) (.cons (.cmp .eq (.v 0) (.c (.str "set"))) (.cons (.cmp .isin (.v 0) (.tup (.cons (.c (.str "heads")) (.cons (.c (.str "first")) .nil)))) .nil))))) (.cons (.set 3 (.bin .add (.v 3) (.lst (.cons (.cmp .eq (.v 0) (.c (.str "first"))) (.cons (.cmp .isin (.v 0) (.tup (.cons (.c (.str "tails")) (.cons (.c (.str "last")) .nil)))) (.cons (.cmp .eq (.v 0) (.c (.str "last"))) .nil)))))) (.cons (.ift (.or_ (.cmp .ne (.v 2) (.v 3)) (.cmp .ne (.isk (.v 1) 7) (.cmp .eq (.v 0) (.c (.str "ends"))))) (.cons (.ret (.c (.bl false))) .nil) .nil) (.cons (.ret (.and_ (.isk (.v 1) 0) (.and_ (.cmp .eq (.cat (.v 1) 0) (.v 0)) (.cmp .eq (.cmp .isin (.v 0) (.g 1)) (.cmp .nin (.v 0) (.tup (.cons (.c (.str "list")) (.cons (.c (.str "bag")) .nil)))))))) .nil)))))))
def d45 : Df := ⟨"_law_family", top 56, ["_law_name", "_law_thing", "_law_told", "_law_due"], ["_law_name"], [], b45, .fn, "", "", 0, [], []⟩
/-- parted_words -/
def b46 : Ss := (.cons (.set 2 (.call 18 (.cons (.v 0) .nil))) (.cons (.set 3 (.call 18 (.cons (.v 1) .nil))) (.cons (.for_ [4, 5] (.seq (.g 3)) (.cons (.ift (.and_ (.cmp .eq (.meth (.v 3) 0 (.cons (.v 4) .nil)) (.meth (.v 3) 0 (.cons (.v 5) .nil))) (.cmp .ne (.meth (.v 2) 0 (.cons (.v 4) .nil)) (.meth (.v 2) 0 (.cons (.v 5) .nil)))) (.cons (.ret (.tup (.cons (.v 4) (.cons (.v 5) .nil)))) .nil) .nil) .nil)) (.cons (.ret (.c .non)) .nil))))
def d46 : Df := ⟨"parted_words", top 23, ["one", "other", "narrow", "wide", "left", "right"], ["one", "other"], [], b46, .fn, "", "", 0, [], []⟩
/-- under -/
def b47 : Ss := (.cons (.ret (.cmp .isn (.call 46 (.cons (.v 0) (.cons (.v 1) .nil))) (.c .non))) .nil)
def d47 : Df := ⟨"under", top 24, ["one", "other"], ["one", "other"], [], b47, .fn, "", "", 0, [], []⟩
/-- _law_parted -/
def b48 : Ss := (.cons (.set 2 (.tup (.cons (.tup (.cons (.tup (.cons (.c (.int 1)) (.cons (.c (.int 2)) .nil))) (.cons (.tup (.cons (.c (.int 2)) (.cons (.c (.int 1)) .nil))) .nil))) (.cons (.tup (.cons (.tup (.cons (.c (.int 1)) (.cons (.c (.int 1)) .nil))) (.cons (.tup (.cons (.c (.int 1)) .nil)) .nil))) (.cons (.tup (.cons (.tup (.cons (.c (.int 1)) (.cons (.c (.int 2)) (.cons (.c (.int 3)) .nil)))) (.cons (.tup (.cons (.c (.int 1)) (.cons (.c (.int 3)) .nil))) .nil))) (.cons (.tup (.cons (.tup (.cons (.c (.int 1)) (.cons (.c (.int 2)) (.cons (.c (.int 1)) .nil)))) (.cons (.tup (.cons (.c (.int 1)) (.cons (.c (.int 2)) .nil))) .nil))) (.cons (.tup (.cons (.tup (.cons (.c (.int 1)) (.cons (.c (.int 2)) (.cons (.c (.int 1)) .nil)))) (.cons (.tup (.cons (.c (.int 2)) (.cons (.c (.int 1)) .nil))) .nil))) .nil))))))) (.cons (.for_ [3] (.seq (.v 2)) (.cons (.set 4 (.cmp .eq (.call 8 (.cons (.v 1) (.cons (.ixv 3 (.c (.int 0))) .nil))) (.call 8 (.cons (.v 1) (.cons (.ixv 3 (.c (.int 1))) .nil))))) (.cons (.ift (.and_ (.v 4) (.cmp .ne (.call 8 (.cons (.v 0) (.cons (.ixv 3 (.c (.int 0))) .nil))) (.call 8 (.cons (.v 0) (.cons (.ixv 3 (.c (.int 1))) .nil))))) (.cons (.ret (.v 3)) .nil) .nil) .nil))) (.cons (.ret (.c .non)) .nil)))
def d48 : Df := ⟨"_law_parted", top 54, ["_law_narrow", "_law_wide", "_law_rows", "_law_pair", "_law_alike"], ["_law_narrow", "_law_wide"], [], b48, .fn, "", "", 0, [], []⟩
/-- _law_pairs -/
def b49 : Ss := (.cons (.set 2 (.call 47 (.cons (.v 0) (.cons (.v 1) .nil)))) (.cons (.set 3 (.call 48 (.cons (.v 0) (.cons (.v 1) .nil)))) (.cons (.ift (.or_ (.not_ (.isi (.v 2) [.bool])) (.or_ (.cmp .ne (.v 2) (.call 5 (.cons (.v 0) (.cons (.v 1) .nil)))) (.cmp .ne (.v 2) (.cmp .isn (.v 3) (.c .non))))) (.cons (.ret (.c (.bl false))) .nil) .nil) (.cons (.set 4 (.call 46 (.cons (.v 0) (.cons (.v 1) .nil)))) (.cons (.ift (.cmp .isn (.v 3) (.c .non)) (.cons (.ret (.cmp .isn (.v 4) (.c .non))) .nil) .nil) (.cons (.ift (.or_ (.not_ (.isi (.v 4) [.tuple])) (.or_ (.cmp .ne (.lenv 4) (.c (.int 2))) (.or_ (.not_ (.call 39 (.cons (.ixv 4 (.c (.int 0))) .nil))) (.not_ (.call 39 (.cons (.ixv 4 (.c (.int 1))) .nil)))))) (.cons (.ret (.c (.bl false))) .nil) .nil) (.cons (.ift (.or_ (.cmp .ne (.v 4) (.v 3)) (.cmp .ne (.call 21 (.cons (.v 1) (.cons (.ixv 4 (.c (.int 0))) .nil))) (.call 21 (.cons (.v 1) (.cons (.ixv 4 (.c (.int 1))) .nil))))) (.cons (.ret (.c (.bl false))) .nil) .nil) (.cons (.ret (.cmp .ne (.call 21 (.cons (.v 0) (.cons (.ixv 4 (.c (.int 0))) .nil))) (.call 21 (.cons (.v 0) (.cons (.ixv 4 (.c (.int 1))) .nil))))) .nil))))))))
def d49 : Df := ⟨"_law_pairs", top 57, ["_law_narrow", "_law_wide", "_law_flag", "_law_due", "_law_told"], ["_law_narrow", "_law_wide"], [], b49, .fn, "", "", 0, [], []⟩
/-- law -/
def b50 : Ss := (.cons (.set 1 (.call 0 (.cons (.v 0) .nil))) (.cons (.set 2 (.call 4 (.cons (.lr 1) .nil))) (.cons (.set 3 (.call 6 (.cons (.lr 1) (.cons (.v 2) .nil)))) (.cons (.set 4 (.call 7 (.cons (.lr 1) .nil))) (.cons (.set 5 (.tup (.cons (.cmp .gt (.call 3 (.cons (.lr 1) (.cons (.c (.int 10)) .nil))) (.c (.int 4))) (.cons (.call 8 (.cons (.v 2) (.cons (.call 9 (.cons (.lr 1) (.cons (.v 4) .nil))) .nil))) .nil)))) (.cons (.set 6 (.tup (.cons (.cmp .gt (.call 3 (.cons (.lr 1) (.cons (.c (.int 10)) .nil))) (.c (.int 4))) (.cons (.call 8 (.cons (.v 2) (.cons (.call 44 (.cons (.lr 1) (.cons (.v 4) (.cons (.ixv 5 (.c (.int 1))) .nil)))) .nil))) .nil)))) (.cons (.set 7 (.call 8 (.cons (.v 2) (.cons (.call 9 (.cons (.lr 1) (.cons (.v 4) .nil))) .nil)))) (.cons (.set 8 (.call 9 (.cons (.lr 1) (.cons (.v 4) .nil)))) (.cons (.set 9 (.tup (.cons (.c (.str "list")) (.cons (.c (.str "bag")) (.cons (.c (.str "set")) (.cons (.c (.str "first")) (.cons (.c (.str "last")) (.cons (.c (.str "ends")) (.cons (.c (.str "heads")) (.cons (.c (.str "tails")) .nil)))))))))) (.cons (.ift (.or_ (.cmp .ne (.g 0) (.v 9)) (.or_ (.cmp .ne (.g 1) (.slv 9 (.c (.int 2)) (.c .non))) (.or_ (.not_ (.call 45 (.cons (.v 2) .nil))) (.not_ (.call 45 (.cons (.v 3) .nil)))))) (.cons (.ret (.c (.bl false))) .nil) .nil) (.cons (.ift (.or_ (.not_ (.call 49 (.cons (.v 3) (.cons (.v 2) .nil)))) (.not_ (.call 49 (.cons (.v 2) (.cons (.v 3) .nil))))) (.cons (.ret (.c (.bl false))) .nil) .nil) (.cons (.ift (.not_ (.call 5 (.cons (.v 3) (.cons (.v 2) .nil)))) (.cons (.ret (.c (.bl true))) .nil) .nil) (.cons (.set 10 (.call 21 (.cons (.v 3) (.cons (.call 21 (.cons (.v 2) (.cons (.v 8) .nil))) .nil)))) (.cons (.ift (.or_ (.not_ (.call 39 (.cons (.v 10) .nil))) (.cmp .ne (.v 10) (.call 8 (.cons (.v 3) (.cons (.v 8) .nil))))) (.cons (.ret (.c (.bl false))) .nil) .nil) (.cons (.ret (.call 43 (.cons (.v 3) (.cons (.v 2) (.cons (.v 5) (.cons (.v 6) (.cons (.v 7) .nil))))))) .nil)))))))))))))))
def d50 : Df := ⟨"law", top 60, ["_law_script", "_law_stream_here", "_law_wide", "_law_narrow", "_law_letters_here", "_law_one", "_law_other", "_law_state", "_law_word", "_law_names", "_law_told"], ["_law_script"], [], b50, .fn, "", "", 0, [], []⟩
def ds : List Df := [d0, d1, d2, d3, d4, d5, d6, d7, d8, d9, d10, d11, d12, d13, d14, d15, d16, d17, d18, d19, d20, d21, d22, d23, d24, d25, d26, d27, d28, d29, d30, d31, d32, d33, d34, d35, d36, d37, d38, d39, d40, d41, d42, d43, d44, d45, d46, d47, d48, d49, d50]
def i0 : IniD := ⟨"NameFault", "name", "NameFault.__init__", inCls 0 (top 2)⟩
def i1 : IniD := ⟨"PlaceFault", "place", "PlaceFault.__init__", inCls 0 (top 3)⟩
def sb (i j : Nat) : Bool := (i == 0 && j == 0) || (i == 1 && j == 1)
def er : ErD := ⟨["BadKind", "BadWord"], ["name", "place"], [(0, 0), (1, 1)], sb, [i0, i1]⟩
def gls : List Str := ["KIND_NAMES", "IDEMPOTENT", "LETTERS", "PARTED", "IDLE"]
def zc : Cld := ⟨["Kind", "BagKind", "SetKind", "HeadsKind", "FirstKind", "TailsKind", "LastKind", "EndsKind"], ["plain", "rest_between"], [(0, 0, 10), (0, 1, 29), (1, 0, 11), (1, 1, 30), (2, 0, 12), (2, 1, 30), (3, 0, 13), (3, 1, 29), (4, 0, 14), (4, 1, 29), (5, 0, 15), (5, 1, 31), (6, 0, 16), (6, 1, 32), (7, 0, 17), (7, 1, 33)], [(1, "plain", 10), (2, "plain", 11), (3, "plain", 10), (4, "plain", 13), (5, "plain", 10), (6, "plain", 15), (7, "plain", 10)], [(0, 0), (1, 0), (1, 1), (2, 0), (2, 1), (2, 2), (3, 0), (3, 3), (4, 0), (4, 3), (4, 4), (5, 0), (5, 5), (6, 0), (6, 5), (6, 6), (7, 0), (7, 7)], ["NAME"], [(0, 0, "list"), (1, 0, "bag"), (2, 0, "set"), (3, 0, "heads"), (4, 0, "first"), (5, 0, "tails"), (6, 0, "last"), (7, 0, "ends")], [1, 2, 3, 4, 5, 6, 7, 0]⟩
def hd : Hd := ⟨6, ds, er, gls, [.tup [.str "list", .str "bag", .str "set", .str "first", .str "last", .str "ends", .str "heads", .str "tails"], .tup [.str "set", .str "first", .str "last", .str "ends", .str "heads", .str "tails"], .int 1000000000, .tup [.tup [.tup [.int 1, .int 2], .tup [.int 2, .int 1]], .tup [.tup [.int 1, .int 1], .tup [.int 1]], .tup [.tup [.int 1, .int 2, .int 3], .tup [.int 1, .int 3]], .tup [.tup [.int 1, .int 2, .int 1], .tup [.int 1, .int 2]], .tup [.tup [.int 1, .int 2, .int 1], .tup [.int 2, .int 1]]], .tup [.bl false, .tup []]], zc⟩
theorem chk : chkGo er zc gls [] ds = true := by decide +kernel
theorem bn_0 : d0.Bn := bn0 rfl fun _ _ _ _ _ _ us hl => match us, hl with | [_], _ => rfl
theorem bn_1 : d1.Bn := bn0 rfl fun _ _ _ _ _ _ us hl => match us, hl with | [_, _], _ => rfl
theorem bn_2 : d2.Bn := bn0 rfl fun _ _ _ _ _ _ us hl => match us, hl with | [_, _], _ => rfl
theorem bn_3 : d3.Bn := bn0 rfl fun _ _ _ _ _ _ us hl => match us, hl with | [_, _], _ => rfl
theorem bn_4 : d4.Bn := bn0 rfl fun _ _ _ _ _ _ us hl => match us, hl with | [_], _ => rfl
theorem bn_5 : d5.Bn := bn0 rfl fun _ _ _ _ _ _ us hl => match us, hl with | [_, _], _ => rfl
theorem bn_6 : d6.Bn := bn0 rfl fun _ _ _ _ _ _ us hl => match us, hl with | [_, _], _ => rfl
theorem bn_7 : d7.Bn := bn0 rfl fun _ _ _ _ _ _ us hl => match us, hl with | [_], _ => rfl
theorem bn_8 : d8.Bn := bn0 rfl fun _ _ _ _ _ _ us hl => match us, hl with | [_, _], _ => rfl
theorem bn_9 : d9.Bn := bn0 rfl fun _ _ _ _ _ _ us hl => match us, hl with | [_, _], _ => rfl
theorem bn_10 : d10.Bn := bn0 rfl fun _ _ _ _ _ _ us hl => match us, hl with | [_, _], _ => rfl
theorem bn_11 : d11.Bn := ⟨⟨_, rfl, rfl⟩, fun _ _ _ _ _ _ _ us hl => match us, hl with | [_, _], _ => rfl⟩
theorem bn_12 : d12.Bn := ⟨⟨_, rfl, rfl⟩, fun _ _ _ _ _ _ _ us hl => match us, hl with | [_, _], _ => rfl⟩
theorem bn_13 : d13.Bn := ⟨⟨_, rfl, rfl⟩, fun _ _ _ _ _ _ _ us hl => match us, hl with | [_, _], _ => rfl⟩
theorem bn_14 : d14.Bn := ⟨⟨_, rfl, rfl⟩, fun _ _ _ _ _ _ _ us hl => match us, hl with | [_, _], _ => rfl⟩
theorem bn_15 : d15.Bn := ⟨⟨_, rfl, rfl⟩, fun _ _ _ _ _ _ _ us hl => match us, hl with | [_, _], _ => rfl⟩
theorem bn_16 : d16.Bn := ⟨⟨_, rfl, rfl⟩, fun _ _ _ _ _ _ _ us hl => match us, hl with | [_, _], _ => rfl⟩
theorem bn_17 : d17.Bn := ⟨⟨_, rfl, rfl⟩, fun _ _ _ _ _ _ _ us hl => match us, hl with | [_, _], _ => rfl⟩
theorem bn_18 : d18.Bn := bn0 rfl fun _ _ _ _ _ _ us hl => match us, hl with | [_], _ => rfl
theorem bn_19 : d19.Bn := bn0 rfl fun _ _ _ _ _ _ us hl => match us, hl with | [_], _ => rfl
theorem bn_20 : d20.Bn := bn0 rfl fun _ _ _ _ _ _ us hl => match us, hl with | [_], _ => rfl
theorem bn_21 : d21.Bn := bn0 rfl fun _ _ _ _ _ _ us hl => match us, hl with | [_, _], _ => rfl
theorem bn_22 : d22.Bn := bn0 rfl fun _ _ _ _ _ _ us hl => match us, hl with | [_, _], _ => rfl
theorem bn_23 : d23.Bn := bn0 rfl fun _ _ _ _ _ _ us hl => match us, hl with | [_, _, _], _ => rfl
theorem bn_24 : d24.Bn := bn0 rfl fun _ _ _ _ _ _ us hl => match us, hl with | [_, _, _], _ => rfl
theorem bn_25 : d25.Bn := bn0 rfl fun _ _ _ _ _ _ us hl => match us, hl with | [_, _, _], _ => rfl
theorem bn_26 : d26.Bn := bn0 rfl fun _ _ _ _ _ _ us hl => match us, hl with | [_, _], _ => rfl
theorem bn_27 : d27.Bn := bn0 rfl fun _ _ _ _ _ _ us hl => match us, hl with | [_, _, _], _ => rfl
theorem bn_28 : d28.Bn := bn0 rfl fun _ _ _ _ _ _ us hl => match us, hl with | [_, _, _], _ => rfl
theorem bn_29 : d29.Bn := bn0 rfl fun _ _ _ _ _ _ us hl => match us, hl with | [_, _, _], _ => rfl
theorem bn_30 : d30.Bn := bn0 rfl fun _ _ _ _ _ _ us hl => match us, hl with | [_, _, _], _ => rfl
theorem bn_31 : d31.Bn := bn0 rfl fun _ _ _ _ _ _ us hl => match us, hl with | [_, _, _], _ => rfl
theorem bn_32 : d32.Bn := bn0 rfl fun _ _ _ _ _ _ us hl => match us, hl with | [_, _, _], _ => rfl
theorem bn_33 : d33.Bn := bn0 rfl fun _ _ _ _ _ _ us hl => match us, hl with | [_, _, _], _ => rfl
theorem bn_34 : d34.Bn := bn0 rfl fun _ _ _ _ _ _ us hl => match us, hl with | [_, _, _], _ => rfl
theorem bn_35 : d35.Bn := bn0 rfl fun _ _ _ _ _ _ us hl => match us, hl with | [_, _, _], _ => rfl
theorem bn_36 : d36.Bn := bn0 rfl fun _ _ _ _ _ _ us hl => match us, hl with | [_, _, _], _ => rfl
theorem bn_37 : d37.Bn := ⟨["kind"], "effects", rfl, fun _ _ _ _ _ _ us rest hl => match us, hl, rest with | [_], _, [] => rfl | [_], _, _ :: _ => rfl⟩
theorem bn_38 : d38.Bn := bn0 rfl fun _ _ _ _ _ _ us hl => match us, hl with | [_], _ => rfl
theorem bn_39 : d39.Bn := bn0 rfl fun _ _ _ _ _ _ us hl => match us, hl with | [_], _ => rfl
theorem bn_40 : d40.Bn := bn0 rfl fun _ _ _ _ _ _ us hl => match us, hl with | [_], _ => rfl
theorem bn_41 : d41.Bn := bn0 rfl fun _ _ _ _ _ _ us hl => match us, hl with | [_, _, _], _ => rfl
theorem bn_42 : d42.Bn := bn0 rfl fun _ _ _ _ _ _ us hl => match us, hl with | [_, _, _], _ => rfl
theorem bn_43 : d43.Bn := bn0 rfl fun _ _ _ _ _ _ us hl => match us, hl with | [_, _, _, _, _], _ => rfl
theorem bn_44 : d44.Bn := bn0 rfl fun _ _ _ _ _ _ us hl => match us, hl with | [_, _, _], _ => rfl
theorem bn_45 : d45.Bn := bn0 rfl fun _ _ _ _ _ _ us hl => match us, hl with | [_], _ => rfl
theorem bn_46 : d46.Bn := bn0 rfl fun _ _ _ _ _ _ us hl => match us, hl with | [_, _], _ => rfl
theorem bn_47 : d47.Bn := bn0 rfl fun _ _ _ _ _ _ us hl => match us, hl with | [_, _], _ => rfl
theorem bn_48 : d48.Bn := bn0 rfl fun _ _ _ _ _ _ us hl => match us, hl with | [_, _], _ => rfl
theorem bn_49 : d49.Bn := bn0 rfl fun _ _ _ _ _ _ us hl => match us, hl with | [_, _], _ => rfl
theorem bn_50 : d50.Bn := bn0 rfl fun _ _ _ _ _ _ us hl => match us, hl with | [_], _ => rfl
theorem bns : ∀ d ∈ ds, d.Bn := by
  intro d hd
  simp only [ds, List.mem_cons, List.not_mem_nil, or_false] at hd
  rcases hd with rfl | rfl | rfl | rfl | rfl | rfl | rfl | rfl | rfl | rfl | rfl | rfl | rfl | rfl | rfl | rfl | rfl | rfl | rfl | rfl | rfl | rfl | rfl | rfl | rfl | rfl | rfl | rfl | rfl | rfl | rfl | rfl | rfl | rfl | rfl | rfl | rfl | rfl | rfl | rfl | rfl | rfl | rfl | rfl | rfl | rfl | rfl | rfl | rfl | rfl | rfl
  · exact bn_0
  · exact bn_1
  · exact bn_2
  · exact bn_3
  · exact bn_4
  · exact bn_5
  · exact bn_6
  · exact bn_7
  · exact bn_8
  · exact bn_9
  · exact bn_10
  · exact bn_11
  · exact bn_12
  · exact bn_13
  · exact bn_14
  · exact bn_15
  · exact bn_16
  · exact bn_17
  · exact bn_18
  · exact bn_19
  · exact bn_20
  · exact bn_21
  · exact bn_22
  · exact bn_23
  · exact bn_24
  · exact bn_25
  · exact bn_26
  · exact bn_27
  · exact bn_28
  · exact bn_29
  · exact bn_30
  · exact bn_31
  · exact bn_32
  · exact bn_33
  · exact bn_34
  · exact bn_35
  · exact bn_36
  · exact bn_37
  · exact bn_38
  · exact bn_39
  · exact bn_40
  · exact bn_41
  · exact bn_42
  · exact bn_43
  · exact bn_44
  · exact bn_45
  · exact bn_46
  · exact bn_47
  · exact bn_48
  · exact bn_49
  · exact bn_50
theorem is0 : IniS i0 := ⟨⟨_, _, _, _, _, _, _, _, _, _, _, _, rfl, rfl⟩, ⟨_, rfl, rfl⟩, ⟨rfl, rfl, rfl, rfl, rfl, rfl, rfl, by decide +kernel, by decide +kernel⟩, by decide +kernel, by decide +kernel, fun _ _ _ _ _ _ _ us hl => match us, hl with | [_, _], _ => rfl⟩
theorem is1 : IniS i1 := ⟨⟨_, _, _, _, _, _, _, _, _, _, _, _, rfl, rfl⟩, ⟨_, rfl, rfl⟩, ⟨rfl, rfl, rfl, rfl, rfl, rfl, rfl, by decide +kernel, by decide +kernel⟩, by decide +kernel, by decide +kernel, fun _ _ _ _ _ _ _ us hl => match us, hl with | [_, _], _ => rfl⟩
theorem iss : ∀ d ∈ er.ins, IniS d := by
  intro d hd
  simp only [er, List.mem_cons, List.not_mem_nil, or_false] at hd
  rcases hd with rfl | rfl
  · exact is0
  · exact is1
def LAST : Nat := 50
def LAWI : Nat := 60
end LW

end
section
set_option Elab.async false
set_option linter.all false
set_option maxRecDepth 100000
set_option maxHeartbeats 0
namespace LW
open PySem PySem.Spec PyProof.Rows L2 He QL
abbrev R0 : PySem.W.OpenRow := PySem.W.OpenLaw.row PySem.Challenge.rw_leastshelf_k07_narrower_kinds
def loose : List Str := [("__name__" : Str), ("StoreError" : Str), ("NameFault" : Str), ("PlaceFault" : Str), ("BadKind" : Str), ("BadWord" : Str), ("KIND_NAMES" : Str), ("IDEMPOTENT" : Str), ("LETTERS" : Str), ("PARTED" : Str), ("Kind" : Str), ("BagKind" : Str), ("SetKind" : Str), ("HeadsKind" : Str), ("FirstKind" : Str), ("TailsKind" : Str), ("LastKind" : Str), ("EndsKind" : Str), ("kind_named" : Str), ("is_letter" : Str), ("check_word" : Str), ("plain_word" : Str), ("parted_words" : Str), ("under" : Str), ("IDLE" : Str), ("formed" : Str), ("followed" : Str), ("made_of" : Str), ("then" : Str), ("effect_on" : Str), ("narrowed_effect" : Str), ("step_of" : Str), ("step" : Str), ("_law_stream" : Str), ("_law_mixed" : Str), ("_law_draw" : Str), ("_law_pick" : Str), ("_law_kind" : Str), ("_law_letters" : Str), ("_law_raw" : Str), ("_law_near" : Str), ("_law_plain" : Str), ("_law_joined" : Str), ("_law_normal" : Str), ("_law_then" : Str), ("_law_is_number" : Str), ("_law_is_word" : Str), ("_law_is_effect" : Str), ("_law_on" : Str), ("_law_under" : Str), ("_law_parted" : Str), ("_law_lower" : Str), ("_law_family" : Str), ("_law_pairs" : Str), ("_law_narrowed" : Str), ("_law_effects" : Str)]
theorem run (w : World) : HandSHeadRun.RunEq R0 (PySem.W.view R0.prog [LAWI]) (hd.hook R0.prog) (hd.ob R0.prog) 20000 loose w := by
  intro os
  kernel_rfl
end LW

end
section
set_option Elab.async false
set_option linter.all false
set_option maxRecDepth 100000
set_option maxHeartbeats 0
namespace LW
open PySem PySem.Spec PyProof.Rows L2 He QL
abbrev dsI : List Df := ds.take LAST
abbrev dL : Df := d50
def FL : Fn := dL.fn hd.gl hd.e hd.z (tabGo hd.gl hd.e hd.z [] dsI)
theorem facts {w : World} {K : PySem.W.Frag} {h : Heap} {mg : Str → Option Value} {f : Addr} (X : K.In h) (G : h.Ns mainGlobals mg) (hfa : mg ("law" : Str) = some (.ref f)) (c : hd.obs R0.prog K = hd.val) (hr : ∀ ns : List Int, ns.length ≤ 63 → ∃ outs, FL.run [.fz (.rol (ns.map D.int))] = .ok (.fz (.bl true)) outs) :
    ∃ (fd : FuncData) (sp : Sp), (∀ (s : Shared) (u : Value), BindsTo s fd ⟨[u], []⟩ [("_law_script", u)]) ∧ (∀ (H : Hp) (a : Addr) (ns : List Int), ns.length ≤ 63 → SqL K H a (ns.map V.int) → sp [.ref a] H (fun v _ => v = .bl true) fun _ _ _ => False) ∧
      ∀ base : Heap, FnOk R0.prog w K mg base (L2.CX R0.prog w) (2 + dsI.length + 1) f fd ["_law_script"] sp := by
  obtain ⟨g, fd, F, hF⟩ := law_ok (P := R0.prog) (w := w) (h := hd) (ds := dsI) (d := dL) (base := h) X G c rfl rfl chk bns iss (by decide +kernel) (by decide +kernel) rfl
  have e := hfa.symm.trans g
  cases e
  refine ⟨fd, _, fun s u => ?_, fun H a ns hl hS => sp_law (F := FL) rfl hS (hr ns hl), hF⟩
  exact FunD.bindsA (ps := ["_law_script"]) F (fun _ _ _ _ _ _ us hl => match us, hl with | [_], _ => rfl) s [u] rfl
end LW
open PySem PySem.W PySem.Calls PyProof.Rows
theorem law_of (hr : ∀ ns : List Int, ns.length ≤ 63 → ∃ outs, LW.FL.run [.fz (.rol (ns.map QL.D.int))] = .ok (.fz (.bl true)) outs) : PySem.Challenge.rw_leastshelf_k07_narrower_kinds.Holds := by
  w_on; o_law
  refine HandSHeadRun.head_any (r := LW.R0) (q := view LW.R0.prog [LW.LAWI]) (H := LW.hd.hook LW.R0.prog) (ob := LW.hd.ob LW.R0.prog) (M := 20000) (loose := LW.loose) (d := HandSHeadRun.topDef LW.R0.prog LW.LAWI) (kwd := []) (LW.hd.ob_eq LW.R0.prog)
    (by kernel_rfl) (fun s => by kernel_rfl) LW.run (by kernel_rfl) (by kernel_rfl) (by kernel_rfl) (by rfl) (by first | assumption | decide +kernel) (by decide +kernel) ⟨rfl, rfl, rfl, rfl, rfl, by decide +kernel⟩ ?hw ?hc
  case hw => w_witness2
  case hc =>
    refine QL.walk_q (l := PySem.Challenge.rw_leastshelf_k07_narrower_kinds) (n := 63) (k := 2 + LW.dsI.length + 1) (x := "_law_script") rfl (by decide) (by kernel_rfl) ⟨rfl, by decide, by decide⟩ ?F
    intro w mg fa h Y G hmg0
    obtain ⟨K, KX, c⟩ := Y
    have hmg : mg ("law" : PySem.Str) = some (.ref fa) := by
      have e : (HandSHeadRun.topDef LW.R0.prog LW.LAWI).name = ("law" : PySem.Str) := by kernel_rfl
      rw [← e]
      exact hmg0
    obtain ⟨fd, sp, q1, q2, q3⟩ := LW.facts (w := w) KX G hmg c hr
    exact ⟨K, fd, sp, KX, q1, q2, fun base _ _ => q3 base⟩

end
section
set_option Elab.async false
set_option linter.all false
set_option maxRecDepth 100000
set_option maxHeartbeats 0
namespace LW
open QL
def A0 : List Fn := []
def P0 : Pr := ⟨A0, hd.gl, mtF zc.mtl, sb, zc.kin, caF zc.cal⟩
def F0 : Fn := QL.mk P0 1 2 d0.dfl b0 d0.shs
def A1 : List Fn := A0 ++ [F0]
def P1 : Pr := ⟨A1, hd.gl, mtF zc.mtl, sb, zc.kin, caF zc.cal⟩
def F1 : Fn := QL.mk P1 2 3 d1.dfl b1 d1.shs
def A2 : List Fn := A1 ++ [F1]
def P2 : Pr := ⟨A2, hd.gl, mtF zc.mtl, sb, zc.kin, caF zc.cal⟩
def F2 : Fn := QL.mk P2 2 4 d2.dfl b2 d2.shs
def A3 : List Fn := A2 ++ [F2]
def P3 : Pr := ⟨A3, hd.gl, mtF zc.mtl, sb, zc.kin, caF zc.cal⟩
def F3 : Fn := QL.mk P3 2 2 d3.dfl b3 d3.shs
def A4 : List Fn := A3 ++ [F3]
def P4 : Pr := ⟨A4, hd.gl, mtF zc.mtl, sb, zc.kin, caF zc.cal⟩
def F4 : Fn := QL.mk P4 1 1 d4.dfl b4 d4.shs
def A5 : List Fn := A4 ++ [F4]
def P5 : Pr := ⟨A5, hd.gl, mtF zc.mtl, sb, zc.kin, caF zc.cal⟩
def F5 : Fn := QL.mk P5 2 2 d5.dfl b5 d5.shs
def A6 : List Fn := A5 ++ [F5]
def P6 : Pr := ⟨A6, hd.gl, mtF zc.mtl, sb, zc.kin, caF zc.cal⟩
def F6 : Fn := QL.mk P6 2 5 d6.dfl b6 d6.shs
def A7 : List Fn := A6 ++ [F6]
def P7 : Pr := ⟨A7, hd.gl, mtF zc.mtl, sb, zc.kin, caF zc.cal⟩
def F7 : Fn := QL.mk P7 1 6 d7.dfl b7 d7.shs
def A8 : List Fn := A7 ++ [F7]
def P8 : Pr := ⟨A8, hd.gl, mtF zc.mtl, sb, zc.kin, caF zc.cal⟩
def F8 : Fn := QL.mk P8 2 4 d8.dfl b8 d8.shs
def A9 : List Fn := A8 ++ [F8]
def P9 : Pr := ⟨A9, hd.gl, mtF zc.mtl, sb, zc.kin, caF zc.cal⟩
def F9 : Fn := QL.mk P9 2 4 d9.dfl b9 d9.shs
def A10 : List Fn := A9 ++ [F9]
def P10 : Pr := ⟨A10, hd.gl, mtF zc.mtl, sb, zc.kin, caF zc.cal⟩
def F10 : Fn := QL.mk P10 2 2 d10.dfl b10 d10.shs
def A11 : List Fn := A10 ++ [F10]
def P11 : Pr := ⟨A11, hd.gl, mtF zc.mtl, sb, zc.kin, caF zc.cal⟩
def F11 : Fn := QL.mk P11 2 2 d11.dfl b11 d11.shs
def A12 : List Fn := A11 ++ [F11]
def P12 : Pr := ⟨A12, hd.gl, mtF zc.mtl, sb, zc.kin, caF zc.cal⟩
def F12 : Fn := QL.mk P12 2 4 d12.dfl b12 d12.shs
def A13 : List Fn := A12 ++ [F12]
def P13 : Pr := ⟨A13, hd.gl, mtF zc.mtl, sb, zc.kin, caF zc.cal⟩
def F13 : Fn := QL.mk P13 2 4 d13.dfl b13 d13.shs
def A14 : List Fn := A13 ++ [F13]
def P14 : Pr := ⟨A14, hd.gl, mtF zc.mtl, sb, zc.kin, caF zc.cal⟩
def F14 : Fn := QL.mk P14 2 2 d14.dfl b14 d14.shs
def A15 : List Fn := A14 ++ [F14]
def P15 : Pr := ⟨A15, hd.gl, mtF zc.mtl, sb, zc.kin, caF zc.cal⟩
def F15 : Fn := QL.mk P15 2 4 d15.dfl b15 d15.shs
def A16 : List Fn := A15 ++ [F15]
def P16 : Pr := ⟨A16, hd.gl, mtF zc.mtl, sb, zc.kin, caF zc.cal⟩
def F16 : Fn := QL.mk P16 2 2 d16.dfl b16 d16.shs
def A17 : List Fn := A16 ++ [F16]
def P17 : Pr := ⟨A17, hd.gl, mtF zc.mtl, sb, zc.kin, caF zc.cal⟩
def F17 : Fn := QL.mk P17 2 3 d17.dfl b17 d17.shs
def A18 : List Fn := A17 ++ [F17]
def P18 : Pr := ⟨A18, hd.gl, mtF zc.mtl, sb, zc.kin, caF zc.cal⟩
def F18 : Fn := QL.mk P18 1 1 d18.dfl b18 d18.shs
def A19 : List Fn := A18 ++ [F18]
def P19 : Pr := ⟨A19, hd.gl, mtF zc.mtl, sb, zc.kin, caF zc.cal⟩
def F19 : Fn := QL.mk P19 1 1 d19.dfl b19 d19.shs
def A20 : List Fn := A19 ++ [F19]
def P20 : Pr := ⟨A20, hd.gl, mtF zc.mtl, sb, zc.kin, caF zc.cal⟩
def F20 : Fn := QL.mk P20 1 2 d20.dfl b20 d20.shs
def A21 : List Fn := A20 ++ [F20]
def P21 : Pr := ⟨A21, hd.gl, mtF zc.mtl, sb, zc.kin, caF zc.cal⟩
def F21 : Fn := QL.mk P21 2 3 d21.dfl b21 d21.shs
def A22 : List Fn := A21 ++ [F21]
def P22 : Pr := ⟨A22, hd.gl, mtF zc.mtl, sb, zc.kin, caF zc.cal⟩
def F22 : Fn := QL.mk P22 2 2 d22.dfl b22 d22.shs
def A23 : List Fn := A22 ++ [F22]
def P23 : Pr := ⟨A23, hd.gl, mtF zc.mtl, sb, zc.kin, caF zc.cal⟩
def F23 : Fn := QL.mk P23 3 3 d23.dfl b23 d23.shs
def A24 : List Fn := A23 ++ [F23]
def P24 : Pr := ⟨A24, hd.gl, mtF zc.mtl, sb, zc.kin, caF zc.cal⟩
def F24 : Fn := QL.mk P24 3 3 d24.dfl b24 d24.shs
def A25 : List Fn := A24 ++ [F24]
def P25 : Pr := ⟨A25, hd.gl, mtF zc.mtl, sb, zc.kin, caF zc.cal⟩
def F25 : Fn := QL.mk P25 3 3 d25.dfl b25 d25.shs
def A26 : List Fn := A25 ++ [F25]
def P26 : Pr := ⟨A26, hd.gl, mtF zc.mtl, sb, zc.kin, caF zc.cal⟩
def F26 : Fn := QL.mk P26 2 5 d26.dfl b26 d26.shs
def A27 : List Fn := A26 ++ [F26]
def P27 : Pr := ⟨A27, hd.gl, mtF zc.mtl, sb, zc.kin, caF zc.cal⟩
def F27 : Fn := QL.mk P27 3 5 d27.dfl b27 d27.shs
def A28 : List Fn := A27 ++ [F27]
def P28 : Pr := ⟨A28, hd.gl, mtF zc.mtl, sb, zc.kin, caF zc.cal⟩
def F28 : Fn := QL.mk P28 3 3 d28.dfl b28 d28.shs
def A29 : List Fn := A28 ++ [F28]
def P29 : Pr := ⟨A29, hd.gl, mtF zc.mtl, sb, zc.kin, caF zc.cal⟩
def F29 : Fn := QL.mk P29 3 3 d29.dfl b29 d29.shs
def A30 : List Fn := A29 ++ [F29]
def P30 : Pr := ⟨A30, hd.gl, mtF zc.mtl, sb, zc.kin, caF zc.cal⟩
def F30 : Fn := QL.mk P30 3 6 d30.dfl b30 d30.shs
def A31 : List Fn := A30 ++ [F30]
def P31 : Pr := ⟨A31, hd.gl, mtF zc.mtl, sb, zc.kin, caF zc.cal⟩
def F31 : Fn := QL.mk P31 3 6 d31.dfl b31 d31.shs
def A32 : List Fn := A31 ++ [F31]
def P32 : Pr := ⟨A32, hd.gl, mtF zc.mtl, sb, zc.kin, caF zc.cal⟩
def F32 : Fn := QL.mk P32 3 3 d32.dfl b32 d32.shs
def A33 : List Fn := A32 ++ [F32]
def P33 : Pr := ⟨A33, hd.gl, mtF zc.mtl, sb, zc.kin, caF zc.cal⟩
def F33 : Fn := QL.mk P33 3 3 d33.dfl b33 d33.shs
def A34 : List Fn := A33 ++ [F33]
def P34 : Pr := ⟨A34, hd.gl, mtF zc.mtl, sb, zc.kin, caF zc.cal⟩
def F34 : Fn := QL.mk P34 3 8 d34.dfl b34 d34.shs
def A35 : List Fn := A34 ++ [F34]
def P35 : Pr := ⟨A35, hd.gl, mtF zc.mtl, sb, zc.kin, caF zc.cal⟩
def F35 : Fn := QL.mk P35 3 6 d35.dfl b35 d35.shs
def A36 : List Fn := A35 ++ [F35]
def P36 : Pr := ⟨A36, hd.gl, mtF zc.mtl, sb, zc.kin, caF zc.cal⟩
def F36 : Fn := QL.mk P36 3 7 d36.dfl b36 d36.shs
def A37 : List Fn := A36 ++ [F36]
def P37 : Pr := ⟨A37, hd.gl, mtF zc.mtl, sb, zc.kin, caF zc.cal⟩
def F37 : Fn := QL.mk P37 2 5 d37.dfl b37 d37.shs
def A38 : List Fn := A37 ++ [F37]
def P38 : Pr := ⟨A38, hd.gl, mtF zc.mtl, sb, zc.kin, caF zc.cal⟩
def F38 : Fn := QL.mk P38 1 1 d38.dfl b38 d38.shs
def A39 : List Fn := A38 ++ [F38]
def P39 : Pr := ⟨A39, hd.gl, mtF zc.mtl, sb, zc.kin, caF zc.cal⟩
def F39 : Fn := QL.mk P39 1 2 d39.dfl b39 d39.shs
def A40 : List Fn := A39 ++ [F39]
def P40 : Pr := ⟨A40, hd.gl, mtF zc.mtl, sb, zc.kin, caF zc.cal⟩
def F40 : Fn := QL.mk P40 1 1 d40.dfl b40 d40.shs
def A41 : List Fn := A40 ++ [F40]
def P41 : Pr := ⟨A41, hd.gl, mtF zc.mtl, sb, zc.kin, caF zc.cal⟩
def F41 : Fn := QL.mk P41 3 4 d41.dfl b41 d41.shs
def A42 : List Fn := A41 ++ [F41]
def P42 : Pr := ⟨A42, hd.gl, mtF zc.mtl, sb, zc.kin, caF zc.cal⟩
def F42 : Fn := QL.mk P42 3 3 d42.dfl b42 d42.shs
def A43 : List Fn := A42 ++ [F42]
def P43 : Pr := ⟨A43, hd.gl, mtF zc.mtl, sb, zc.kin, caF zc.cal⟩
def F43 : Fn := QL.mk P43 5 14 d43.dfl b43 d43.shs
def A44 : List Fn := A43 ++ [F43]
def P44 : Pr := ⟨A44, hd.gl, mtF zc.mtl, sb, zc.kin, caF zc.cal⟩
def F44 : Fn := QL.mk P44 3 6 d44.dfl b44 d44.shs
def A45 : List Fn := A44 ++ [F44]
def P45 : Pr := ⟨A45, hd.gl, mtF zc.mtl, sb, zc.kin, caF zc.cal⟩
def F45 : Fn := QL.mk P45 1 4 d45.dfl b45 d45.shs
def A46 : List Fn := A45 ++ [F45]
def P46 : Pr := ⟨A46, hd.gl, mtF zc.mtl, sb, zc.kin, caF zc.cal⟩
def F46 : Fn := QL.mk P46 2 6 d46.dfl b46 d46.shs
def A47 : List Fn := A46 ++ [F46]
def P47 : Pr := ⟨A47, hd.gl, mtF zc.mtl, sb, zc.kin, caF zc.cal⟩
def F47 : Fn := QL.mk P47 2 2 d47.dfl b47 d47.shs
def A48 : List Fn := A47 ++ [F47]
def P48 : Pr := ⟨A48, hd.gl, mtF zc.mtl, sb, zc.kin, caF zc.cal⟩
def F48 : Fn := QL.mk P48 2 5 d48.dfl b48 d48.shs
def A49 : List Fn := A48 ++ [F48]
def P49 : Pr := ⟨A49, hd.gl, mtF zc.mtl, sb, zc.kin, caF zc.cal⟩
def F49 : Fn := QL.mk P49 2 5 d49.dfl b49 d49.shs
def A50 : List Fn := A49 ++ [F49]
def P50 : Pr := ⟨A50, hd.gl, mtF zc.mtl, sb, zc.kin, caF zc.cal⟩
def F50 : Fn := QL.mk P50 1 11 d50.dfl b50 d50.shs
def A51 : List Fn := A50 ++ [F50]
def le0_0 : E := (.bi .int1 (.cons (.v 1) .nil))
theorem bb0 : b0 = (.cons (.ret (.lst (.cons (.lc 1 (.seq (.slv 0 (.c .non) (.c (.int 63)))) (.c (.bl true)) le0_0) (.cons (.c (.int 0)) (.cons (.c (.int 0)) .nil))))) .nil) := rfl
theorem bb1 : b1 = (.cons (.set 2 (.bin .mod (.bi .int1 (.cons (.bin .mul (.v 0) (.bin .add (.c (.int 314159265358979323)) (.bin .mul (.c (.int 271828182845)) (.v 1)))) .nil)) (.c (.int 1000000000000000003)))) (.cons (.ret (.bin .mod (.bi .int1 (.cons (.bin .mul (.v 2) (.bin .add (.v 2) (.bin .mul (.c (.int 57721566490153)) (.v 1)))) .nil)) (.c (.int 1000000000000000009)))) .nil)) := rfl
theorem bb2 : b2 = (.cons (.ift (.and_ (.cmp .eq (.ixv 0 (.c (.int 2))) (.c (.int 0))) (.cmp .lt (.ixv 0 (.c (.int 1))) (.bi .len (.cons (.ixv 0 (.c (.int 0))) .nil)))) (.cons (.set 2 (.ix (.ixv 0 (.c (.int 0))) (.ixv 0 (.c (.int 1))))) (.cons (.six 0 (.c (.int 1)) (.bin .add (.ixv 0 (.c (.int 1))) (.c (.int 1)))) (.cons (.six 0 (.c (.int 2)) (.bi .abs (.cons (.v 2) .nil))) (.cons (.ift (.cmp .lt (.ixv 0 (.c (.int 2))) (.bin .pow (.c (.int 10)) (.c (.int 18)))) (.cons (.six 0 (.c (.int 2)) (.call 1 (.cons (.v 2) (.cons (.ixv 0 (.c (.int 1))) .nil)))) .nil) .nil) .nil)))) .nil) (.cons (.set 3 (.bin .mod (.bi .int1 (.cons (.ixv 0 (.c (.int 2))) .nil)) (.v 1))) (.cons (.six 0 (.c (.int 2)) (.bin .fdv (.bi .int1 (.cons (.ixv 0 (.c (.int 2))) .nil)) (.v 1))) (.cons (.ret (.v 3)) .nil)))) := rfl
theorem bb3 : b3 = (.cons (.ret (.bin .mod (.bi .int1 (.cons (.call 2 (.cons (.lr 0) (.cons (.c (.int 10)) .nil))) .nil)) (.v 1))) .nil) := rfl
theorem bb4 : b4 = (.cons (.ret (.ix (.tup (.cons (.c (.str "list")) (.cons (.c (.str "bag")) (.cons (.c (.str "set")) (.cons (.c (.str "first")) (.cons (.c (.str "last")) (.cons (.c (.str "ends")) (.cons (.c (.str "heads")) (.cons (.c (.str "tails")) .nil))))))))) (.call 3 (.cons (.lr 0) (.cons (.c (.int 8)) .nil))))) .nil) := rfl
theorem bb5 : b5 = (.cons (.ift (.or_ (.cmp .eq (.v 0) (.v 1)) (.cmp .eq (.v 1) (.c (.str "list")))) (.cons (.ret (.c (.bl true))) .nil) .nil) (.cons (.ift (.cmp .eq (.v 0) (.c (.str "set"))) (.cons (.ret (.cmp .isin (.v 1) (.tup (.cons (.c (.str "bag")) (.cons (.c (.str "heads")) (.cons (.c (.str "tails")) .nil)))))) .nil) .nil) (.cons (.ret (.cmp .isin (.tup (.cons (.v 0) (.cons (.v 1) .nil))) (.tup (.cons (.tup (.cons (.c (.str "first")) (.cons (.c (.str "ends")) .nil))) (.cons (.tup (.cons (.c (.str "first")) (.cons (.c (.str "heads")) .nil))) (.cons (.tup (.cons (.c (.str "last")) (.cons (.c (.str "ends")) .nil))) (.cons (.tup (.cons (.c (.str "last")) (.cons (.c (.str "tails")) .nil))) .nil))))))) .nil))) := rfl
def le6_0 : E := (.v 4)
def lt6_0 : E := (.call 5 (.cons (.v 4) (.cons (.v 1) .nil)))
theorem bb6 : b6 = (.cons (.ift (.cmp .lt (.call 3 (.cons (.lr 0) (.cons (.c (.int 10)) .nil))) (.c (.int 4))) (.cons (.ret (.call 4 (.cons (.lr 0) .nil))) .nil) .nil) (.cons (.set 2 (.tup (.cons (.c (.str "list")) (.cons (.c (.str "bag")) (.cons (.c (.str "set")) (.cons (.c (.str "first")) (.cons (.c (.str "last")) (.cons (.c (.str "ends")) (.cons (.c (.str "heads")) (.cons (.c (.str "tails")) .nil)))))))))) (.cons (.set 3 (.lc 4 (.seq (.v 2)) lt6_0 le6_0)) (.cons (.ret (.ixv 3 (.call 3 (.cons (.lr 0) (.cons (.lenv 3) .nil))))) .nil)))) := rfl
def lb7_0 : Ss := (.cons (.set 5 (.v 4)) (.cons (.ift (.v 2) (.cons (.set 5 (.bin .sub (.c (.int 9)) (.v 4))) .nil) .nil) (.cons (.ift (.and_ (.v 2) (.cmp .lt (.v 4) (.c (.int 3)))) (.cons (.set 5 (.bin .add (.v 5) (.bin .mul (.c (.int 10)) (.call 2 (.cons (.lr 0) (.cons (.bin .pow (.c (.int 10)) (.c (.int 8))) .nil)))))) .nil) .nil) (.cons (.app 3 (.v 5)) .nil))))
theorem bb7 : b7 = (.cons (.set 1 (.bin .add (.c (.int 1)) (.call 3 (.cons (.lr 0) (.cons (.c (.int 10)) .nil))))) (.cons (.set 2 (.cmp .gt (.call 3 (.cons (.lr 0) (.cons (.c (.int 10)) .nil))) (.c (.int 7)))) (.cons (.set 3 (.lst .nil)) (.cons (.for_ [4] (.rng1 (.v 1)) lb7_0) (.cons (.ret (.v 3)) .nil))))) := rfl
def le8_0 : E := (.ixv 2 (.v 3))
def lt8_0 : E := (.cmp .nin (.ixv 2 (.v 3)) (.slv 2 (.c .non) (.v 3)))
def le8_1 : E := (.ixv 2 (.v 3))
def lt8_1 : E := (.cmp .nin (.ixv 2 (.v 3)) (.slv 2 (.bin .add (.v 3) (.c (.int 1))) (.c .non)))
theorem bb8 : b8 = (.cons (.set 2 (.bi .list (.cons (.v 1) .nil))) (.cons (.ift (.cmp .eq (.v 0) (.c (.str "bag"))) (.cons (.set 2 (.bi .sorted (.cons (.v 2) .nil))) .nil) .nil) (.cons (.ift (.cmp .eq (.v 0) (.c (.str "set"))) (.cons (.set 2 (.sset (.v 2))) .nil) .nil) (.cons (.ift (.cmp .eq (.v 0) (.c (.str "first"))) (.cons (.set 2 (.slv 2 (.c .non) (.c (.int 1)))) .nil) .nil) (.cons (.ift (.and_ (.cmp .eq (.v 0) (.c (.str "last"))) (.cmp .gt (.lenv 2) (.c (.int 0)))) (.cons (.set 2 (.lst (.cons (.ixv 2 (.bin .sub (.lenv 2) (.c (.int 1)))) .nil))) .nil) .nil) (.cons (.ift (.and_ (.cmp .eq (.v 0) (.c (.str "ends"))) (.cmp .gt (.lenv 2) (.c (.int 0)))) (.cons (.set 2 (.lst (.cons (.ixv 2 (.c (.int 0))) (.cons (.ixv 2 (.bin .sub (.lenv 2) (.c (.int 1)))) .nil)))) .nil) .nil) (.cons (.ift (.cmp .eq (.v 0) (.c (.str "heads"))) (.cons (.set 2 (.lc 3 (.rng1 (.lenv 2)) lt8_0 le8_0)) .nil) .nil) (.cons (.ift (.cmp .eq (.v 0) (.c (.str "tails"))) (.cons (.set 2 (.lc 3 (.rng1 (.lenv 2)) lt8_1 le8_1)) .nil) .nil) (.cons (.ret (.bi .tuple (.cons (.v 2) .nil))) .nil))))))))) := rfl
def le9_0 : E := (.ixv 1 (.call 3 (.cons (.lr 0) (.cons (.lenv 1) .nil))))
theorem bb9 : b9 = (.cons (.set 2 (.ix (.tup (.cons (.c (.int 0)) (.cons (.c (.int 1)) (.cons (.c (.int 2)) (.cons (.c (.int 3)) (.cons (.c (.int 4)) (.cons (.c (.int 5)) (.cons (.c (.int 0)) (.cons (.c (.int 1)) (.cons (.c (.int 2)) (.cons (.c (.int 7)) .nil))))))))))) (.call 3 (.cons (.lr 0) (.cons (.c (.int 10)) .nil))))) (.cons (.ret (.bi .tuple (.cons (.lc 3 (.rng1 (.v 2)) (.c (.bl true)) le9_0) .nil))) .nil)) := rfl
theorem bb10 : b10 = (.cons (.ret (.bi .tuple (.cons (.v 1) .nil))) .nil) := rfl
theorem bb11 : b11 = (.cons (.ret (.bi .tuple (.cons (.bi .sorted (.cons (.sup 1 10 (.cons (.v 1) .nil)) .nil)) .nil))) .nil) := rfl
def lb12_0 : Ss := (.cons (.ift (.cmp .ne (.slv 2 (.neg (.c (.int 1))) (.c .non)) (.lst (.cons (.v 3) .nil))) (.cons (.app 2 (.v 3)) .nil) .nil) .nil)
theorem bb12 : b12 = (.cons (.set 2 (.lst .nil)) (.cons (.for_ [3] (.tsq (.sup 2 11 (.cons (.v 1) .nil))) lb12_0) (.cons (.ret (.bi .tuple (.cons (.v 2) .nil))) .nil))) := rfl
def lb13_0 : Ss := (.cons (.dput 2 (.v 3) (.c (.bl true))) .nil)
theorem bb13 : b13 = (.cons (.set 2 .dic0) (.cons (.for_ [3] (.tsq (.sup 3 10 (.cons (.v 1) .nil))) lb13_0) (.cons (.ret (.bi .tuple (.cons (.keys 2) .nil))) .nil))) := rfl
theorem bb14 : b14 = (.cons (.ret (.sl (.sup 4 13 (.cons (.v 1) .nil)) (.c .non) (.c (.int 1)))) .nil) := rfl
def lb15_0 : Ss := (.cons (.dput 2 (.v 3) (.c (.bl true))) .nil)
theorem bb15 : b15 = (.cons (.set 2 .dic0) (.cons (.for_ [3] (.tsq (.rev (.sup 5 10 (.cons (.v 1) .nil)))) lb15_0) (.cons (.ret (.bi .tuple (.cons (.rev (.keys 2)) .nil))) .nil))) := rfl
theorem bb16 : b16 = (.cons (.ret (.sl (.sup 6 15 (.cons (.v 1) .nil)) (.neg (.c (.int 1))) (.c .non))) .nil) := rfl
theorem bb17 : b17 = (.cons (.set 2 (.sup 7 10 (.cons (.v 1) .nil))) (.cons (.ret (.bin .add (.slv 2 (.c .non) (.c (.int 1))) (.slv 2 (.neg (.c (.int 1))) (.c .non)))) .nil)) := rfl
theorem bb18 : b18 = (.cons (.mtc (.v 0) (.val (.str "list") (.cons (.ret (.new 0)) .nil) (.val (.str "bag") (.cons (.ret (.new 1)) .nil) (.val (.str "set") (.cons (.ret (.new 2)) .nil) (.val (.str "first") (.cons (.ret (.new 4)) .nil) (.val (.str "last") (.cons (.ret (.new 6)) .nil) (.val (.str "ends") (.cons (.ret (.new 7)) .nil) (.val (.str "heads") (.cons (.ret (.new 3)) .nil) (.val (.str "tails") (.cons (.ret (.new 5)) .nil) (.any (.cons (.rse 0 (.v 0)) .nil))))))))))) .nil) := rfl
theorem bb19 : b19 = (.cons (.ret (.and_ (.isi (.v 0) [.int]) (.and_ (.not_ (.isi (.v 0) [.bool])) (.ch2 .le .lt (.c (.int 0)) (.v 0) (.g 2))))) .nil) := rfl
def lb20_0 : Ss := (.cons (.ift (.not_ (.call 19 (.cons (.ixv 0 (.v 1)) .nil))) (.cons (.rse 1 (.v 1)) .nil) .nil) .nil)
theorem bb20 : b20 = (.cons (.ift (.not_ (.isi (.v 0) [.tuple, .list])) (.cons (.rse 1 (.c (.int 0))) .nil) .nil) (.cons (.for_ [1] (.rng1 (.lenv 0)) lb20_0) (.cons (.ret (.bi .tuple (.cons (.v 0) .nil))) .nil))) := rfl
theorem bb21 : b21 = (.cons (.set 2 (.call 18 (.cons (.v 0) .nil))) (.cons (.ret (.meth (.v 2) 0 (.cons (.call 20 (.cons (.v 1) .nil)) .nil))) .nil)) := rfl
theorem bb22 : b22 = (.cons (.ift (.and_ (.cmp .eq (.v 0) (.c (.str "last"))) (.cmp .ne (.ixv 1 (.c (.int 1))) (.tup .nil))) (.cons (.ret (.tup (.cons (.c (.bl true)) (.cons (.ixv 1 (.c (.int 1))) .nil)))) .nil) .nil) (.cons (.ret (.tup (.cons (.ixv 1 (.c (.int 0))) (.cons (.ixv 1 (.c (.int 1))) .nil)))) .nil)) := rfl
theorem bb23 : b23 = (.cons (.ret (.call 8 (.cons (.v 0) (.cons (.bin .add (.v 1) (.v 2)) .nil)))) .nil) := rfl
theorem bb24 : b24 = (.cons (.ift (.ixv 2 (.c (.int 0))) (.cons (.ret (.tup (.cons (.c (.bl true)) (.cons (.ixv 2 (.c (.int 1))) .nil)))) .nil) .nil) (.cons (.ret (.call 22 (.cons (.v 0) (.cons (.tup (.cons (.ixv 1 (.c (.int 0))) (.cons (.call 23 (.cons (.v 0) (.cons (.ixv 1 (.c (.int 1))) (.cons (.ixv 2 (.c (.int 1))) .nil)))) .nil))) .nil)))) .nil)) := rfl
theorem bb25 : b25 = (.cons (.ift (.and_ (.cmp .eq (.cat (.v 0) 0) (.c (.str "last"))) (.cmp .gt (.lenv 2) (.c (.int 0)))) (.cons (.ret (.tup (.cons (.c (.bl true)) (.cons (.v 2) .nil)))) .nil) .nil) (.cons (.ret (.tup (.cons (.v 1) (.cons (.v 2) .nil)))) .nil)) := rfl
theorem bb26 : b26 = (.cons (.set 2 (.call 18 (.cons (.v 0) .nil))) (.cons (.tset [3, 4] (.v 1)) (.cons (.ret (.call 25 (.cons (.v 2) (.cons (.v 3) (.cons (.meth (.v 2) 0 (.cons (.v 4) .nil)) .nil))))) .nil))) := rfl
theorem bb27 : b27 = (.cons (.tset [3, 4] (.v 1)) (.cons (.ift (.v 3) (.cons (.ret (.v 4)) .nil) .nil) (.cons (.ret (.meth (.v 0) 0 (.cons (.bin .add (.v 2) (.v 4)) .nil))) .nil))) := rfl
theorem bb28 : b28 = (.cons (.ret (.call 27 (.cons (.call 18 (.cons (.v 0) .nil)) (.cons (.v 1) (.cons (.v 2) .nil))))) .nil) := rfl
theorem bb29 : b29 = (.cons (.ift (.cmp .ne (.slv 2 (.c .non) (.lenv 1)) (.v 1)) (.cons (.ret (.c .non)) .nil) .nil) (.cons (.ret (.slv 2 (.lenv 1) (.c .non))) .nil)) := rfl
def lb30_0 : Ss := (.cons (.ift (.inv false (.v 5) 3) (.cons (.rem 3 (.v 5)) .nil) (.cons (.app 4 (.v 5)) .nil)) .nil)
theorem bb30 : b30 = (.cons (.set 3 (.bi .list (.cons (.v 1) .nil))) (.cons (.set 4 (.lst .nil)) (.cons (.for_ [5] (.seq (.v 2)) lb30_0) (.cons (.ift (.cmp .gt (.lenv 3) (.c (.int 0))) (.cons (.ret (.c .non)) .nil) .nil) (.cons (.ret (.bi .tuple (.cons (.v 4) .nil))) .nil))))) := rfl
def le31_0 : E := (.v 5)
def lt31_0 : E := (.inv true (.v 5) 4)
def lb31_0 : Ss := (.cons (.set 4 (.slv 2 (.v 3) (.c .non))) (.cons (.ift (.cmp .eq (.bi .tuple (.cons (.lc 5 (.seq (.v 1)) lt31_0 le31_0) .nil)) (.slv 2 (.c .non) (.v 3))) (.cons (.ret (.v 4)) .nil) .nil) .nil))
theorem bb31 : b31 = (.cons (.for_ [3] (.rngd (.lenv 2) (.neg (.c (.int 1)))) lb31_0) (.cons (.ret (.c .non)) .nil)) := rfl
theorem bb32 : b32 = (.cons (.ift (.cmp .eq (.v 1) (.v 2)) (.cons (.ret (.tup .nil)) .nil) .nil) (.cons (.ift (.cmp .eq (.lenv 2) (.c (.int 0))) (.cons (.ret (.c .non)) .nil) .nil) (.cons (.ret (.v 2)) .nil))) := rfl
theorem bb33 : b33 = (.cons (.ift (.cmp .eq (.v 1) (.v 2)) (.cons (.ret (.tup .nil)) .nil) .nil) (.cons (.ift (.and_ (.cmp .gt (.lenv 1) (.c (.int 0))) (.cmp .ne (.slv 1 (.c .non) (.c (.int 1))) (.slv 2 (.c .non) (.c (.int 1))))) (.cons (.ret (.c .non)) .nil) .nil) (.cons (.ret (.v 2)) .nil))) := rfl
theorem bb34 : b34 = (.cons (.ift (.cmp .eq (.v 1) (.v 2)) (.cons (.ret (.g 4)) .nil) .nil) (.cons (.tset [3, 4] (.v 1)) (.cons (.tset [5, 6] (.v 2)) (.cons (.set 7 (.meth (.v 0) 1 (.cons (.v 4) (.cons (.v 6) .nil)))) (.cons (.ift (.and_ (.cmp .nisn (.v 7) (.c .non)) (.and_ (.cmp .eq (.v 3) (.v 5)) (.or_ (.not_ (.v 5)) (.cmp .lt (.lenv 7) (.lenv 6))))) (.cons (.ret (.tup (.cons (.c (.bl false)) (.cons (.v 7) .nil)))) .nil) .nil) (.cons (.ift (.v 5) (.cons (.ret (.v 2)) .nil) .nil) (.cons (.ret (.c .non)) .nil))))))) := rfl
theorem bb35 : b35 = (.cons (.set 3 (.call 18 (.cons (.v 0) .nil))) (.cons (.set 4 (.call 25 (.cons (.v 3) (.cons (.ixv 1 (.c (.int 0))) (.cons (.ixv 1 (.c (.int 1))) .nil))))) (.cons (.set 5 (.call 25 (.cons (.v 3) (.cons (.ixv 2 (.c (.int 0))) (.cons (.ixv 2 (.c (.int 1))) .nil))))) (.cons (.ret (.call 34 (.cons (.v 3) (.cons (.v 4) (.cons (.v 5) .nil))))) .nil)))) := rfl
theorem bb36 : b36 = (.cons (.tset [3, 4] (.v 2)) (.cons (.ift (.v 3) (.cons (.ret (.v 2)) .nil) .nil) (.cons (.tset [5, 6] (.v 1)) (.cons (.ret (.call 25 (.cons (.v 0) (.cons (.v 5) (.cons (.meth (.v 0) 0 (.cons (.bin .add (.v 6) (.v 4)) .nil)) .nil))))) .nil)))) := rfl
def lb37_0 : Ss := (.cons (.set 3 (.call 36 (.cons (.v 2) (.cons (.v 3) (.cons (.v 4) .nil))))) .nil)
theorem bb37 : b37 = (.cons (.set 2 (.call 18 (.cons (.v 0) .nil))) (.cons (.set 3 (.g 4)) (.cons (.for_ [4] (.seq (.v 1)) lb37_0) (.cons (.ret (.v 3)) .nil)))) := rfl
theorem bb38 : b38 = (.cons (.ret (.and_ (.isi (.v 0) [.int]) (.not_ (.isi (.v 0) [.bool])))) .nil) := rfl
def le39_0 : E := (.call 38 (.cons (.v 1) .nil))
theorem bb39 : b39 = (.cons (.ret (.and_ (.isi (.v 0) [.tuple]) (.bi .all (.cons (.lc 1 (.seq (.v 0)) (.c (.bl true)) le39_0) .nil)))) .nil) := rfl
theorem bb40 : b40 = (.cons (.ift (.or_ (.not_ (.isi (.v 0) [.tuple])) (.cmp .ne (.lenv 0) (.c (.int 2)))) (.cons (.ret (.c (.bl false))) .nil) .nil) (.cons (.ret (.and_ (.isi (.ixv 0 (.c (.int 0))) [.bool]) (.call 39 (.cons (.ixv 0 (.c (.int 1))) .nil)))) .nil)) := rfl
theorem bb41 : b41 = (.cons (.set 3 (.call 22 (.cons (.v 1) (.cons (.v 2) .nil)))) (.cons (.ret (.call 22 (.cons (.v 0) (.cons (.tup (.cons (.ixv 3 (.c (.int 0))) (.cons (.call 8 (.cons (.v 0) (.cons (.ixv 3 (.c (.int 1))) .nil))) .nil))) .nil)))) .nil)) := rfl
theorem bb42 : b42 = (.cons (.ift (.ixv 1 (.c (.int 0))) (.cons (.ret (.ixv 1 (.c (.int 1)))) .nil) .nil) (.cons (.ret (.call 23 (.cons (.v 0) (.cons (.v 2) (.cons (.ixv 1 (.c (.int 1))) .nil))))) .nil)) := rfl
def lb43_0 : Ss := (.cons (.set 8 (.call 26 (.cons (.v 0) (.cons (.v 7) .nil)))) (.cons (.ift (.or_ (.not_ (.call 40 (.cons (.v 8) .nil))) (.cmp .ne (.v 8) (.call 41 (.cons (.v 0) (.cons (.v 1) (.cons (.v 7) .nil)))))) (.cons (.ret (.c (.bl false))) .nil) .nil) (.cons (.set 9 (.call 28 (.cons (.v 0) (.cons (.v 8) (.cons (.call 8 (.cons (.v 0) (.cons (.v 4) .nil))) .nil))))) (.cons (.ift (.or_ (.not_ (.call 39 (.cons (.v 9) .nil))) (.cmp .ne (.v 9) (.call 8 (.cons (.v 0) (.cons (.call 42 (.cons (.v 1) (.cons (.v 7) (.cons (.v 4) .nil)))) .nil))))) (.cons (.ret (.c (.bl false))) .nil) .nil) (.cons (.ift (.cmp .ne (.v 9) (.call 21 (.cons (.v 0) (.cons (.call 28 (.cons (.v 1) (.cons (.v 7) (.cons (.v 4) .nil)))) .nil)))) (.cons (.ret (.c (.bl false))) .nil) .nil) (.cons (.app 6 (.v 8)) .nil))))))
def lb43_1 : Ss := (.cons (.set 11 (.ix (.tup (.cons (.v 2) (.cons (.v 3) (.cons (.v 5) .nil)))) (.v 10))) (.cons (.set 12 (.call 35 (.cons (.v 1) (.cons (.v 2) (.cons (.v 11) .nil))))) (.cons (.ift (.and_ (.cmp .isn (.v 12) (.c .non)) (.cmp .eq (.v 10) (.c (.int 2)))) (.cons (.ret (.c (.bl false))) .nil) .nil) (.cons (.ift (.cmp .nisn (.v 12) (.c .non)) (.cons (.set 8 (.call 26 (.cons (.v 0) (.cons (.v 12) .nil)))) (.cons (.set 13 (.call 35 (.cons (.v 0) (.cons (.ixv 6 (.c (.int 0))) (.cons (.ixv 6 (.v 10)) .nil))))) (.cons (.ift (.or_ (.cmp .ne (.call 24 (.cons (.v 0) (.cons (.ixv 6 (.c (.int 0))) (.cons (.v 8) .nil)))) (.ixv 6 (.v 10))) (.not_ (.call 40 (.cons (.v 13) .nil)))) (.cons (.ret (.c (.bl false))) .nil) .nil) (.cons (.ift (.or_ (.cmp .ne (.call 24 (.cons (.v 0) (.cons (.ixv 6 (.c (.int 0))) (.cons (.v 13) .nil)))) (.ixv 6 (.v 10))) (.cmp .gt (.bi .len (.cons (.ixv 13 (.c (.int 1))) .nil)) (.bi .len (.cons (.ixv 8 (.c (.int 1))) .nil)))) (.cons (.ret (.c (.bl false))) .nil) .nil) .nil)))) .nil) .nil))))
theorem bb43 : b43 = (.cons (.set 5 (.call 24 (.cons (.v 1) (.cons (.v 2) (.cons (.v 3) .nil))))) (.cons (.set 6 (.lst .nil)) (.cons (.for_ [7] (.seq (.tup (.cons (.v 2) (.cons (.v 3) (.cons (.v 5) .nil))))) lb43_0) (.cons (.ift (.or_ (.cmp .ne (.cls 37 1 (.cons (.v 0) (.cons (.ixv 6 (.c (.int 0))) (.cons (.ixv 6 (.c (.int 1))) .nil)))) (.ixv 6 (.c (.int 2)))) (.cmp .ne (.call 26 (.cons (.v 0) (.cons (.cls 37 1 (.cons (.v 1) (.cons (.v 2) (.cons (.v 3) .nil)))) .nil))) (.ixv 6 (.c (.int 2))))) (.cons (.ret (.c (.bl false))) .nil) .nil) (.cons (.for_ [10] (.seq (.tup (.cons (.c (.int 1)) (.cons (.c (.int 2)) .nil)))) lb43_1) (.cons (.ret (.c (.bl true))) .nil)))))) := rfl
theorem bb44 : b44 = (.cons (.set 3 (.call 3 (.cons (.lr 0) (.cons (.c (.int 10)) .nil)))) (.cons (.ift (.cmp .lt (.v 3) (.c (.int 2))) (.cons (.ret (.v 2)) .nil) .nil) (.cons (.ift (.cmp .eq (.v 3) (.c (.int 5))) (.cons (.ret (.slv 2 (.c (.int 1)) (.c .non))) .nil) .nil) (.cons (.ift (.cmp .eq (.v 3) (.c (.int 6))) (.cons (.ret (.slv 2 (.c .non) (.bi .max2 (.cons (.c (.int 0)) (.cons (.bin .sub (.lenv 2) (.c (.int 1))) .nil))))) .nil) .nil) (.cons (.ift (.cmp .eq (.v 3) (.c (.int 7))) (.cons (.ret (.rev (.v 2))) .nil) .nil) (.cons (.set 4 (.call 9 (.cons (.lr 0) (.cons (.v 1) .nil)))) (.cons (.ift (.or_ (.cmp .eq (.v 3) (.c (.int 2))) (.cmp .eq (.v 3) (.c (.int 3)))) (.cons (.ret (.bin .add (.v 2) (.v 4))) .nil) .nil) (.cons (.ift (.cmp .eq (.v 3) (.c (.int 4))) (.cons (.ret (.bin .add (.v 4) (.v 2))) .nil) .nil) (.cons (.ift (.and_ (.cmp .eq (.v 3) (.c (.int 8))) (.cmp .gt (.lenv 2) (.c (.int 0)))) (.cons (.set 5 (.call 3 (.cons (.lr 0) (.cons (.lenv 2) .nil)))) (.cons (.ret (.bin .add (.bin .add (.slv 2 (.c .non) (.v 5)) (.tup (.cons (.ixv 1 (.call 3 (.cons (.lr 0) (.cons (.lenv 1) .nil)))) .nil))) (.slv 2 (.bin .add (.v 5) (.c (.int 1))) (.c .non)))) .nil)) .nil) (.cons (.ret (.v 4)) .nil)))))))))) := rfl
theorem bb45 : b45 = (.cons (.set 1 (.call 18 (.cons (.v 0) .nil))) (.cons (.set 2 (.lst (.cons (.isk (.v 1) 1) (.cons (.isk (.v 1) 2) (.cons (.isk (.v 1) 3) .nil))))) (.cons (.set 2 (.bin .add (.v 2) (.lst (.cons (.isk (.v 1) 4) (.cons (.isk (.v 1) 5) (.cons (.isk (.v 1) 6) .nil)))))) (.cons (.set 3 (.lst (.cons (.cmp .isin (.v 0) (.tup (.cons (.c (.str "bag")) (.cons (.c (.str "set")) .nil)))) (.cons (.cmp .eq (.v 0) (.c (.str "set"))) (.cons (.cmp .isin (.v 0) (.tup (.cons (.c (.str "heads")) (.cons (.c (.str "first")) .nil)))) .nil))))) (.cons (.set 3 (.bin .add (.v 3) (.lst (.cons (.cmp .eq (.v 0) (.c (.str "first"))) (.cons (.cmp .isin (.v 0) (.tup (.cons (.c (.str "tails")) (.cons (.c (.str "last")) .nil)))) (.cons (.cmp .eq (.v 0) (.c (.str "last"))) .nil)))))) (.cons (.ift (.or_ (.cmp .ne (.v 2) (.v 3)) (.cmp .ne (.isk (.v 1) 7) (.cmp .eq (.v 0) (.c (.str "ends"))))) (.cons (.ret (.c (.bl false))) .nil) .nil) (.cons (.ret (.and_ (.isk (.v 1) 0) (.and_ (.cmp .eq (.cat (.v 1) 0) (.v 0)) (.cmp .eq (.cmp .isin (.v 0) (.g 1)) (.cmp .nin (.v 0) (.tup (.cons (.c (.str "list")) (.cons (.c (.str "bag")) .nil)))))))) .nil))))))) := rfl
def lb46_0 : Ss := (.cons (.ift (.and_ (.cmp .eq (.meth (.v 3) 0 (.cons (.v 4) .nil)) (.meth (.v 3) 0 (.cons (.v 5) .nil))) (.cmp .ne (.meth (.v 2) 0 (.cons (.v 4) .nil)) (.meth (.v 2) 0 (.cons (.v 5) .nil)))) (.cons (.ret (.tup (.cons (.v 4) (.cons (.v 5) .nil)))) .nil) .nil) .nil)
theorem bb46 : b46 = (.cons (.set 2 (.call 18 (.cons (.v 0) .nil))) (.cons (.set 3 (.call 18 (.cons (.v 1) .nil))) (.cons (.for_ [4, 5] (.seq (.g 3)) lb46_0) (.cons (.ret (.c .non)) .nil)))) := rfl
theorem bb47 : b47 = (.cons (.ret (.cmp .isn (.call 46 (.cons (.v 0) (.cons (.v 1) .nil))) (.c .non))) .nil) := rfl
def lb48_0 : Ss := (.cons (.set 4 (.cmp .eq (.call 8 (.cons (.v 1) (.cons (.ixv 3 (.c (.int 0))) .nil))) (.call 8 (.cons (.v 1) (.cons (.ixv 3 (.c (.int 1))) .nil))))) (.cons (.ift (.and_ (.v 4) (.cmp .ne (.call 8 (.cons (.v 0) (.cons (.ixv 3 (.c (.int 0))) .nil))) (.call 8 (.cons (.v 0) (.cons (.ixv 3 (.c (.int 1))) .nil))))) (.cons (.ret (.v 3)) .nil) .nil) .nil))
theorem bb48 : b48 = (.cons (.set 2 (.tup (.cons (.tup (.cons (.tup (.cons (.c (.int 1)) (.cons (.c (.int 2)) .nil))) (.cons (.tup (.cons (.c (.int 2)) (.cons (.c (.int 1)) .nil))) .nil))) (.cons (.tup (.cons (.tup (.cons (.c (.int 1)) (.cons (.c (.int 1)) .nil))) (.cons (.tup (.cons (.c (.int 1)) .nil)) .nil))) (.cons (.tup (.cons (.tup (.cons (.c (.int 1)) (.cons (.c (.int 2)) (.cons (.c (.int 3)) .nil)))) (.cons (.tup (.cons (.c (.int 1)) (.cons (.c (.int 3)) .nil))) .nil))) (.cons (.tup (.cons (.tup (.cons (.c (.int 1)) (.cons (.c (.int 2)) (.cons (.c (.int 1)) .nil)))) (.cons (.tup (.cons (.c (.int 1)) (.cons (.c (.int 2)) .nil))) .nil))) (.cons (.tup (.cons (.tup (.cons (.c (.int 1)) (.cons (.c (.int 2)) (.cons (.c (.int 1)) .nil)))) (.cons (.tup (.cons (.c (.int 2)) (.cons (.c (.int 1)) .nil))) .nil))) .nil))))))) (.cons (.for_ [3] (.seq (.v 2)) lb48_0) (.cons (.ret (.c .non)) .nil))) := rfl
theorem bb49 : b49 = (.cons (.set 2 (.call 47 (.cons (.v 0) (.cons (.v 1) .nil)))) (.cons (.set 3 (.call 48 (.cons (.v 0) (.cons (.v 1) .nil)))) (.cons (.ift (.or_ (.not_ (.isi (.v 2) [.bool])) (.or_ (.cmp .ne (.v 2) (.call 5 (.cons (.v 0) (.cons (.v 1) .nil)))) (.cmp .ne (.v 2) (.cmp .isn (.v 3) (.c .non))))) (.cons (.ret (.c (.bl false))) .nil) .nil) (.cons (.set 4 (.call 46 (.cons (.v 0) (.cons (.v 1) .nil)))) (.cons (.ift (.cmp .isn (.v 3) (.c .non)) (.cons (.ret (.cmp .isn (.v 4) (.c .non))) .nil) .nil) (.cons (.ift (.or_ (.not_ (.isi (.v 4) [.tuple])) (.or_ (.cmp .ne (.lenv 4) (.c (.int 2))) (.or_ (.not_ (.call 39 (.cons (.ixv 4 (.c (.int 0))) .nil))) (.not_ (.call 39 (.cons (.ixv 4 (.c (.int 1))) .nil)))))) (.cons (.ret (.c (.bl false))) .nil) .nil) (.cons (.ift (.or_ (.cmp .ne (.v 4) (.v 3)) (.cmp .ne (.call 21 (.cons (.v 1) (.cons (.ixv 4 (.c (.int 0))) .nil))) (.call 21 (.cons (.v 1) (.cons (.ixv 4 (.c (.int 1))) .nil))))) (.cons (.ret (.c (.bl false))) .nil) .nil) (.cons (.ret (.cmp .ne (.call 21 (.cons (.v 0) (.cons (.ixv 4 (.c (.int 0))) .nil))) (.call 21 (.cons (.v 0) (.cons (.ixv 4 (.c (.int 1))) .nil))))) .nil)))))))) := rfl
theorem bb50 : b50 = (.cons (.set 1 (.call 0 (.cons (.v 0) .nil))) (.cons (.set 2 (.call 4 (.cons (.lr 1) .nil))) (.cons (.set 3 (.call 6 (.cons (.lr 1) (.cons (.v 2) .nil)))) (.cons (.set 4 (.call 7 (.cons (.lr 1) .nil))) (.cons (.set 5 (.tup (.cons (.cmp .gt (.call 3 (.cons (.lr 1) (.cons (.c (.int 10)) .nil))) (.c (.int 4))) (.cons (.call 8 (.cons (.v 2) (.cons (.call 9 (.cons (.lr 1) (.cons (.v 4) .nil))) .nil))) .nil)))) (.cons (.set 6 (.tup (.cons (.cmp .gt (.call 3 (.cons (.lr 1) (.cons (.c (.int 10)) .nil))) (.c (.int 4))) (.cons (.call 8 (.cons (.v 2) (.cons (.call 44 (.cons (.lr 1) (.cons (.v 4) (.cons (.ixv 5 (.c (.int 1))) .nil)))) .nil))) .nil)))) (.cons (.set 7 (.call 8 (.cons (.v 2) (.cons (.call 9 (.cons (.lr 1) (.cons (.v 4) .nil))) .nil)))) (.cons (.set 8 (.call 9 (.cons (.lr 1) (.cons (.v 4) .nil)))) (.cons (.set 9 (.tup (.cons (.c (.str "list")) (.cons (.c (.str "bag")) (.cons (.c (.str "set")) (.cons (.c (.str "first")) (.cons (.c (.str "last")) (.cons (.c (.str "ends")) (.cons (.c (.str "heads")) (.cons (.c (.str "tails")) .nil)))))))))) (.cons (.ift (.or_ (.cmp .ne (.g 0) (.v 9)) (.or_ (.cmp .ne (.g 1) (.slv 9 (.c (.int 2)) (.c .non))) (.or_ (.not_ (.call 45 (.cons (.v 2) .nil))) (.not_ (.call 45 (.cons (.v 3) .nil)))))) (.cons (.ret (.c (.bl false))) .nil) .nil) (.cons (.ift (.or_ (.not_ (.call 49 (.cons (.v 3) (.cons (.v 2) .nil)))) (.not_ (.call 49 (.cons (.v 2) (.cons (.v 3) .nil))))) (.cons (.ret (.c (.bl false))) .nil) .nil) (.cons (.ift (.not_ (.call 5 (.cons (.v 3) (.cons (.v 2) .nil)))) (.cons (.ret (.c (.bl true))) .nil) .nil) (.cons (.set 10 (.call 21 (.cons (.v 3) (.cons (.call 21 (.cons (.v 2) (.cons (.v 8) .nil))) .nil)))) (.cons (.ift (.or_ (.not_ (.call 39 (.cons (.v 10) .nil))) (.cmp .ne (.v 10) (.call 8 (.cons (.v 3) (.cons (.v 8) .nil))))) (.cons (.ret (.c (.bl false))) .nil) .nil) (.cons (.ret (.call 43 (.cons (.v 3) (.cons (.v 2) (.cons (.v 5) (.cons (.v 6) (.cons (.v 7) .nil))))))) .nil))))))))))))))) := rfl
theorem at2_1 : P2.fn[1]? = some F1 := rfl
theorem at3_2 : P3.fn[2]? = some F2 := rfl
theorem at4_3 : P4.fn[3]? = some F3 := rfl
theorem at6_3 : P6.fn[3]? = some F3 := rfl
theorem at6_4 : P6.fn[4]? = some F4 := rfl
theorem at6_5 : P6.fn[5]? = some F5 := rfl
theorem at7_2 : P7.fn[2]? = some F2 := rfl
theorem at7_3 : P7.fn[3]? = some F3 := rfl
theorem at9_3 : P9.fn[3]? = some F3 := rfl
theorem at11_10 : P11.fn[10]? = some F10 := rfl
theorem kin11 {c d : Nat} : P11.kin c d = zc.kin c d := rfl
theorem at12_11 : P12.fn[11]? = some F11 := rfl
theorem kin12 {c d : Nat} : P12.kin c d = zc.kin c d := rfl
theorem at13_10 : P13.fn[10]? = some F10 := rfl
theorem kin13 {c d : Nat} : P13.kin c d = zc.kin c d := rfl
theorem at14_13 : P14.fn[13]? = some F13 := rfl
theorem kin14 {c d : Nat} : P14.kin c d = zc.kin c d := rfl
theorem at15_10 : P15.fn[10]? = some F10 := rfl
theorem kin15 {c d : Nat} : P15.kin c d = zc.kin c d := rfl
theorem at16_15 : P16.fn[15]? = some F15 := rfl
theorem kin16 {c d : Nat} : P16.kin c d = zc.kin c d := rfl
theorem at17_10 : P17.fn[10]? = some F10 := rfl
theorem kin17 {c d : Nat} : P17.kin c d = zc.kin c d := rfl
theorem glo19 : P19.gl = hd.gl := rfl
theorem at20_19 : P20.fn[19]? = some F19 := rfl
theorem at21_10 : P21.fn[10]? = some F10 := rfl
theorem at21_11 : P21.fn[11]? = some F11 := rfl
theorem at21_12 : P21.fn[12]? = some F12 := rfl
theorem at21_13 : P21.fn[13]? = some F13 := rfl
theorem at21_14 : P21.fn[14]? = some F14 := rfl
theorem at21_15 : P21.fn[15]? = some F15 := rfl
theorem at21_16 : P21.fn[16]? = some F16 := rfl
theorem at21_17 : P21.fn[17]? = some F17 := rfl
theorem at21_18 : P21.fn[18]? = some F18 := rfl
theorem at21_20 : P21.fn[20]? = some F20 := rfl
theorem mt21 {c m : Nat} : P21.mt c m = mtF zc.mtl c m := rfl
theorem at23_8 : P23.fn[8]? = some F8 := rfl
theorem at24_22 : P24.fn[22]? = some F22 := rfl
theorem at24_23 : P24.fn[23]? = some F23 := rfl
theorem ca25 {c a : Nat} : P25.ca c a = caF zc.cal c a := rfl
theorem at26_10 : P26.fn[10]? = some F10 := rfl
theorem at26_11 : P26.fn[11]? = some F11 := rfl
theorem at26_12 : P26.fn[12]? = some F12 := rfl
theorem at26_13 : P26.fn[13]? = some F13 := rfl
theorem at26_14 : P26.fn[14]? = some F14 := rfl
theorem at26_15 : P26.fn[15]? = some F15 := rfl
theorem at26_16 : P26.fn[16]? = some F16 := rfl
theorem at26_17 : P26.fn[17]? = some F17 := rfl
theorem at26_18 : P26.fn[18]? = some F18 := rfl
theorem at26_25 : P26.fn[25]? = some F25 := rfl
theorem mt26 {c m : Nat} : P26.mt c m = mtF zc.mtl c m := rfl
theorem at27_10 : P27.fn[10]? = some F10 := rfl
theorem at27_11 : P27.fn[11]? = some F11 := rfl
theorem at27_12 : P27.fn[12]? = some F12 := rfl
theorem at27_13 : P27.fn[13]? = some F13 := rfl
theorem at27_14 : P27.fn[14]? = some F14 := rfl
theorem at27_15 : P27.fn[15]? = some F15 := rfl
theorem at27_16 : P27.fn[16]? = some F16 := rfl
theorem at27_17 : P27.fn[17]? = some F17 := rfl
theorem mt27 {c m : Nat} : P27.mt c m = mtF zc.mtl c m := rfl
theorem at28_18 : P28.fn[18]? = some F18 := rfl
theorem at28_27 : P28.fn[27]? = some F27 := rfl
theorem at34_10 : P34.fn[10]? = some F10 := rfl
theorem at34_11 : P34.fn[11]? = some F11 := rfl
theorem at34_12 : P34.fn[12]? = some F12 := rfl
theorem at34_13 : P34.fn[13]? = some F13 := rfl
theorem at34_14 : P34.fn[14]? = some F14 := rfl
theorem at34_15 : P34.fn[15]? = some F15 := rfl
theorem at34_16 : P34.fn[16]? = some F16 := rfl
theorem at34_17 : P34.fn[17]? = some F17 := rfl
theorem at34_29 : P34.fn[29]? = some F29 := rfl
theorem at34_30 : P34.fn[30]? = some F30 := rfl
theorem at34_31 : P34.fn[31]? = some F31 := rfl
theorem at34_32 : P34.fn[32]? = some F32 := rfl
theorem at34_33 : P34.fn[33]? = some F33 := rfl
theorem mt34 {c m : Nat} : P34.mt c m = mtF zc.mtl c m := rfl
theorem glo34 : P34.gl = hd.gl := rfl
theorem at35_18 : P35.fn[18]? = some F18 := rfl
theorem at35_25 : P35.fn[25]? = some F25 := rfl
theorem at35_34 : P35.fn[34]? = some F34 := rfl
theorem at36_10 : P36.fn[10]? = some F10 := rfl
theorem at36_11 : P36.fn[11]? = some F11 := rfl
theorem at36_12 : P36.fn[12]? = some F12 := rfl
theorem at36_13 : P36.fn[13]? = some F13 := rfl
theorem at36_14 : P36.fn[14]? = some F14 := rfl
theorem at36_15 : P36.fn[15]? = some F15 := rfl
theorem at36_16 : P36.fn[16]? = some F16 := rfl
theorem at36_17 : P36.fn[17]? = some F17 := rfl
theorem at36_25 : P36.fn[25]? = some F25 := rfl
theorem at36_29 : P36.fn[29]? = some F29 := rfl
theorem at36_30 : P36.fn[30]? = some F30 := rfl
theorem at36_31 : P36.fn[31]? = some F31 := rfl
theorem at36_32 : P36.fn[32]? = some F32 := rfl
theorem at36_33 : P36.fn[33]? = some F33 := rfl
theorem mt36 {c m : Nat} : P36.mt c m = mtF zc.mtl c m := rfl
theorem at37_18 : P37.fn[18]? = some F18 := rfl
theorem at37_36 : P37.fn[36]? = some F36 := rfl
theorem glo37 : P37.gl = hd.gl := rfl
theorem at39_38 : P39.fn[38]? = some F38 := rfl
theorem at40_39 : P40.fn[39]? = some F39 := rfl
theorem at41_8 : P41.fn[8]? = some F8 := rfl
theorem at41_22 : P41.fn[22]? = some F22 := rfl
theorem at42_23 : P42.fn[23]? = some F23 := rfl
theorem at43_8 : P43.fn[8]? = some F8 := rfl
theorem at43_21 : P43.fn[21]? = some F21 := rfl
theorem at43_24 : P43.fn[24]? = some F24 := rfl
theorem at43_26 : P43.fn[26]? = some F26 := rfl
theorem at43_28 : P43.fn[28]? = some F28 := rfl
theorem at43_35 : P43.fn[35]? = some F35 := rfl
theorem at43_37 : P43.fn[37]? = some F37 := rfl
theorem at43_39 : P43.fn[39]? = some F39 := rfl
theorem at43_40 : P43.fn[40]? = some F40 := rfl
theorem at43_41 : P43.fn[41]? = some F41 := rfl
theorem at43_42 : P43.fn[42]? = some F42 := rfl
theorem at44_3 : P44.fn[3]? = some F3 := rfl
theorem at44_9 : P44.fn[9]? = some F9 := rfl
theorem at45_18 : P45.fn[18]? = some F18 := rfl
theorem ca45 {c a : Nat} : P45.ca c a = caF zc.cal c a := rfl
theorem glo45 : P45.gl = hd.gl := rfl
theorem at46_10 : P46.fn[10]? = some F10 := rfl
theorem at46_11 : P46.fn[11]? = some F11 := rfl
theorem at46_12 : P46.fn[12]? = some F12 := rfl
theorem at46_13 : P46.fn[13]? = some F13 := rfl
theorem at46_14 : P46.fn[14]? = some F14 := rfl
theorem at46_15 : P46.fn[15]? = some F15 := rfl
theorem at46_16 : P46.fn[16]? = some F16 := rfl
theorem at46_17 : P46.fn[17]? = some F17 := rfl
theorem at46_18 : P46.fn[18]? = some F18 := rfl
theorem at46_29 : P46.fn[29]? = some F29 := rfl
theorem at46_30 : P46.fn[30]? = some F30 := rfl
theorem at46_31 : P46.fn[31]? = some F31 := rfl
theorem at46_32 : P46.fn[32]? = some F32 := rfl
theorem at46_33 : P46.fn[33]? = some F33 := rfl
theorem mt46 {c m : Nat} : P46.mt c m = mtF zc.mtl c m := rfl
theorem glo46 : P46.gl = hd.gl := rfl
theorem at47_46 : P47.fn[46]? = some F46 := rfl
theorem at48_8 : P48.fn[8]? = some F8 := rfl
theorem at49_5 : P49.fn[5]? = some F5 := rfl
theorem at49_21 : P49.fn[21]? = some F21 := rfl
theorem at49_39 : P49.fn[39]? = some F39 := rfl
theorem at49_46 : P49.fn[46]? = some F46 := rfl
theorem at49_47 : P49.fn[47]? = some F47 := rfl
theorem at49_48 : P49.fn[48]? = some F48 := rfl
theorem at50_0 : P50.fn[0]? = some F0 := rfl
theorem at50_3 : P50.fn[3]? = some F3 := rfl
theorem at50_4 : P50.fn[4]? = some F4 := rfl
theorem at50_5 : P50.fn[5]? = some F5 := rfl
theorem at50_6 : P50.fn[6]? = some F6 := rfl
theorem at50_7 : P50.fn[7]? = some F7 := rfl
theorem at50_8 : P50.fn[8]? = some F8 := rfl
theorem at50_9 : P50.fn[9]? = some F9 := rfl
theorem at50_21 : P50.fn[21]? = some F21 := rfl
theorem at50_39 : P50.fn[39]? = some F39 := rfl
theorem at50_43 : P50.fn[43]? = some F43 := rfl
theorem at50_44 : P50.fn[44]? = some F44 := rfl
theorem at50_45 : P50.fn[45]? = some F45 := rfl
theorem at50_49 : P50.fn[49]? = some F49 := rfl
theorem glo50 : P50.gl = hd.gl := rfl
theorem cq0_0 : caF zc.cal 0 0 = some (.str "list") := by rfl
theorem cq1_0 : caF zc.cal 1 0 = some (.str "bag") := by rfl
theorem cq2_0 : caF zc.cal 2 0 = some (.str "set") := by rfl
theorem cq3_0 : caF zc.cal 3 0 = some (.str "heads") := by rfl
theorem cq4_0 : caF zc.cal 4 0 = some (.str "first") := by rfl
theorem cq5_0 : caF zc.cal 5 0 = some (.str "tails") := by rfl
theorem cq6_0 : caF zc.cal 6 0 = some (.str "last") := by rfl
theorem cq7_0 : caF zc.cal 7 0 = some (.str "ends") := by rfl
theorem mq0_0 : mtF zc.mtl 0 0 = some 10 := by decide +kernel
theorem mq0_1 : mtF zc.mtl 0 1 = some 29 := by decide +kernel
theorem mq1_0 : mtF zc.mtl 1 0 = some 11 := by decide +kernel
theorem mq1_1 : mtF zc.mtl 1 1 = some 30 := by decide +kernel
theorem mq2_0 : mtF zc.mtl 2 0 = some 12 := by decide +kernel
theorem mq2_1 : mtF zc.mtl 2 1 = some 30 := by decide +kernel
theorem mq3_0 : mtF zc.mtl 3 0 = some 13 := by decide +kernel
theorem mq3_1 : mtF zc.mtl 3 1 = some 29 := by decide +kernel
theorem mq4_0 : mtF zc.mtl 4 0 = some 14 := by decide +kernel
theorem mq4_1 : mtF zc.mtl 4 1 = some 29 := by decide +kernel
theorem mq5_0 : mtF zc.mtl 5 0 = some 15 := by decide +kernel
theorem mq5_1 : mtF zc.mtl 5 1 = some 31 := by decide +kernel
theorem mq6_0 : mtF zc.mtl 6 0 = some 16 := by decide +kernel
theorem mq6_1 : mtF zc.mtl 6 1 = some 32 := by decide +kernel
theorem mq7_0 : mtF zc.mtl 7 0 = some 17 := by decide +kernel
theorem mq7_1 : mtF zc.mtl 7 1 = some 33 := by decide +kernel
theorem FL_eq : d50.fn hd.gl hd.e hd.z (tabGo hd.gl hd.e hd.z [] (ds.take LAST)) = F50 := rfl
end LW

end
section
set_option Elab.async false
set_option linter.all false
set_option maxRecDepth 100000
set_option maxHeartbeats 4000000
namespace LW
open QL KL
/-! what the draws give -/
def stm (cells : List Int) (i v : Int) : List D := [.lst (cells.map D.int), .int i, .int v]
/-- a stream's state -/
def OkS (s : List D) : Prop := ∃ cells i v, s = stm cells i v ∧ cells.length ≤ 63 ∧ 0 ≤ i ∧ i ≤ cells.length ∧ 0 ≤ v
theorem g_mixed (c p : Int) (h0 : 0 ≤ p) (h1 : p ≤ 100) : ∃ m, Gv F1 [.int c, .int p] (.fz (.int m)) ∧ 0 ≤ m := by
  have k2 : (-18446744073709551616 < 314159265358979323 + 271828182845 * p ∧ 314159265358979323 + 271828182845 * p < 18446744073709551616) := by constructor <;> omega
  have k3 : (-18446744073709551616 < c * (314159265358979323 + 271828182845 * p) % 1000000000000000003 ∧ c * (314159265358979323 + 271828182845 * p) % 1000000000000000003 < 18446744073709551616) := by constructor <;> omega
  refine ⟨(c * (314159265358979323 + 271828182845 * p) % 1000000000000000003 * (c * (314159265358979323 + 271828182845 * p) % 1000000000000000003 + 57721566490153 * p)) % 1000000000000000009, gv_w rfl ?_, ?_⟩
  · simp -implicitDefEqProofs [exs, ex, ev, evs, evA, evI, exm, isLr, useSl, putSl_eq, moveSl, lookSl, lookLs, liveSl, chgSl, dicSl, putAll, bindT, isTys, isTy, isN, isNonE, intP, optR, L2.atI, L2.ixN, LIM, w_ok, w_er, b1, k2, k3]
  · omega
theorem g_draw (s : List D) (m : Int) (hs : OkS s) (h3 : 0 < m) (h4 : m < 1073741824) :
    ∃ x s', Gs F2 s [.int m] (.fz (.int x)) s' ∧ 0 ≤ x ∧ x < m ∧ OkS s' := by
  obtain ⟨cells, i, v, rfl, hl, h0, h1, h2⟩ := hs
  have m0 : m ≠ 0 := by omega
  have go : ∀ (i' v' : Int), 0 ≤ i' → i' ≤ cells.length → 0 ≤ v' → 0 ≤ v' % m ∧ v' % m < m ∧ OkS (stm cells i' (v' / m)) := fun i' v' a b c => ⟨Int.emod_nonneg _ m0, Int.emod_lt_of_pos _ h3, cells, i', v' / m, rfl, hl, a, b, Int.ediv_nonneg c (by omega)⟩
  by_cases hv : v = 0
  · by_cases hi : i < cells.length
    · have hh : i.toNat < cells.length := by omega
      obtain ⟨y, e1, e2⟩ := g_mixed (cells[i.toNat]'hh) (i + 1) (by omega) (by omega)
      have ea : 0 ≤ (if cells[i.toNat]'hh < 0 then -(cells[i.toNat]'hh) else cells[i.toNat]'hh) := by split <;> omega
      by_cases hc : (if cells[i.toNat]'hh < 0 then -(cells[i.toNat]'hh) else cells[i.toNat]'hh) < 1000000000000000000
      · refine ⟨_, _, gs_w rfl ?_, go (i + 1) y (by omega) (by omega) e2⟩
        simp -implicitDefEqProofs [exs, ex, ev, evs, evA, evI, exm, isLr, useSl, putSl_eq, moveSl, lookSl, lookLs, liveSl, chgSl, dicSl, putAll, bindT, isTys, isTy, isN, isNonE, intP, optR, L2.atI, L2.ixN, LIM, w_ok, w_er, b2, at2_1, stm, hv, hi, h0, h3, h4, hc, gc2 e1]
      · refine ⟨_, _, gs_w rfl ?_, go (i + 1) _ (by omega) (by omega) ea⟩
        simp -implicitDefEqProofs [exs, ex, ev, evs, evA, evI, exm, isLr, useSl, putSl_eq, moveSl, lookSl, lookLs, liveSl, chgSl, dicSl, putAll, bindT, isTys, isTy, isN, isNonE, intP, optR, L2.atI, L2.ixN, LIM, w_ok, w_er, b2, at2_1, stm, hv, hi, h0, h3, h4, hc, gc2 e1]
    · refine ⟨_, _, gs_w rfl ?_, go i v h0 h1 h2⟩
      simp -implicitDefEqProofs [exs, ex, ev, evs, evA, evI, exm, isLr, useSl, putSl_eq, moveSl, lookSl, lookLs, liveSl, chgSl, dicSl, putAll, bindT, isTys, isTy, isN, isNonE, intP, optR, L2.atI, L2.ixN, LIM, w_ok, w_er, b2, stm, hv, hi, h0, h3, h4]
  · refine ⟨_, _, gs_w rfl ?_, go i v h0 h1 h2⟩
    simp -implicitDefEqProofs [exs, ex, ev, evs, evA, evI, exm, isLr, useSl, putSl_eq, moveSl, lookSl, lookLs, liveSl, chgSl, dicSl, putAll, bindT, isTys, isTy, isN, isNonE, intP, optR, L2.atI, L2.ixN, LIM, w_ok, w_er, b2, stm, hv, h0, h3, h4]
theorem g_pick (s : List D) (m : Int) (hs : OkS s) (h3 : 0 < m) :
    ∃ x s', Gs F3 s [.int m] (.fz (.int x)) s' ∧ 0 ≤ x ∧ x < m ∧ OkS s' := by
  obtain ⟨x, s', e, _, _, h⟩ := g_draw s 10 hs (by decide) (by decide)
  refine ⟨x % m, s', gs_w rfl ?_, Int.emod_nonneg _ (by omega), Int.emod_lt_of_pos _ h3, h⟩
  simp -implicitDefEqProofs [exs, ex, ev, evs, evA, evI, exm, isLr, useSl, putSl_eq, moveSl, lookSl, lookLs, liveSl, chgSl, dicSl, putAll, bindT, isTys, isTy, isN, isNonE, intP, optR, L2.atI, L2.ixN, LIM, w_ok, w_er, b3, at3_2, h3, gs1 e]

/-- the kinds' names -/
def kn : Nat → PySem.Str
  | 0 => "list"
  | 1 => "bag"
  | 2 => "set"
  | 3 => "heads"
  | 4 => "first"
  | 5 => "tails"
  | 6 => "last"
  | _ => "ends"
theorem ofI {x : Int} (h0 : 0 ≤ x) (h1 : x < 8) : x = 0 ∨ x = 1 ∨ x = 2 ∨ x = 3 ∨ x = 4 ∨ x = 5 ∨ x = 6 ∨ x = 7 := by omega
theorem of10 {x : Int} (h0 : 0 ≤ x) (h1 : x < 10) : x = 0 ∨ x = 1 ∨ x = 2 ∨ x = 3 ∨ x = 4 ∨ x = 5 ∨ x = 6 ∨ x = 7 ∨ x = 8 ∨ x = 9 := by omega
theorem g_kind (s : List D) (hs : OkS s) : ∃ k s', Gs F4 s [] (.fz (.str (kn k))) s' ∧ k < 8 ∧ OkS s' := by
  obtain ⟨x, s', e, h0, h1, h⟩ := g_pick s 8 hs (by decide)
  have go : ∀ (k : Nat) (j : Int), x = j → (∀ v, L2.atI [D.str "list", .str "bag", .str "set", .str "first", .str "last", .str "ends", .str "heads", .str "tails"] j = some v → v = .str (kn k)) → (L2.atI [D.str "list", .str "bag", .str "set", .str "first", .str "last", .str "ends", .str "heads", .str "tails"] j).isSome = true → Gs F4 s [] (.fz (.str (kn k))) s' := fun k j ex hv hsome => by
    subst ex
    obtain ⟨v, hq⟩ := Option.isSome_iff_exists.mp hsome
    have := hv v hq
    subst this
    refine gs_w rfl ?_
    simp [exs, ex, ev, evs, evA, isLr, optR, lookSl, b4, at4_3, gs1 e, hq, LIM, w_ok]
  rcases ofI h0 h1 with h | h | h | h | h | h | h | h
  · exact ⟨0, s', go 0 _ h (by intro v hv; cases hv; rfl) rfl, by decide, by assumption⟩
  · exact ⟨1, s', go 1 _ h (by intro v hv; cases hv; rfl) rfl, by decide, by assumption⟩
  · exact ⟨2, s', go 2 _ h (by intro v hv; cases hv; rfl) rfl, by decide, by assumption⟩
  · exact ⟨4, s', go 4 _ h (by intro v hv; cases hv; rfl) rfl, by decide, by assumption⟩
  · exact ⟨6, s', go 6 _ h (by intro v hv; cases hv; rfl) rfl, by decide, by assumption⟩
  · exact ⟨7, s', go 7 _ h (by intro v hv; cases hv; rfl) rfl, by decide, by assumption⟩
  · exact ⟨3, s', go 3 _ h (by intro v hv; cases hv; rfl) rfl, by decide, by assumption⟩
  · exact ⟨5, s', go 5 _ h (by intro v hv; cases hv; rfl) rfl, by decide, by assumption⟩
def OkL (ls : List Int) : Prop := 0 < ls.length ∧ ls.length ≤ 10 ∧ ∀ x ∈ ls, 0 ≤ x ∧ x < 1000000000
theorem loop_letters (many : Int) (wide : Bool) :
    ∀ (n a : Nat) (s : List D) (acc : List Int) (t u : Sl), nlp t = true → nlp u = true → OkS s → a + n ≤ 10 → acc.length = a → (∀ x ∈ acc, 0 ≤ x ∧ x < 1000000000) →
      ∃ (acc' : List Int) (s' : List D) (t' u' : Sl), forGo [4] (exs P7 lb7_0) (rangeD (a : Int) n) [.lp s, .fz (.int many), .fz (.bl wide), .lv (acc.map D.int), t, u] = .ok .nx [.lp s', .fz (.int many), .fz (.bl wide), .lv (acc'.map D.int), t', u'] ∧ OkS s' ∧ acc'.length = a + n ∧ ∀ x ∈ acc', 0 ≤ x ∧ x < 1000000000 := by
  intro n
  induction n with
  | zero => exact fun a s acc t u _ _ hs _ hl ha => ⟨acc, s, t, u, rfl, hs, hl, ha⟩
  | succ n ih =>
    intro a s acc t u ht hu hs hn hl ha
    have lim : acc.length < 100000 := by omega
    have step : ∃ y s1, (exs P7 lb7_0 [.lp s, .fz (.int many), .fz (.bl wide), .lv (acc.map D.int), .fz (.int a), u]) = .ok .nx [.lp s1, .fz (.int many), .fz (.bl wide), .lv ((acc ++ [y]).map D.int), .fz (.int a), .fz (.int y)] ∧ OkS s1 ∧ 0 ≤ y ∧ y < 1000000000 := by
      cases wide with
      | false =>
        refine ⟨(a : Int), s, ?_, hs, by omega, by omega⟩
        simp -implicitDefEqProofs [exs, ex, ev, evs, evA, evI, exm, isLr, useSl, putSl_eq, moveSl, lookSl, lookLs, liveSl, chgSl, dicSl, putAll, bindT, isTys, isTy, isN, isNonE, intP, optR, L2.atI, L2.ixN, LIM, w_ok, w_er, lb7_0, hu, lim]
      | true =>
        by_cases h3 : (a : Int) < 3
        · obtain ⟨x, s', e, x0, x1, h⟩ := g_draw s 100000000 hs (by decide) (by decide)
          refine ⟨9 - (a : Int) + 10 * x, s', ?_, h, by omega, by omega⟩
          simp -implicitDefEqProofs [exs, ex, ev, evs, evA, evI, exm, isLr, useSl, putSl_eq, moveSl, lookSl, lookLs, liveSl, chgSl, dicSl, putAll, bindT, isTys, isTy, isN, isNonE, intP, optR, L2.atI, L2.ixN, LIM, w_ok, w_er, lb7_0, hu, lim, h3, at7_2, gs1 e]
        · refine ⟨9 - (a : Int), s, ?_, hs, by omega, by omega⟩
          simp -implicitDefEqProofs [exs, ex, ev, evs, evA, evI, exm, isLr, useSl, putSl_eq, moveSl, lookSl, lookLs, liveSl, chgSl, dicSl, putAll, bindT, isTys, isTy, isN, isNonE, intP, optR, L2.atI, L2.ixN, LIM, w_ok, w_er, lb7_0, hu, lim, h3]
    obtain ⟨y, s1, e1, o1, y0, y1⟩ := step
    obtain ⟨acc', s', t', u', e2, o2, l2, a2⟩ := ih (a + 1) s1 (acc ++ [y]) (.fz (.int a)) (.fz (.int y)) rfl rfl o1 (by omega) (by simp [hl]) (by
      intro x hx
      rcases List.mem_append.mp hx with hx | hx
      · exact ha x hx
      · rw [List.mem_singleton.mp hx]; exact ⟨y0, y1⟩)
    refine ⟨acc', s', t', u', ?_, o2, by omega, a2⟩
    have er : rangeD (a : Int) (n + 1) = .int a :: rangeD ((a + 1 : Nat) : Int) n := rfl
    have eb : bindT [.lp s, .fz (.int many), .fz (.bl wide), .lv (acc.map D.int), t, u] [4] (.int a) = some [.lp s, .fz (.int many), .fz (.bl wide), .lv (acc.map D.int), .fz (.int a), u] := by simp -implicitDefEqProofs [exs, ex, ev, evs, evA, evI, exm, isLr, useSl, putSl_eq, moveSl, lookSl, lookLs, liveSl, chgSl, dicSl, putAll, bindT, isTys, isTy, isN, isNonE, intP, optR, L2.atI, L2.ixN, LIM, w_ok, w_er, ht]
    rw [er]
    unfold forGo
    rw [eb]
    dsimp only
    rw [e1]
    exact e2
theorem g_letters (s : List D) (hs : OkS s) : ∃ ls s', Gs F7 s [] (.lv (ls.map D.int)) s' ∧ OkL ls ∧ OkS s' := by
  obtain ⟨x, s1, e1, x0, x1, o1⟩ := g_pick s 10 hs (by decide)
  obtain ⟨y, s2, e2, y0, y1, o2⟩ := g_pick s1 10 o1 (by decide)
  obtain ⟨acc', s', t', u', e3, o3, l3, a3⟩ := loop_letters (1 + x) (decide (7 < y)) (1 + x).toNat 0 s2 [] .un .un rfl rfl o2 (by omega) rfl (by simp)
  refine ⟨acc', s', gs_w rfl ?_, ⟨by omega, by omega, a3⟩, o3⟩
  have b1 : (-4611686018427387904 : Int) ≤ 1 + x := by omega
  have b2 : 1 + x < 4611686018427387904 := by omega
  simp only [Int.natCast_zero, List.map_nil] at e3
  simp -implicitDefEqProofs [exs, ex, ev, evs, evA, evI, exm, isLr, useSl, putSl_eq, moveSl, lookSl, lookLs, liveSl, chgSl, dicSl, putAll, bindT, isTys, isTy, isN, isNonE, intP, optR, L2.atI, L2.ixN, LIM, w_ok, w_er, bb7, at7_3, gs1 e1, gs1 e2, b1, b2, e3]
theorem lcGo_raw (ls : List Int) (sz : Sl) (h0 : 0 < ls.length) : ∀ (n : Nat) (a : Int) (s : List D) (acc : List Int), OkS s → acc.length + n ≤ 1000 →
    ∃ (w : List Int) (s' : List D), lcGo 3 (fun δ => Rs.ok (Rv.fz (.bl true)) δ) (ev P9 le9_0) (rangeD a n) (acc.map D.int) [.lp s, .fz (.lst (ls.map D.int)), sz, .un] = .ok ((acc ++ w).map D.int) [.lp s', .fz (.lst (ls.map D.int)), sz, .un] ∧ OkS s' ∧ w.length = n ∧ ∀ x ∈ w, x ∈ ls := by
  intro n
  induction n with
  | zero => exact fun a s acc hs _ => ⟨[], s, by simp [rangeD, lcGo], hs, rfl, by simp⟩
  | succ n ih =>
    intro a s acc hs hl
    obtain ⟨x, s1, e1, x0, x1, o1⟩ := g_pick s ls.length hs (by omega)
    have hx : x.toNat < ls.length := by omega
    obtain ⟨w, s', e2, o2, l2, m2⟩ := ih (a + 1) s1 (acc ++ [ls[x.toNat]]) o1 (by simp; omega)
    refine ⟨ls[x.toNat] :: w, s', ?_, o2, by simp [l2], ?_⟩
    · have lim : acc.length < 100000 := by omega
      have ee : ev P9 le9_0 [.lp s, .fz (.lst (ls.map D.int)), sz, .fz (.int a)] = .ok (.fz (.int ls[x.toNat])) [.lp s1, .fz (.lst (ls.map D.int)), sz, .fz (.int a)] := by
        simp -implicitDefEqProofs [exs, ex, ev, evs, evA, evI, exm, isLr, useSl, putSl_eq, moveSl, lookSl, lookLs, liveSl, chgSl, dicSl, putAll, bindT, isTys, isTy, isN, isNonE, intP, optR, L2.atI, L2.ixN, LIM, w_ok, w_er, le9_0, at9_3, gs1 e1, x0, hx, x1]
      show lcGo 3 _ _ (.int a :: rangeD (a + 1) n) _ _ = _
      unfold lcGo
      simp only [List.set_cons_succ, List.set_cons_zero]
      simp only [Rs.ne, e_bok]
      rw [ee]
      simp only [Rs.ne, e_bok, e_dfz, List.length_map, LIM, lim, if_true, List.set_cons_succ, List.set_cons_zero]
      have em : acc.map D.int ++ [D.int ls[x.toNat]] = (acc ++ [ls[x.toNat]]).map D.int := by simp
      rw [em, e2]
      simp
    · intro y hy
      rcases List.mem_cons.mp hy with rfl | hy
      · exact List.getElem_mem _
      · exact m2 y hy
theorem raw1 (s s1 : List D) (ls : List Int) (x j : Int) (e1 : Gs F3 s [.int 10] (.fz (.int x)) s1) (hq : L2.atI [D.int 0, .int 1, .int 2, .int 3, .int 4, .int 5, .int 0, .int 1, .int 2, .int 7] x = some (.int j)) (es : Es) (he : ∀ δ, evs P9 es δ = .ok [D.int 0, .int 1, .int 2, .int 3, .int 4, .int 5, .int 0, .int 1, .int 2, .int 7] δ) :
    ex P9 (.set 2 (.ix (.tup es) (.call 3 (.cons (.lr 0) (.cons (.c (.int 10)) .nil))))) [.lp s, .fz (Ld ls), .un, .un] = .ok .nx [.lp s1, .fz (Ld ls), .fz (.int j), .un] := by
  unfold ex
  rw [ev_ixt (he _) (by unfold LIM; simp)]
  simp [ev, evA, isLr, optR, lookSl, at9_3, gs1 e1, hq, putSl_eq]
theorem raw2 (s1 s' : List D) (ls w : List Int) (j : Int) (h0 : 0 ≤ j) (hn : j ≤ 7) (e2 : lcGo 3 (fun δ => Rs.ok (Rv.fz (.bl true)) δ) (ev P9 le9_0) (rangeD 0 j.toNat) [] [.lp s1, .fz (.lst (ls.map D.int)), .fz (.int j), .un] = .ok (w.map D.int) [.lp s', .fz (.lst (ls.map D.int)), .fz (.int j), .un]) :
    (exs P9 (.cons (.ret (.bi .tuple (.cons (.lc 3 (.rng1 (.v 2)) (.c (.bl true)) le9_0) .nil))) .nil) [.lp s1, .fz (Ld ls), .fz (.int j), .un]).W (fun f δ => f = .rt (.fz (Wd w)) ∧ δ[0]? = some (.lp s') ∧ 2 ≤ δ.length) (fun _ _ => False) := by
  have b1 : (-4611686018427387904 : Int) ≤ j := by omega
  have b2 : j < 4611686018427387904 := by omega
  simp [exs, ex, ev, evs, evI, optR, useSl, w_ok, lcRun, lcSl_eq, b1, b2, e2]
theorem raw3 (s s1 s' : List D) (ls w : List Int) (x j : Int) (h0 : 0 ≤ j) (hn : j ≤ 7) (e1 : Gs F3 s [.int 10] (.fz (.int x)) s1) (hq : L2.atI [D.int 0, .int 1, .int 2, .int 3, .int 4, .int 5, .int 0, .int 1, .int 2, .int 7] x = some (.int j))
    (e2 : lcGo 3 (fun δ => Rs.ok (Rv.fz (.bl true)) δ) (ev P9 le9_0) (rangeD 0 j.toNat) [] [.lp s1, .fz (.lst (ls.map D.int)), .fz (.int j), .un] = .ok (w.map D.int) [.lp s', .fz (.lst (ls.map D.int)), .fz (.int j), .un]) : Gs F9 s [Ld ls] (.fz (Wd w)) s' := by
  refine gs_w rfl ?_
  rw [bb9]
  show (exs P9 _ [.lp s, .fz (Ld ls), .un, .un]).W _ _
  exact w_go (raw1 s s1 ls x j e1 hq _ fun δ => by simp [evs, ev]) (raw2 s1 s' ls w j h0 hn e2)
theorem g_raw (s : List D) (ls : List Int) (hs : OkS s) (h0 : 0 < ls.length) : ∃ w s', Gs F9 s [Ld ls] (.fz (Wd w)) s' ∧ w.length ≤ 7 ∧ (∀ x ∈ w, x ∈ ls) ∧ OkS s' := by
  obtain ⟨x, s1, e1, x0, x1, o1⟩ := g_pick s 10 hs (by decide)
  have go : ∀ (j : Int), 0 ≤ j → j ≤ 7 → L2.atI [D.int 0, .int 1, .int 2, .int 3, .int 4, .int 5, .int 0, .int 1, .int 2, .int 7] x = some (.int j) → ∃ w s', Gs F9 s [Ld ls] (.fz (Wd w)) s' ∧ w.length ≤ 7 ∧ (∀ x ∈ w, x ∈ ls) ∧ OkS s' := fun j j0 hn hq => by
    obtain ⟨w, s', e2, o2, l2, m2⟩ := lcGo_raw ls (.fz (.int j)) h0 j.toNat 0 s1 [] o1 (by simp; omega)
    exact ⟨w, s', raw3 s s1 s' ls w x j j0 hn e1 hq e2, by omega, m2, o2⟩
  rcases of10 x0 x1 with h | h | h | h | h | h | h | h | h | h
  · exact go 0 (by decide) (by decide) (by rw [h]; rfl)
  · exact go 1 (by decide) (by decide) (by rw [h]; rfl)
  · exact go 2 (by decide) (by decide) (by rw [h]; rfl)
  · exact go 3 (by decide) (by decide) (by rw [h]; rfl)
  · exact go 4 (by decide) (by decide) (by rw [h]; rfl)
  · exact go 5 (by decide) (by decide) (by rw [h]; rfl)
  · exact go 0 (by decide) (by decide) (by rw [h]; rfl)
  · exact go 1 (by decide) (by decide) (by rw [h]; rfl)
  · exact go 2 (by decide) (by decide) (by rw [h]; rfl)
  · exact go 7 (by decide) (by decide) (by rw [h]; rfl)
theorem g_near (s : List D) (ls w : List Int) (hs : OkS s) (h0 : 0 < ls.length) (hw : w.length ≤ 1000) (hm : ∀ x ∈ w, x ∈ ls) : ∃ v s', Gs F44 s [Ld ls, Wd w] (.fz (Wd v)) s' ∧ v.length ≤ w.length + 7 ∧ (∀ x ∈ v, x ∈ ls) ∧ OkS s' := by
  obtain ⟨y, s1, e1, y0, y1, o1⟩ := g_pick s 10 hs (by decide)
  obtain ⟨o, s2, e2, l2, m2, o2⟩ := g_raw s1 ls o1 h0
  have app : ∀ x ∈ w ++ o, x ∈ ls := fun x hx => (List.mem_append.mp hx).elim (hm x) (m2 x)
  have app2 : ∀ x ∈ o ++ w, x ∈ ls := fun x hx => (List.mem_append.mp hx).elim (m2 x) (hm x)
  have way : ∀ (v : List Int) (st : List D), OkS st → v.length ≤ w.length + 7 → (∀ x ∈ v, x ∈ ls) → Gs F44 s [Ld ls, Wd w] (.fz (Wd v)) st → ∃ v s', Gs F44 s [Ld ls, Wd w] (.fz (Wd v)) s' ∧ v.length ≤ w.length + 7 ∧ (∀ x ∈ v, x ∈ ls) ∧ OkS s' := fun v st a b c d => ⟨v, st, d, b, c, a⟩
  have n1 : w.length + o.length ≤ 100000 := by omega
  have n2 : o.length + w.length ≤ 100000 := by omega
  rcases of10 y0 y1 with h | h | h | h | h | h | h | h | h | h <;> subst h
  · exact way w s1 o1 (by omega) hm (gs_w rfl (by simp -implicitDefEqProofs [exs, ex, ev, evs, evA, evI, exm, isLr, useSl, putSl_eq, moveSl, lookSl, lookLs, liveSl, chgSl, dicSl, putAll, bindT, isTys, isTy, isN, isNonE, intP, optR, L2.atI, L2.ixN, LIM, w_ok, w_er, bb44, at44_3, gs2, gs1 e1]))
  · exact way w s1 o1 (by omega) hm (gs_w rfl (by simp -implicitDefEqProofs [exs, ex, ev, evs, evA, evI, exm, isLr, useSl, putSl_eq, moveSl, lookSl, lookLs, liveSl, chgSl, dicSl, putAll, bindT, isTys, isTy, isN, isNonE, intP, optR, L2.atI, L2.ixN, LIM, w_ok, w_er, bb44, at44_3, gs1 e1]))
  · exact way (w ++ o) s2 o2 (by simp; omega) app (gs_w rfl (by simp -implicitDefEqProofs [exs, ex, ev, evs, evA, evI, exm, isLr, useSl, putSl_eq, moveSl, lookSl, lookLs, liveSl, chgSl, dicSl, putAll, bindT, isTys, isTy, isN, isNonE, intP, optR, L2.atI, L2.ixN, LIM, w_ok, w_er, bb44, at44_3, at44_9, gs1 e1, gs1 e2, add_w n1]))
  · exact way (w ++ o) s2 o2 (by simp; omega) app (gs_w rfl (by simp -implicitDefEqProofs [exs, ex, ev, evs, evA, evI, exm, isLr, useSl, putSl_eq, moveSl, lookSl, lookLs, liveSl, chgSl, dicSl, putAll, bindT, isTys, isTy, isN, isNonE, intP, optR, L2.atI, L2.ixN, LIM, w_ok, w_er, bb44, at44_3, at44_9, gs1 e1, gs1 e2, add_w n1]))
  · exact way (o ++ w) s2 o2 (by simp; omega) app2 (gs_w rfl (by simp -implicitDefEqProofs [exs, ex, ev, evs, evA, evI, exm, isLr, useSl, putSl_eq, moveSl, lookSl, lookLs, liveSl, chgSl, dicSl, putAll, bindT, isTys, isTy, isN, isNonE, intP, optR, L2.atI, L2.ixN, LIM, w_ok, w_er, bb44, at44_3, at44_9, gs1 e1, gs1 e2, add_w n2]))
  · exact way (cutL w (some 1) none) s1 o1 (by have := (cut_sub (l := w) (lo := some 1) (hi := none)).2; omega) (fun x hx => hm x (cut_sub.1 x hx)) (gs_w rfl (by simp -implicitDefEqProofs [exs, ex, ev, evs, evA, evI, exm, isLr, useSl, putSl_eq, moveSl, lookSl, lookLs, liveSl, chgSl, dicSl, putAll, bindT, isTys, isTy, isN, isNonE, intP, optR, L2.atI, L2.ixN, LIM, w_ok, w_er, bb44, at44_3, gs1 e1]))
  · exact way (cutL w none (some (if 0 < (w.length : Int) - 1 then (w.length : Int) - 1 else 0))) s1 o1 (by have := (cut_sub (l := w) (lo := none) (hi := some (if 0 < (w.length : Int) - 1 then (w.length : Int) - 1 else 0))).2; omega) (fun x hx => hm x (cut_sub.1 x hx)) (gs_w rfl (by simp -implicitDefEqProofs [exs, ex, ev, evs, evA, evI, exm, isLr, useSl, putSl_eq, moveSl, lookSl, lookLs, liveSl, chgSl, dicSl, putAll, bindT, isTys, isTy, isN, isNonE, intP, optR, L2.atI, L2.ixN, LIM, w_ok, w_er, bb44, at44_3, gs1 e1]))
  · exact way w.reverse s1 o1 (by rw [List.length_reverse]; omega) (fun x hx => hm x (List.mem_reverse.mp hx)) (gs_w rfl (by simp -implicitDefEqProofs [exs, ex, ev, evs, evA, evI, exm, isLr, useSl, putSl_eq, moveSl, lookSl, lookLs, liveSl, chgSl, dicSl, putAll, bindT, isTys, isTy, isN, isNonE, intP, optR, L2.atI, L2.ixN, LIM, w_ok, w_er, bb44, at44_3, gs1 e1]))
  · by_cases hw0 : w.length = 0
    · exact way o s2 o2 (by omega) m2 (gs_w rfl (by simp -implicitDefEqProofs [exs, ex, ev, evs, evA, evI, exm, isLr, useSl, putSl_eq, moveSl, lookSl, lookLs, liveSl, chgSl, dicSl, putAll, bindT, isTys, isTy, isN, isNonE, intP, optR, L2.atI, L2.ixN, LIM, w_ok, w_er, bb44, at44_3, at44_9, gs1 e1, gs1 e2, hw0]))
    · obtain ⟨a, s3, e3, a0, a1, o3⟩ := g_pick s2 w.length o2 (by omega)
      obtain ⟨b, s4, e4, b0, b1, o4⟩ := g_pick s3 ls.length o3 (by omega)
      have hb : b.toNat < ls.length := by omega
      have hp : 0 < w.length := by omega
      have c1 := cut_sub (l := w) (lo := none) (hi := some a)
      have c2 := cut_sub (l := w) (lo := some (a + 1)) (hi := none)
      have n3 : (cutL w none (some a)).length + [ls[b.toNat]].length ≤ 100000 := by simp; omega
      have n4 : (cutL w none (some a) ++ [ls[b.toNat]]).length + (cutL w (some (a + 1)) none).length ≤ 100000 := by simp; omega
      have q1 : (cutL w none (some a)).length ≤ a.toNat := by rw [cut_hi a0, List.length_take]; omega
      have q2 : (cutL w (some (a + 1)) none).length = w.length - (a.toNat + 1) := by rw [cut_lo (by omega), List.length_drop]; omega
      have z1 := add_w n3
      have z2 := add_w n4
      simp only [List.map_append, List.map_cons, List.map_nil] at z1 z2
      refine way (cutL w none (some a) ++ [ls[b.toNat]] ++ cutL w (some (a + 1)) none) s4 o4 (by simp; omega) ?_ (gs_w rfl (by simp -implicitDefEqProofs [exs, ex, ev, evs, evA, evI, exm, isLr, useSl, putSl_eq, moveSl, lookSl, lookLs, liveSl, chgSl, dicSl, putAll, bindT, isTys, isTy, isN, isNonE, intP, optR, L2.atI, L2.ixN, LIM, w_ok, w_er, bb44, at44_3, at44_9, gs1 e1, gs1 e2, gs1 e3, gs1 e4, hp, b0, hb, b1, z1, z2]))
      intro x hx
      rcases List.mem_append.mp hx with hx | hx
      · rcases List.mem_append.mp hx with hx | hx
        · exact hm x (c1.1 x hx)
        · rw [List.mem_singleton.mp hx]; exact List.getElem_mem _
      · exact hm x (c2.1 x hx)
  · exact way o s2 o2 (by omega) m2 (gs_w rfl (by simp -implicitDefEqProofs [exs, ex, ev, evs, evA, evI, exm, isLr, useSl, putSl_eq, moveSl, lookSl, lookLs, liveSl, chgSl, dicSl, putAll, bindT, isTys, isTy, isN, isNonE, intP, optR, L2.atI, L2.ixN, LIM, w_ok, w_er, bb44, at44_3, at44_9, gs1 e1, gs1 e2]))
end LW

end
section
set_option Elab.async false
set_option linter.all false
set_option maxRecDepth 100000
set_option maxHeartbeats 4000000
namespace LW
open QL KL
/-! the kinds' part of the program -/
theorem se0_0 : cmpD .eq (.str "list") (.str "list") = some true := by decide +kernel
theorem sq0_0 : eqED false (.str "list") (.str "list") = some true := by decide +kernel
theorem se0_1 : cmpD .eq (.str "list") (.str "bag") = some false := by decide +kernel
theorem sq0_1 : eqED false (.str "list") (.str "bag") = some false := by decide +kernel
theorem se0_2 : cmpD .eq (.str "list") (.str "set") = some false := by decide +kernel
theorem sq0_2 : eqED false (.str "list") (.str "set") = some false := by decide +kernel
theorem se0_3 : cmpD .eq (.str "list") (.str "heads") = some false := by decide +kernel
theorem sq0_3 : eqED false (.str "list") (.str "heads") = some false := by decide +kernel
theorem se0_4 : cmpD .eq (.str "list") (.str "first") = some false := by decide +kernel
theorem sq0_4 : eqED false (.str "list") (.str "first") = some false := by decide +kernel
theorem se0_5 : cmpD .eq (.str "list") (.str "tails") = some false := by decide +kernel
theorem sq0_5 : eqED false (.str "list") (.str "tails") = some false := by decide +kernel
theorem se0_6 : cmpD .eq (.str "list") (.str "last") = some false := by decide +kernel
theorem sq0_6 : eqED false (.str "list") (.str "last") = some false := by decide +kernel
theorem se0_7 : cmpD .eq (.str "list") (.str "ends") = some false := by decide +kernel
theorem sq0_7 : eqED false (.str "list") (.str "ends") = some false := by decide +kernel
theorem se1_0 : cmpD .eq (.str "bag") (.str "list") = some false := by decide +kernel
theorem sq1_0 : eqED false (.str "bag") (.str "list") = some false := by decide +kernel
theorem se1_1 : cmpD .eq (.str "bag") (.str "bag") = some true := by decide +kernel
theorem sq1_1 : eqED false (.str "bag") (.str "bag") = some true := by decide +kernel
theorem se1_2 : cmpD .eq (.str "bag") (.str "set") = some false := by decide +kernel
theorem sq1_2 : eqED false (.str "bag") (.str "set") = some false := by decide +kernel
theorem se1_3 : cmpD .eq (.str "bag") (.str "heads") = some false := by decide +kernel
theorem sq1_3 : eqED false (.str "bag") (.str "heads") = some false := by decide +kernel
theorem se1_4 : cmpD .eq (.str "bag") (.str "first") = some false := by decide +kernel
theorem sq1_4 : eqED false (.str "bag") (.str "first") = some false := by decide +kernel
theorem se1_5 : cmpD .eq (.str "bag") (.str "tails") = some false := by decide +kernel
theorem sq1_5 : eqED false (.str "bag") (.str "tails") = some false := by decide +kernel
theorem se1_6 : cmpD .eq (.str "bag") (.str "last") = some false := by decide +kernel
theorem sq1_6 : eqED false (.str "bag") (.str "last") = some false := by decide +kernel
theorem se1_7 : cmpD .eq (.str "bag") (.str "ends") = some false := by decide +kernel
theorem sq1_7 : eqED false (.str "bag") (.str "ends") = some false := by decide +kernel
theorem se2_0 : cmpD .eq (.str "set") (.str "list") = some false := by decide +kernel
theorem sq2_0 : eqED false (.str "set") (.str "list") = some false := by decide +kernel
theorem se2_1 : cmpD .eq (.str "set") (.str "bag") = some false := by decide +kernel
theorem sq2_1 : eqED false (.str "set") (.str "bag") = some false := by decide +kernel
theorem se2_2 : cmpD .eq (.str "set") (.str "set") = some true := by decide +kernel
theorem sq2_2 : eqED false (.str "set") (.str "set") = some true := by decide +kernel
theorem se2_3 : cmpD .eq (.str "set") (.str "heads") = some false := by decide +kernel
theorem sq2_3 : eqED false (.str "set") (.str "heads") = some false := by decide +kernel
theorem se2_4 : cmpD .eq (.str "set") (.str "first") = some false := by decide +kernel
theorem sq2_4 : eqED false (.str "set") (.str "first") = some false := by decide +kernel
theorem se2_5 : cmpD .eq (.str "set") (.str "tails") = some false := by decide +kernel
theorem sq2_5 : eqED false (.str "set") (.str "tails") = some false := by decide +kernel
theorem se2_6 : cmpD .eq (.str "set") (.str "last") = some false := by decide +kernel
theorem sq2_6 : eqED false (.str "set") (.str "last") = some false := by decide +kernel
theorem se2_7 : cmpD .eq (.str "set") (.str "ends") = some false := by decide +kernel
theorem sq2_7 : eqED false (.str "set") (.str "ends") = some false := by decide +kernel
theorem se3_0 : cmpD .eq (.str "heads") (.str "list") = some false := by decide +kernel
theorem sq3_0 : eqED false (.str "heads") (.str "list") = some false := by decide +kernel
theorem se3_1 : cmpD .eq (.str "heads") (.str "bag") = some false := by decide +kernel
theorem sq3_1 : eqED false (.str "heads") (.str "bag") = some false := by decide +kernel
theorem se3_2 : cmpD .eq (.str "heads") (.str "set") = some false := by decide +kernel
theorem sq3_2 : eqED false (.str "heads") (.str "set") = some false := by decide +kernel
theorem se3_3 : cmpD .eq (.str "heads") (.str "heads") = some true := by decide +kernel
theorem sq3_3 : eqED false (.str "heads") (.str "heads") = some true := by decide +kernel
theorem se3_4 : cmpD .eq (.str "heads") (.str "first") = some false := by decide +kernel
theorem sq3_4 : eqED false (.str "heads") (.str "first") = some false := by decide +kernel
theorem se3_5 : cmpD .eq (.str "heads") (.str "tails") = some false := by decide +kernel
theorem sq3_5 : eqED false (.str "heads") (.str "tails") = some false := by decide +kernel
theorem se3_6 : cmpD .eq (.str "heads") (.str "last") = some false := by decide +kernel
theorem sq3_6 : eqED false (.str "heads") (.str "last") = some false := by decide +kernel
theorem se3_7 : cmpD .eq (.str "heads") (.str "ends") = some false := by decide +kernel
theorem sq3_7 : eqED false (.str "heads") (.str "ends") = some false := by decide +kernel
theorem se4_0 : cmpD .eq (.str "first") (.str "list") = some false := by decide +kernel
theorem sq4_0 : eqED false (.str "first") (.str "list") = some false := by decide +kernel
theorem se4_1 : cmpD .eq (.str "first") (.str "bag") = some false := by decide +kernel
theorem sq4_1 : eqED false (.str "first") (.str "bag") = some false := by decide +kernel
theorem se4_2 : cmpD .eq (.str "first") (.str "set") = some false := by decide +kernel
theorem sq4_2 : eqED false (.str "first") (.str "set") = some false := by decide +kernel
theorem se4_3 : cmpD .eq (.str "first") (.str "heads") = some false := by decide +kernel
theorem sq4_3 : eqED false (.str "first") (.str "heads") = some false := by decide +kernel
theorem se4_4 : cmpD .eq (.str "first") (.str "first") = some true := by decide +kernel
theorem sq4_4 : eqED false (.str "first") (.str "first") = some true := by decide +kernel
theorem se4_5 : cmpD .eq (.str "first") (.str "tails") = some false := by decide +kernel
theorem sq4_5 : eqED false (.str "first") (.str "tails") = some false := by decide +kernel
theorem se4_6 : cmpD .eq (.str "first") (.str "last") = some false := by decide +kernel
theorem sq4_6 : eqED false (.str "first") (.str "last") = some false := by decide +kernel
theorem se4_7 : cmpD .eq (.str "first") (.str "ends") = some false := by decide +kernel
theorem sq4_7 : eqED false (.str "first") (.str "ends") = some false := by decide +kernel
theorem se5_0 : cmpD .eq (.str "tails") (.str "list") = some false := by decide +kernel
theorem sq5_0 : eqED false (.str "tails") (.str "list") = some false := by decide +kernel
theorem se5_1 : cmpD .eq (.str "tails") (.str "bag") = some false := by decide +kernel
theorem sq5_1 : eqED false (.str "tails") (.str "bag") = some false := by decide +kernel
theorem se5_2 : cmpD .eq (.str "tails") (.str "set") = some false := by decide +kernel
theorem sq5_2 : eqED false (.str "tails") (.str "set") = some false := by decide +kernel
theorem se5_3 : cmpD .eq (.str "tails") (.str "heads") = some false := by decide +kernel
theorem sq5_3 : eqED false (.str "tails") (.str "heads") = some false := by decide +kernel
theorem se5_4 : cmpD .eq (.str "tails") (.str "first") = some false := by decide +kernel
theorem sq5_4 : eqED false (.str "tails") (.str "first") = some false := by decide +kernel
theorem se5_5 : cmpD .eq (.str "tails") (.str "tails") = some true := by decide +kernel
theorem sq5_5 : eqED false (.str "tails") (.str "tails") = some true := by decide +kernel
theorem se5_6 : cmpD .eq (.str "tails") (.str "last") = some false := by decide +kernel
theorem sq5_6 : eqED false (.str "tails") (.str "last") = some false := by decide +kernel
theorem se5_7 : cmpD .eq (.str "tails") (.str "ends") = some false := by decide +kernel
theorem sq5_7 : eqED false (.str "tails") (.str "ends") = some false := by decide +kernel
theorem se6_0 : cmpD .eq (.str "last") (.str "list") = some false := by decide +kernel
theorem sq6_0 : eqED false (.str "last") (.str "list") = some false := by decide +kernel
theorem se6_1 : cmpD .eq (.str "last") (.str "bag") = some false := by decide +kernel
theorem sq6_1 : eqED false (.str "last") (.str "bag") = some false := by decide +kernel
theorem se6_2 : cmpD .eq (.str "last") (.str "set") = some false := by decide +kernel
theorem sq6_2 : eqED false (.str "last") (.str "set") = some false := by decide +kernel
theorem se6_3 : cmpD .eq (.str "last") (.str "heads") = some false := by decide +kernel
theorem sq6_3 : eqED false (.str "last") (.str "heads") = some false := by decide +kernel
theorem se6_4 : cmpD .eq (.str "last") (.str "first") = some false := by decide +kernel
theorem sq6_4 : eqED false (.str "last") (.str "first") = some false := by decide +kernel
theorem se6_5 : cmpD .eq (.str "last") (.str "tails") = some false := by decide +kernel
theorem sq6_5 : eqED false (.str "last") (.str "tails") = some false := by decide +kernel
theorem se6_6 : cmpD .eq (.str "last") (.str "last") = some true := by decide +kernel
theorem sq6_6 : eqED false (.str "last") (.str "last") = some true := by decide +kernel
theorem se6_7 : cmpD .eq (.str "last") (.str "ends") = some false := by decide +kernel
theorem sq6_7 : eqED false (.str "last") (.str "ends") = some false := by decide +kernel
theorem se7_0 : cmpD .eq (.str "ends") (.str "list") = some false := by decide +kernel
theorem sq7_0 : eqED false (.str "ends") (.str "list") = some false := by decide +kernel
theorem se7_1 : cmpD .eq (.str "ends") (.str "bag") = some false := by decide +kernel
theorem sq7_1 : eqED false (.str "ends") (.str "bag") = some false := by decide +kernel
theorem se7_2 : cmpD .eq (.str "ends") (.str "set") = some false := by decide +kernel
theorem sq7_2 : eqED false (.str "ends") (.str "set") = some false := by decide +kernel
theorem se7_3 : cmpD .eq (.str "ends") (.str "heads") = some false := by decide +kernel
theorem sq7_3 : eqED false (.str "ends") (.str "heads") = some false := by decide +kernel
theorem se7_4 : cmpD .eq (.str "ends") (.str "first") = some false := by decide +kernel
theorem sq7_4 : eqED false (.str "ends") (.str "first") = some false := by decide +kernel
theorem se7_5 : cmpD .eq (.str "ends") (.str "tails") = some false := by decide +kernel
theorem sq7_5 : eqED false (.str "ends") (.str "tails") = some false := by decide +kernel
theorem se7_6 : cmpD .eq (.str "ends") (.str "last") = some false := by decide +kernel
theorem sq7_6 : eqED false (.str "ends") (.str "last") = some false := by decide +kernel
theorem se7_7 : cmpD .eq (.str "ends") (.str "ends") = some true := by decide +kernel
theorem sq7_7 : eqED false (.str "ends") (.str "ends") = some true := by decide +kernel
end LW

end
section
set_option Elab.async false
set_option linter.all false
set_option maxRecDepth 100000
set_option maxHeartbeats 4000000
namespace LW
open QL KL
theorem g_letter (d : D) (h : okT d) : Gv F19 [d] (.fz (.bl (isL d))) := by
  refine gv_w rfl ?_
  cases d with
  | int i =>
    by_cases h1 : 0 ≤ i
    · simp -implicitDefEqProofs [exs, ex, ev, evs, evA, evI, exm, isLr, useSl, putSl_eq, moveSl, lookSl, lookLs, liveSl, chgSl, dicSl, putAll, bindT, isTys, isTy, isN, isNonE, intP, optR, L2.atI, L2.ixN, LIM, w_ok, w_er, bb19, glo19, hd, Hd.gl, isL, h1]
    · simp -implicitDefEqProofs [exs, ex, ev, evs, evA, evI, exm, isLr, useSl, putSl_eq, moveSl, lookSl, lookLs, liveSl, chgSl, dicSl, putAll, bindT, isTys, isTy, isN, isNonE, intP, optR, L2.atI, L2.ixN, LIM, w_ok, w_er, bb19, glo19, hd, Hd.gl, isL, h1]
  | dic _ _ => exact h.elim
  | ob _ _ _ => exact h.elim
  | rol _ => exact h.elim
  | _ => simp -implicitDefEqProofs [exs, ex, ev, evs, evA, evI, exm, isLr, useSl, putSl_eq, moveSl, lookSl, lookLs, liveSl, chgSl, dicSl, putAll, bindT, isTys, isTy, isN, isNonE, intP, optR, L2.atI, L2.ixN, LIM, w_ok, w_er, bb19, isL]
theorem g_kn0 : Gv F18 [.str "list"] (.fz (.ob 0 [] [])) := gv_w rfl (by simp -implicitDefEqProofs [exs, ex, ev, evs, evA, evI, exm, isLr, useSl, putSl_eq, moveSl, lookSl, lookLs, liveSl, chgSl, dicSl, putAll, bindT, isTys, isTy, isN, isNonE, intP, optR, L2.atI, L2.ixN, LIM, w_ok, w_er, bb18, sq0_0, sq0_1, sq0_2, sq0_3, sq0_4, sq0_5, sq0_6, sq0_7])
theorem g_kn1 : Gv F18 [.str "bag"] (.fz (.ob 1 [] [])) := gv_w rfl (by simp -implicitDefEqProofs [exs, ex, ev, evs, evA, evI, exm, isLr, useSl, putSl_eq, moveSl, lookSl, lookLs, liveSl, chgSl, dicSl, putAll, bindT, isTys, isTy, isN, isNonE, intP, optR, L2.atI, L2.ixN, LIM, w_ok, w_er, bb18, sq1_0, sq1_1, sq1_2, sq1_3, sq1_4, sq1_5, sq1_6, sq1_7])
theorem g_kn2 : Gv F18 [.str "set"] (.fz (.ob 2 [] [])) := gv_w rfl (by simp -implicitDefEqProofs [exs, ex, ev, evs, evA, evI, exm, isLr, useSl, putSl_eq, moveSl, lookSl, lookLs, liveSl, chgSl, dicSl, putAll, bindT, isTys, isTy, isN, isNonE, intP, optR, L2.atI, L2.ixN, LIM, w_ok, w_er, bb18, sq2_0, sq2_1, sq2_2, sq2_3, sq2_4, sq2_5, sq2_6, sq2_7])
theorem g_kn3 : Gv F18 [.str "heads"] (.fz (.ob 3 [] [])) := gv_w rfl (by simp -implicitDefEqProofs [exs, ex, ev, evs, evA, evI, exm, isLr, useSl, putSl_eq, moveSl, lookSl, lookLs, liveSl, chgSl, dicSl, putAll, bindT, isTys, isTy, isN, isNonE, intP, optR, L2.atI, L2.ixN, LIM, w_ok, w_er, bb18, sq3_0, sq3_1, sq3_2, sq3_3, sq3_4, sq3_5, sq3_6, sq3_7])
theorem g_kn4 : Gv F18 [.str "first"] (.fz (.ob 4 [] [])) := gv_w rfl (by simp -implicitDefEqProofs [exs, ex, ev, evs, evA, evI, exm, isLr, useSl, putSl_eq, moveSl, lookSl, lookLs, liveSl, chgSl, dicSl, putAll, bindT, isTys, isTy, isN, isNonE, intP, optR, L2.atI, L2.ixN, LIM, w_ok, w_er, bb18, sq4_0, sq4_1, sq4_2, sq4_3, sq4_4, sq4_5, sq4_6, sq4_7])
theorem g_kn5 : Gv F18 [.str "tails"] (.fz (.ob 5 [] [])) := gv_w rfl (by simp -implicitDefEqProofs [exs, ex, ev, evs, evA, evI, exm, isLr, useSl, putSl_eq, moveSl, lookSl, lookLs, liveSl, chgSl, dicSl, putAll, bindT, isTys, isTy, isN, isNonE, intP, optR, L2.atI, L2.ixN, LIM, w_ok, w_er, bb18, sq5_0, sq5_1, sq5_2, sq5_3, sq5_4, sq5_5, sq5_6, sq5_7])
theorem g_kn6 : Gv F18 [.str "last"] (.fz (.ob 6 [] [])) := gv_w rfl (by simp -implicitDefEqProofs [exs, ex, ev, evs, evA, evI, exm, isLr, useSl, putSl_eq, moveSl, lookSl, lookLs, liveSl, chgSl, dicSl, putAll, bindT, isTys, isTy, isN, isNonE, intP, optR, L2.atI, L2.ixN, LIM, w_ok, w_er, bb18, sq6_0, sq6_1, sq6_2, sq6_3, sq6_4, sq6_5, sq6_6, sq6_7])
theorem g_kn7 : Gv F18 [.str "ends"] (.fz (.ob 7 [] [])) := gv_w rfl (by simp -implicitDefEqProofs [exs, ex, ev, evs, evA, evI, exm, isLr, useSl, putSl_eq, moveSl, lookSl, lookLs, liveSl, chgSl, dicSl, putAll, bindT, isTys, isTy, isN, isNonE, intP, optR, L2.atI, L2.ixN, LIM, w_ok, w_er, bb18, sq7_0, sq7_1, sq7_2, sq7_3, sq7_4, sq7_5, sq7_6, sq7_7])
theorem g_kn (k : Nat) (h : k < 8) : Gv F18 [.str (kn k)] (.fz (.ob k [] [])) := by
  match k, h with
  | 0, _ => exact g_kn0
  | 1, _ => exact g_kn1
  | 2, _ => exact g_kn2
  | 3, _ => exact g_kn3
  | 4, _ => exact g_kn4
  | 5, _ => exact g_kn5
  | 6, _ => exact g_kn6
  | 7, _ => exact g_kn7
theorem p0t (c : Nat) (ds : List D) : Gv F10 [.ob c [] [], .tup ds] (.fz (.tup ds)) := gv_w rfl (by simp -implicitDefEqProofs [exs, ex, ev, evs, evA, evI, exm, isLr, useSl, putSl_eq, moveSl, lookSl, lookLs, liveSl, chgSl, dicSl, putAll, bindT, isTys, isTy, isN, isNonE, intP, optR, L2.atI, L2.ixN, LIM, w_ok, w_er, bb10])
theorem p0l (c : Nat) (ds : List D) : Gv F10 [.ob c [] [], .lst ds] (.fz (.tup ds)) := gv_w rfl (by simp -implicitDefEqProofs [exs, ex, ev, evs, evA, evI, exm, isLr, useSl, putSl_eq, moveSl, lookSl, lookLs, liveSl, chgSl, dicSl, putAll, bindT, isTys, isTy, isN, isNonE, intP, optR, L2.atI, L2.ixN, LIM, w_ok, w_er, bb10])
theorem p0 (c : Nat) {d : D} {l : List Int} (h : Row d l) : Gv F10 [.ob c [] [], d] (.fz (Wd l)) := by
  rcases h with rfl | rfl
  · exact p0t c _
  · exact p0l c _
theorem zk {c d : Nat} (h : (c, d) ∈ zc.kil) : zc.kin c d = true := decide_eq_true h
theorem p1 (c : Nat) {d : D} {l : List Int} (hc : zc.kin c 1 = true) (h : Row d l) : Gv F11 [.ob c [] [], d] (.fz (Wd (sortI l))) := gv_w rfl (by simp -implicitDefEqProofs [exs, ex, ev, evs, evA, evI, exm, isLr, useSl, putSl_eq, moveSl, lookSl, lookLs, liveSl, chgSl, dicSl, putAll, bindT, isTys, isTy, isN, isNonE, intP, optR, L2.atI, L2.ixN, LIM, w_ok, w_er, bb11, at11_10, kin11, hc, gc2 (p0 c h)])
theorem loop_set (a b : D) : ∀ (l acc : List Int) (t : Sl), nlp t = true → acc.length + l.length ≤ 1000 → ∃ t', forGo [3] (exs P12 lb12_0) (l.map D.int) [.fz a, .fz b, .lv (acc.map D.int), t] = .ok .nx [.fz a, .fz b, .lv ((once acc l).map D.int), t']
  | [], acc, t, _, _ => ⟨t, rfl⟩
  | x :: l, acc, t, ht, hl => by
    have lim : acc.length < 100000 := by simp at hl; omega
    have ew := ne_l (lst acc) [x]
    simp only [List.map_cons, List.map_nil] at ew
    have step : exs P12 lb12_0 [.fz a, .fz b, .lv (acc.map D.int), .fz (.int x)] = .ok .nx [.fz a, .fz b, .lv ((if lst acc = [x] then acc else acc ++ [x]).map D.int), .fz (.int x)] := by
      by_cases e : lst acc = [x]
      · rw [e] at ew
        simp only [List.map_cons, List.map_nil, decide_true, Bool.not_true] at ew
        simp -implicitDefEqProofs [exs, ex, ev, evs, evA, evI, exm, isLr, useSl, putSl_eq, moveSl, lookSl, lookLs, liveSl, chgSl, dicSl, putAll, bindT, isTys, isTy, isN, isNonE, intP, optR, L2.atI, L2.ixN, LIM, w_ok, w_er, lb12_0, cut_m1, e, ew]
      · simp -implicitDefEqProofs [exs, ex, ev, evs, evA, evI, exm, isLr, useSl, putSl_eq, moveSl, lookSl, lookLs, liveSl, chgSl, dicSl, putAll, bindT, isTys, isTy, isN, isNonE, intP, optR, L2.atI, L2.ixN, LIM, w_ok, w_er, lb12_0, cut_m1, ew, e, lim]
    obtain ⟨t', e2⟩ := loop_set a b l (if lst acc = [x] then acc else acc ++ [x]) (.fz (.int x)) rfl (by split <;> simp at hl ⊢ <;> omega)
    refine ⟨t', ?_⟩
    have eb : bindT [.fz a, .fz b, .lv (acc.map D.int), t] [3] (.int x) = some [.fz a, .fz b, .lv (acc.map D.int), .fz (.int x)] := by simp -implicitDefEqProofs [exs, ex, ev, evs, evA, evI, exm, isLr, useSl, putSl_eq, moveSl, lookSl, lookLs, liveSl, chgSl, dicSl, putAll, bindT, isTys, isTy, isN, isNonE, intP, optR, L2.atI, L2.ixN, LIM, w_ok, w_er, ht]
    rw [List.map_cons]
    unfold forGo
    rw [eb]
    dsimp only
    rw [step]
    exact e2
theorem p2 (c : Nat) {d : D} {l : List Int} (hc : zc.kin c 2 = true) (hc1 : zc.kin c 1 = true) (hl : l.length ≤ 1000) (h : Row d l) : Gv F12 [.ob c [] [], d] (.fz (Wd (sortU l))) := by
  obtain ⟨t', e⟩ := loop_set (.ob c [] []) d (sortI l) [] .un rfl (by rw [(sortI_perm l).length_eq]; simp; omega)
  simp only [List.map_nil, once_sort] at e
  exact gv_w rfl (by simp -implicitDefEqProofs [exs, ex, ev, evs, evA, evI, exm, isLr, useSl, putSl_eq, moveSl, lookSl, lookLs, liveSl, chgSl, dicSl, putAll, bindT, isTys, isTy, isN, isNonE, intP, optR, L2.atI, L2.ixN, LIM, w_ok, w_er, bb12, at12_11, kin12, hc, gc2 (p1 c hc1 h), tupOf, e])
theorem loop_heads (a b : D) : ∀ (l acc : List Int) (t : Sl), nlp t = true → acc.length + l.length ≤ 1000 → ∃ t', forGo [3] (exs P13 lb13_0) (l.map D.int) [.fz a, .fz b, .dv (sK acc) (sV acc), t] = .ok .nx [.fz a, .fz b, .dv (sK (uniqL acc l)) (sV (uniqL acc l)), t']
  | [], acc, t, _, _ => ⟨t, rfl⟩
  | x :: l, acc, t, ht, hl => by
    have lim : acc.length < 100000 := by simp at hl; omega
    have ed := dput_seen acc x
    have step : exs P13 lb13_0 [.fz a, .fz b, .dv (sK acc) (sV acc), .fz (.int x)] = .ok .nx [.fz a, .fz b, .dv (sK (if x ∈ acc then acc else acc ++ [x])) (sV (if x ∈ acc then acc else acc ++ [x])), .fz (.int x)] := by
      simp only [exs, ex, ev, lb13_0, useSl, List.getElem?_cons_succ, List.getElem?_cons_zero, e_bok, e_dfz, dicSl, optR, dKey, List.length_map, LIM, lim, if_true, ed, List.set_cons_succ, List.set_cons_zero]
    obtain ⟨t', e2⟩ := loop_heads a b l (if x ∈ acc then acc else acc ++ [x]) (.fz (.int x)) rfl (by split <;> simp at hl ⊢ <;> omega)
    refine ⟨t', ?_⟩
    have eb : bindT [.fz a, .fz b, .dv (sK acc) (sV acc), t] [3] (.int x) = some [.fz a, .fz b, .dv (sK acc) (sV acc), .fz (.int x)] := by simp -implicitDefEqProofs [exs, ex, ev, evs, evA, evI, exm, isLr, useSl, putSl_eq, moveSl, lookSl, lookLs, liveSl, chgSl, dicSl, putAll, bindT, isTys, isTy, isN, isNonE, intP, optR, L2.atI, L2.ixN, LIM, w_ok, w_er, ht]
    rw [List.map_cons]
    unfold forGo
    rw [eb]
    dsimp only
    rw [step]
    exact e2
theorem p3 (c : Nat) {d : D} {l : List Int} (hc : zc.kin c 3 = true) (hl : l.length ≤ 1000) (h : Row d l) : Gv F13 [.ob c [] [], d] (.fz (Wd (heads l))) := by
  obtain ⟨t', e⟩ := loop_heads (.ob c [] []) d l [] .un rfl (by simp; omega)
  simp only [sK, sV, List.map_nil, uniq_heads] at e
  have ek := keys_seen (heads l)
  exact gv_w rfl (by simp -implicitDefEqProofs [exs, ex, ev, evs, evA, evI, exm, isLr, useSl, putSl_eq, moveSl, lookSl, lookLs, liveSl, chgSl, dicSl, putAll, bindT, isTys, isTy, isN, isNonE, intP, optR, L2.atI, L2.ixN, LIM, w_ok, w_er, bb13, at13_10, kin13, hc, gc2 (p0 c h), tupOf, e, ek, Rv.sl])
theorem p4 (c : Nat) {d : D} {l : List Int} (hc : zc.kin c 4 = true) (hc3 : zc.kin c 3 = true) (hl : l.length ≤ 1000) (h : Row d l) : Gv F14 [.ob c [] [], d] (.fz (Wd (l.take 1))) := by
  have e : cutL (heads l) none (some 1) = l.take 1 := by
    rw [cut_hi (by decide)]
    cases l with
    | nil => rfl
    | cons x r => unfold heads; rw [selH_neg (by simp)]; simp
  exact gv_w rfl (by simp -implicitDefEqProofs [exs, ex, ev, evs, evA, evI, exm, isLr, useSl, putSl_eq, moveSl, lookSl, lookLs, liveSl, chgSl, dicSl, putAll, bindT, isTys, isTy, isN, isNonE, intP, optR, L2.atI, L2.ixN, LIM, w_ok, w_er, bb14, at14_13, kin14, hc, gc2 (p3 c hc3 hl h), e])
theorem loop_tails (a b : D) : ∀ (l acc : List Int) (t : Sl), nlp t = true → acc.length + l.length ≤ 1000 → ∃ t', forGo [3] (exs P15 lb15_0) (l.map D.int) [.fz a, .fz b, .dv (sK acc) (sV acc), t] = .ok .nx [.fz a, .fz b, .dv (sK (uniqL acc l)) (sV (uniqL acc l)), t']
  | [], acc, t, _, _ => ⟨t, rfl⟩
  | x :: l, acc, t, ht, hl => by
    have lim : acc.length < 100000 := by simp at hl; omega
    have ed := dput_seen acc x
    have step : exs P15 lb15_0 [.fz a, .fz b, .dv (sK acc) (sV acc), .fz (.int x)] = .ok .nx [.fz a, .fz b, .dv (sK (if x ∈ acc then acc else acc ++ [x])) (sV (if x ∈ acc then acc else acc ++ [x])), .fz (.int x)] := by
      simp only [exs, ex, ev, lb15_0, useSl, List.getElem?_cons_succ, List.getElem?_cons_zero, e_bok, e_dfz, dicSl, optR, dKey, List.length_map, LIM, lim, if_true, ed, List.set_cons_succ, List.set_cons_zero]
    obtain ⟨t', e2⟩ := loop_tails a b l (if x ∈ acc then acc else acc ++ [x]) (.fz (.int x)) rfl (by split <;> simp at hl ⊢ <;> omega)
    refine ⟨t', ?_⟩
    have eb : bindT [.fz a, .fz b, .dv (sK acc) (sV acc), t] [3] (.int x) = some [.fz a, .fz b, .dv (sK acc) (sV acc), .fz (.int x)] := by simp -implicitDefEqProofs [exs, ex, ev, evs, evA, evI, exm, isLr, useSl, putSl_eq, moveSl, lookSl, lookLs, liveSl, chgSl, dicSl, putAll, bindT, isTys, isTy, isN, isNonE, intP, optR, L2.atI, L2.ixN, LIM, w_ok, w_er, ht]
    rw [List.map_cons]
    unfold forGo
    rw [eb]
    dsimp only
    rw [step]
    exact e2
theorem p5 (c : Nat) {d : D} {l : List Int} (hc : zc.kin c 5 = true) (hl : l.length ≤ 1000) (h : Row d l) : Gv F15 [.ob c [] [], d] (.fz (Wd (tails l))) := by
  obtain ⟨t', e⟩ := loop_tails (.ob c [] []) d l.reverse [] .un rfl (by simp; omega)
  simp only [sK, sV, List.map_nil, uniq_heads, List.map_reverse] at e
  have ek := keys_seen (heads l.reverse)
  exact gv_w rfl (by simp -implicitDefEqProofs [exs, ex, ev, evs, evA, evI, exm, isLr, useSl, putSl_eq, moveSl, lookSl, lookLs, liveSl, chgSl, dicSl, putAll, bindT, isTys, isTy, isN, isNonE, intP, optR, L2.atI, L2.ixN, LIM, w_ok, w_er, bb15, at15_10, kin15, hc, gc2 (p0 c h), tupOf, e, ek, Rv.sl, tails])
theorem p6 (c : Nat) {d : D} {l : List Int} (hc : zc.kin c 6 = true) (hc5 : zc.kin c 5 = true) (hl : l.length ≤ 1000) (h : Row d l) : Gv F16 [.ob c [] [], d] (.fz (Wd (lst l))) := by
  have e : lst (tails l) = lst l := by
    cases hr : l.reverse with
    | nil =>
      have : l = [] := by simpa using hr
      subst this; rfl
    | cons x r =>
      have e1 : l = r.reverse ++ [x] := by rw [← List.reverse_reverse l, hr]; simp
      unfold tails heads
      rw [hr, selH_neg (by simp), List.reverse_cons, lst_snoc, e1, lst_snoc]
  exact gv_w rfl (by simp -implicitDefEqProofs [exs, ex, ev, evs, evA, evI, exm, isLr, useSl, putSl_eq, moveSl, lookSl, lookLs, liveSl, chgSl, dicSl, putAll, bindT, isTys, isTy, isN, isNonE, intP, optR, L2.atI, L2.ixN, LIM, w_ok, w_er, bb16, at16_15, kin16, hc, gc2 (p5 c hc5 hl h), cut_m1, e])
theorem p7 (c : Nat) {d : D} {l : List Int} (hc : zc.kin c 7 = true) (hl : l.length ≤ 1000) (h : Row d l) : Gv F17 [.ob c [] [], d] (.fz (Wd (ends l))) := by
  obtain ⟨a, ha⟩ : ∃ a, a = l.take 1 := ⟨_, rfl⟩
  have e1 : cutL l none (some 1) = a := by rw [ha]; exact cut_hi (by decide)
  have n1 : a.length + (lst l).length ≤ 100000 := by have := lst_len l; rw [ha, List.length_take]; omega
  have e2 := add_w n1
  have e3 : ends l = a ++ lst l := by rw [ha]; rfl
  rw [e3]
  exact gv_w rfl (by simp -implicitDefEqProofs [exs, ex, ev, evs, evA, evI, exm, isLr, useSl, putSl_eq, moveSl, lookSl, lookLs, liveSl, chgSl, dicSl, putAll, bindT, isTys, isTy, isN, isNonE, intP, optR, L2.atI, L2.ixN, LIM, w_ok, w_er, bb17, at17_10, kin17, hc, gc2 (p0 c h), cut_m1, e1, e2])
end LW

end
section
set_option Elab.async false
set_option linter.all false
set_option maxRecDepth 100000
set_option maxHeartbeats 4000000
namespace LW
open QL KL
theorem loop_check (x : D) (ds : List D) (hx : RowD x ds) (hT : ∀ d ∈ ds, okT d) : ∀ (n a : Nat) (t : Sl), nlp t = true → a + n = ds.length →
    ((∀ d ∈ ds.drop a, isL d = true) → ∃ t', forGo [1] (exs P20 lb20_0) (rangeD (a : Int) n) [.fz x, t] = .ok .nx [.fz x, t']) ∧
    (∀ (j : Nat) (hj : j < ds.length), a ≤ j → isL ds[j] = false → (∀ (i : Nat) (hi : i < j), a ≤ i → isL (ds[i]'(Nat.lt_trans hi hj)) = true) → forGo [1] (exs P20 lb20_0) (rangeD (a : Int) n) [.fz x, t] = .er ⟨1, some (.int j)⟩ [.fz x, .fz (.int j)]) := by
  intro n
  induction n with
  | zero =>
    intro a t _ hn
    exact ⟨fun _ => ⟨t, rfl⟩, fun j hj ha => by omega⟩
  | succ n ih =>
    intro a t ht hn
    have ha : a < ds.length := by omega
    have eb : bindT [.fz x, t] [1] (.int a) = some [.fz x, .fz (.int a)] := by simp -implicitDefEqProofs [exs, ex, ev, evs, evA, evI, exm, isLr, useSl, putSl_eq, moveSl, lookSl, lookLs, liveSl, chgSl, dicSl, putAll, bindT, isTys, isTy, isN, isNonE, intP, optR, L2.atI, L2.ixN, LIM, w_ok, w_er, ht]
    have er : rangeD (a : Int) (n + 1) = .int a :: rangeD ((a + 1 : Nat) : Int) n := rfl
    have ei : ev P20 (.ixv 0 (.v 1)) [.fz x, .fz (.int a)] = .ok (.fz ds[a]) [.fz x, .fz (.int a)] := by
      have e0 : L2.atI ds (a : Int) = some ds[a] := atI_nat (List.getElem?_eq_getElem ha)
      rcases hx with rfl | rfl
      · simp [ev, useSl, lookSl, optR, e0]
      · simp [ev, useSl, lookSl, optR, e0]
    have hl := g_letter ds[a] (hT _ (List.getElem_mem _))
    obtain ⟨i1, i2⟩ := ih (a + 1) (.fz (.int a)) rfl (by omega)
    rw [er]
    unfold forGo
    rw [eb]
    dsimp only
    cases hb : isL ds[a] with
    | true =>
      have step : exs P20 lb20_0 [.fz x, .fz (.int a)] = .ok .nx [.fz x, .fz (.int a)] := by
        rw [hb] at hl
        simp [exs, ex, lb20_0, ev.eq_def P20 (.not_ _), ev.eq_def P20 (.call _ _), evA, isLr, at20_19, ei, gc1 hl]
      rw [step]
      refine ⟨fun h => i1 fun d hd => h d (by rw [List.drop_eq_getElem_cons ha]; exact List.mem_cons_of_mem _ hd), fun j hj aj hf hi => i2 j hj ?_ hf fun i hi2 ai => hi i hi2 (by omega)⟩
      by_cases e : a = j
      · subst e; rw [hb] at hf; cases hf
      · omega
    | false =>
      have step : exs P20 lb20_0 [.fz x, .fz (.int a)] = .er ⟨1, some (.int a)⟩ [.fz x, .fz (.int a)] := by
        rw [hb] at hl
        simp [exs, ex, lb20_0, ev.eq_def P20 (.not_ _), ev.eq_def P20 (.call _ _), ev.eq_def P20 (.v _), useSl, evA, isLr, at20_19, ei, gc1 hl]
      rw [step]
      refine ⟨fun h => ?_, fun j hj aj hf hi => ?_⟩
      · have := h ds[a] (by rw [List.drop_eq_getElem_cons ha]; exact List.mem_cons_self ..)
        rw [hb] at this; cases this
      · by_cases e : a = j
        · subst e; rfl
        · have := hi a (by omega) (Nat.le_refl _)
          rw [hb] at this; cases this
theorem check_ok (x : D) (ds : List D) (hx : RowD x ds) (hT : ∀ d ∈ ds, okT d) (hn : ds.length ≤ 100000) (h : ∀ d ∈ ds, isL d = true) : Gv F20 [x] (.fz (.tup ds)) := by
  obtain ⟨t', e⟩ := (loop_check x ds hx hT ds.length 0 .un rfl (by omega)).1 (by simpa using h)
  obtain ⟨z, hz⟩ : ∃ z : Int, (ds.length : Int) = z := ⟨_, rfl⟩
  have b1 : (-4611686018427387904 : Int) ≤ z := by omega
  have b2 : z < 4611686018427387904 := by omega
  have e0 : z.toNat = ds.length := by omega
  rw [Int.natCast_zero] at e
  rcases hx with rfl | rfl
  · exact gv_w rfl (by simp -implicitDefEqProofs [exs, ex, ev, evs, evA, evI, exm, isLr, useSl, putSl_eq, moveSl, lookSl, lookLs, liveSl, chgSl, dicSl, putAll, bindT, isTys, isTy, isN, isNonE, intP, optR, L2.atI, L2.ixN, LIM, w_ok, w_er, bb20, hz, b1, b2, e0, e])
  · exact gv_w rfl (by simp -implicitDefEqProofs [exs, ex, ev, evs, evA, evI, exm, isLr, useSl, putSl_eq, moveSl, lookSl, lookLs, liveSl, chgSl, dicSl, putAll, bindT, isTys, isTy, isN, isNonE, intP, optR, L2.atI, L2.ixN, LIM, w_ok, w_er, bb20, hz, b1, b2, e0, e])
theorem check_bad (x : D) (ds : List D) (hx : RowD x ds) (hT : ∀ d ∈ ds, okT d) (hn : ds.length ≤ 100000) (j : Nat) (hj : j < ds.length) (hf : isL ds[j] = false) (hi : ∀ (i : Nat) (hi : i < j), isL (ds[i]'(Nat.lt_trans hi hj)) = true) : Ge F20 [x] ⟨1, some (.int j)⟩ := by
  have e := (loop_check x ds hx hT ds.length 0 .un rfl (by omega)).2 j hj (Nat.zero_le _) hf fun i h2 _ => hi i h2
  obtain ⟨z, hz⟩ : ∃ z : Int, (ds.length : Int) = z := ⟨_, rfl⟩
  have b1 : (-4611686018427387904 : Int) ≤ z := by omega
  have b2 : z < 4611686018427387904 := by omega
  have e0 : z.toNat = ds.length := by omega
  rw [Int.natCast_zero] at e
  rcases hx with rfl | rfl
  · exact ge_w rfl (by simp -implicitDefEqProofs [exs, ex, ev, evs, evA, evI, exm, isLr, useSl, putSl_eq, moveSl, lookSl, lookLs, liveSl, chgSl, dicSl, putAll, bindT, isTys, isTy, isN, isNonE, intP, optR, L2.atI, L2.ixN, LIM, w_ok, w_er, bb20, hz, b1, b2, e0, e])
  · exact ge_w rfl (by simp -implicitDefEqProofs [exs, ex, ev, evs, evA, evI, exm, isLr, useSl, putSl_eq, moveSl, lookSl, lookLs, liveSl, chgSl, dicSl, putAll, bindT, isTys, isTy, isN, isNonE, intP, optR, L2.atI, L2.ixN, LIM, w_ok, w_er, bb20, hz, b1, b2, e0, e])
/-- what is no row -/
def noRow : D → Prop
  | .non => True
  | .bl _ => True
  | .int _ => True
  | .str _ => True
  | _ => False
theorem check_no (x : D) (h : noRow x) : Ge F20 [x] ⟨1, some (.int 0)⟩ := by
  cases x <;> first | (exact h.elim) | exact ge_w rfl (by simp -implicitDefEqProofs [exs, ex, ev, evs, evA, evI, exm, isLr, useSl, putSl_eq, moveSl, lookSl, lookLs, liveSl, chgSl, dicSl, putAll, bindT, isTys, isTy, isN, isNonE, intP, optR, L2.atI, L2.ixN, LIM, w_ok, w_er, bb20])
theorem Row.d {d : D} {l : List Int} (h : Row d l) : RowD d (l.map D.int) := h
theorem check_row {d : D} {l : List Int} (h : Row d l) (hl : lts l) (hn : l.length ≤ 1000) : Gv F20 [d] (.fz (Wd l)) := check_ok d _ h okT_map (by rw [List.length_map]; omega) (lts_isL hl)
theorem mt_plain_word (k : Nat) (hk : k < 8) {d : D} {l : List Int} (h : Row d l) (hl : l.length ≤ 1000) : ∃ F, ((P21.mt k 0).bind fun j => P21.fn[j]?) = some F ∧ Gv F [.ob k [] [], d] (.fz (Wd (plainL k l))) := by
  match k, hk with
  | 0, _ => exact ⟨F10, by simp [mt21, mq0_0, at21_10], p0 0 h⟩
  | 1, _ => exact ⟨F11, by simp [mt21, mq1_0, at21_11], p1 1 (by decide) h⟩
  | 2, _ => exact ⟨F12, by simp [mt21, mq2_0, at21_12], p2 2 (by decide) (by decide) hl h⟩
  | 3, _ => exact ⟨F13, by simp [mt21, mq3_0, at21_13], p3 3 (by decide) hl h⟩
  | 4, _ => exact ⟨F14, by simp [mt21, mq4_0, at21_14], p4 4 (by decide) (by decide) hl h⟩
  | 5, _ => exact ⟨F15, by simp [mt21, mq5_0, at21_15], p5 5 (by decide) hl h⟩
  | 6, _ => exact ⟨F16, by simp [mt21, mq6_0, at21_16], p6 6 (by decide) (by decide) hl h⟩
  | 7, _ => exact ⟨F17, by simp [mt21, mq7_0, at21_17], p7 7 (by decide) hl h⟩
theorem g_plain_word (k : Nat) (hk : k < 8) {d : D} {l : List Int} (h : Row d l) (hl : lts l) (hn : l.length ≤ 1000) : Gv F21 [.str (kn k), d] (.fz (Wd (plainL k l))) := by
  obtain ⟨F, e1, e2⟩ := mt_plain_word k hk (d := Wd l) (.inl rfl) hn
  rcases h with rfl | rfl
  · exact gv_w rfl (by simp -implicitDefEqProofs [exs, ex, ev, evs, evA, evI, exm, isLr, useSl, putSl_eq, moveSl, lookSl, lookLs, liveSl, chgSl, dicSl, putAll, bindT, isTys, isTy, isN, isNonE, intP, optR, L2.atI, L2.ixN, LIM, w_ok, w_er, bb21, at21_18, at21_20, gc1 (g_kn k hk), gc1 (check_row (.inl rfl) hl hn), e1, gc2 e2])
  · exact gv_w rfl (by simp -implicitDefEqProofs [exs, ex, ev, evs, evA, evI, exm, isLr, useSl, putSl_eq, moveSl, lookSl, lookLs, liveSl, chgSl, dicSl, putAll, bindT, isTys, isTy, isN, isNonE, intP, optR, L2.atI, L2.ixN, LIM, w_ok, w_er, bb21, at21_18, at21_20, gc1 (g_kn k hk), gc1 (check_row (.inr rfl) hl hn), e1, gc2 e2])
theorem plain_word_er (k : Nat) (hk : k < 8) (d : D) (x : Xn) (h : Ge F20 [d] x) : Ge F21 [.str (kn k), d] x := by
  obtain ⟨F, e1, e2⟩ := mt_plain_word k hk (d := Wd []) (.inl rfl) (by simp)
  exact ge_w rfl (by simp -implicitDefEqProofs [exs, ex, ev, evs, evA, evI, exm, isLr, useSl, putSl_eq, moveSl, lookSl, lookLs, liveSl, chgSl, dicSl, putAll, bindT, isTys, isTy, isN, isNonE, intP, optR, L2.atI, L2.ixN, LIM, w_ok, w_er, bb21, at21_18, at21_20, gc1 (g_kn k hk), gx1 h, e1])
end LW

end
section
set_option Elab.async false
set_option linter.all false
set_option maxRecDepth 100000
set_option maxHeartbeats 4000000
namespace LW
open QL KL
/-! the law's own plain words -/
theorem lp_heads (a b : D) (l : List Int) (hl : l.length ≤ 1000) : lcRun 3 (ev P8 lt8_0) (ev P8 le8_0) (rangeD 0 l.length) [.fz a, .fz b, .lv (l.map D.int), .un] = .ok (.lv ((heads l).map D.int)) [.fz a, .fz b, .lv (l.map D.int), .un] := by
  rw [← heads_law l]
  refine lc_eq (s := .un) (p := pH l) (g := gI l) rfl rfl (by rw [range_len]; unfold LIM; omega) fun d hd => ?_
  obtain ⟨i, rfl, i0, i1⟩ := range_mem _ _ d hd
  have e0 := atI_l (l := l) i0 (by omega)
  have e1 : cutL l none (some i) = l.take i.toNat := cut_hi i0
  refine ⟨?_, fun _ => ⟨.fz (gI l (.int i)), ?_, rfl⟩⟩
  · simp -implicitDefEqProofs [lt8_0, ev, lookSl, useSl, optR, isNonE, intP, e0, sl_l, e1, nin_l, pH, -List.map_take]
  · simp -implicitDefEqProofs [le8_0, ev, lookSl, useSl, optR, e0, gI]
theorem lp_tails (a b : D) (l : List Int) (hl : l.length ≤ 1000) : lcRun 3 (ev P8 lt8_1) (ev P8 le8_1) (rangeD 0 l.length) [.fz a, .fz b, .lv (l.map D.int), .un] = .ok (.lv ((tails l).map D.int)) [.fz a, .fz b, .lv (l.map D.int), .un] := by
  rw [← tails_law l]
  refine lc_eq (s := .un) (p := pT l) (g := gI l) rfl rfl (by rw [range_len]; unfold LIM; omega) fun d hd => ?_
  obtain ⟨i, rfl, i0, i1⟩ := range_mem _ _ d hd
  have e0 := atI_l (l := l) i0 (by omega)
  have e1 : cutL l (some (i + 1)) none = l.drop (i.toNat + 1) := by
    rw [cut_lo (by omega)]
    congr 1
    omega
  refine ⟨?_, fun _ => ⟨.fz (gI l (.int i)), ?_, rfl⟩⟩
  · simp -implicitDefEqProofs [lt8_1, ev, lookSl, useSl, optR, isNonE, intP, e0, sl_l, e1, nin_l, pT, -List.map_drop]
  · simp -implicitDefEqProofs [le8_1, ev, lookSl, useSl, optR, e0, gI]
theorem g_lplain (k : Nat) (hk : k < 8) (l : List Int) (hl : l.length ≤ 1000) (hu : (sortU l).length < 64) : Gv F8 [.str (kn k), Wd l] (.fz (Wd (plainL k l))) := by
  obtain ⟨z, hz⟩ : ∃ z : Int, (l.length : Int) = z := ⟨_, rfl⟩
  have b1 : (-4611686018427387904 : Int) ≤ z := by omega
  have b2 : z < 4611686018427387904 := by omega
  have e0 : z.toNat = l.length := by omega
  match k, hk with
  | 0, _ => exact gv_w rfl (by simp -implicitDefEqProofs [exs, ex, ev, evs, evA, evI, exm, isLr, useSl, putSl_eq, moveSl, lookSl, lookLs, liveSl, chgSl, dicSl, putAll, bindT, isTys, isTy, isN, isNonE, intP, optR, L2.atI, L2.ixN, LIM, w_ok, w_er, bb8, kn, se0_0, se0_1, se0_2, se0_3, se0_4, se0_5, se0_6, se0_7, plainL])
  | 1, _ => exact gv_w rfl (by simp -implicitDefEqProofs [exs, ex, ev, evs, evA, evI, exm, isLr, useSl, putSl_eq, moveSl, lookSl, lookLs, liveSl, chgSl, dicSl, putAll, bindT, isTys, isTy, isN, isNonE, intP, optR, L2.atI, L2.ixN, LIM, w_ok, w_er, bb8, kn, se1_0, se1_1, se1_2, se1_3, se1_4, se1_5, se1_6, se1_7, plainL])
  | 2, _ => exact gv_w rfl (by simp -implicitDefEqProofs [exs, ex, ev, evs, evA, evI, exm, isLr, useSl, putSl_eq, moveSl, lookSl, lookLs, liveSl, chgSl, dicSl, putAll, bindT, isTys, isTy, isN, isNonE, intP, optR, L2.atI, L2.ixN, LIM, w_ok, w_er, bb8, kn, se2_0, se2_1, se2_2, se2_3, se2_4, se2_5, se2_6, se2_7, plainL, ssetD, hl, hu])
  | 3, _ => exact gv_w rfl (by simp -implicitDefEqProofs [exs, ex, ev, evs, evA, evI, exm, isLr, useSl, putSl_eq, moveSl, lookSl, lookLs, liveSl, chgSl, dicSl, putAll, bindT, isTys, isTy, isN, isNonE, intP, optR, L2.atI, L2.ixN, LIM, w_ok, w_er, bb8, kn, se3_0, se3_1, se3_2, se3_3, se3_4, se3_5, se3_6, se3_7, plainL, hz, b1, b2, e0, lp_heads _ _ l hl])
  | 4, _ =>
    obtain ⟨a, ha⟩ : ∃ a, a = l.take 1 := ⟨_, rfl⟩
    have e1 : cutL l none (some 1) = a := by rw [ha]; exact cut_hi (by decide)
    have e2 : plainL 4 l = a := by rw [ha]; rfl
    rw [e2]
    exact gv_w rfl (by simp -implicitDefEqProofs [exs, ex, ev, evs, evA, evI, exm, isLr, useSl, putSl_eq, moveSl, lookSl, lookLs, liveSl, chgSl, dicSl, putAll, bindT, isTys, isTy, isN, isNonE, intP, optR, L2.atI, L2.ixN, LIM, w_ok, w_er, bb8, kn, se4_0, se4_1, se4_2, se4_3, se4_4, se4_5, se4_6, se4_7, e1])
  | 5, _ => exact gv_w rfl (by simp -implicitDefEqProofs [exs, ex, ev, evs, evA, evI, exm, isLr, useSl, putSl_eq, moveSl, lookSl, lookLs, liveSl, chgSl, dicSl, putAll, bindT, isTys, isTy, isN, isNonE, intP, optR, L2.atI, L2.ixN, LIM, w_ok, w_er, bb8, kn, se5_0, se5_1, se5_2, se5_3, se5_4, se5_5, se5_6, se5_7, plainL, hz, b1, b2, e0, lp_tails _ _ l hl])
  | 6, _ =>
    by_cases h0 : 0 < z
    · have e1 := atI_l (l := l) (i := z - 1) (by omega) (by omega)
      have e2 : lst l = [l.getD (z - 1).toNat 0] := by
        have hn : l ≠ [] := fun e => by rw [e] at hz; simp at hz; omega
        rw [← dl hn, lst_snoc, dl hn, List.getD_eq_getElem?_getD, List.getElem?_eq_getElem (by omega), List.getLast_eq_getElem]
        congr 2
        simp; omega
      have e3 : plainL 6 l = [l.getD (z - 1).toNat 0] := e2
      rw [e3]
      exact gv_w rfl (by simp -implicitDefEqProofs [exs, ex, ev, evs, useSl, putSl_eq, moveSl, lookSl, optR, LIM, w_ok, bb8, kn, se6_0, se6_1, se6_2, se6_3, se6_4, se6_5, se6_6, se6_7, hz, h0, e1])
    · have e3 : l = [] := by
        apply List.eq_nil_of_length_eq_zero; omega
      subst e3
      exact gv_w rfl (by simp -implicitDefEqProofs [exs, ex, ev, evs, evA, evI, exm, isLr, useSl, putSl_eq, moveSl, lookSl, lookLs, liveSl, chgSl, dicSl, putAll, bindT, isTys, isTy, isN, isNonE, intP, optR, L2.atI, L2.ixN, LIM, w_ok, w_er, bb8, kn, se6_0, se6_1, se6_2, se6_3, se6_4, se6_5, se6_6, se6_7, plainL, lst_nil])
  | 7, _ =>
    by_cases h0 : 0 < z
    · have e1 := atI_l (l := l) (i := z - 1) (by omega) (by omega)
      have e4 := atI_l (l := l) (i := 0) (by omega) (by omega)
      have hn : l ≠ [] := fun e => by rw [e] at hz; simp at hz; omega
      have e2 : lst l = [l.getD (z - 1).toNat 0] := by
        rw [← dl hn, lst_snoc, dl hn, List.getD_eq_getElem?_getD, List.getElem?_eq_getElem (by omega), List.getLast_eq_getElem]
        congr 2
        simp; omega
      have e5 : l.take 1 = [l.getD (0 : Int).toNat 0] := by
        cases l with
        | nil => exact absurd rfl hn
        | cons x r => rfl
      have e3 : plainL 7 l = [l.getD (0 : Int).toNat 0, l.getD (z - 1).toNat 0] := by
        show l.take 1 ++ lst l = _
        rw [e5, e2]; rfl
      rw [e3]
      exact gv_w rfl (by simp -implicitDefEqProofs [exs, ex, ev, evs, useSl, putSl_eq, moveSl, lookSl, optR, LIM, w_ok, bb8, kn, se7_0, se7_1, se7_2, se7_3, se7_4, se7_5, se7_6, se7_7, hz, h0, e1, e4])
    · have e3 : l = [] := by
        apply List.eq_nil_of_length_eq_zero; omega
      subst e3
      exact gv_w rfl (by simp -implicitDefEqProofs [exs, ex, ev, evs, evA, evI, exm, isLr, useSl, putSl_eq, moveSl, lookSl, lookLs, liveSl, chgSl, dicSl, putAll, bindT, isTys, isTy, isN, isNonE, intP, optR, L2.atI, L2.ixN, LIM, w_ok, w_er, bb8, kn, se7_0, se7_1, se7_2, se7_3, se7_4, se7_5, se7_6, se7_7, plainL, ends, lst_nil])
end LW

end
section
set_option Elab.async false
set_option linter.all false
set_option maxRecDepth 100000
set_option maxHeartbeats 4000000
namespace LW
open QL KL
/-! effects -/
theorem g_formed (k : Nat) (hk : k < 8) (c : Bool) (l : List Int) : Gv F25 [.ob k [] [], .bl c, Wd l] (.fz (EfD (normE k (c, l)))) := by
  obtain ⟨z, hz⟩ : ∃ z : Int, (l.length : Int) = z := ⟨_, rfl⟩
  match k, hk with
  | 0, _ => exact gv_w rfl (by simp -implicitDefEqProofs [exs, ex, ev, evs, evA, evI, exm, isLr, useSl, putSl_eq, moveSl, lookSl, lookLs, liveSl, chgSl, dicSl, putAll, bindT, isTys, isTy, isN, isNonE, intP, optR, L2.atI, L2.ixN, LIM, w_ok, w_er, bb25, ca25, cq0_0, se0_6, normE])
  | 1, _ => exact gv_w rfl (by simp -implicitDefEqProofs [exs, ex, ev, evs, evA, evI, exm, isLr, useSl, putSl_eq, moveSl, lookSl, lookLs, liveSl, chgSl, dicSl, putAll, bindT, isTys, isTy, isN, isNonE, intP, optR, L2.atI, L2.ixN, LIM, w_ok, w_er, bb25, ca25, cq1_0, se1_6, normE])
  | 2, _ => exact gv_w rfl (by simp -implicitDefEqProofs [exs, ex, ev, evs, evA, evI, exm, isLr, useSl, putSl_eq, moveSl, lookSl, lookLs, liveSl, chgSl, dicSl, putAll, bindT, isTys, isTy, isN, isNonE, intP, optR, L2.atI, L2.ixN, LIM, w_ok, w_er, bb25, ca25, cq2_0, se2_6, normE])
  | 3, _ => exact gv_w rfl (by simp -implicitDefEqProofs [exs, ex, ev, evs, evA, evI, exm, isLr, useSl, putSl_eq, moveSl, lookSl, lookLs, liveSl, chgSl, dicSl, putAll, bindT, isTys, isTy, isN, isNonE, intP, optR, L2.atI, L2.ixN, LIM, w_ok, w_er, bb25, ca25, cq3_0, se3_6, normE])
  | 4, _ => exact gv_w rfl (by simp -implicitDefEqProofs [exs, ex, ev, evs, evA, evI, exm, isLr, useSl, putSl_eq, moveSl, lookSl, lookLs, liveSl, chgSl, dicSl, putAll, bindT, isTys, isTy, isN, isNonE, intP, optR, L2.atI, L2.ixN, LIM, w_ok, w_er, bb25, ca25, cq4_0, se4_6, normE])
  | 5, _ => exact gv_w rfl (by simp -implicitDefEqProofs [exs, ex, ev, evs, evA, evI, exm, isLr, useSl, putSl_eq, moveSl, lookSl, lookLs, liveSl, chgSl, dicSl, putAll, bindT, isTys, isTy, isN, isNonE, intP, optR, L2.atI, L2.ixN, LIM, w_ok, w_er, bb25, ca25, cq5_0, se5_6, normE])
  | 7, _ => exact gv_w rfl (by simp -implicitDefEqProofs [exs, ex, ev, evs, evA, evI, exm, isLr, useSl, putSl_eq, moveSl, lookSl, lookLs, liveSl, chgSl, dicSl, putAll, bindT, isTys, isTy, isN, isNonE, intP, optR, L2.atI, L2.ixN, LIM, w_ok, w_er, bb25, ca25, cq7_0, se7_6, normE])
  | 6, _ =>
    by_cases h0 : l = []
    · subst h0
      exact gv_w rfl (by simp -implicitDefEqProofs [exs, ex, ev, evs, evA, evI, exm, isLr, useSl, putSl_eq, moveSl, lookSl, lookLs, liveSl, chgSl, dicSl, putAll, bindT, isTys, isTy, isN, isNonE, intP, optR, L2.atI, L2.ixN, LIM, w_ok, w_er, bb25, ca25, cq6_0, se6_6, normE])
    · have z0 : 0 < z := by
        have : l.length ≠ 0 := fun e => h0 (List.eq_nil_of_length_eq_zero e)
        omega
      exact gv_w rfl (by simp -implicitDefEqProofs [exs, ex, ev, evs, evA, evI, exm, isLr, useSl, putSl_eq, moveSl, lookSl, lookLs, liveSl, chgSl, dicSl, putAll, bindT, isTys, isTy, isN, isNonE, intP, optR, L2.atI, L2.ixN, LIM, w_ok, w_er, bb25, ca25, cq6_0, se6_6, normE, hz, z0, h0])
theorem mt_followed (k : Nat) (hk : k < 8) {d : D} {l : List Int} (h : Row d l) (hl : l.length ≤ 1000) : ∃ F, ((P36.mt k 0).bind fun j => P36.fn[j]?) = some F ∧ Gv F [.ob k [] [], d] (.fz (Wd (plainL k l))) := by
  match k, hk with
  | 0, _ => exact ⟨F10, by simp [mt36, mq0_0, at36_10], p0 0 h⟩
  | 1, _ => exact ⟨F11, by simp [mt36, mq1_0, at36_11], p1 1 (by decide) h⟩
  | 2, _ => exact ⟨F12, by simp [mt36, mq2_0, at36_12], p2 2 (by decide) (by decide) hl h⟩
  | 3, _ => exact ⟨F13, by simp [mt36, mq3_0, at36_13], p3 3 (by decide) hl h⟩
  | 4, _ => exact ⟨F14, by simp [mt36, mq4_0, at36_14], p4 4 (by decide) (by decide) hl h⟩
  | 5, _ => exact ⟨F15, by simp [mt36, mq5_0, at36_15], p5 5 (by decide) hl h⟩
  | 6, _ => exact ⟨F16, by simp [mt36, mq6_0, at36_16], p6 6 (by decide) (by decide) hl h⟩
  | 7, _ => exact ⟨F17, by simp [mt36, mq7_0, at36_17], p7 7 (by decide) hl h⟩
theorem g_followed (k : Nat) (hk : k < 8) (a b : Eff) (hn : a.2.length + b.2.length ≤ 1000) : Gv F36 [.ob k [] [], EfD a, EfD b] (.fz (EfD (thenE k a b))) := by
  obtain ⟨a1, a2⟩ := a
  obtain ⟨b1, b2⟩ := b
  dsimp only at hn
  obtain ⟨F, e1, e2⟩ := mt_followed k hk (d := Wd (a2 ++ b2)) (.inl rfl) (by rw [List.length_append]; exact hn)
  have z1 := add_w (a := a2) (b := b2) (by omega)
  have g := g_formed k hk a1 (plainL k (a2 ++ b2))
  cases b1 with
  | true => exact gv_w rfl (by simp -implicitDefEqProofs [exs, ex, ev, evs, evA, evI, exm, isLr, useSl, putSl_eq, moveSl, lookSl, lookLs, liveSl, chgSl, dicSl, putAll, bindT, isTys, isTy, isN, isNonE, intP, optR, L2.atI, L2.ixN, LIM, w_ok, w_er, bb36, thenE])
  | false =>
    have e : thenE k (a1, a2) (false, b2) = normE k (a1, plainL k (a2 ++ b2)) := rfl
    rw [e]
    obtain ⟨w, hw⟩ : ∃ w, w = a2 ++ b2 := ⟨_, rfl⟩
    rw [← hw] at z1 e2 g ⊢
    exact gv_w rfl (by simp -implicitDefEqProofs [exs, ex, ev, evs, evA, evI, exm, isLr, useSl, putSl_eq, moveSl, lookSl, lookLs, liveSl, chgSl, dicSl, putAll, bindT, isTys, isTy, isN, isNonE, intP, optR, L2.atI, L2.ixN, LIM, w_ok, w_er, bb36, at36_25, z1, e1, gc2 e2, gc3 g])
theorem loop_then (k : Nat) (hk : k < 8) (x0 x1 : Sl) : ∀ (es : List Eff) (w : Eff) (t : Sl), nlp t = true → w.2.length + es.length + (es.map fun e => e.2.length).sum ≤ 1000 → ∃ t', forGo [4] (exs P37 lb37_0) (es.map EfD) [x0, x1, .fz (.ob k [] []), .fz (EfD w), t] = .ok .nx [x0, x1, .fz (.ob k [] []), .fz (EfD (foldE k w es)), t']
  | [], w, t, _, _ => ⟨t, rfl⟩
  | e :: es, w, t, ht, hl => by
    rw [List.length_cons, List.map_cons, List.sum_cons] at hl
    have g := g_followed k hk w e (by omega)
    have step : exs P37 lb37_0 [x0, x1, .fz (.ob k [] []), .fz (EfD w), .fz (EfD e)] = .ok .nx [x0, x1, .fz (.ob k [] []), .fz (EfD (thenE k w e)), .fz (EfD e)] := by simp -implicitDefEqProofs [exs, ex, ev, evs, evA, evI, exm, isLr, useSl, putSl_eq, moveSl, lookSl, lookLs, liveSl, chgSl, dicSl, putAll, bindT, isTys, isTy, isN, isNonE, intP, optR, L2.atI, L2.ixN, LIM, w_ok, w_er, lb37_0, at37_36, gc3 g]
    have tl := then_len (k := k) (a := w) (b := e)
    obtain ⟨t', e2⟩ := loop_then k hk x0 x1 es (thenE k w e) (.fz (EfD e)) rfl (by omega)
    refine ⟨t', ?_⟩
    have eb : bindT [x0, x1, .fz (.ob k [] []), .fz (EfD w), t] [4] (EfD e) = some [x0, x1, .fz (.ob k [] []), .fz (EfD w), .fz (EfD e)] := by simp -implicitDefEqProofs [exs, ex, ev, evs, evA, evI, exm, isLr, useSl, putSl_eq, moveSl, lookSl, lookLs, liveSl, chgSl, dicSl, putAll, bindT, isTys, isTy, isN, isNonE, intP, optR, L2.atI, L2.ixN, LIM, w_ok, w_er, ht]
    rw [List.map_cons]
    unfold forGo
    rw [eb]
    dsimp only
    rw [step]
    exact e2
theorem g_then (k : Nat) (hk : k < 8) (es : List Eff) (hl : es.length + (es.map fun e => e.2.length).sum ≤ 1000) : Gv F37 [.str (kn k), .tup (es.map EfD)] (.fz (EfD (foldE k (false, []) es))) := by
  obtain ⟨t', e⟩ := loop_then k hk (.fz (.str (kn k))) (.fz (.tup (es.map EfD))) es (false, []) .un rfl (by simpa using hl)
  have e0 : (EfD (false, []) : D) = .tup [.bl false, .tup []] := rfl
  rw [e0] at e
  obtain ⟨ds, hds⟩ : ∃ z, z = es.map EfD := ⟨_, rfl⟩
  rw [← hds] at e ⊢
  exact gv_w rfl (by simp -implicitDefEqProofs [exs, ex, ev, evs, evA, evI, exm, isLr, useSl, putSl_eq, moveSl, lookSl, lookLs, liveSl, chgSl, dicSl, putAll, bindT, isTys, isTy, isN, isNonE, intP, optR, L2.atI, L2.ixN, LIM, w_ok, w_er, bb37, at37_18, gc1 (g_kn k hk), glo37, hd, Hd.gl, e])
theorem mt_made_of (k : Nat) (hk : k < 8) {d : D} {l : List Int} (h : Row d l) (hl : l.length ≤ 1000) : ∃ F, ((P27.mt k 0).bind fun j => P27.fn[j]?) = some F ∧ Gv F [.ob k [] [], d] (.fz (Wd (plainL k l))) := by
  match k, hk with
  | 0, _ => exact ⟨F10, by simp [mt27, mq0_0, at27_10], p0 0 h⟩
  | 1, _ => exact ⟨F11, by simp [mt27, mq1_0, at27_11], p1 1 (by decide) h⟩
  | 2, _ => exact ⟨F12, by simp [mt27, mq2_0, at27_12], p2 2 (by decide) (by decide) hl h⟩
  | 3, _ => exact ⟨F13, by simp [mt27, mq3_0, at27_13], p3 3 (by decide) hl h⟩
  | 4, _ => exact ⟨F14, by simp [mt27, mq4_0, at27_14], p4 4 (by decide) (by decide) hl h⟩
  | 5, _ => exact ⟨F15, by simp [mt27, mq5_0, at27_15], p5 5 (by decide) hl h⟩
  | 6, _ => exact ⟨F16, by simp [mt27, mq6_0, at27_16], p6 6 (by decide) (by decide) hl h⟩
  | 7, _ => exact ⟨F17, by simp [mt27, mq7_0, at27_17], p7 7 (by decide) hl h⟩
theorem g_made_of (k : Nat) (hk : k < 8) (a : Eff) (s : List Int) (hn : s.length + a.2.length ≤ 1000) : Gv F27 [.ob k [] [], EfD a, Wd s] (.fz (Wd (onE k a s))) := by
  obtain ⟨a1, a2⟩ := a
  dsimp only at hn
  obtain ⟨F, e1, e2⟩ := mt_made_of k hk (d := Wd (s ++ a2)) (.inl rfl) (by rw [List.length_append]; exact hn)
  have z1 := add_w (a := s) (b := a2) (by omega)
  cases a1 with
  | true => exact gv_w rfl (by simp -implicitDefEqProofs [exs, ex, ev, evs, evA, evI, exm, isLr, useSl, putSl_eq, moveSl, lookSl, lookLs, liveSl, chgSl, dicSl, putAll, bindT, isTys, isTy, isN, isNonE, intP, optR, L2.atI, L2.ixN, LIM, w_ok, w_er, bb27, onE])
  | false =>
    have e : onE k (false, a2) s = plainL k (s ++ a2) := rfl
    rw [e]
    obtain ⟨w, hw⟩ : ∃ w, w = s ++ a2 := ⟨_, rfl⟩
    rw [← hw] at z1 e2 ⊢
    exact gv_w rfl (by simp -implicitDefEqProofs [exs, ex, ev, evs, evA, evI, exm, isLr, useSl, putSl_eq, moveSl, lookSl, lookLs, liveSl, chgSl, dicSl, putAll, bindT, isTys, isTy, isN, isNonE, intP, optR, L2.atI, L2.ixN, LIM, w_ok, w_er, bb27, z1, e1, gc2 e2])
theorem g_effect_on (k : Nat) (hk : k < 8) (a : Eff) (s : List Int) (hn : s.length + a.2.length ≤ 1000) : Gv F28 [.str (kn k), EfD a, Wd s] (.fz (Wd (onE k a s))) := by
  have g := g_made_of k hk a s hn
  exact gv_w rfl (by simp -implicitDefEqProofs [exs, ex, ev, evs, evA, evI, exm, isLr, useSl, putSl_eq, moveSl, lookSl, lookLs, liveSl, chgSl, dicSl, putAll, bindT, isTys, isTy, isN, isNonE, intP, optR, L2.atI, L2.ixN, LIM, w_ok, w_er, bb28, at28_18, at28_27, gc1 (g_kn k hk), gc3 g])
/-! the law's own -/
theorem g_ljoined (k : Nat) (hk : k < 8) (a b : List Int) (hn : a.length + b.length ≤ 1000) (hu : (sortU (a ++ b)).length < 64) : Gv F23 [.str (kn k), Wd a, Wd b] (.fz (Wd (plainL k (a ++ b)))) := by
  have g := g_lplain k hk (a ++ b) (by rw [List.length_append]; exact hn) hu
  have z1 := add_w (a := a) (b := b) (by omega)
  obtain ⟨w, hw⟩ : ∃ w, w = a ++ b := ⟨_, rfl⟩
  rw [← hw] at z1 g ⊢
  exact gv_w rfl (by simp -implicitDefEqProofs [exs, ex, ev, evs, evA, evI, exm, isLr, useSl, putSl_eq, moveSl, lookSl, lookLs, liveSl, chgSl, dicSl, putAll, bindT, isTys, isTy, isN, isNonE, intP, optR, L2.atI, L2.ixN, LIM, w_ok, w_er, bb23, at23_8, z1, gc2 g])
theorem ne_w0 (l : List Int) : cmpD .ne (Wd l) (.tup []) = some (!decide (l = [])) := ne_w l []
theorem g_lnormal (k : Nat) (hk : k < 8) (a : Eff) : Gv F22 [.str (kn k), EfD a] (.fz (EfD (normE k a))) := by
  obtain ⟨c, l⟩ := a
  have n0 := ne_w0 l
  match k, hk with
  | 0, _ => exact gv_w rfl (by simp -implicitDefEqProofs [exs, ex, ev, evs, evA, evI, exm, isLr, useSl, putSl_eq, moveSl, lookSl, lookLs, liveSl, chgSl, dicSl, putAll, bindT, isTys, isTy, isN, isNonE, intP, optR, L2.atI, L2.ixN, LIM, w_ok, w_er, bb22, kn, se0_6, normE])
  | 1, _ => exact gv_w rfl (by simp -implicitDefEqProofs [exs, ex, ev, evs, evA, evI, exm, isLr, useSl, putSl_eq, moveSl, lookSl, lookLs, liveSl, chgSl, dicSl, putAll, bindT, isTys, isTy, isN, isNonE, intP, optR, L2.atI, L2.ixN, LIM, w_ok, w_er, bb22, kn, se1_6, normE])
  | 2, _ => exact gv_w rfl (by simp -implicitDefEqProofs [exs, ex, ev, evs, evA, evI, exm, isLr, useSl, putSl_eq, moveSl, lookSl, lookLs, liveSl, chgSl, dicSl, putAll, bindT, isTys, isTy, isN, isNonE, intP, optR, L2.atI, L2.ixN, LIM, w_ok, w_er, bb22, kn, se2_6, normE])
  | 3, _ => exact gv_w rfl (by simp -implicitDefEqProofs [exs, ex, ev, evs, evA, evI, exm, isLr, useSl, putSl_eq, moveSl, lookSl, lookLs, liveSl, chgSl, dicSl, putAll, bindT, isTys, isTy, isN, isNonE, intP, optR, L2.atI, L2.ixN, LIM, w_ok, w_er, bb22, kn, se3_6, normE])
  | 4, _ => exact gv_w rfl (by simp -implicitDefEqProofs [exs, ex, ev, evs, evA, evI, exm, isLr, useSl, putSl_eq, moveSl, lookSl, lookLs, liveSl, chgSl, dicSl, putAll, bindT, isTys, isTy, isN, isNonE, intP, optR, L2.atI, L2.ixN, LIM, w_ok, w_er, bb22, kn, se4_6, normE])
  | 5, _ => exact gv_w rfl (by simp -implicitDefEqProofs [exs, ex, ev, evs, evA, evI, exm, isLr, useSl, putSl_eq, moveSl, lookSl, lookLs, liveSl, chgSl, dicSl, putAll, bindT, isTys, isTy, isN, isNonE, intP, optR, L2.atI, L2.ixN, LIM, w_ok, w_er, bb22, kn, se5_6, normE])
  | 7, _ => exact gv_w rfl (by simp -implicitDefEqProofs [exs, ex, ev, evs, evA, evI, exm, isLr, useSl, putSl_eq, moveSl, lookSl, lookLs, liveSl, chgSl, dicSl, putAll, bindT, isTys, isTy, isN, isNonE, intP, optR, L2.atI, L2.ixN, LIM, w_ok, w_er, bb22, kn, se7_6, normE])
  | 6, _ =>
    by_cases h0 : l = []
    · simp only [h0, decide_true, Bool.not_true] at n0
      subst h0
      have n1 : cmpD .ne (.tup []) (.tup []) = some false := n0
      exact gv_w rfl (by simp -implicitDefEqProofs [exs, ex, ev, evs, evA, evI, exm, isLr, useSl, putSl_eq, moveSl, lookSl, lookLs, liveSl, chgSl, dicSl, putAll, bindT, isTys, isTy, isN, isNonE, intP, optR, L2.atI, L2.ixN, LIM, w_ok, w_er, bb22, kn, se6_6, normE, n1])
    · exact gv_w rfl (by simp -implicitDefEqProofs [exs, ex, ev, evs, evA, evI, exm, isLr, useSl, putSl_eq, moveSl, lookSl, lookLs, liveSl, chgSl, dicSl, putAll, bindT, isTys, isTy, isN, isNonE, intP, optR, L2.atI, L2.ixN, LIM, w_ok, w_er, bb22, kn, se6_6, normE, n0, h0])
theorem g_lthen (k : Nat) (hk : k < 8) (a b : Eff) (hn : a.2.length + b.2.length ≤ 1000) (hu : (sortU (a.2 ++ b.2)).length < 64) : Gv F24 [.str (kn k), EfD a, EfD b] (.fz (EfD (thenE k a b))) := by
  obtain ⟨a1, a2⟩ := a
  obtain ⟨b1, b2⟩ := b
  dsimp only at hn hu
  have g := g_ljoined k hk a2 b2 hn hu
  have g2 := g_lnormal k hk (a1, plainL k (a2 ++ b2))
  cases b1 with
  | true => exact gv_w rfl (by simp -implicitDefEqProofs [exs, ex, ev, evs, evA, evI, exm, isLr, useSl, putSl_eq, moveSl, lookSl, lookLs, liveSl, chgSl, dicSl, putAll, bindT, isTys, isTy, isN, isNonE, intP, optR, L2.atI, L2.ixN, LIM, w_ok, w_er, bb24, thenE])
  | false =>
    have e : thenE k (a1, a2) (false, b2) = normE k (a1, plainL k (a2 ++ b2)) := rfl
    rw [e]
    obtain ⟨w, hw⟩ : ∃ w, w = plainL k (a2 ++ b2) := ⟨_, rfl⟩
    rw [← hw] at g g2 ⊢
    exact gv_w rfl (by simp -implicitDefEqProofs [exs, ex, ev, evs, evA, evI, exm, isLr, useSl, putSl_eq, moveSl, lookSl, lookLs, liveSl, chgSl, dicSl, putAll, bindT, isTys, isTy, isN, isNonE, intP, optR, L2.atI, L2.ixN, LIM, w_ok, w_er, bb24, at24_22, at24_23, gc3 g, gc2 g2])
theorem g_lon (k : Nat) (hk : k < 8) (a : Eff) (s : List Int) (hn : s.length + a.2.length ≤ 1000) (hu : (sortU (s ++ a.2)).length < 64) : Gv F42 [.str (kn k), EfD a, Wd s] (.fz (Wd (onE k a s))) := by
  obtain ⟨a1, a2⟩ := a
  dsimp only at hn hu
  have g := g_ljoined k hk s a2 hn hu
  cases a1 with
  | true => exact gv_w rfl (by simp -implicitDefEqProofs [exs, ex, ev, evs, evA, evI, exm, isLr, useSl, putSl_eq, moveSl, lookSl, lookLs, liveSl, chgSl, dicSl, putAll, bindT, isTys, isTy, isN, isNonE, intP, optR, L2.atI, L2.ixN, LIM, w_ok, w_er, bb42, onE])
  | false =>
    have e : onE k (false, a2) s = plainL k (s ++ a2) := rfl
    rw [e]
    exact gv_w rfl (by simp -implicitDefEqProofs [exs, ex, ev, evs, evA, evI, exm, isLr, useSl, putSl_eq, moveSl, lookSl, lookLs, liveSl, chgSl, dicSl, putAll, bindT, isTys, isTy, isN, isNonE, intP, optR, L2.atI, L2.ixN, LIM, w_ok, w_er, bb42, at42_23, gc3 g])
def isNum : D → Bool
  | .int _ => true
  | _ => false
theorem g_number (d : D) (h : okT d) : Gv F38 [d] (.fz (.bl (isNum d))) := by
  refine gv_w rfl ?_
  cases d <;> first | (exact h.elim) | simp -implicitDefEqProofs [exs, ex, ev, evs, evA, evI, exm, isLr, useSl, putSl_eq, moveSl, lookSl, lookLs, liveSl, chgSl, dicSl, putAll, bindT, isTys, isTy, isN, isNonE, intP, optR, L2.atI, L2.ixN, LIM, w_ok, w_er, bb38, isNum]
theorem g_lword (l : List Int) (hl : l.length ≤ 100000) : Gv F39 [Wd l] (.fz (.bl true)) := by
  refine gv_w rfl ?_
  have e : lcRun 1 (fun δ => Rs.ok (Rv.fz (.bl true)) δ) (ev P39 le39_0) (l.map D.int) [.fz (Wd l), .un] = .ok (.lv ((l.map D.int).map fun x => .bl (isNum x))) [.fz (Wd l), .un] := by
    refine lc_eq2 (s := .un) rfl rfl (by rw [List.length_map]; exact hl) fun x hx => ⟨.fz (.bl (isNum x)), ?_, rfl⟩
    simp -implicitDefEqProofs [exs, ex, ev, evs, evA, evI, exm, isLr, useSl, putSl_eq, moveSl, lookSl, lookLs, liveSl, chgSl, dicSl, putAll, bindT, isTys, isTy, isN, isNonE, intP, optR, L2.atI, L2.ixN, LIM, w_ok, w_er, le39_0, at39_38, gc1 (g_number x (okT_map x hx))]
  have eb : boolsOf ((l.map D.int).map fun x => D.bl (isNum x)) = some (l.map fun _ => true) := by
    rw [← boolsOf_map, List.map_map, List.map_map]; rfl
  have ea : (l.map fun _ => true).all id = true := by rw [List.all_map, List.all_eq_true]; exact fun _ _ => rfl
  simp -implicitDefEqProofs only [List.map_map] at e eb
  simp -implicitDefEqProofs [exs, ex, ev, evs, evA, evI, exm, isLr, useSl, putSl_eq, moveSl, lookSl, lookLs, liveSl, chgSl, dicSl, putAll, bindT, isTys, isTy, isN, isNonE, intP, optR, L2.atI, L2.ixN, LIM, w_ok, w_er, bb39, e, eb, ea]
theorem g_leffect (a : Eff) (hl : a.2.length ≤ 100000) : Gv F40 [EfD a] (.fz (.bl true)) := by
  exact gv_w rfl (by simp -implicitDefEqProofs [exs, ex, ev, evs, evA, evI, exm, isLr, useSl, putSl_eq, moveSl, lookSl, lookLs, liveSl, chgSl, dicSl, putAll, bindT, isTys, isTy, isN, isNonE, intP, optR, L2.atI, L2.ixN, LIM, w_ok, w_er, bb40, at40_39, gc1 (g_lword a.2 hl)])
end LW

end
section
set_option Elab.async false
set_option linter.all false
set_option maxRecDepth 100000
set_option maxHeartbeats 4000000
namespace LW
open QL KL
theorem isin_t (d : D) (ds : List D) : cmpD .isin d (.tup ds) = if inOk d ds = true then some (inD d ds) else none := rfl
theorem isin_w (x : Int) (l : List Int) : cmpD .isin (.int x) (.tup (l.map D.int)) = some (decide (x ∈ l)) := by
  rw [isin_t, inOk_map, inD_map]; rfl
end LW

end
section
set_option Elab.async false
set_option linter.all false
set_option maxRecDepth 100000
set_option maxHeartbeats 4000000
namespace LW
open QL KL
/-! rests -/
theorem oW_if {p : Prop} [Decidable p] {w : List Int} : oW (if p then some w else none) = if p then Wd w else .non := by
  by_cases h : p
  · rw [if_pos h, if_pos h]; rfl
  · rw [if_neg h, if_neg h]; rfl
theorem r0 (c : Nat) (a b : List Int) : Gv F29 [.ob c [] [], Wd a, Wd b] (.fz (oW (if b.take a.length = a then some (b.drop a.length) else none))) := by
  obtain ⟨z, hz⟩ : ∃ z : Int, (a.length : Int) = z := ⟨_, rfl⟩
  have hz2 : z.toNat = a.length := by omega
  obtain ⟨t, ht⟩ : ∃ t, t = b.take a.length := ⟨_, rfl⟩
  obtain ⟨u, hu⟩ : ∃ u, u = b.drop a.length := ⟨_, rfl⟩
  have e1 : cutL b none (some z) = t := by rw [ht, cut_hi (by omega), hz2]
  have e2 : cutL b (some z) none = u := by rw [hu, cut_lo (by omega), hz2]
  have n := ne_w t a
  rw [← ht, ← hu, oW_if]
  by_cases h : t = a
  · rw [if_pos h]
    rw [decide_eq_true h] at n
    exact gv_w rfl (by simp -implicitDefEqProofs [exs, ex, ev, evs, evA, evI, exm, isLr, useSl, putSl_eq, moveSl, lookSl, lookLs, liveSl, chgSl, dicSl, putAll, bindT, isTys, isTy, isN, isNonE, intP, optR, L2.atI, L2.ixN, LIM, w_ok, w_er, bb29, hz, e1, e2, n])
  · rw [if_neg h]
    rw [decide_eq_false h] at n
    exact gv_w rfl (by simp -implicitDefEqProofs [exs, ex, ev, evs, evA, evI, exm, isLr, useSl, putSl_eq, moveSl, lookSl, lookLs, liveSl, chgSl, dicSl, putAll, bindT, isTys, isTy, isN, isNonE, intP, optR, L2.atI, L2.ixN, LIM, w_ok, w_er, bb29, hz, e1, e2, n])
theorem loop_bag (s a b : D) : ∀ (l tk acc : List Int) (t : Sl), nlp t = true → acc.length + l.length ≤ 1000 → ∃ t', forGo [5] (exs P30 lb30_0) (l.map D.int) [.fz s, .fz a, .fz b, .lv (tk.map D.int), .lv (acc.map D.int), t] = .ok .nx [.fz s, .fz a, .fz b, .lv ((goT l tk).2.map D.int), .lv ((acc ++ (goT l tk).1).map D.int), t']
  | [], tk, acc, t, _, _ => ⟨t, by simp [forGo, goT]⟩
  | x :: l, tk, acc, t, ht, hl => by
    have lim : acc.length < 100000 := by simp at hl; omega
    have ei := isin_l x tk
    have eb : bindT [.fz s, .fz a, .fz b, .lv (tk.map D.int), .lv (acc.map D.int), t] [5] (.int x) = some [.fz s, .fz a, .fz b, .lv (tk.map D.int), .lv (acc.map D.int), .fz (.int x)] := by simp -implicitDefEqProofs [exs, ex, ev, evs, evA, evI, exm, isLr, useSl, putSl_eq, moveSl, lookSl, lookLs, liveSl, chgSl, dicSl, putAll, bindT, isTys, isTy, isN, isNonE, intP, optR, L2.atI, L2.ixN, LIM, w_ok, w_er, ht]
    unfold goT
    by_cases h : x ∈ tk
    · rw [decide_eq_true h] at ei
      have er := rem_l tk x h
      have step : exs P30 lb30_0 [.fz s, .fz a, .fz b, .lv (tk.map D.int), .lv (acc.map D.int), .fz (.int x)] = .ok .nx [.fz s, .fz a, .fz b, .lv ((tk.erase x).map D.int), .lv (acc.map D.int), .fz (.int x)] := by simp -implicitDefEqProofs [exs, ex, ev, evs, evA, evI, exm, isLr, useSl, putSl_eq, moveSl, lookSl, lookLs, liveSl, chgSl, dicSl, putAll, bindT, isTys, isTy, isN, isNonE, intP, optR, L2.atI, L2.ixN, LIM, w_ok, w_er, lb30_0, ei, er]
      obtain ⟨t', e2⟩ := loop_bag s a b l (tk.erase x) acc (.fz (.int x)) rfl (by simp at hl; omega)
      refine ⟨t', ?_⟩
      rw [if_pos h, List.map_cons]
      unfold forGo
      rw [eb]
      dsimp only
      rw [step]
      exact e2
    · rw [decide_eq_false h] at ei
      have step : exs P30 lb30_0 [.fz s, .fz a, .fz b, .lv (tk.map D.int), .lv (acc.map D.int), .fz (.int x)] = .ok .nx [.fz s, .fz a, .fz b, .lv (tk.map D.int), .lv ((acc ++ [x]).map D.int), .fz (.int x)] := by simp -implicitDefEqProofs [exs, ex, ev, evs, evA, evI, exm, isLr, useSl, putSl_eq, moveSl, lookSl, lookLs, liveSl, chgSl, dicSl, putAll, bindT, isTys, isTy, isN, isNonE, intP, optR, L2.atI, L2.ixN, LIM, w_ok, w_er, lb30_0, ei, lim]
      obtain ⟨t', e2⟩ := loop_bag s a b l tk (acc ++ [x]) (.fz (.int x)) rfl (by simp at hl ⊢; omega)
      refine ⟨t', ?_⟩
      rw [if_neg h, List.map_cons]
      unfold forGo
      rw [eb]
      dsimp only
      rw [step]
      show forGo _ _ _ _ = _
      rw [e2, List.append_assoc, List.singleton_append]
theorem r1 (c : Nat) (a b : List Int) (hb : b.length ≤ 1000) : Gv F30 [.ob c [] [], Wd a, Wd b] (.fz (oW (if (goT b a).2 = [] then some (goT b a).1 else none))) := by
  obtain ⟨t', e⟩ := loop_bag (.ob c [] []) (Wd a) (Wd b) b a [] .un rfl (by simpa using hb)
  rw [List.nil_append] at e
  obtain ⟨l, hl⟩ : ∃ l, l = (goT b a).1 := ⟨_, rfl⟩
  obtain ⟨u, hu⟩ : ∃ u, u = (goT b a).2 := ⟨_, rfl⟩
  simp only [List.map_nil] at e
  rw [← hl, ← hu] at e ⊢
  rw [oW_if]
  by_cases h : u = []
  · rw [if_pos h]
    subst h
    exact gv_w rfl (by simp -implicitDefEqProofs [exs, ex, ev, evs, evA, evI, exm, isLr, useSl, putSl_eq, moveSl, lookSl, lookLs, liveSl, chgSl, dicSl, putAll, bindT, isTys, isTy, isN, isNonE, intP, optR, L2.atI, L2.ixN, LIM, w_ok, w_er, bb30, e])
  · rw [if_neg h]
    obtain ⟨z, hz⟩ : ∃ z : Int, (u.length : Int) = z := ⟨_, rfl⟩
    have z0 : 0 < z := by have := List.length_pos_iff.mpr h; omega
    exact gv_w rfl (by simp -implicitDefEqProofs [exs, ex, ev, evs, evA, evI, exm, isLr, useSl, putSl_eq, moveSl, lookSl, lookLs, liveSl, chgSl, dicSl, putAll, bindT, isTys, isTy, isN, isNonE, intP, optR, L2.atI, L2.ixN, LIM, w_ok, w_er, bb30, e, hz, z0])
def tlP (a b : List Int) (n : Nat) : Bool := decide (a.filter (fun x => !decide (x ∈ b.drop n)) = b.take n)
def nIn (en : List Int) : D → Bool
  | .int x => !decide (x ∈ en)
  | _ => false
theorem fil_map (en : List Int) : ∀ l : List Int, (l.map D.int).filter (nIn en) = (l.filter fun x => !decide (x ∈ en)).map D.int
  | [] => rfl
  | x :: l => by
    rw [List.map_cons, List.filter_cons, List.filter_cons, fil_map en l]
    show (if (!decide (x ∈ en)) = true then _ else _) = _
    split <;> rfl
theorem lc_tl (s a b t : D) (en l : List Int) (hl : l.length ≤ 1000) : lcRun 5 (ev P31 lt31_0) (ev P31 le31_0) (l.map D.int) [.fz s, .fz a, .fz b, .fz t, .fz (Wd en), .un] = .ok (.lv ((l.filter fun x => !decide (x ∈ en)).map D.int)) [.fz s, .fz a, .fz b, .fz t, .fz (Wd en), .un] := by
  rw [lc_eq (s := .un) (p := nIn en) (g := id) rfl rfl (by rw [List.length_map]; unfold LIM; omega) fun d hd => ?_]
  · rw [fil_map, List.map_id]
  · obtain ⟨x, _, rfl⟩ := List.mem_map.mp hd
    have ei : cmpD .nin (.int x) (.tup (en.map D.int)) = some (!decide (x ∈ en)) := by
      have e : cmpD .nin (.int x) (.tup (en.map D.int)) = if inOk (.int x) (en.map D.int) = true then some (!inD (.int x) (en.map D.int)) else none := rfl
      rw [e, inOk_map, inD_map]
      rfl
    exact ⟨by simp -implicitDefEqProofs [exs, ex, ev, evs, evA, evI, exm, isLr, useSl, putSl_eq, moveSl, lookSl, lookLs, liveSl, chgSl, dicSl, putAll, bindT, isTys, isTy, isN, isNonE, intP, optR, L2.atI, L2.ixN, LIM, w_ok, w_er, lt31_0, ei, nIn], fun _ => ⟨.fz (.int x), by simp -implicitDefEqProofs [exs, ex, ev, evs, evA, evI, exm, isLr, useSl, putSl_eq, moveSl, lookSl, lookLs, liveSl, chgSl, dicSl, putAll, bindT, isTys, isTy, isN, isNonE, intP, optR, L2.atI, L2.ixN, LIM, w_ok, w_er, le31_0], rfl⟩⟩
theorem loop_tl (c : Nat) (a b : List Int) (la : a.length ≤ 1000) : ∀ (n : Nat) (t u : Sl), nlp t = true → nlp u = true → n ≤ b.length + 1 →
    match (List.range n).reverse.find? (tlP a b) with
    | some m => ∃ δ, forGo [3] (exs P31 lb31_0) (rangeDn ((n : Int) - 1) n) [.fz (.ob c [] []), .fz (Wd a), .fz (Wd b), t, u, .un] = .ok (.rt (.fz (Wd (b.drop m)))) δ ∧ δ.length = 6
    | none => ∃ t' u', forGo [3] (exs P31 lb31_0) (rangeDn ((n : Int) - 1) n) [.fz (.ob c [] []), .fz (Wd a), .fz (Wd b), t, u, .un] = .ok .nx [.fz (.ob c [] []), .fz (Wd a), .fz (Wd b), t', u', .un]
  | 0, t, u, _, _, _ => ⟨t, u, rfl⟩
  | n + 1, t, u, ht, hu, hn => by
    obtain ⟨en, hen⟩ : ∃ en, en = b.drop n := ⟨_, rfl⟩
    obtain ⟨tk, htk⟩ : ∃ tk, tk = b.take n := ⟨_, rfl⟩
    obtain ⟨z, hz⟩ : ∃ z : Int, (n : Int) = z := ⟨_, rfl⟩
    have hz2 : z.toNat = n := by omega
    have hz3 : ((n + 1 : Nat) : Int) - 1 = z := by omega
    have e1 : cutL b (some z) none = en := by rw [hen, cut_lo (by omega), hz2]
    have e2 : cutL b none (some z) = tk := by rw [htk, cut_hi (by omega), hz2]
    have lc := lc_tl (.ob c [] []) (Wd a) (Wd b) (.int z) en a la
    obtain ⟨fl, hfl⟩ : ∃ fl, fl = a.filter fun x => !decide (x ∈ en) := ⟨_, rfl⟩
    rw [← hfl] at lc
    have q := eq_w fl tk
    have er : rangeDn (((n + 1 : Nat) : Int) - 1) (n + 1) = .int z :: rangeDn ((n : Int) - 1) n := by rw [hz3, rangeDn, ← hz]
    have eb : bindT [.fz (.ob c [] []), .fz (Wd a), .fz (Wd b), t, u, .un] [3] (.int z) = some [.fz (.ob c [] []), .fz (Wd a), .fz (Wd b), .fz (.int z), u, .un] := by simp -implicitDefEqProofs [exs, ex, ev, evs, evA, evI, exm, isLr, useSl, putSl_eq, moveSl, lookSl, lookLs, liveSl, chgSl, dicSl, putAll, bindT, isTys, isTy, isN, isNonE, intP, optR, L2.atI, L2.ixN, LIM, w_ok, w_er, ht]
    have ep : tlP a b n = decide (fl = tk) := by unfold tlP; rw [hfl, htk, hen]
    have rv : (List.range (n + 1)).reverse = n :: (List.range n).reverse := by rw [List.range_succ, List.reverse_append, List.reverse_singleton, List.singleton_append]
    rw [er, rv]
    unfold forGo
    rw [eb]
    by_cases h : fl = tk
    · rw [List.find?_cons_of_pos (by rw [ep, decide_eq_true h])]
      rw [decide_eq_true h] at q
      refine ⟨[.fz (.ob c [] []), .fz (Wd a), .fz (Wd b), .fz (.int z), .fz (Wd en), .un], ?_, rfl⟩
      have step : exs P31 lb31_0 [.fz (.ob c [] []), .fz (Wd a), .fz (Wd b), .fz (.int z), u, .un] = .ok (.rt (.fz (Wd en))) [.fz (.ob c [] []), .fz (Wd a), .fz (Wd b), .fz (.int z), .fz (Wd en), .un] := by simp -implicitDefEqProofs [exs, ex, ev, evs, evA, evI, exm, isLr, useSl, putSl_eq, moveSl, lookSl, lookLs, liveSl, chgSl, dicSl, putAll, bindT, isTys, isTy, isN, isNonE, intP, optR, L2.atI, L2.ixN, LIM, w_ok, w_er, lb31_0, hu, e1, e2, lc, q]
      dsimp only
      rw [step, ← hen]
      rfl
    · rw [List.find?_cons_of_neg (by rw [ep, decide_eq_false h]; decide)]
      rw [decide_eq_false h] at q
      have step : exs P31 lb31_0 [.fz (.ob c [] []), .fz (Wd a), .fz (Wd b), .fz (.int z), u, .un] = .ok .nx [.fz (.ob c [] []), .fz (Wd a), .fz (Wd b), .fz (.int z), .fz (Wd en), .un] := by simp -implicitDefEqProofs [exs, ex, ev, evs, evA, evI, exm, isLr, useSl, putSl_eq, moveSl, lookSl, lookLs, liveSl, chgSl, dicSl, putAll, bindT, isTys, isTy, isN, isNonE, intP, optR, L2.atI, L2.ixN, LIM, w_ok, w_er, lb31_0, hu, e1, e2, lc, q]
      have ih := loop_tl c a b la n (.fz (.int z)) (.fz (Wd en)) rfl rfl (by omega)
      dsimp only
      rw [step]
      exact ih
theorem r5 (c : Nat) (a b : List Int) (la : a.length ≤ 1000) (hb : b.length ≤ 1000) : Gv F31 [.ob c [] [], Wd a, Wd b] (.fz (oW (((List.range (b.length + 1)).reverse.find? (tlP a b)).map fun n => b.drop n))) := by
  have e := loop_tl c a b la (b.length + 1) .un .un rfl rfl (Nat.le_refl _)
  obtain ⟨z, hz⟩ : ∃ z : Int, (b.length : Int) = z := ⟨_, rfl⟩
  have e0 : (z + 1).toNat = b.length + 1 := by omega
  have e1 : ((b.length + 1 : Nat) : Int) - 1 = z := by omega
  have b1 : (-4611686018427387904 : Int) ≤ z := by omega
  have b2 : z < 4611686018427387904 := by omega
  rw [e1] at e
  cases hf : (List.range (b.length + 1)).reverse.find? (tlP a b) with
  | some m =>
    rw [hf] at e
    obtain ⟨δ, e, hl⟩ := e
    obtain ⟨w, hw⟩ : ∃ w, w = b.drop m := ⟨_, rfl⟩
    simp only [Option.map_some, oW]
    rw [← hw] at e ⊢
    exact gv_w rfl (by simp -implicitDefEqProofs [exs, ex, ev, evs, evA, evI, exm, isLr, useSl, putSl_eq, moveSl, lookSl, lookLs, liveSl, chgSl, dicSl, putAll, bindT, isTys, isTy, isN, isNonE, intP, optR, L2.atI, L2.ixN, LIM, w_ok, w_er, bb31, hz, b1, b2, e0, e, hl])
  | none =>
    rw [hf] at e
    obtain ⟨t', u', e⟩ := e
    exact gv_w rfl (by simp -implicitDefEqProofs [exs, ex, ev, evs, evA, evI, exm, isLr, useSl, putSl_eq, moveSl, lookSl, lookLs, liveSl, chgSl, dicSl, putAll, bindT, isTys, isTy, isN, isNonE, intP, optR, L2.atI, L2.ixN, LIM, w_ok, w_er, bb31, hz, b1, b2, e0, e, oW])
theorem r6 (c : Nat) (a b : List Int) : Gv F32 [.ob c [] [], Wd a, Wd b] (.fz (oW (if a = b then some [] else if b = [] then none else some b))) := by
  have q := eq_w a b
  obtain ⟨z, hz⟩ : ∃ z : Int, (b.length : Int) = z := ⟨_, rfl⟩
  by_cases h : a = b
  · rw [if_pos h]
    rw [decide_eq_true h] at q
    exact gv_w rfl (by simp -implicitDefEqProofs [exs, ex, ev, evs, evA, evI, exm, isLr, useSl, putSl_eq, moveSl, lookSl, lookLs, liveSl, chgSl, dicSl, putAll, bindT, isTys, isTy, isN, isNonE, intP, optR, L2.atI, L2.ixN, LIM, w_ok, w_er, bb32, q, oW])
  · rw [if_neg h]
    rw [decide_eq_false h] at q
    by_cases hb : b = []
    · rw [if_pos hb]
      have z0 : z = 0 := by rw [hb] at hz; exact hz.symm
      rw [z0] at hz
      exact gv_w rfl (by simp -implicitDefEqProofs [exs, ex, ev, evs, evA, evI, exm, isLr, useSl, putSl_eq, moveSl, lookSl, lookLs, liveSl, chgSl, dicSl, putAll, bindT, isTys, isTy, isN, isNonE, intP, optR, L2.atI, L2.ixN, LIM, w_ok, w_er, bb32, q, hz, oW])
    · rw [if_neg hb]
      have z0 : z ≠ 0 := by have := List.length_pos_iff.mpr hb; omega
      exact gv_w rfl (by simp -implicitDefEqProofs [exs, ex, ev, evs, evA, evI, exm, isLr, useSl, putSl_eq, moveSl, lookSl, lookLs, liveSl, chgSl, dicSl, putAll, bindT, isTys, isTy, isN, isNonE, intP, optR, L2.atI, L2.ixN, LIM, w_ok, w_er, bb32, q, hz, z0, oW])
theorem r7 (c : Nat) (a b : List Int) : Gv F33 [.ob c [] [], Wd a, Wd b] (.fz (oW (if a = b then some [] else if a ≠ [] ∧ a.take 1 ≠ b.take 1 then none else some b))) := by
  have q := eq_w a b
  obtain ⟨z, hz⟩ : ∃ z : Int, (a.length : Int) = z := ⟨_, rfl⟩
  obtain ⟨t, ht⟩ : ∃ t, t = a.take 1 := ⟨_, rfl⟩
  obtain ⟨u, hu⟩ : ∃ u, u = b.take 1 := ⟨_, rfl⟩
  have e1 : cutL a none (some 1) = t := by rw [ht, cut_hi (by decide)]; rfl
  have e2 : cutL b none (some 1) = u := by rw [hu, cut_hi (by decide)]; rfl
  have n := ne_w t u
  rw [← ht, ← hu]
  by_cases h : a = b
  · rw [if_pos h]
    rw [decide_eq_true h] at q
    exact gv_w rfl (by simp -implicitDefEqProofs [exs, ex, ev, evs, evA, evI, exm, isLr, useSl, putSl_eq, moveSl, lookSl, lookLs, liveSl, chgSl, dicSl, putAll, bindT, isTys, isTy, isN, isNonE, intP, optR, L2.atI, L2.ixN, LIM, w_ok, w_er, bb33, q, oW])
  · rw [if_neg h]
    rw [decide_eq_false h] at q
    by_cases ha : a = []
    · rw [if_neg (by simp [ha])]
      have z0 : ¬ 0 < z := by rw [ha] at hz; simp at hz; omega
      exact gv_w rfl (by simp -implicitDefEqProofs [exs, ex, ev, evs, evA, evI, exm, isLr, useSl, putSl_eq, moveSl, lookSl, lookLs, liveSl, chgSl, dicSl, putAll, bindT, isTys, isTy, isN, isNonE, intP, optR, L2.atI, L2.ixN, LIM, w_ok, w_er, bb33, q, hz, z0, oW])
    · have z0 : 0 < z := by have := List.length_pos_iff.mpr ha; omega
      by_cases hq : t = u
      · rw [if_neg (by simp [hq])]
        rw [decide_eq_true hq] at n
        exact gv_w rfl (by simp -implicitDefEqProofs [exs, ex, ev, evs, evA, evI, exm, isLr, useSl, putSl_eq, moveSl, lookSl, lookLs, liveSl, chgSl, dicSl, putAll, bindT, isTys, isTy, isN, isNonE, intP, optR, L2.atI, L2.ixN, LIM, w_ok, w_er, bb33, q, hz, z0, e1, e2, n, oW])
      · rw [if_pos ⟨ha, hq⟩]
        rw [decide_eq_false hq] at n
        exact gv_w rfl (by simp -implicitDefEqProofs [exs, ex, ev, evs, evA, evI, exm, isLr, useSl, putSl_eq, moveSl, lookSl, lookLs, liveSl, chgSl, dicSl, putAll, bindT, isTys, isTy, isN, isNonE, intP, optR, L2.atI, L2.ixN, LIM, w_ok, w_er, bb33, q, hz, z0, e1, e2, n, oW])
theorem mr_step_of (k : Nat) (hk : k < 8) (a b : List Int) (la : a.length ≤ 1000) (hb : b.length ≤ 1000) : ∃ F, ((P34.mt k 1).bind fun j => P34.fn[j]?) = some F ∧ Gv F [.ob k [] [], Wd a, Wd b] (.fz (oW (restP k a b))) := by
  match k, hk with
  | 0, _ => exact ⟨F29, by simp [mt34, mq0_1, at34_29], r0 0 a b⟩
  | 1, _ => exact ⟨F30, by simp [mt34, mq1_1, at34_30], r1 1 a b hb⟩
  | 2, _ => exact ⟨F30, by simp [mt34, mq2_1, at34_30], r1 2 a b hb⟩
  | 3, _ => exact ⟨F29, by simp [mt34, mq3_1, at34_29], r0 3 a b⟩
  | 4, _ => exact ⟨F29, by simp [mt34, mq4_1, at34_29], r0 4 a b⟩
  | 5, _ => exact ⟨F31, by simp [mt34, mq5_1, at34_31], r5 5 a b la hb⟩
  | 6, _ => exact ⟨F32, by simp [mt34, mq6_1, at34_32], r6 6 a b⟩
  | 7, _ => exact ⟨F33, by simp [mt34, mq7_1, at34_33], r7 7 a b⟩
end LW

end
section
set_option Elab.async false
set_option linter.all false
set_option maxRecDepth 100000
set_option maxHeartbeats 4000000
namespace LW
open QL KL
@[simp] theorem sl_r (l : List Int) (lo hi : Option Int) : slD (.rol (l.map D.int)) lo hi = some (.lv ((cutL l lo hi).map D.int)) := by
  show some (Rv.lv (cutD (l.map D.int) lo hi)) = _
  rw [cutD_map]
theorem g_stream (ns : List Int) : ∃ s, Gv F0 [.rol (ns.map D.int)] (.lv s) ∧ OkS s := by
  obtain ⟨cs, hcs⟩ : ∃ z, z = cutL ns none (some 63) := ⟨_, rfl⟩
  have hl : cs.length ≤ 63 := by rw [hcs, cut_hi (by decide), List.length_take]; exact Nat.min_le_left ..
  refine ⟨stm cs 0 0, gv_w rfl ?_, cs, 0, 0, rfl, hl, by decide, by omega, by decide⟩
  have e : lcRun 1 (fun δ => Rs.ok (Rv.fz (.bl true)) δ) (ev P0 le0_0) (cs.map D.int) [.fz (.rol (ns.map D.int)), .un] = .ok (.lv ((cs.map D.int).map id)) [.fz (.rol (ns.map D.int)), .un] := by
    refine lc_eq2 (s := .un) rfl rfl (by rw [List.length_map]; unfold LIM; omega) fun x hx => ?_
    obtain ⟨i, _, rfl⟩ := List.mem_map.mp hx
    exact ⟨.fz (.int i), by simp -implicitDefEqProofs [exs, ex, ev, evs, evA, evI, exm, isLr, useSl, putSl_eq, moveSl, lookSl, lookLs, liveSl, chgSl, dicSl, putAll, bindT, isTys, isTy, isN, isNonE, intP, optR, L2.atI, L2.ixN, LIM, w_ok, w_er, le0_0], rfl⟩
  rw [List.map_id] at e
  simp -implicitDefEqProofs [exs, ex, ev, evs, evA, evI, exm, isLr, useSl, putSl_eq, moveSl, lookSl, lookLs, liveSl, chgSl, dicSl, putAll, bindT, isTys, isTy, isN, isNonE, intP, optR, L2.atI, L2.ixN, LIM, w_ok, w_er, bb0, ← hcs, e, stm]
end LW

end
section
set_option Elab.async false
set_option linter.all false
set_option maxRecDepth 100000
set_option maxHeartbeats 4000000
namespace LW
open QL KL
/-! the kinds' names compared -/
theorem of8 {k : Nat} (h : k < 8) : k = 0 ∨ k = 1 ∨ k = 2 ∨ k = 3 ∨ k = 4 ∨ k = 5 ∨ k = 6 ∨ k = 7 := by omega
theorem eq_bag (k : Nat) (hk : k < 8) : cmpD .eq (.str (kn k)) (.str "bag") = some (decide (k = 1)) := by
  rcases of8 hk with h | h | h | h | h | h | h | h <;> subst h <;> decide +kernel
theorem eq_set (k : Nat) (hk : k < 8) : cmpD .eq (.str (kn k)) (.str "set") = some (decide (k = 2)) := by
  rcases of8 hk with h | h | h | h | h | h | h | h <;> subst h <;> decide +kernel
theorem eq_bb (c d : Bool) : cmpD .eq (.bl c) (.bl d) = some (c == d) := by rw [e_eqg, q_obl, q_obl, q_bl]; rfl
theorem ne_bb (c d : Bool) : cmpD .ne (.bl c) (.bl d) = some (!(c == d)) := by rw [e_neg, q_obl, q_obl, q_bl]; rfl
theorem few_len {l : List Int} (h : l.length < 64) : (sortU l).length < 64 := by
  have := sortU_few (l := l) (ls := l) fun _ h => h
  omega
theorem few_app {a b : List Int} (h : a.length + b.length < 64) : (sortU (a ++ b)).length < 64 := few_len (by rw [List.length_append]; exact h)
/-! steps -/
theorem g_step_of (k : Nat) (hk : k < 8) (a b : Eff) (la : a.2.length ≤ 1000) (lb : b.2.length ≤ 1000) : Gv F34 [.ob k [] [], EfD a, EfD b] (.fz (oE (stepP k a b))) := by
  obtain ⟨a1, a2⟩ := a
  obtain ⟨b1, b2⟩ := b
  obtain ⟨F, e1, e2⟩ := mr_step_of k hk a2 b2 la lb
  have q := eq_e a1 b1 a2 b2
  have qb := eq_bb a1 b1
  unfold stepP stepG
  by_cases hab : (a1, a2) = (b1, b2)
  · rw [if_pos hab]
    rw [decide_eq_true (by cases hab; exact ⟨rfl, rfl⟩)] at q
    exact gv_w rfl (by simp -implicitDefEqProofs [exs, ex, ev, evs, evA, evI, exm, isLr, useSl, putSl_eq, moveSl, lookSl, lookLs, liveSl, chgSl, dicSl, putAll, bindT, isTys, isTy, isN, isNonE, intP, optR, L2.atI, L2.ixN, LIM, w_ok, w_er, bb34, q, glo34, hd, Hd.gl, oE])
  · rw [if_neg hab]
    rw [decide_eq_false fun z => hab (Prod.ext z.1 z.2)] at q
    dsimp only at e2 ⊢
    obtain ⟨zb, hzb⟩ : ∃ z : Int, (b2.length : Int) = z := ⟨_, rfl⟩
    cases hr : restP k a2 b2 with
    | none =>
      rw [hr] at e2
      dsimp only [oW] at e2
      cases b1 with
      | true => exact gv_w rfl (by simp -implicitDefEqProofs [exs, ex, ev, evs, evA, evI, exm, isLr, useSl, putSl_eq, moveSl, lookSl, lookLs, liveSl, chgSl, dicSl, putAll, bindT, isTys, isTy, isN, isNonE, intP, optR, L2.atI, L2.ixN, LIM, w_ok, w_er, bb34, q, e1, gc3 e2, oE])
      | false => exact gv_w rfl (by simp -implicitDefEqProofs [exs, ex, ev, evs, evA, evI, exm, isLr, useSl, putSl_eq, moveSl, lookSl, lookLs, liveSl, chgSl, dicSl, putAll, bindT, isTys, isTy, isN, isNonE, intP, optR, L2.atI, L2.ixN, LIM, w_ok, w_er, bb34, q, e1, gc3 e2, oE])
    | some w =>
      rw [hr] at e2
      dsimp only [oW] at e2
      obtain ⟨zw, hzw⟩ : ∃ z : Int, (w.length : Int) = z := ⟨_, rfl⟩
      have hw : w.length < b2.length ↔ zw < zb := by omega
      dsimp only
      simp only [hw]
      by_cases h : zw < zb
      · cases a1 <;> cases b1 <;> exact gv_w rfl (by simp -implicitDefEqProofs [exs, ex, ev, evs, evA, evI, exm, isLr, useSl, putSl_eq, moveSl, lookSl, lookLs, liveSl, chgSl, dicSl, putAll, bindT, isTys, isTy, isN, isNonE, intP, optR, L2.atI, L2.ixN, LIM, w_ok, w_er, bb34, q, qb, e1, gc3 e2, oE, hzb, hzw, h])
      · cases a1 <;> cases b1 <;> exact gv_w rfl (by simp -implicitDefEqProofs [exs, ex, ev, evs, evA, evI, exm, isLr, useSl, putSl_eq, moveSl, lookSl, lookLs, liveSl, chgSl, dicSl, putAll, bindT, isTys, isTy, isN, isNonE, intP, optR, L2.atI, L2.ixN, LIM, w_ok, w_er, bb34, q, qb, e1, gc3 e2, oE, hzb, hzw, h])
theorem g_step (k : Nat) (hk : k < 8) (a b : Eff) (la : a.2.length ≤ 1000) (lb : b.2.length ≤ 1000) : Gv F35 [.str (kn k), EfD a, EfD b] (.fz (oE (stepP k (normE k a) (normE k b)))) := by
  have f1 := g_formed k hk a.1 a.2
  have f2 := g_formed k hk b.1 b.2
  have g := g_step_of k hk (normE k a) (normE k b) la lb
  obtain ⟨r, hr⟩ : ∃ r, r = stepP k (normE k a) (normE k b) := ⟨_, rfl⟩
  rw [← hr] at g ⊢
  exact gv_w rfl (by simp -implicitDefEqProofs [exs, ex, ev, evs, evA, evI, exm, isLr, useSl, putSl_eq, moveSl, lookSl, lookLs, liveSl, chgSl, dicSl, putAll, bindT, isTys, isTy, isN, isNonE, intP, optR, L2.atI, L2.ixN, LIM, w_ok, w_er, bb35, at35_18, at35_25, at35_34, gc1 (g_kn k hk), gc3 f1, gc3 f2, gc3 g])
theorem mt_narrowed_effect (k : Nat) (hk : k < 8) {d : D} {l : List Int} (h : Row d l) (hl : l.length ≤ 1000) : ∃ F, ((P26.mt k 0).bind fun j => P26.fn[j]?) = some F ∧ Gv F [.ob k [] [], d] (.fz (Wd (plainL k l))) := by
  match k, hk with
  | 0, _ => exact ⟨F10, by simp [mt26, mq0_0, at26_10], p0 0 h⟩
  | 1, _ => exact ⟨F11, by simp [mt26, mq1_0, at26_11], p1 1 (by decide) h⟩
  | 2, _ => exact ⟨F12, by simp [mt26, mq2_0, at26_12], p2 2 (by decide) (by decide) hl h⟩
  | 3, _ => exact ⟨F13, by simp [mt26, mq3_0, at26_13], p3 3 (by decide) hl h⟩
  | 4, _ => exact ⟨F14, by simp [mt26, mq4_0, at26_14], p4 4 (by decide) (by decide) hl h⟩
  | 5, _ => exact ⟨F15, by simp [mt26, mq5_0, at26_15], p5 5 (by decide) hl h⟩
  | 6, _ => exact ⟨F16, by simp [mt26, mq6_0, at26_16], p6 6 (by decide) (by decide) hl h⟩
  | 7, _ => exact ⟨F17, by simp [mt26, mq7_0, at26_17], p7 7 (by decide) hl h⟩
/-! what is told of names alone: by the kernel's own run -/
theorem run1 {f : Fn} {a : D} {r : Rv} (hn : f.np = 1) (h : f.run [.fz a] = .ok r [.fz a]) : Gv f [a] r := ⟨hn, _, h, rfl⟩
theorem run2 {f : Fn} {a b : D} {r : Rv} (hn : f.np = 2) (h : f.run [.fz a, .fz b] = .ok r [.fz a, .fz b]) : Gv f [a, b] r := ⟨hn, _, h, rfl⟩
theorem g_lunder {n w : Nat} (hn : n < 8) (hw : w < 8) : Gv F5 [.str (kn n), .str (kn w)] (.fz (.bl (undB n w))) := by
  rcases of8 hn with h | h | h | h | h | h | h | h <;> subst h <;> rcases of8 hw with h | h | h | h | h | h | h | h <;> subst h <;> exact run2 rfl (by kernel_rfl)
theorem g_family {n : Nat} (hn : n < 8) : Gv F45 [.str (kn n)] (.fz (.bl true)) := by
  rcases of8 hn with h | h | h | h | h | h | h | h <;> subst h <;> exact run1 rfl (by kernel_rfl)
theorem g_pairs {n w : Nat} (hn : n < 8) (hw : w < 8) : Gv F49 [.str (kn n), .str (kn w)] (.fz (.bl true)) := by
  rcases of8 hn with h | h | h | h | h | h | h | h <;> subst h <;> rcases of8 hw with h | h | h | h | h | h | h | h <;> subst h <;> exact run2 rfl (by kernel_rfl)
/-! a kind below -/
def NMS : List Nat := [0, 1, 2, 4, 6, 7, 3, 5]
theorem lc_lower (s : List D) (w : Nat) (hw : w < 8) (ns : D) : ∀ (l : List Nat) (acc : List D), (∀ x ∈ l, x < 8) → acc.length + l.length ≤ 1000 → lcGo 4 (ev P6 lt6_0) (ev P6 le6_0) (l.map fun i => D.str (kn i)) acc [.lp s, .fz (.str (kn w)), .fz ns, .un, .un] = .ok (acc ++ ((l.filter fun i => undB i w).map fun i => D.str (kn i))) [.lp s, .fz (.str (kn w)), .fz ns, .un, .un]
  | [], acc, _, _ => by simp [lcGo]
  | i :: l, acc, h, hl => by
    have g := g_lunder (h i (List.mem_cons_self ..)) hw
    have lim : acc.length < 100000 := by simp at hl; omega
    have e1 : ev P6 lt6_0 [.lp s, .fz (.str (kn w)), .fz ns, .un, .fz (.str (kn i))] = .ok (.fz (.bl (undB i w))) [.lp s, .fz (.str (kn w)), .fz ns, .un, .fz (.str (kn i))] := by simp -implicitDefEqProofs [exs, ex, ev, evs, evA, evI, exm, isLr, useSl, putSl_eq, moveSl, lookSl, lookLs, liveSl, chgSl, dicSl, putAll, bindT, isTys, isTy, isN, isNonE, intP, optR, L2.atI, L2.ixN, LIM, w_ok, w_er, lt6_0, at6_5, gc2 g]
    have e2 : ev P6 le6_0 [.lp s, .fz (.str (kn w)), .fz ns, .un, .fz (.str (kn i))] = .ok (.fz (.str (kn i))) [.lp s, .fz (.str (kn w)), .fz ns, .un, .fz (.str (kn i))] := by simp -implicitDefEqProofs [exs, ex, ev, evs, evA, evI, exm, isLr, useSl, putSl_eq, moveSl, lookSl, lookLs, liveSl, chgSl, dicSl, putAll, bindT, isTys, isTy, isN, isNonE, intP, optR, L2.atI, L2.ixN, LIM, w_ok, w_er, le6_0]
    rw [List.map_cons]
    unfold lcGo
    simp only [List.set_cons_succ, List.set_cons_zero]
    rw [e1]
    cases hu : undB i w with
    | true =>
      simp only [Rs.ne, e_bok]
      rw [e2]
      simp only [Rs.ne, e_bok, e_dfz, LIM, lim, if_true, List.set_cons_succ, List.set_cons_zero, Rv.d]
      rw [lc_lower s w hw ns l (acc ++ [D.str (kn i)]) (fun x hx => h x (List.mem_cons_of_mem _ hx)) (by simp at hl ⊢; omega), List.filter_cons_of_pos (by rw [hu])]
      simp
    | false =>
      simp only [Rs.ne, e_bok, List.set_cons_succ, List.set_cons_zero]
      rw [lc_lower s w hw ns l acc (fun x hx => h x (List.mem_cons_of_mem _ hx)) (by simp at hl ⊢; omega), List.filter_cons_of_neg (by rw [hu]; decide)]
theorem und_len : ∀ w, w < 8 → 0 < (NMS.filter fun i => undB i w).length := by decide +kernel
theorem g_lower (s : List D) (hs : OkS s) (w : Nat) (hw : w < 8) : ∃ k s', Gs F6 s [.str (kn w)] (.fz (.str (kn k))) s' ∧ k < 8 ∧ OkS s' := by
  obtain ⟨x, s1, e1, x0, x1, o1⟩ := g_pick s 10 hs (by decide)
  by_cases h4 : x < 4
  · obtain ⟨k, s2, e2, hk, o2⟩ := g_kind s1 o1
    exact ⟨k, s2, gs_w rfl (by simp -implicitDefEqProofs [exs, ex, ev, evs, evA, evI, exm, isLr, useSl, putSl_eq, moveSl, lookSl, lookLs, liveSl, chgSl, dicSl, putAll, bindT, isTys, isTy, isN, isNonE, intP, optR, L2.atI, L2.ixN, LIM, w_ok, w_er, bb6, at6_3, at6_4, gs1 e1, h4, gs0 e2]), hk, o2⟩
  · have nms : ∀ x ∈ NMS, x < 8 := by decide
    obtain ⟨fl, hfl⟩ : ∃ z, z = NMS.filter fun i => undB i w := ⟨_, rfl⟩
    have lc := fun ns => lc_lower s1 w hw ns NMS [] nms (by decide)
    have hl := und_len w hw
    rw [← hfl] at lc hl
    have fm : ∀ x ∈ fl, x < 8 := fun x hx => by
      rw [hfl] at hx
      exact nms x (List.mem_filter.mp hx).1
    have ll : fl.length ≤ 8 := by rw [hfl]; exact List.length_filter_le ..
    simp only [List.nil_append] at lc
    obtain ⟨y, s2, e2, y0, y1, o2⟩ := g_pick s1 fl.length o1 (by omega)
    obtain ⟨z, hz⟩ : ∃ z : Int, (fl.length : Int) = z := ⟨_, rfl⟩
    rw [hz] at e2 y1
    have yl : y.toNat < fl.length := by omega
    have ea : L2.atI (fl.map fun i => D.str (kn i)) y = some (.str (kn fl[y.toNat])) := by
      refine atI_int y0 ?_
      rw [List.getElem?_map, List.getElem?_eq_getElem yl]
      rfl
    obtain ⟨A, hA⟩ : ∃ A, A = fl.map fun i => D.str (kn i) := ⟨_, rfl⟩
    have la : (A.length : Int) = z := by rw [hA, List.length_map, hz]
    rw [← hA] at lc ea
    refine ⟨fl[y.toNat], s2, ?_, fm _ (List.getElem_mem _), o2⟩
    have e0 : ([D.str "list", .str "bag", .str "set", .str "first", .str "last", .str "ends", .str "heads", .str "tails"] : List D) = NMS.map fun i => D.str (kn i) := rfl
    obtain ⟨B, hB⟩ : ∃ B, B = NMS.map fun i => D.str (kn i) := ⟨_, rfl⟩
    have lb : B.length ≤ 100000 := by rw [hB]; decide
    refine gs_w rfl ?_
    rw [bb6]
    show (exs P6 _ [.lp s, .fz (.str (kn w)), .un, .un, .un]).W _ _
    refine w_go (δ' := [.lp s1, .fz (.str (kn w)), .un, .un, .un]) (by simp -implicitDefEqProofs [exs, ex, ev, evs, evA, evI, exm, isLr, useSl, putSl_eq, moveSl, lookSl, lookLs, liveSl, chgSl, dicSl, putAll, bindT, isTys, isTy, isN, isNonE, intP, optR, L2.atI, L2.ixN, LIM, w_ok, w_er, at6_3, gs1 e1, h4]) ?_
    refine w_go (δ' := [.lp s1, .fz (.str (kn w)), .fz (.tup B), .un, .un]) (by rw [hB]; simp -implicitDefEqProofs [exs, ex, ev, evs, evA, evI, exm, isLr, useSl, putSl_eq, moveSl, lookSl, lookLs, liveSl, chgSl, dicSl, putAll, bindT, isTys, isTy, isN, isNonE, intP, optR, L2.atI, L2.ixN, LIM, w_ok, w_er, NMS, kn]) ?_
    have lcr : lcRun 4 (ev P6 lt6_0) (ev P6 le6_0) B [.lp s1, .fz (.str (kn w)), .fz (.tup B), .un, .un] = .ok (.lv A) [.lp s1, .fz (.str (kn w)), .fz (.tup B), .un, .un] := by
      unfold lcRun
      rw [lcSl_eq]
      show (lcGo 4 _ _ B [] [.lp s1, .fz (.str (kn w)), .fz (.tup B), .un, .un]).bind _ = _
      have := lc (.tup B)
      rw [← hB] at this
      rw [this]
      rfl
    refine w_go (δ' := [.lp s1, .fz (.str (kn w)), .fz (.tup B), .lv A, .un]) (by simp -implicitDefEqProofs [exs, ex, ev, evs, evA, evI, exm, isLr, useSl, putSl_eq, moveSl, lookSl, lookLs, liveSl, chgSl, dicSl, putAll, bindT, isTys, isTy, isN, isNonE, intP, optR, L2.atI, L2.ixN, LIM, w_ok, w_er, lcr]) ?_
    simp -implicitDefEqProofs [exs, ex, ev, evs, evA, evI, exm, isLr, useSl, putSl_eq, moveSl, lookSl, lookLs, liveSl, chgSl, dicSl, putAll, bindT, isTys, isTy, isN, isNonE, intP, optR, LIM, w_ok, w_er, at6_3, la, gs1 e2, ea]
/-! effects narrowed -/
theorem g_narrowed (n : Nat) (hn : n < 8) (e : Eff) (hl : e.2.length ≤ 1000) : Gv F26 [.str (kn n), EfD e] (.fz (EfD (narE n e))) := by
  obtain ⟨F, e1, e2⟩ := mt_narrowed_effect n hn (d := Wd e.2) (.inl rfl) hl
  have g := g_formed n hn e.1 (plainL n e.2)
  have ee : narE n e = normE n (e.1, plainL n e.2) := rfl
  rw [ee]
  obtain ⟨w, hw⟩ : ∃ w, w = plainL n e.2 := ⟨_, rfl⟩
  rw [← hw] at e2 g ⊢
  exact gv_w rfl (by simp -implicitDefEqProofs [exs, ex, ev, evs, evA, evI, exm, isLr, useSl, putSl_eq, moveSl, lookSl, lookLs, liveSl, chgSl, dicSl, putAll, bindT, isTys, isTy, isN, isNonE, intP, optR, L2.atI, L2.ixN, LIM, w_ok, w_er, bb26, at26_18, at26_25, gc1 (g_kn n hn), e1, gc2 e2, gc3 g])
end LW

end
section
set_option Elab.async false
set_option linter.all false
set_option maxRecDepth 100000
set_option maxHeartbeats 4000000
namespace LW
open QL KL
theorem ne_ii (z : Int) : cmpD .ne (.int z) (.int z) = some false := by rw [e_neg, q_oint, q_int]; simp
theorem ne_eff (a b : Eff) : cmpD .ne (EfD a) (EfD b) = some (!decide (a = b)) := by
  rw [ne_e]
  congr 2
  rw [decide_eq_decide]
  exact ⟨fun z => Prod.ext z.1 z.2, fun z => by rw [z]; exact ⟨rfl, rfl⟩⟩
theorem ne_eff0 (a : Eff) : cmpD .ne (EfD a) (EfD a) = some false := by rw [ne_eff]; simp
theorem ne_w0' (a : List Int) : cmpD .ne (Wd a) (Wd a) = some false := by rw [ne_w]; simp
theorem g_lnarrowed {n w : Nat} (hn : n < 8) (hw : w < 8) (hu : undB n w = true) (e : Eff) (hl : e.2.length ≤ 50) : Gv F41 [.str (kn n), .str (kn w), EfD e] (.fz (EfD (narE n e))) := by
  have g1 := g_lnormal w hw e
  have g2 := g_lplain n hn e.2 (by omega) (few_len (by omega))
  have g3 := g_lnormal n hn ((normE w e).1, plainL n e.2)
  have q : normE n ((normE w e).1, plainL n e.2) = narE n e := nar_wide hu e
  rw [q] at g3
  obtain ⟨m, hm⟩ : ∃ m, m = normE w e := ⟨_, rfl⟩
  have h2 : m.2 = e.2 := by rw [hm]; rfl
  rw [← hm] at g1 g3
  rw [← h2] at g2 g3
  exact gv_w rfl (by simp -implicitDefEqProofs [exs, ex, ev, evs, evA, evI, exm, isLr, useSl, putSl_eq, moveSl, lookSl, lookLs, liveSl, chgSl, dicSl, putAll, bindT, isTys, isTy, isN, isNonE, intP, optR, L2.atI, L2.ixN, LIM, w_ok, w_er, bb41, at41_22, at41_8, gc2 g1, gc2 g2, gc2 g3])
theorem lts_on {k : Nat} {e : Eff} {s : List Int} (h1 : lts e.2) (h2 : lts s) : lts (onE k e s) := fun x hx => (on_mem hx).elim (h2 x) (h1 x)
theorem eff_step {n w : Nat} (hn : n < 8) (hw : w < 8) (hu : undB n w = true) (e : Eff) (s : List Int) (le : e.2.length ≤ 28) (ls : s.length ≤ 9) (te : lts e.2) (ts : lts s) (A B T : Sl) (lo : List D) (hlo : lo.length ≤ 1000) (t8 t9 t10 t11 t12 t13 : Sl) (h8 : nlp t8 = true) (h9 : nlp t9 = true) :
    exs P43 lb43_0 [.fz (.str (kn n)), .fz (.str (kn w)), A, B, .fz (Wd s), T, .lv lo, .fz (EfD e), t8, t9, t10, t11, t12, t13] = .ok .nx [.fz (.str (kn n)), .fz (.str (kn w)), A, B, .fz (Wd s), T, .lv (lo ++ [EfD (narE n e)]), .fz (EfD e), .fz (EfD (narE n e)), .fz (Wd (plainL n (onE w e s))), t10, t11, t12, t13] := by
  have g1 := g_narrowed n hn e (by omega)
  have ln : (narE n e).2.length ≤ 29 := by have := plain_len n e.2; exact Nat.le_trans this (by omega)
  have g2 := g_leffect (narE n e) (by omega)
  have g3 := g_lnarrowed hn hw hu e (by omega)
  have q1 := ne_eff0 (narE n e)
  have g4 := g_lplain n hn s (by omega) (few_len (by omega))
  have lp : (plainL n s).length ≤ 10 := by have := plain_len n s; omega
  have g5 := g_effect_on n hn (narE n e) (plainL n s) (by omega)
  rw [nar_on hu] at g5
  have lo1 := on_len (k := w) (a := e) (s := s)
  have g6 := g_lword (plainL n (onE w e s)) (by have := plain_len n (onE w e s); omega)
  have g7 := g_lon w hw e s (by omega) (few_app (by omega))
  have g8 := g_lplain n hn (onE w e s) (by omega) (few_len (by omega))
  have q2 := ne_w0' (plainL n (onE w e s))
  have g9 := g_effect_on w hw e s (by omega)
  have g10 := g_plain_word n hn (d := Wd (onE w e s)) (.inl rfl) (lts_on te ts) (by omega)
  obtain ⟨m, hm⟩ : ∃ m, m = narE n e := ⟨_, rfl⟩
  obtain ⟨p, hp⟩ : ∃ m, m = plainL n s := ⟨_, rfl⟩
  obtain ⟨o, ho⟩ : ∃ m, m = onE w e s := ⟨_, rfl⟩
  obtain ⟨r, hr⟩ : ∃ m, m = plainL n o := ⟨_, rfl⟩
  rw [← hm] at g1 g2 g3 q1 g5 ⊢
  rw [← hp] at g4 g5
  rw [← ho] at g5 g6 g7 g8 q2 g9 g10 ⊢
  rw [← hr] at g5 g6 g8 q2 g10 ⊢
  have lim : lo.length < 100000 := by omega
  simp -implicitDefEqProofs [exs, ex, ev, evs, evA, evI, exm, isLr, useSl, putSl_eq, moveSl, lookSl, lookLs, liveSl, chgSl, dicSl, putAll, bindT, isTys, isTy, isN, isNonE, intP, optR, L2.atI, L2.ixN, LIM, w_ok, w_er, lb43_0, h8, h9, at43_26, gc2 g1, at43_40, gc1 g2, at43_41, gc3 g3, q1, at43_8, gc2 g4, at43_28, gc3 g5, at43_39, gc1 g6, at43_42, gc3 g7, gc2 g8, q2, gc3 g9, at43_21, gc2 g10, lim]
theorem step_step {n w : Nat} (hn : n < 8) (hw : w < 8) (hu : undB n w = true) (a b T g : Eff) (j : Int) (pa : plainL w a.2 = a.2) (pg : plainL w g.2 = g.2) (la : a.2.length ≤ 28) (lg : g.2.length ≤ 28) (S : Sl) (LO : List D) (t7 t8 t9 t11 t12 t13 : Sl) (h8 : nlp t8 = true) (h11 : nlp t11 = true) (h12 : nlp t12 = true) (h13 : nlp t13 = true)
    (hix : L2.atI [EfD a, EfD b, EfD T] j = some (EfD g)) (hl0 : L2.atI LO 0 = some (EfD (narE n a))) (hlj : L2.atI LO j = some (EfD (narE n g))) (hs : cmpD .eq (.int j) (.int 2) = some true → (stepP w (normE w a) (normE w g)).isSome = true) :
    ∃ t8' t12' t13', nlp t8' = true ∧ nlp t12' = true ∧ nlp t13' = true ∧ exs P43 lb43_1 [.fz (.str (kn n)), .fz (.str (kn w)), .fz (EfD a), .fz (EfD b), S, .fz (EfD T), .lv LO, t7, t8, t9, .fz (.int j), t11, t12, t13] = .ok .nx [.fz (.str (kn n)), .fz (.str (kn w)), .fz (EfD a), .fz (EfD b), S, .fz (EfD T), .lv LO, t7, t8', t9, .fz (.int j), .fz (EfD g), t12', t13'] := by
  have g1 := g_step w hw a g (by omega) (by omega)
  have sp := step_ok (a := normE w a) (b := normE w g) hw pa pg norm_norm norm_norm
  have lim : ([EfD a, EfD b, EfD T] : List D).length ≤ 100000 := by simp
  obtain ⟨c2, hc2⟩ : ∃ c, cmpD .eq (.int j) (.int 2) = some c := ⟨_, by rw [e_eqg, q_oint, q_oint]; rfl⟩
  cases hst : stepP w (normE w a) (normE w g) with
  | none =>
    rw [hst] at g1 hs
    dsimp only [oE] at g1
    have : c2 = false := by
      cases c2 with
      | false => rfl
      | true => exact absurd (hs hc2) (by simp)
    rw [this] at hc2
    refine ⟨t8, .fz .non, t13, h8, rfl, h13, ?_⟩
    simp -implicitDefEqProofs [exs, ex, ev, evs, evA, evI, exm, isLr, useSl, putSl_eq, moveSl, lookSl, lookLs, liveSl, chgSl, dicSl, putAll, bindT, isTys, isTy, isN, isNonE, intP, optR, LIM, w_ok, w_er, lb43_1, hix, at43_35, gc3 g1, hc2, h11, h12]
  | some u =>
    rw [hst] at g1 sp
    dsimp only [oE] at g1
    have lu := sp.sub.length_le
    have lu' : u.2.length ≤ 28 := Nat.le_trans lu lg
    obtain ⟨k1, e, k2, k3, k4⟩ := nar_step hn hu sp.ld.2
    have g2 := g_narrowed n hn u (by omega)
    have ln : ∀ x : Eff, x.2.length ≤ 28 → (narE n x).2.length ≤ 29 := fun x hx => by have := plain_len n x.2; exact Nat.le_trans this (by omega)
    have ln1 := ln a la
    have ln2 := ln u lu'
    have ln3 := ln g lg
    have g3 := g_step n hn (narE n a) (narE n g) (by omega) (by omega)
    rw [nar_norm, nar_norm, k2] at g3
    dsimp only [oE] at g3
    have g4 := g_lthen n hn (narE n a) (narE n u) (by omega) (few_app (by omega))
    rw [k1] at g4
    have q1 := ne_eff0 (narE n g)
    have g5 := g_leffect e (by omega)
    have g6 := g_lthen n hn (narE n a) e (by omega) (few_app (by omega))
    rw [k3] at g6
    obtain ⟨m, hm⟩ : ∃ m, m = narE n u := ⟨_, rfl⟩
    obtain ⟨p, hp⟩ : ∃ m, m = narE n a := ⟨_, rfl⟩
    obtain ⟨o, ho⟩ : ∃ m, m = narE n g := ⟨_, rfl⟩
    rw [← hm] at g2 g4 k4
    rw [← hp] at g3 g4 g6 hl0
    rw [← ho] at g3 g4 q1 g6 hlj
    obtain ⟨ze, hze⟩ : ∃ z : Int, (e.2.length : Int) = z := ⟨_, rfl⟩
    obtain ⟨zm, hzm⟩ : ∃ z : Int, (m.2.length : Int) = z := ⟨_, rfl⟩
    have hle : ¬ zm < ze := by omega
    refine ⟨.fz (EfD m), .fz (EfD u), .fz (EfD e), rfl, rfl, rfl, ?_⟩
    cases c2 <;> simp -implicitDefEqProofs [exs, ex, ev, evs, evA, evI, exm, isLr, useSl, putSl_eq, moveSl, lookSl, lookLs, liveSl, chgSl, dicSl, putAll, bindT, isTys, isTy, isN, isNonE, intP, optR, LIM, w_ok, w_er, lb43_1, hix, hl0, hlj, at43_35, gc3 g1, hc2, h8, h11, h12, h13, at43_26, gc2 g2, gc3 g3, at43_24, gc3 g4, q1, at43_40, gc1 g5, gc3 g6, pr_1, hze, hzm, hle]
theorem g_effects {n w : Nat} (hn : n < 8) (hw : w < 8) (hu : undB n w = true) (a b : Eff) (s : List Int) (pa : plainL w a.2 = a.2) (pb : plainL w b.2 = b.2) (la : a.2.length ≤ 9) (lb : b.2.length ≤ 17) (ls : s.length ≤ 9) (ta : lts a.2) (tb : lts b.2) (ts : lts s) : Gv F43 [.str (kn n), .str (kn w), EfD a, EfD b, Wd s] (.fz (.bl true)) := by
  have g0 := g_lthen w hw a b (by omega) (few_app (by omega))
  have tl := then_len (k := w) (a := a) (b := b)
  have tT : lts (thenE w a b).2 := fun x hx => (then_mem hx).elim (ta x) (tb x)
  have pT := then_plain (a := a) pb
  have sT := step_drawn (a := a) (p := b) hw pa pb
  have nT := nar_then hu a b
  have f1 : foldE n (false, []) [narE n a, narE n b] = narE n (thenE w a b) := by
    show thenE n (thenE n (false, []) (narE n a)) (narE n b) = _
    rw [then_idle (nar_plain n a), nar_norm, nT]
  have f2 : foldE w (false, []) [a, b] = thenE w a b := by
    show thenE w (thenE w (false, []) a) b = _
    rw [then_idle pa, then_nl]
  have ln : ∀ x : Eff, x.2.length ≤ 28 → (narE n x).2.length ≤ 29 := fun x hx => by have := plain_len n x.2; exact Nat.le_trans this (by omega)
  have ln1 := ln a (by omega)
  have ln2 := ln b (by omega)
  have g1 := g_then n hn [narE n a, narE n b] (by simp; omega)
  have g2 := g_then w hw [a, b] (by simp; omega)
  rw [f1] at g1
  rw [f2] at g2
  simp only [List.map_cons, List.map_nil] at g1 g2
  obtain ⟨T, hT⟩ : ∃ T, T = thenE w a b := ⟨_, rfl⟩
  rw [← hT] at g0 tl tT pT sT g1 g2
  have g3 := g_narrowed n hn T (by omega)
  have q1 := ne_eff0 (narE n T)
  have s1 := eff_step hn hw hu a s (by omega) ls ta ts (.fz (EfD a)) (.fz (EfD b)) (.fz (EfD T)) [] (by simp) .un .un .un .un .un .un rfl rfl
  have s2 := eff_step hn hw hu b s (by omega) ls tb ts (.fz (EfD a)) (.fz (EfD b)) (.fz (EfD T)) [EfD (narE n a)] (by simp) (.fz (EfD (narE n a))) (.fz (Wd (plainL n (onE w a s)))) .un .un .un .un rfl rfl
  have s3 := eff_step hn hw hu T s (by omega) ls tT ts (.fz (EfD a)) (.fz (EfD b)) (.fz (EfD T)) [EfD (narE n a), EfD (narE n b)] (by simp) (.fz (EfD (narE n b))) (.fz (Wd (plainL n (onE w b s)))) .un .un .un .un rfl rfl
  simp only [List.nil_append, List.cons_append] at s1 s2 s3
  obtain ⟨x1, x2, x3, y1, y2, y3, z1⟩ := step_step hn hw hu a b T b 1 pa pb (by omega) (by omega) (.fz (Wd s)) [EfD (narE n a), EfD (narE n b), EfD (narE n T)] (.fz (EfD T)) (.fz (EfD (narE n T))) (.fz (Wd (plainL n (onE w T s)))) .un .un .un rfl rfl rfl rfl rfl rfl rfl (by
    intro h
    rw [e_eqg, q_oint, q_oint, q_int] at h
    simp at h)
  obtain ⟨x1', x2', x3', y1', y2', y3', z2⟩ := step_step hn hw hu a b T T 2 pa pT (by omega) (by omega) (.fz (Wd s)) [EfD (narE n a), EfD (narE n b), EfD (narE n T)] (.fz (EfD T)) x1 (.fz (Wd (plainL n (onE w T s)))) (.fz (EfD b)) x2 x3 y1 rfl y2 y3 rfl rfl rfl (by
    intro _
    obtain ⟨e, he, _⟩ := sT
    rw [he]; rfl)
  obtain ⟨p, hp⟩ : ∃ m, m = narE n a := ⟨_, rfl⟩
  obtain ⟨q, hq⟩ : ∃ m, m = narE n b := ⟨_, rfl⟩
  obtain ⟨r, hr⟩ : ∃ m, m = narE n T := ⟨_, rfl⟩
  rw [← hp, ← hq] at g1
  rw [← hr] at g1 g3 q1
  rw [← hp] at s1 s2 s3 z1 z2
  rw [← hq] at s2 s3 z1 z2
  rw [← hr] at s3 z1 z2
  obtain ⟨o1, ho1⟩ : ∃ m, m = plainL n (onE w a s) := ⟨_, rfl⟩
  obtain ⟨o2, ho2⟩ : ∃ m, m = plainL n (onE w b s) := ⟨_, rfl⟩
  obtain ⟨o3, ho3⟩ : ∃ m, m = plainL n (onE w T s) := ⟨_, rfl⟩
  rw [← ho1] at s1 s2
  rw [← ho2] at s2 s3
  rw [← ho3] at s3 z1 z2
  refine gv_w rfl ?_
  rw [bb43]
  show (exs P43 _ [.fz (.str (kn n)), .fz (.str (kn w)), .fz (EfD a), .fz (EfD b), .fz (Wd s), .un, .un, .un, .un, .un, .un, .un, .un, .un]).W _ _
  refine w_go (δ' := [.fz (.str (kn n)), .fz (.str (kn w)), .fz (EfD a), .fz (EfD b), .fz (Wd s), .fz (EfD T), .un, .un, .un, .un, .un, .un, .un, .un]) (by simp -implicitDefEqProofs [exs, ex, ev, evs, evA, evI, exm, isLr, useSl, putSl_eq, moveSl, lookSl, lookLs, liveSl, chgSl, dicSl, putAll, bindT, isTys, isTy, isN, isNonE, intP, optR, L2.atI, L2.ixN, LIM, w_ok, w_er, at43_24, gc3 g0]) ?_
  refine w_go (δ' := [.fz (.str (kn n)), .fz (.str (kn w)), .fz (EfD a), .fz (EfD b), .fz (Wd s), .fz (EfD T), .lv [], .un, .un, .un, .un, .un, .un, .un]) (by simp -implicitDefEqProofs [exs, ex, ev, evs, evA, evI, exm, isLr, useSl, putSl_eq, moveSl, lookSl, lookLs, liveSl, chgSl, dicSl, putAll, bindT, isTys, isTy, isN, isNonE, intP, optR, L2.atI, L2.ixN, LIM, w_ok, w_er]) ?_
  refine w_go (δ' := [.fz (.str (kn n)), .fz (.str (kn w)), .fz (EfD a), .fz (EfD b), .fz (Wd s), .fz (EfD T), .lv [EfD p, EfD q, EfD r], .fz (EfD T), .fz (EfD r), .fz (Wd o3), .un, .un, .un, .un]) (by simp -implicitDefEqProofs [exs, ex, ev, evs, evA, evI, exm, isLr, useSl, putSl_eq, moveSl, lookSl, lookLs, liveSl, chgSl, dicSl, putAll, bindT, isTys, isTy, isN, isNonE, intP, optR, L2.atI, L2.ixN, LIM, w_ok, w_er, forGo, s1, s2, s3]) ?_
  refine w_go (δ' := [.fz (.str (kn n)), .fz (.str (kn w)), .fz (EfD a), .fz (EfD b), .fz (Wd s), .fz (EfD T), .lv [EfD p, EfD q, EfD r], .fz (EfD T), .fz (EfD r), .fz (Wd o3), .un, .un, .un, .un]) (by simp -implicitDefEqProofs [exs, ex, ev, evs, evA, evI, exm, isLr, useSl, putSl_eq, moveSl, lookSl, lookLs, liveSl, chgSl, dicSl, putAll, bindT, isTys, isTy, isN, isNonE, intP, optR, L2.atI, L2.ixN, LIM, w_ok, w_er, at43_37, at43_26, gc2 g1, gc2 g2, gc2 g3, q1]) ?_
  simp -implicitDefEqProofs [exs, ex, ev, evs, evA, evI, exm, isLr, useSl, putSl_eq, moveSl, lookSl, lookLs, liveSl, chgSl, dicSl, putAll, bindT, isTys, isTy, isN, isNonE, intP, optR, L2.atI, L2.ixN, LIM, w_ok, w_er, forGo, z1, z2, y1, y2, y3]
theorem g_law (ns : List Int) : Gv F50 [.rol (ns.map D.int)] (.fz (.bl true)) := by
  obtain ⟨s, e0, o0⟩ := g_stream ns
  obtain ⟨w, s1, e1, hw, o1⟩ := g_kind s o0
  obtain ⟨n, s1', e1', hn, o1'⟩ := g_lower s1 o1 w hw
  obtain ⟨ls, s2, e2, ⟨l0, l10, lr⟩, o2⟩ := g_letters s1' o1'
  obtain ⟨f3, s3, e3, _, _, o3⟩ := g_pick s2 10 o2 (by decide)
  obtain ⟨v, s4, e4, v7, mv, o4⟩ := g_raw s3 ls o3 l0
  have gv := g_lplain w hw v (by omega) (few_len (by omega))
  have pv := plain_len w v
  have la : (plainL w v).length ≤ 8 := by omega
  have ma : ∀ x ∈ plainL w v, x ∈ ls := fun x hx => mv x (plain_sub w v x hx)
  have ta : lts (plainL w v) := fun x hx => lr x (ma x hx)
  have qa : plainL w (plainL w v) = plainL w v := plain2 w v
  obtain ⟨va, hva⟩ : ∃ z, z = plainL w v := ⟨_, rfl⟩
  rw [← hva] at gv la ma qa ta
  obtain ⟨f5, s5, e5, _, _, o5⟩ := g_pick s4 10 o4 (by decide)
  obtain ⟨y, s6, e6, y7, my, o6⟩ := g_near s5 ls va o5 l0 (by omega) ma
  have gy := g_lplain w hw y (by omega) (few_len (by omega))
  have py := plain_len w y
  have lc : (plainL w y).length ≤ 16 := by omega
  have tb : lts (plainL w y) := fun x hx => lr x (my x (plain_sub w y x hx))
  have qc : plainL w (plainL w y) = plainL w y := plain2 w y
  obtain ⟨vb, hvb⟩ : ∃ z, z = plainL w y := ⟨_, rfl⟩
  rw [← hvb] at gy lc qc tb
  obtain ⟨st, s7, e7, st7, mst, o7⟩ := g_raw s6 ls o6 l0
  have gs := g_lplain w hw st (by omega) (few_len (by omega))
  have pst := plain_len w st
  have lst' : (plainL w st).length ≤ 8 := by omega
  have tst : lts (plainL w st) := fun x hx => lr x (mst x (plain_sub w st x hx))
  obtain ⟨vs, hvs⟩ : ∃ z, z = plainL w st := ⟨_, rfl⟩
  rw [← hvs] at gs lst' tst
  obtain ⟨wd, s8, e8, wd7, mwd, o8⟩ := g_raw s7 ls o7 l0
  have twd : lts wd := fun x hx => lr x (mwd x hx)
  obtain ⟨b3, hb3⟩ : ∃ b : Bool, b = decide (4 < f3) := ⟨_, rfl⟩
  obtain ⟨b5, hb5⟩ : ∃ b : Bool, b = decide (4 < f5) := ⟨_, rfl⟩
  have fa1 := g_family hw
  have fa2 := g_family hn
  have pr1 := g_pairs hn hw
  have pr2 := g_pairs hw hn
  have un := g_lunder hn hw
  have c1 : cmpD .ne (.tup [.str "list", .str "bag", .str "set", .str "first", .str "last", .str "ends", .str "heads", .str "tails"]) (.tup [.str "list", .str "bag", .str "set", .str "first", .str "last", .str "ends", .str "heads", .str "tails"]) = some false := by decide +kernel
  have c2 : cmpD .ne (.tup [.str "set", .str "first", .str "last", .str "ends", .str "heads", .str "tails"]) (.tup [.str "set", .str "first", .str "last", .str "ends", .str "heads", .str "tails"]) = some false := by decide +kernel
  have c3 : slD (.tup [.str "list", .str "bag", .str "set", .str "first", .str "last", .str "ends", .str "heads", .str "tails"]) (some 2) none = some (.fz (.tup [.str "set", .str "first", .str "last", .str "ends", .str "heads", .str "tails"])) := rfl
  have h1 := g_plain_word w hw (d := Wd wd) (.inl rfl) twd (by omega)
  have pw := plain_len w wd
  have h2 := g_plain_word n hn (d := Wd (plainL w wd)) (.inl rfl) (lts_plain twd) (by omega)
  have h3 := g_lword (plainL n (plainL w wd)) (by have := plain_len n (plainL w wd); omega)
  have h4 := g_lplain n hn wd (by omega) (few_len (by omega))
  refine gv_w rfl ?_
  rw [bb50]
  show (exs P50 _ [.fz (.rol (ns.map D.int)), .un, .un, .un, .un, .un, .un, .un, .un, .un, .un]).W _ _
  refine w_go (δ' := [.fz (.rol (ns.map D.int)), .lv s, .un, .un, .un, .un, .un, .un, .un, .un, .un]) (by simp -implicitDefEqProofs [exs, ex, ev, evs, evA, evI, exm, isLr, useSl, putSl_eq, moveSl, lookSl, lookLs, liveSl, chgSl, dicSl, putAll, bindT, isTys, isTy, isN, isNonE, intP, optR, L2.atI, L2.ixN, LIM, w_ok, w_er, at50_0, gc1 e0]) ?_
  refine w_go (δ' := [.fz (.rol (ns.map D.int)), .lv s1, .fz (.str (kn w)), .un, .un, .un, .un, .un, .un, .un, .un]) (by simp -implicitDefEqProofs [exs, ex, ev, evs, evA, evI, exm, isLr, useSl, putSl_eq, moveSl, lookSl, lookLs, liveSl, chgSl, dicSl, putAll, bindT, isTys, isTy, isN, isNonE, intP, optR, L2.atI, L2.ixN, LIM, w_ok, w_er, at50_4, gl0 e1]) ?_
  refine w_go (δ' := [.fz (.rol (ns.map D.int)), .lv s1', .fz (.str (kn w)), .fz (.str (kn n)), .un, .un, .un, .un, .un, .un, .un]) (by simp -implicitDefEqProofs [exs, ex, ev, evs, evA, evI, exm, isLr, useSl, putSl_eq, moveSl, lookSl, lookLs, liveSl, chgSl, dicSl, putAll, bindT, isTys, isTy, isN, isNonE, intP, optR, L2.atI, L2.ixN, LIM, w_ok, w_er, at50_6, gl1 e1']) ?_
  refine w_go (δ' := [.fz (.rol (ns.map D.int)), .lv s2, .fz (.str (kn w)), .fz (.str (kn n)), .lv (ls.map D.int), .un, .un, .un, .un, .un, .un]) (by simp -implicitDefEqProofs [exs, ex, ev, evs, evA, evI, exm, isLr, useSl, putSl_eq, moveSl, lookSl, lookLs, liveSl, chgSl, dicSl, putAll, bindT, isTys, isTy, isN, isNonE, intP, optR, L2.atI, L2.ixN, LIM, w_ok, w_er, at50_7, gl0 e2]) ?_
  refine w_go (δ' := [.fz (.rol (ns.map D.int)), .lv s4, .fz (.str (kn w)), .fz (.str (kn n)), .fz (Ld ls), .fz (EfD (b3, va)), .un, .un, .un, .un, .un]) (by simp -implicitDefEqProofs [exs, ex, ev, evs, evA, evI, exm, isLr, useSl, putSl_eq, moveSl, lookSl, lookLs, liveSl, chgSl, dicSl, putAll, bindT, isTys, isTy, isN, isNonE, intP, optR, L2.atI, L2.ixN, LIM, w_ok, w_er, at50_3, at50_9, at50_8, gl1 e3, gl1 e4, gc2 gv, hb3]) ?_
  refine w_go (δ' := [.fz (.rol (ns.map D.int)), .lv s6, .fz (.str (kn w)), .fz (.str (kn n)), .fz (Ld ls), .fz (EfD (b3, va)), .fz (EfD (b5, vb)), .un, .un, .un, .un]) (by simp -implicitDefEqProofs [exs, ex, ev, evs, evA, evI, exm, isLr, useSl, putSl_eq, moveSl, lookSl, lookLs, liveSl, chgSl, dicSl, putAll, bindT, isTys, isTy, isN, isNonE, intP, optR, L2.atI, L2.ixN, LIM, w_ok, w_er, at50_3, at50_44, at50_8, gl1 e5, gl2 e6, gc2 gy, hb5]) ?_
  refine w_go (δ' := [.fz (.rol (ns.map D.int)), .lv s7, .fz (.str (kn w)), .fz (.str (kn n)), .fz (Ld ls), .fz (EfD (b3, va)), .fz (EfD (b5, vb)), .fz (Wd vs), .un, .un, .un]) (by simp -implicitDefEqProofs [exs, ex, ev, evs, evA, evI, exm, isLr, useSl, putSl_eq, moveSl, lookSl, lookLs, liveSl, chgSl, dicSl, putAll, bindT, isTys, isTy, isN, isNonE, intP, optR, L2.atI, L2.ixN, LIM, w_ok, w_er, at50_9, at50_8, gl1 e7, gc2 gs]) ?_
  refine w_go (δ' := [.fz (.rol (ns.map D.int)), .lv s8, .fz (.str (kn w)), .fz (.str (kn n)), .fz (Ld ls), .fz (EfD (b3, va)), .fz (EfD (b5, vb)), .fz (Wd vs), .fz (Wd wd), .un, .un]) (by simp -implicitDefEqProofs [exs, ex, ev, evs, evA, evI, exm, isLr, useSl, putSl_eq, moveSl, lookSl, lookLs, liveSl, chgSl, dicSl, putAll, bindT, isTys, isTy, isN, isNonE, intP, optR, L2.atI, L2.ixN, LIM, w_ok, w_er, at50_9, gl1 e8]) ?_
  refine w_go (δ' := [.fz (.rol (ns.map D.int)), .lv s8, .fz (.str (kn w)), .fz (.str (kn n)), .fz (Ld ls), .fz (EfD (b3, va)), .fz (EfD (b5, vb)), .fz (Wd vs), .fz (Wd wd), .fz (.tup [.str "list", .str "bag", .str "set", .str "first", .str "last", .str "ends", .str "heads", .str "tails"]), .un]) (by simp -implicitDefEqProofs [exs, ex, ev, evs, evA, evI, exm, isLr, useSl, putSl_eq, moveSl, lookSl, lookLs, liveSl, chgSl, dicSl, putAll, bindT, isTys, isTy, isN, isNonE, intP, optR, L2.atI, L2.ixN, LIM, w_ok, w_er]) ?_
  refine w_go (δ' := [.fz (.rol (ns.map D.int)), .lv s8, .fz (.str (kn w)), .fz (.str (kn n)), .fz (Ld ls), .fz (EfD (b3, va)), .fz (EfD (b5, vb)), .fz (Wd vs), .fz (Wd wd), .fz (.tup [.str "list", .str "bag", .str "set", .str "first", .str "last", .str "ends", .str "heads", .str "tails"]), .un]) (by simp -implicitDefEqProofs [exs, ex, ev, evs, evA, evI, exm, isLr, useSl, putSl_eq, moveSl, lookSl, lookLs, liveSl, chgSl, dicSl, putAll, bindT, isTys, isTy, isN, isNonE, intP, optR, L2.atI, L2.ixN, LIM, w_ok, w_er, glo50, hd, Hd.gl, c1, c2, c3, at50_45, gc1 fa1, gc1 fa2]) ?_
  refine w_go (δ' := [.fz (.rol (ns.map D.int)), .lv s8, .fz (.str (kn w)), .fz (.str (kn n)), .fz (Ld ls), .fz (EfD (b3, va)), .fz (EfD (b5, vb)), .fz (Wd vs), .fz (Wd wd), .fz (.tup [.str "list", .str "bag", .str "set", .str "first", .str "last", .str "ends", .str "heads", .str "tails"]), .un]) (by simp -implicitDefEqProofs [exs, ex, ev, evs, evA, evI, exm, isLr, useSl, putSl_eq, moveSl, lookSl, lookLs, liveSl, chgSl, dicSl, putAll, bindT, isTys, isTy, isN, isNonE, intP, optR, L2.atI, L2.ixN, LIM, w_ok, w_er, at50_49, gc2 pr1, gc2 pr2]) ?_
  cases hu : undB n w with
  | false =>
    rw [hu] at un
    simp -implicitDefEqProofs [exs, ex, ev, evs, evA, evI, exm, isLr, useSl, putSl_eq, moveSl, lookSl, lookLs, liveSl, chgSl, dicSl, putAll, bindT, isTys, isTy, isN, isNonE, intP, optR, L2.atI, L2.ixN, LIM, w_ok, w_er, at50_5, gc2 un]
  | true =>
    rw [hu] at un
    rw [und_plain hu] at h2 h3
    have q := ne_w0' (plainL n wd)
    have ge := g_effects hn hw hu (b3, va) (b5, vb) vs qa qc (by simp only; omega) (by simp only; omega) (by omega) ta tb tst
    obtain ⟨r1, hr1⟩ : ∃ m, m = plainL w wd := ⟨_, rfl⟩
    obtain ⟨r2, hr2⟩ : ∃ m, m = plainL n wd := ⟨_, rfl⟩
    rw [← hr1] at h1 h2
    rw [← hr2] at h2 h3 h4 q
    simp -implicitDefEqProofs [exs, ex, ev, evs, evA, evI, exm, isLr, useSl, putSl_eq, moveSl, lookSl, lookLs, liveSl, chgSl, dicSl, putAll, bindT, isTys, isTy, isN, isNonE, intP, optR, L2.atI, L2.ixN, LIM, w_ok, w_er, at50_5, gc2 un, at50_21, gc2 h1, gc2 h2, at50_39, gc1 h3, at50_8, gc2 h4, q, at50_43, gc5 ge]
theorem law_run (ns : List Int) (h : ns.length ≤ 63) : ∃ outs, (d50.fn hd.gl hd.e hd.z (tabGo hd.gl hd.e hd.z [] (ds.take LAST))).run [.fz (.rol (ns.map D.int))] = .ok (.fz (.bl true)) outs := by
  rw [FL_eq]
  obtain ⟨_, o, e, _⟩ := g_law ns
  exact ⟨o, e⟩
end LW

end
theorem PySem.Challenge.cw_leastshelf_k07_narrower_kinds_holds : PySem.Challenge.rw_leastshelf_k07_narrower_kinds.Holds :=
  law_of LW.law_run
