import PyProof.Rows.All
import HandS.ForMost
import HandS.ExcInit
import HandS.WordsExc
import HandS.Defaults
import KE.KSuper
import KE.KExcSuper
import HandS.Exc
import HandS.ExcOwn
import HandS.Style
import HandS.TupAny
import HandS.TupLe
import HandS.IsInst
import HandS.CallSlots
import HandS.RevTup
import HandS.Rev
import HandS.ExcField
import HandS.ExcIs
import HandS.Head0
import HandS.Head1
import HandS.Head2
import HandS.HeadEnd
import HandS.HeadHook1
import HandS.HeadHook2
import PySem.Challenge.RW_leastshelf_k09_stretches
section
set_option Elab.async false
set_option linter.all false
set_option maxRecDepth 100000
/-! QX: an own exception's __init__ that says super().__init__('..'), then self.f = f. -/
namespace QL
open PySem PySem.Spec PyProof.Rows L2 PySem.W

/-- the wrapper of ValueError.__init__ is called: nothing of it is told -/
theorem mw_call {X : Cx} {pins : List (Addr × Obj)} {σ : L2.St} {H : Hp} {s : Shared} {a C u : Addr} {E : Value → Shared → Prop} {A : Around} {us : List Value} {Q : Value → Shared → Prop} (T : OexC X.K C) (I : L2.Inv X pins σ H s) (e : H a = some (exo a C none)) (hu : s.heap.get? u = some (kxs_mw "ValueError.__init__" a)) (hl : us.length ≤ sizeLine)
    (h : ∀ s', L2.Inv X pins σ H s' → Q .none s') : wpAny (model X.prog X.w) A (call (.ref u) us) Q E s := by
  obtain ⟨nm, q, N, bs, bm, sn, sub, ab, col, dd, k0, k1, k2, k3, k5, hC, hbm⟩ := T.cls
  obtain ⟨t1, ho⟩ := exo_at I.hok e
  obtain ⟨hp, g, d, t, os⟩ := s
  have FB := F.excBase_ValueError
  refine wpAny_call (codeAny_of_tree ?_)
  show wpAny _ A.in1 (callAny (.ref u) ⟨us, []⟩) _ _ _
  simp only [callAny]
  refine wpAny_bind (wpAny_load hu ?_)
  simp only [kxs_mw, show (Value.type "method-wrapper" == Value.type "method" || Value.type "method-wrapper" == Value.type "builtin_function_or_method" || Value.type "method-wrapper" == Value.type "method-wrapper") = true by decide, if_true]
  refine KFB.if_so (by decide) ?_
  refine wpAny_bind (check_bound_init FB.toExcCallFacts (I.kIn _ _ hC) ho rfl ?_)
  refine wpAny_bind (wpAny_pure (wpAny_pure ?_))
  refine ⟨plainId_quiet FB.init.plain _, codeAny_builtin FB.initEntry ?_⟩
  refine exc_init_tree (cls := .ref C) (t0 := t1) (dv := none) (c2 := .none) (c3 := .none) (b4 := .bool false) ho hl fun h' k hx ht => ?_
  have J := I.write (t' := t) (x := a) (e := a) (o := exo a C none) (by rw [e]; exact True.intro) (.inl rfl) k ⟨_, hx⟩ (exo_ok hx)
  have eu : upd H a (exo a C none) = H := by
    funext b
    by_cases hb : b = a
    · rw [hb, upd_same, e]
    · rw [upd_ne hb]
  rw [eu] at J
  exact h _ J

/-- the context of a body with the free name __class__ -/
def cxS (P : Program) (w : World) (K : PySem.W.Frag) (mg : Str → Option Value) (base : Heap) (N : List Str) (qual : Str) (scope : Scope) (f : Addr) (cd : Value) (cc : Addr) (A : Around) (outer : List PySem.Env) (s : Shared) (H : Hp) (xe : Value → Shared → Prop) : Cx where
  prog := P
  w := w
  K := K
  mg := mg
  base := base
  A := A.deeper (ksEnv qual scope s.heap.objs.size f cd cc)
  N := N
  s_0 := s
  H_0 := H
  env := ksEnv qual scope s.heap.objs.size f cd cc
  outer := outer
  stack := ksEnv qual scope s.heap.objs.size f cd cc :: outer
  ex := []
  calm := true
  fn := fun _ => false
  pn := []
  xe := xe

/-- what the text says of a class's __init__ of this shape, in K -/
structure SupD (P : Program) (K : PySem.W.Frag) (mg : Str → Option Value) (D f : Addr) (fd : FuncData) (fld : Str) : Prop where
  ex : ∃ (name qual : Str) (params : Arguments) (scope : Scope) (dV kV doc pm ct oc : Value) (an od : Option Addr) (osl : Array (Option Value)) (cda cc : Addr) (ccl : Value) (cdd : Option Addr) (vs : Array Value) (ccs : Array (Option Value)) (file : Str) (tf : Tok) (cl : Value) (cld : Option Addr) (csl : Array (Option Value)) (cdD : ClassData)
    (ar : Arg) (txt : Str) (j : Nat) (p0 p1 p2 p3 p4 p5 p6 p7 p8 p9 : Pos),
    fd = ksFn name qual params [.Expr (.Call (.Attribute (.Call (.Name "super" p0) [] [] p1) "__init__" p2) [.Constant (.str txt) j p3] [] p4) p5, .Assign [.Attribute (.Name "self" p6) fld p7] (.Name fld p8) p9] scope dV kV doc pm an (.ref cda) ct cc ∧
    K.lookup f = some ⟨oc, od, .func fd, osl⟩ ∧ codeIn K (.ref cda) qual = true ∧ (params.posonlyargs ++ params.args).head? = some ar ∧ ar.arg = "self" ∧
    K.lookup cda = some ⟨ccl, cdd, .fields vs, ccs⟩ ∧ vs[2]? = some (.str file tf) ∧ ((P.main.file : Str) == file) = true ∧ K.lookup cc = some ⟨cl, cld, .cell (some (.ref D)), csl⟩ ∧ clsIn K D = some cdD ∧
    scope.kind = .function ∧ scope.isCoroutine = false ∧ scope.isGenerator = false ∧ scope.names.lookup ("super" : Str) = some .globalImplicit ∧ scope.names.lookup ("__class__" : Str) = some .free ∧ scope.names.lookup ("self" : Str) = some .local ∧ scope.names.lookup fld = some .local ∧
    (∀ y ∈ scope.names, y.2 ≠ .cell) ∧ (∀ y ∈ scope.names, y.2 = .free → y.1 = "__class__") ∧ (p2.endLine == p4.line) = true
  top : (P.main.scope.names.lookup ("super" : Str)).isSome = false
  sup : mg "super" = none
  th : nsIn K cStatics "thirdparty.any" = some none
  ne : fld ≠ "self"
  dbg : (fld == ("__debug__" : Str)) = false ∧ (fld == ("__classdict__" : Str)) = false

theorem mcall {o : Expr} {name : Str} {p2 p4 : Pos} {e : Expr} {env : PySem.Env} (hpl : (p2.endLine == p4.line) = true) (hs : methodCallForm 1 (backTo p4 (starEach [e] env)) [] = true) : eval (.Call (.Attribute o name p2) [e] [] p4) env = (do
      let ov ← attributeBase o name env (eval o env)
      standAt p2.atName
      let (f, first) ← holding [ov] (getMethod ov name (do return (← importBound o env).getD true))
      callWith p4 f first (backTo p4 (starEach [e] env)) []) := by
  have e2 : methodCallPos true o env p2 p4 = pure p4 := by unfold methodCallPos; rw [hpl]; rfl
  have e3 : ∀ ov, methodCall o name p2 p4 env ov 1 (backTo p4 (starEach [e] env)) [] = (do
      let (f, first) ← holding [ov] (getMethod ov name (do return (← importBound o env).getD true))
      callWith p4 f first (backTo p4 (starEach [e] env)) []) := fun ov => by
    unfold methodCall
    rw [hs, e2]
    rfl
  show (do
      let ov ← attributeBase o name env (eval o env)
      standAt p2.atName
      methodCall o name p2 p4 env ov 1 (backTo p4 (starEach [e] env)) []) = _
  simp only [e3]
/-- what it does: self's dict is made, with the one field -/
def spS (K : PySem.W.Frag) (D : Addr) (fld : Str) : Sp := fun vs H Q _ => ∃ (a C : Addr) (v : V), vs = [.ref a, v] ∧ OexC K C ∧ findIn K (.ref C) fld = some none ∧ mroIn K C (.ref D) = some true ∧ ks_superIn K C D "__init__" = some (some (.builtin "ValueError.__init__")) ∧ subIn K (.ref C) (.type "ValueError") = some true ∧
  H a = some (exo a C none) ∧ ∀ dx, H dx = none → dx ≠ a → Q .non (upd (upd H dx (exd dx [(fld, v)])) a (exo a C (some dx)))

theorem sup_ok {P : Program} {w : World} {K : PySem.W.Frag} {mg : Str → Option Value} {base : Heap} {D f : Addr} {fd : FuncData} {fld : Str} (S : SupD P K mg D f fd fld) : FnOk P w K mg base (L2.CX P w) 1 f fd ["self", fld] (spS K D fld) := by
  obtain ⟨name, qual, params, scope, dV, kV, doc, pm, ct, oc, an, od, osl, cda, cc, ccl, cdd, vsA, ccs, file, tf, cl, cld, csl, cdD, ar, txt, j, p0, p1, p2, p3, p4, p5, p6, p7, p8, p9, rfl, lk, hcd, hp, har, hcode, hvs, hfile, hcell, hD, hk, hco, hgen, hks, hkc, hka, hkf, hnc, hfr, hpl⟩ := S.ex
  refine ⟨fun vs H Q E h => ?_, fun A outer s H args us vs Q E hr e0 hb r hsp => ?_⟩
  · obtain ⟨a, C, v, rfl, _⟩ := h
    rfl
  obtain ⟨a, C, v, rfl, T, hno, hmro, hsi, hve, ea, q⟩ := hsp
  obtain ⟨u0, u1, rfl⟩ : ∃ u0 u1, us = [u0, u1] := by
    have := r.length
    match us, this with
    | [x, y], _ => exact ⟨x, y, rfl⟩
  have ru0 : u0 = .ref a := by
    cases r with
    | cons r0 _ => exact r0
  have ru1 : RelV v u1 := by
    cases r with
    | cons _ r1 => cases r1 with
      | cons r1 _ => exact r1
  subst ru0
  have KX : K.In s.heap := e0.mod.kin.keeps fun b o e => (e0.bs b o e).1
  have lim : s.heap.NoLimit := e0.mod.nolimit.keeps fun b o e => (e0.bs b o e).1
  refine ks_codeAny_call_defAt (binds := [("self", .ref a), (fld, u1)]) hr.depth (KX _ _ lk) rfl lim (codeRec_of KX hcd) rfl hb hnc (fun y hy => ?_) (fun h₀ hns hk₀ => ?_) hco hgen hk
  · rcases List.mem_cons.mp hy with rfl | hy
    · exact hka
    · rcases List.mem_cons.mp hy with rfl | hy
      · exact hkf
      · cases hy
  have hm1 : ([(("self" : Str), Value.ref a), (fld, u1)] : List (Str × Value)).reverse.lookup ("self" : Str) = some (Value.ref a) := by
    show (match ("self" : Str) == fld with | true => some u1 | false => List.lookup ("self" : Str) [(("self" : Str), Value.ref a)]) = _
    rw [show (("self" : Str) == fld) = false by simpa using fun z => S.ne z.symm]
    rfl
  have hm2 : ([(("self" : Str), Value.ref a), (fld, u1)] : List (Str × Value)).reverse.lookup fld = some u1 := by
    show (match fld == fld with | true => some u1 | false => _) = _
    rw [show (fld == fld) = true by simp]
  let xe : Value → Shared → Prop := fun e s' => wpAny (model P w) (A.deeper (ksEnv qual scope s.heap.objs.size f (.ref cda) cc)) (leaving (ksEnv qual scope s.heap.objs.size f (.ref cda) cc) e) (fun _ s'' => CR (L2.CX P w) outer P w H s Q E (.error e) s'') (fun e' s'' => CR (L2.CX P w) outer P w H s Q E (.error e') s'') s'
  let X : Cx := cxS P w K mg base ["self", fld] qual scope f (.ref cda) cc A outer s H xe
  have I0 : L2.Inv X [] [some (.ref a), some v] H { s with heap := h₀, toks := s.toks + 2 } := by
    have noA : ∀ b : Addr, b ∉ X.ex := fun b z => absurd (show b ∈ ([] : List Addr) from z) (by simp)
    have cel : ∀ y c, X.env.cells.lookup y = some c → y = "__class__" ∧ c = cc := fun y c e => by
      have e : ([(("__class__" : Str), cc)] : List (Str × Addr)).lookup y = some c := e
      rw [List.lookup_cons] at e
      split at e
      · rename_i z
        exact ⟨by simpa using z, (Option.some.inj e).symm⟩
      · cases e
    have ccb : base.get? cc = some ⟨cl, cld, .cell (some (.ref D)), csl⟩ := e0.mod.kin _ _ hcell
    refine ⟨⟨e0.mod, hk, rfl, rfl, Nat.le_refl _, fun y z c h1 h2 => ?_, fun y hy => ?_, fun y c h _ => ?_, fun _ => hr.hd, Around.frames_deeper e0.frames, .inr ⟨rfl, rfl⟩, fun b z => absurd z (noA b), e0.bs, e0.bsz, fun b _ _ => noA b, fun b z => absurd z (noA b), e0.funs, e0.frf⟩,
      rfl, e0.bare, Un.kept hk₀, ⟨_, hns, fun i y z h1 h2 h3 => ?_⟩, fun y c h => ?_, e0.hok.fresh (Nat.le_refl _), fun y c h => ?_, fun p hp => absurd (show p ∈ ([] : List (Addr × Obj)) from hp) (by simp), e0.hok.kept hk₀, rfl⟩
    · rw [(cel y c h1).1, (cel z c h2).1]
    · have hy : scope.names.lookup y = some .cell ∨ scope.names.lookup y = some .free := hy
      rcases hy with hy | hy
      · exact absurd rfl (hnc _ (PySem.mem_of_lookup hy))
      · have := hfr _ (PySem.mem_of_lookup hy) rfl
        dsimp only at this
        subst this
        exact ⟨cc, rfl⟩
    · cases h
    · match i, h1, h2 with
      | 0, h1, h2 =>
        cases h1; cases h2
        exact ⟨_, rfl, .inl ⟨hka, hm1⟩⟩
      | 1, h1, h2 =>
        cases h1; cases h2
        exact ⟨u1, ru1, .inl ⟨hkf, hm2⟩⟩
      | i + 2, h1, h2 => simp at h2
    · obtain ⟨_, rfl⟩ := cel y c h
      exact ⟨_, _, hk₀ _ _ ((e0.bs _ _ ccb).1), rfl⟩
    · obtain ⟨_, rfl⟩ := cel y c h
      exact (e0.bs _ _ ccb).2
  show PySem.wpAt (model P w) X.A (.func _ X.env) (execs _ X.env) _ xe { s with heap := h₀, toks := s.toks + 2 }
  obtain ⟨cdC, hcC⟩ : ∃ cdC, clsIn K C = some cdC := by
    unfold ks_superIn at hsi
    cases z : clsIn K C with
    | none => rw [z] at hsi; cases hsi
    | some c => exact ⟨c, rfl⟩
  obtain ⟨oD, hD1, hD2⟩ : ∃ oD, h₀.get? D = some oD ∧ oD.data = .cls cdD := by
    unfold clsIn at hD
    split at hD
    · rename_i c d cd' sl ho
      cases hD
      exact ⟨_, I0.kIn _ _ ho, rfl⟩
    · cases hD
  have hint : interactive X.env = false := by
    show (scope.kind == .module && _) = false
    rw [hk]; rfl
  refine ks_wpAt_execs_cons (ks_wpAt_Expr_any (ks_wpAt_MethodCall ?_ (mcall hpl rfl)) hint rfl)
  refine ks_wpAt_super_base (env := X.env) hks hkc (by decide) rfl (I0.kIn _ _ lk) rfl hp rfl (I0.kIn _ _ hcode) rfl hvs hfile S.top ?_
  obtain ⟨mb, b1, b2⟩ := e0.mod.blt
  refine ks_loadName_global hk hks (Calls.loadGlobal_builtin (env := X.env) (e0.mod.glob.keeps I0.bk) S.sup (b1.keeps I0.bk) ((b2 _ (by decide)).trans PyProof.Rows.Boot.«super») ⟨rfl, ?_⟩)
  refine wpAny_loadName_free hk hkc rfl ⟨_, I0.kIn _ _ hcell, rfl⟩ ?_
  rw [har]
  refine wpAny_loadName_local hk hka hns hm1 ?_
  obtain ⟨t1, ho⟩ := exo_at I0.hok ea
  obtain ⟨sh, sg, sd, st, so⟩ := s
  refine ks_wpAny_isType_cls hD1 hD2 ⟨rfl, ?_⟩
  refine ks_wpAny_call_super hD1 hD2 ho rfl (fun c e => by cases e) (looks_mroIn I0.kIn hmro) (fun h1 e1 k1 => ?_)
  have I1 := I0.kept (t' := st + 2) k1
  have InA : InstAt h1 a _ C none := ⟨k1 _ _ ho, rfl, rfl, trivial⟩
  have hI : Looks (model P w) h1 (isInstance (.ref a) (.type "ValueError")) true := InA.type.andThen (looks_subIn I1.kIn hve)
  have hsi2 : alongIn K "__init__" ((cdC.mro.dropWhile (· != .ref D)).drop 1) = some (some (.builtin "ValueError.__init__")) := by
    unfold ks_superIn at hsi
    rw [hcC] at hsi
    exact hsi
  refine kxs_getMethod kxs_ValueError e1 (looks_opaque I1.kIn S.th) (l₀ := cdC.mro) ?_ rfl I1.kIn hsi2 hI (ks_ne I1.kIn InA hcC) (by decide) ?_
  · exact fun A Q E s k q => wpAny_bind ((looks_clsIn I1.kIn hcC) A _ E s k (wpAny_pure q))
  have I2 := I1.kept (t' := st + 2 + 1) (h' := h1.push (kxs_mw "ValueError.__init__" a)) (fun b o e => Heap.get?_push_of_some _ e)
  have hu : (h1.push (kxs_mw "ValueError.__init__" a)).get? h1.objs.size = some (kxs_mw "ValueError.__init__" a) := Heap.get?_push_at rfl rfl
  have I3 : L2.Inv X [(h1.objs.size, kxs_mw "ValueError.__init__" a)] [some (.ref a), some v] H _ := I2.pins_of fun p hp => by
    have hp : p = (h1.objs.size, kxs_mw "ValueError.__init__" a) := by simpa using hp
    subst hp
    exact ⟨hu, I1.hok.fresh (Nat.le_refl _), Nat.ne_of_gt I1.lt, I1.nofs (Nat.le_refl _), fun v z => by cases z⟩
  have pa : PA X [.Constant (.str txt) j p3] _ := pa_cons pe_str pa_nil rfl
  refine kxs_callWith (i := "ValueError.__init__") (x := a) rfl (Calls.evalArgs_plain (thn (pa.run p4 _ _ _ H (fun vs H1 => H1 = H ∧ vs.length = 1) I3 ⟨rfl, rfl⟩) fun us s4 hq => ?_))
  obtain ⟨vs, H1, I4, rv, eH, el⟩ := hq
  subst eH
  have hu4 := (I4.pin _ (List.mem_append_right _ (List.mem_singleton.mpr rfl))).1
  have I4' : L2.Inv X [] [some (.ref a), some v] H1 s4 := I4.pins_of (pins' := []) fun p hp => by cases hp
  refine ⟨hu4, mw_call (X := X) (A := X.A) T I4' ea hu4 ?_ fun s5 I5 => ?_⟩
  · rw [List.nil_append, ← Paired.length rv, el, sizeLine_eq]
    omega
  refine PySem.wpAt_of_wpAny (thn ((pss_cons (ps_ost (X := X) (p' := p7) (pos := p9) (pe_var (pos := p6) (i := 0) (x := "self") rfl (.inl hka) (by decide) (by decide)) (pe_var (pos := p8) (i := 1) (x := fld) rfl (.inl hkf) S.dbg.1 S.dbg.2)) pss_nil).run [] s5 _ H1 { nx := fun _ H' => Q .non H', rt := Q } I5 ?_) fun fl s' hs => ?_)
  · exact ⟨v, rfl, .ref a, rfl, a, C, rfl, T, hno, .inl ⟨ea, fun dx n ne => q dx n ne⟩⟩
  · have fin : ∀ {σ' : L2.St} {H' : Hp} {v : V} {u : Value}, L2.Inv X [] σ' H' s' → RelV v u → Q v H' → CE outer P w H1 ⟨sh, sg, sd, st, so⟩ Q u s' :=
      fun {σ' H' v u} J rv q => ⟨v, H', J.os, J.bare, J.base, J.hok, rv, q⟩
    cases fl with
    | ret u =>
      obtain ⟨v, σ', H', J, rv, q⟩ := hs
      exact fin J rv q
    | next =>
      obtain ⟨σ', H', J, q⟩ := hs
      exact fin (v := V.non) (u := Value.none) J rfl q
    | brk =>
      obtain ⟨_, _, _, q⟩ := hs
      exact False.elim q
    | cont =>
      obtain ⟨_, _, _, q⟩ := hs
      exact False.elim q
end QL

end
section
set_option Elab.async false
set_option linter.all false
/-! Q1: plain data, the small syntax, its meaning as total functions. -/
namespace QL
open PySem L2

/-- plain data -/
inductive D where
  | non
  | bl (b : Bool)
  | int (i : Int)
  | str (x : Str)
  | tup (ds : List D)
  | lst (ds : List D)
  | dic (ks : List Key) (ds : List D)
  | ob (c : Nat) (fs : List Nat) (ds : List D)
  /-- a list that is read alone (the script) -/
  | rol (ds : List D)

/-- a slot: unset, settled data, an own list (a parameter's: lp), an own dict -/
inductive Sl where
  | un
  | fz (d : D)
  | lv (ds : List D)
  | lp (ds : List D)
  | dv (ks : List Key) (ds : List D)

abbrev Env := List Sl

/-- an error in flight: its class, its field -/
structure Xn where
  c : Nat
  d : Option D

inductive Rs (α : Type) where
  | ok (a : α) (δ : Env)
  | er (x : Xn) (δ : Env)
  | no

def Rs.bind {α β : Type} : Rs α → (α → Env → Rs β) → Rs β
  | .ok a δ, f => f a δ
  | .er x δ, _ => .er x δ
  | .no, _ => .no

/-- a value: settled, or an own list, an own dict that nothing else holds -/
inductive Rv where
  | fz (d : D)
  | lv (ds : List D)
  | dv (ks : List Key) (ds : List D)

def Rv.d : Rv → D
  | .fz d => d
  | .lv ds => .lst ds
  | .dv ks ds => .dic ks ds
def Rv.sl : Rv → Sl
  | .fz d => .fz d
  | .lv ds => .lv ds
  | .dv ks ds => .dv ks ds

inductive Fl where
  | nx
  | rt (r : Rv)
  | bk
  | ct

/-- an argument: data, or a slot's own list handed in -/
inductive Ag where
  | d (x : D)
  | r (i : Nat)

inductive FR where
  | ok (r : Rv) (outs : List Sl)
  | er (x : Xn) (outs : List Sl)
  | no

/-- what a def is worth: the number of its parameters, its defaults, its run -/
structure Fn where
  np : Nat
  dfl : List D
  run : List Sl → FR

/-- what the text's names are worth -/
structure Pr where
  fn : List Fn
  gl : List D
  /-- class, method: the def's number -/
  mt : Nat → Nat → Option Nat
  /-- the first class is a subclass of the second one -/
  sub : Nat → Nat → Bool

inductive BOp where
  | add | sub | mul | mod | fdv | pow
  deriving DecidableEq
inductive COp where
  | eq | ne | lt | le | gt | ge | isn | nisn | isb | nisb | isin | nin
  deriving DecidableEq
inductive Bi where
  | len | max2 | min2 | abs | int1 | tuple | list | sorted | all | any | sum
  deriving DecidableEq
/-- the built-in classes that isinstance asks for -/
inductive Ty where
  | int | bool | str | tuple | list
  deriving DecidableEq

mutual
inductive E where
  | v (i : Nat)
  | c (d : D)
  | g (k : Nat)
  | neg (a : E)
  | bin (o : BOp) (a b : E)
  | cmp (o : COp) (a b : E)
  | ch2 (o p : COp) (a b c : E)
  | ch3 (o p q : COp) (a b c d : E)
  | and_ (a b : E)
  | or_ (a b : E)
  | not_ (a : E)
  | ife (c a b : E)
  | tup (es : Es)
  | lst (es : Es)
  | ix (a i : E)
  | ixv (s : Nat) (i : E)
  | sl (a : E) (lo hi : E)
  | rev (a : E)
  | call (k : Nat) (es : Es)
  | bi (b : Bi) (es : Es)
  | lenv (s : Nat)
  | inv (neg : Bool) (a : E) (s : Nat)
  | isi (a : E) (ts : List Ty)
  | lc (i : Nat) (it : I) (c : E) (e : E)
  | meth (o : E) (m : Nat) (es : Es)
  | new (c : Nat)
  | lr (s : Nat)
inductive Es where
  | nil
  | cons (e : E) (es : Es)
/-- what is walked -/
inductive I where
  | seq (e : E)
  | rng1 (e : E)
  | rng2 (a b : E)
end

/-- a part of what a handler stores: the error's field, isinstance of it, a constant -/
inductive HI where
  | fld
  | is1 (c : Nat)
  | is (cs : List Nat)
  | cst (d : D)

mutual
inductive S where
  | pass
  | set (i : Nat) (e : E)
  | tset (is : List Nat) (e : E)
  | six (i : Nat) (k e : E)
  | app (i : Nat) (e : E)
  | ex (e : E)
  | aug (i : Nat) (o : BOp) (e : E)
  | ret (e : E)
  | retN
  | ift (c : E) (a b : Ss)
  | for_ (is : List Nat) (it : I) (b : Ss)
  | whl (c : E) (b : Ss)
  | brk
  | cnt
  | rse (c : Nat) (e : E)
  /-- try b except c as (slot ie): (slot i) = the display of its -/
  | try_ (b : Ss) (ie c i : Nat) (l : Bool) (its : List HI)
inductive Ss where
  | nil
  | cons (s : S) (ss : Ss)
end

/-! ### operations on data -/
/-- the bound of sizes -/
def LIM : Nat := 100000

mutual
def eqD : D → D → Bool
  | .non, .non => true
  | .bl a, .bl b => a == b
  | .bl a, .int j => (if a then 1 else 0) == j
  | .int i, .bl b => i == (if b then 1 else 0)
  | .int i, .int j => i == j
  | .str x, .str y => x == y
  | .lst xs, .lst ys => eqDs xs ys
  | .tup xs, .tup ys => eqDs xs ys
  | _, _ => false
def eqDs : List D → List D → Bool
  | [], [] => true
  | x :: xs, y :: ys => eqD x y && eqDs xs ys
  | _, _ => false
end
mutual
/-- data that == serves: nothing but None, bools, ints, texts, lists, tuples; not deeper than n -/
def eqOk : Nat → D → Bool
  | _, .non => true
  | _, .bl _ => true
  | _, .int _ => true
  | _, .str x => PyData.strOk x
  | n, .lst ds => decide (0 < n) && eqOks (n - 1) ds
  | n, .tup ds => decide (0 < n) && eqOks (n - 1) ds
  | _, .dic _ _ => false
  | _, .ob _ _ _ => false
  | _, .rol _ => false
def eqOks : Nat → List D → Bool
  | _, [] => true
  | n, d :: ds => eqOk n d && eqOks n ds
end

def addD : D → D → Option Rv
  | .int i, .int j => some (.fz (.int (i + j)))
  | .tup a, .tup b => if a.length + b.length ≤ LIM then some (.fz (.tup (a ++ b))) else none
  | .lst a, .lst b => if a.length + b.length ≤ LIM then some (.lv (a ++ b)) else none
  | _, _ => none
def subD : D → D → Option Rv
  | .int i, .int j => some (.fz (.int (i - j)))
  | _, _ => none
def mulD : D → D → Option Rv
  | .int i, .int j => if (-(2 ^ 64) < i ∧ i < 2 ^ 64) ∨ (-(2 ^ 64) < j ∧ j < 2 ^ 64) then some (.fz (.int (i * j))) else none
  | _, _ => none
def modD : D → D → Option Rv
  | .int i, .int j => if 0 < j then some (.fz (.int (i % j))) else none
  | _, _ => none
def fdvD : D → D → Option Rv
  | .int i, .int j => if 0 < j ∧ j < 1073741824 then some (.fz (.int (i / j))) else none
  | _, _ => none
def powD : D → D → Option Rv
  | .int i, .int j => if 0 ≤ j ∧ j ≤ 1000000 ∧ i.natAbs < 2 ^ 64 then some (.fz (.int (i ^ j.toNat))) else none
  | _, _ => none
def binD : BOp → D → D → Option Rv
  | .add => addD
  | .sub => subD
  | .mul => mulD
  | .mod => modD
  | .fdv => fdvD
  | .pow => powD

def flatD : D → Bool
  | .non => true
  | .bl _ => true
  | .int _ => true
  | .str _ => true
  | _ => false

def inD (x : D) (ds : List D) : Bool := ds.any fun y => eqD y x

def itemsOf : D → Option (List D)
  | .lst ds => some ds
  | .tup ds => some ds
  | .rol ds => some ds
  | _ => none

def ltD (p : Int → Int → Bool) : D → D → Option Bool
  | .int i, .int j => some (p i j)
  | _, _ => none
def isN (d : D) : Bool := match d with
  | .non => true
  | _ => false
def isND (n : Bool) : D → D → Option Bool
  | d, .non => some (if n then !isN d else isN d)
  | _, _ => none
def isBD (n : Bool) : D → D → Option Bool
  | .bl a, .bl b => some (if n then !(a == b) else a == b)
  | _, _ => none
def inSD (n : Bool) (x y : D) : Option Bool := match y with
  | .lst ds => if flatD x && ds.all flatD then some (if n then !inD x ds else inD x ds) else none
  | .tup ds => if flatD x && ds.all flatD then some (if n then !inD x ds else inD x ds) else none
  | _ => none
def eqED (n : Bool) (a b : D) : Option Bool := if eqOk 60 a && eqOk 60 b then some (if n then !eqD a b else eqD a b) else none
def cmpD : COp → D → D → Option Bool
  | .eq => eqED false
  | .ne => eqED true
  | .lt => ltD fun i j => decide (i < j)
  | .le => ltD fun i j => decide (i ≤ j)
  | .gt => ltD fun i j => decide (j < i)
  | .ge => ltD fun i j => decide (j ≤ i)
  | .isn => isND false
  | .nisn => isND true
  | .isb => isBD false
  | .nisb => isBD true
  | .isin => inSD false
  | .nin => inSD true

def ixD : D → D → Option D
  | .lst ds, .int i => atI ds i
  | .tup ds, .int i => atI ds i
  | _, _ => none

def cutD (ds : List D) (lo hi : Option Int) : List D := (ds.drop (HT.sIx ds.length 0 lo)).take (HT.sIx ds.length ds.length hi - HT.sIx ds.length 0 lo)
def slD : D → Option Int → Option Int → Option Rv
  | .lst ds, lo, hi => some (.lv (cutD ds lo hi))
  | .tup ds, lo, hi => some (.fz (.tup (cutD ds lo hi)))
  | .rol ds, lo, hi => some (.lv (cutD ds lo hi))
  | _, _, _ => none
def revD : D → Option Rv
  | .lst ds => some (.lv ds.reverse)
  | .tup ds => some (.fz (.tup ds.reverse))
  | _ => none

def insI (x : Int) : List Int → List Int
  | [] => [x]
  | y :: ys => if x ≤ y then x :: y :: ys else y :: insI x ys
def sortI : List Int → List Int
  | [] => []
  | x :: xs => insI x (sortI xs)

def intsOf : List D → Option (List Int)
  | [] => some []
  | .int i :: r => (intsOf r).map (i :: ·)
  | _ => none
def boolsOf : List D → Option (List Bool)
  | [] => some []
  | .bl b :: r => (boolsOf r).map (b :: ·)
  | _ => none

def biD : Bi → List D → Option Rv
  | .len, [.lst ds] => some (.fz (.int ds.length))
  | .len, [.tup ds] => some (.fz (.int ds.length))
  | .max2, [.int i, .int j] => some (.fz (.int (if j > i then j else i)))
  | .min2, [.int i, .int j] => some (.fz (.int (if j < i then j else i)))
  | .abs, [.int i] => some (.fz (.int (if i < 0 then -i else i)))
  | .int1, [.int i] => some (.fz (.int i))
  | .int1, [.bl b] => some (.fz (.int (if b then 1 else 0)))
  | .tuple, [.lst ds] => some (.fz (.tup ds))
  | .tuple, [.tup ds] => some (.fz (.tup ds))
  | .list, [.lst ds] => some (.lv ds)
  | .list, [.tup ds] => some (.lv ds)
  | .sorted, [.lst ds] => (intsOf ds).bind fun l => if l.length < 64 then some (.lv ((sortI l).map D.int)) else none
  | .all, [.lst ds] => (boolsOf ds).map fun l => .fz (.bl (l.all id))
  | .any, [.lst ds] => (boolsOf ds).map fun l => .fz (.bl (l.any id))
  | .sum, [.lst ds] => (intsOf ds).map fun l => .fz (.int l.sum)
  | _, _ => none

def isTy : D → Ty → Option Bool
  | .non, _ => some false
  | .bl _, .int => some true
  | .bl _, .bool => some true
  | .bl _, _ => some false
  | .int _, .int => some true
  | .int _, _ => some false
  | .str _, .str => some true
  | .str _, _ => some false
  | .tup _, .tuple => some true
  | .tup _, _ => some false
  | .lst _, .list => some true
  | .lst _, _ => some false
  | _, _ => none
def isTys (d : D) : List Ty → Option Bool
  | [] => some false
  | t :: ts => (isTy d t).bind fun b => (isTys d ts).map fun c => b || c

/-! ### slots -/
def useSl (δ : Env) (i : Nat) : Rs Rv := match δ[i]? with
  | some (.fz d) => .ok (.fz d) δ
  | some (.lv ds) => .ok (.fz (.lst ds)) (δ.set i (.fz (.lst ds)))
  | _ => .no
def moveSl (δ : Env) (i : Nat) : Rs Rv := match δ[i]? with
  | some (.fz d) => .ok (.fz d) δ
  | some (.lv ds) => .ok (.lv ds) (δ.set i .un)
  | some (.dv ks ds) => .ok (.dv ks ds) (δ.set i .un)
  | _ => .no
/-- the list that a slot holds, settled or own -/
def lookSl (δ : Env) (i : Nat) : Option D := match δ[i]? with
  | some (.fz d) => some d
  | some (.lv ds) => some (.lst ds)
  | some (.lp ds) => some (.lst ds)
  | _ => none
/-- an own list in a slot -/
def liveSl (δ : Env) (i : Nat) : Option (List D) := match δ[i]? with
  | some (.lv ds) => some ds
  | some (.lp ds) => some ds
  | _ => none
/-- a store to a slot: a parameter's own list can't be left -/
def putSl (δ : Env) (i : Nat) (r : Rv) : Option Env := match δ[i]? with
  | some (.lp _) => none
  | some _ => some (δ.set i r.sl)
  | none => none
/-- an own list changed in place -/
def chgSl (δ : Env) (i : Nat) (f : List D → Option (List D)) : Option Env := match δ[i]? with
  | some (.lv ds) => (f ds).map fun ds' => δ.set i (.lv ds')
  | some (.lp ds) => (f ds).map fun ds' => δ.set i (.lp ds')
  | _ => none

def argSl (δ : Env) : Ag → Option Sl
  | .d x => some (.fz x)
  | .r i => match δ[i]? with
    | some (.lv ds) => some (.lp ds)
    | some (.lp ds) => some (.lp ds)
    | _ => none
def argSls (δ : Env) : List Ag → Option (List Sl)
  | [] => some []
  | a :: as => (argSl δ a).bind fun s => (argSls δ as).map fun r => s :: r
def putBack (δ : Env) : List Ag → List Sl → Option Env
  | [], _ => some δ
  | .d _ :: as, _ :: os => putBack δ as os
  | .r i :: as, .lp ds :: os => (chgSl δ i fun _ => some ds).bind fun δ' => putBack δ' as os
  | _, _ => none
def noDup : List Ag → Bool
  | [] => true
  | .d _ :: as => noDup as
  | .r i :: as => (as.all fun a => match a with | .r j => decide (i ≠ j) | .d _ => true) && noDup as
/-- a call of a def: the arguments, then the defaults that fill up -/
def callF (f : Fn) (as : List Ag) (δ : Env) : Rs Rv :=
  match decide (as.length ≤ f.np ∧ f.np - as.length ≤ f.dfl.length) && noDup as, argSls δ as with
  | true, some ss => match f.run (ss ++ (f.dfl.drop (f.dfl.length - (f.np - as.length))).map Sl.fz) with
    | .ok r outs => (match putBack δ as outs with | some δ' => .ok r δ' | none => .no)
    | .er x outs => (match putBack δ as outs with | some δ' => .er x δ' | none => .no)
    | .no => .no
  | _, _ => .no

def optR {α : Type} (o : Option α) (δ : Env) : Rs α := match o with
  | some a => .ok a δ
  | none => .no

def rangeD (a : Int) : Nat → List D
  | 0 => []
  | n + 1 => .int a :: rangeD (a + 1) n

/-- a row of names is stored from data -/
def putAll (δ : Env) : List Nat → List D → Option Env
  | [], [] => some δ
  | i :: is, d :: ds => (putSl δ i (.fz d)).bind fun δ' => putAll δ' is ds
  | _, _ => none
def bindT (δ : Env) : List Nat → D → Option Env
  | [i], d => putSl δ i (.fz d)
  | is, .tup ds => putAll δ is ds
  | _, _ => none

/-- no error leaves -/
def Rs.ne {α : Type} : Rs α → Rs α
  | .er _ _ => .no
  | r => r
/-- a comprehension's turns over the items: tst, elt are run in the environment; no error leaves it -/
def lcGo (i : Nat) (tst : Env → Rs Rv) (elt : Env → Rs Rv) : List D → List D → Env → Rs (List D)
  | [], acc, δ => .ok acc δ
  | x :: xs, acc, δ =>
    (tst (δ.set i (.fz x))).ne.bind fun b δ1 => match b with
      | .fz (.bl true) => (elt δ1).ne.bind fun r δ2 => if acc.length < LIM then lcGo i tst elt xs (acc ++ [r.d]) (δ2.set i .un) else .no
      | .fz (.bl false) => lcGo i tst elt xs acc (δ1.set i .un)
      | _ => .no
/-- the slot of a comprehension's own name: nothing own stands there -/
def lcSl (δ : Env) (i : Nat) : Option Sl := match δ[i]? with
  | some .un => some .un
  | some (.fz d) => some (.fz d)
  | _ => none
def lcRun (i : Nat) (tst elt : Env → Rs Rv) (xs : List D) (δ : Env) : Rs Rv := match lcSl δ i with
  | some s => (lcGo i tst elt xs [] (δ.set i .un)).bind fun acc δ' => .ok (.lv acc) (δ'.set i s)
  | none => .no

def forGo (is : List Nat) (body : Env → Rs Fl) : List D → Env → Rs Fl
  | [], δ => .ok .nx δ
  | x :: xs, δ => match bindT δ is x with
    | none => .no
    | some δ1 => (body δ1).bind fun f δ2 => match f with
      | .nx => forGo is body xs δ2
      | .ct => forGo is body xs δ2
      | .bk => .ok .nx δ2
      | .rt r => .ok (.rt r) δ2

/-- the bound of a while's turns -/
def WH : Nat := 1000000
def whlGo (tst : Env → Rs Rv) (body : Env → Rs Fl) : Nat → Env → Rs Fl
  | 0, _ => .no
  | n + 1, δ => (tst δ).bind fun b δ1 => match b with
    | .fz (.bl true) => (body δ1).bind fun f δ2 => match f with
      | .nx => whlGo tst body n δ2
      | .ct => whlGo tst body n δ2
      | .bk => .ok .nx δ2
      | .rt r => .ok (.rt r) δ2
    | .fz (.bl false) => .ok .nx δ1
    | _ => .no

def isNonE : E → Bool
  | .c .non => true
  | _ => false
def intP (r : Rv) (δ : Env) : Rs (Option Int) := match r with
  | .fz (.int i) => .ok (some i) δ
  | _ => .no
def isLr : E → Option Nat
  | .lr s => some s
  | _ => none

def hiD (P : Pr) (x : Xn) : HI → Option D
  | .fld => x.d
  | .is1 c => some (.bl (P.sub x.c c))
  | .is cs => some (.bl (cs.any (P.sub x.c)))
  | .cst d => some d
def hiDs (P : Pr) (x : Xn) : List HI → Option (List D)
  | [] => some []
  | h :: hs => (hiD P x h).bind fun d => (hiDs P x hs).map fun ds => d :: ds
/-- a handler's run -/
def hand (P : Pr) (x : Xn) (ie i : Nat) (l : Bool) (its : List HI) (δ : Env) : Rs Fl := match lcSl δ ie, hiDs P x its with
  | some _, some ds => if ds.length ≤ LIM then (optR (putSl (δ.set ie .un) i (if l then .lv ds else .fz (.tup ds))) δ).bind fun δ' _ => .ok .nx δ' else .no
  | _, _ => .no

section
variable (P : Pr)
mutual
def ev : E → Env → Rs Rv
  | .v i, δ => useSl δ i
  | .c d, δ => .ok (.fz d) δ
  | .g k, δ => optR ((P.gl[k]?).map Rv.fz) δ
  | .neg a, δ => (ev a δ).bind fun x δ => match x.d with | .int i => .ok (.fz (.int (-i))) δ | _ => .no
  | .bin o a b, δ => (ev a δ).bind fun x δ => (ev b δ).bind fun y δ => optR (binD o x.d y.d) δ
  | .cmp o a b, δ => (ev a δ).bind fun x δ => (ev b δ).bind fun y δ => optR ((cmpD o x.d y.d).map fun c => .fz (.bl c)) δ
  | .ch2 o p a b c, δ => (ev a δ).bind fun x δ => (ev b δ).bind fun y δ => match cmpD o x.d y.d with
    | some true => (ev c δ).bind fun z δ => optR ((cmpD p y.d z.d).map fun c => .fz (.bl c)) δ
    | some false => .ok (.fz (.bl false)) δ
    | none => .no
  | .ch3 o p q a b c d, δ => (ev a δ).bind fun x δ => (ev b δ).bind fun y δ => match cmpD o x.d y.d with
    | some true => (ev c δ).bind fun z δ => (match cmpD p y.d z.d with
      | some true => (ev d δ).bind fun w δ => optR ((cmpD q z.d w.d).map fun c => .fz (.bl c)) δ
      | some false => .ok (.fz (.bl false)) δ
      | none => .no)
    | some false => .ok (.fz (.bl false)) δ
    | none => .no
  | .and_ a b, δ => (ev a δ).bind fun x δ => match x with | .fz (.bl true) => ev b δ | .fz (.bl false) => .ok (.fz (.bl false)) δ | _ => .no
  | .or_ a b, δ => (ev a δ).bind fun x δ => match x with | .fz (.bl true) => .ok (.fz (.bl true)) δ | .fz (.bl false) => ev b δ | _ => .no
  | .not_ a, δ => (ev a δ).bind fun x δ => match x with | .fz (.bl b) => .ok (.fz (.bl (!b))) δ | _ => .no
  | .ife c a b, δ => (ev c δ).bind fun x δ => match x with | .fz (.bl true) => ev a δ | .fz (.bl false) => ev b δ | _ => .no
  | .tup es, δ => (evs es δ).bind fun xs δ => if xs.length ≤ LIM then .ok (.fz (.tup xs)) δ else .no
  | .lst es, δ => (evs es δ).bind fun xs δ => if xs.length ≤ LIM then .ok (.lv xs) δ else .no
  | .ix a i, δ => (ev a δ).bind fun x δ => (ev i δ).bind fun y δ => optR ((ixD x.d y.d).map Rv.fz) δ
  | .ixv s i, δ => (optR (lookSl δ s) δ).bind fun _ δ => (ev i δ).bind fun y δ => optR ((lookSl δ s).bind fun x => (ixD x y.d).map Rv.fz) δ
  | .sl a lo hi, δ => (ev a δ).bind fun x δ => (if isNonE lo then .ok none δ else (ev lo δ).bind intP).bind fun l δ => (if isNonE hi then .ok none δ else (ev hi δ).bind intP).bind fun h δ => optR (slD x.d l h) δ
  | .rev a, δ => (ev a δ).bind fun x δ => optR (revD x.d) δ
  | .call k es, δ => match P.fn[k]? with
    | some f => (evA es δ).bind fun as δ => callF f as δ
    | none => .no
  | .bi b es, δ => (evs es δ).bind fun xs δ => optR (biD b xs) δ
  | .lenv s, δ => optR ((lookSl δ s).bind fun x => biD .len [x]) δ
  | .inv n a s, δ => (ev a δ).bind fun x δ => optR ((lookSl δ s).bind fun y => (cmpD (if n then .nin else .isin) x.d y).map fun c => .fz (.bl c)) δ
  | .isi a ts, δ => (ev a δ).bind fun x δ => optR ((isTys x.d ts).map fun b => .fz (.bl b)) δ
  | .lc i it c e, δ => (evI it δ).bind fun xs δ => lcRun i (ev c) (ev e) xs δ
  | .meth o m es, δ => (ev o δ).bind fun x δ => match x.d with
    | .ob c fs ds => (match (P.mt c m).bind fun k => P.fn[k]? with
      | some f => (evA es δ).bind fun as δ => callF f (.d (.ob c fs ds) :: as) δ
      | none => .no)
    | _ => .no
  | .new c, δ => .ok (.fz (.ob c [] [])) δ
  | .lr _, _ => .no
def evs : Es → Env → Rs (List D)
  | .nil, δ => .ok [] δ
  | .cons e es, δ => (ev e δ).bind fun x δ => (evs es δ).bind fun xs δ => .ok (x.d :: xs) δ
def evA : Es → Env → Rs (List Ag)
  | .nil, δ => .ok [] δ
  | .cons e es, δ => match isLr e with
    | some s => (optR (lookSl δ s) δ).bind fun _ δ => (evA es δ).bind fun xs δ => .ok (.r s :: xs) δ
    | none => (ev e δ).bind fun x δ => (evA es δ).bind fun xs δ => .ok (.d x.d :: xs) δ
def evI : I → Env → Rs (List D)
  | .seq e, δ => (ev e δ).bind fun x δ => optR (itemsOf x.d) δ
  | .rng1 e, δ => (ev e δ).bind fun x δ => match x.d with
    | .int j => if -(2 ^ 62) ≤ j ∧ j < 2 ^ 62 then .ok (rangeD 0 j.toNat) δ else .no
    | _ => .no
  | .rng2 a b, δ => (ev a δ).bind fun x δ => (ev b δ).bind fun y δ => match x.d, y.d with
    | .int i, .int j => if -(2 ^ 62) ≤ i ∧ i < 2 ^ 62 ∧ -(2 ^ 62) ≤ j ∧ j < 2 ^ 62 then .ok (rangeD i (j - i).toNat) δ else .no
    | _, _ => .no
end

mutual
def ex : S → Env → Rs Fl
  | .pass, δ => .ok .nx δ
  | .set i e, δ => (ev P e δ).bind fun r δ => (optR (putSl δ i r) δ).bind fun δ' _ => .ok .nx δ'
  | .tset is e, δ => (ev P e δ).bind fun r δ => match r.d with
    | .tup ds => (optR (putAll δ is ds) δ).bind fun δ' _ => .ok .nx δ'
    | _ => .no
  | .six i k e, δ => (ev P e δ).bind fun y δ => (optR (liveSl δ i) δ).bind fun _ δ => (ev P k δ).bind fun x δ => match x.d with
    | .int j => (optR (chgSl δ i fun ds => (ixN ds.length j).map fun n => ds.set n y.d) δ).bind fun δ' _ => .ok .nx δ'
    | _ => .no
  | .app i e, δ => (optR (liveSl δ i) δ).bind fun _ δ => (ev P e δ).bind fun y δ => (optR (chgSl δ i fun ds => if ds.length < LIM then some (ds ++ [y.d]) else none) δ).bind fun δ' _ => .ok .nx δ'
  | .ex e, δ => (ev P e δ).bind fun _ δ => .ok .nx δ
  | .aug i o e, δ => match δ[i]? with
    | some (.fz d) => (ev P e δ).bind fun y δ => match d, binD o d y.d with
      | .int _, some r => (optR (putSl δ i r) δ).bind fun δ' _ => .ok .nx δ'
      | _, _ => .no
    | _ => .no
  | .ret e, δ => (match e with
    | .v i => moveSl δ i
    | e => ev P e δ).bind fun r δ => .ok (.rt r) δ
  | .retN, δ => .ok (.rt (.fz .non)) δ
  | .ift c a b, δ => (ev P c δ).bind fun x δ => match x with
    | .fz (.bl true) => exs a δ
    | .fz (.bl false) => exs b δ
    | _ => .no
  | .for_ is it b, δ => (evI P it δ).bind fun xs δ => forGo is (exs b) xs δ
  | .whl c b, δ => whlGo (ev P c) (exs b) WH δ
  | .brk, δ => .ok .bk δ
  | .cnt, δ => .ok .ct δ
  | .rse c e, δ => (ev P e δ).bind fun r δ => .er ⟨c, some r.d⟩ δ
  | .try_ b ie c i l its, δ => match exs b δ with
    | .er x δ' => if P.sub x.c c then hand P x ie i l its δ' else .er x δ'
    | r => r
def exs : Ss → Env → Rs Fl
  | .nil, δ => .ok .nx δ
  | .cons s ss, δ => (ex s δ).bind fun f δ => match f with
    | .nx => exs ss δ
    | f => .ok f δ
end
end

/-- the parameters' own lists still stand in their slots -/
def lpOk : List Sl → Env → Bool
  | [], _ => true
  | .lp _ :: as, .lp _ :: δ => lpOk as δ
  | .lp _ :: _, _ => false
  | _ :: as, _ :: δ => lpOk as δ
  | _ :: _, [] => false
def fin (as : List Sl) : Rs Fl → FR
  | .ok .nx δ => if lpOk as δ then .ok (.fz .non) (δ.take as.length) else .no
  | .ok (.rt r) δ => if lpOk as δ then .ok r (δ.take as.length) else .no
  | .ok _ _ => .no
  | .er x δ => if lpOk as δ then .er x (δ.take as.length) else .no
  | .no => .no
/-- a def by its body: n slots in all -/
def mk (P : Pr) (np n : Nat) (dfl : List D) (b : Ss) : Fn where
  np := np
  dfl := dfl
  run := fun as => fin as (exs P b (as ++ List.replicate (n - as.length) .un))
end QL

end
section
set_option Elab.async false
set_option linter.all false
/-! Q2: how data lies in the abstract heap; states. -/
namespace QL
open PySem L2

structure Gd where
  K : PySem.W.Frag
  cl : Nat → Addr
  fl : Nat → Str

mutual
/-- the value v is the data d in the part C of the heap -/
def Rp (G : Gd) (C : Hp) : D → V → Prop
  | .non, v => v = .non
  | .bl b, v => v = .bl b
  | .int i, v => v = .int i
  | .str x, v => v = .str x
  | .tup ds, v => ∃ a xs, v = .ref a ∧ SqT G.K C a xs ∧ Rps G C ds xs
  | .lst ds, v => ∃ a xs, v = .ref a ∧ C a = some (.lst xs) ∧ Rps G C ds xs
  | .rol ds, v => ∃ a xs, v = .ref a ∧ SqL G.K C a xs ∧ Rps G C ds xs
  | .dic ks ds, v => ∃ a xs, v = .ref a ∧ C a = some (.dK (ks.zip xs)) ∧ ks.length = ds.length ∧ Rps G C ds xs
  | .ob c fs ds, v => ∃ a dx xs, v = .ref a ∧ C a = some (.ins (G.cl c) dx ((fs.map G.fl).zip xs)) ∧ fs.length = ds.length ∧ Rps G C ds xs
def Rps (G : Gd) (C : Hp) : List D → List V → Prop
  | [], xs => xs = []
  | d :: ds, xs => ∃ x r, xs = x :: r ∧ Rp G C d x ∧ Rps G C ds r
end

theorem same_upd {H : Hp} {p : Addr} {o : HO} (h : H p = none) : Same H (upd H p o) := fun b x e => by
  rw [upd_ne (ne_of_none e h)]
  exact e
theorem Same.rd {H H' : Hp} (e : Same H H') {a : Addr} {u : HO} (h : Rd H a u) : Rd H' a u := by
  rcases h with h | ⟨o, h⟩
  · exact .inl (e a _ h)
  · exact .inr ⟨o, e a _ h⟩
theorem Same.sqL {K : PySem.W.Frag} {H H' : Hp} (e : Same H H') {a : Addr} {xs : List V} (h : SqL K H a xs) : SqL K H' a xs := h.imp (QL.Same.rd e) id
theorem Same.sqT {K : PySem.W.Frag} {H H' : Hp} (e : Same H H') {a : Addr} {xs : List V} (h : SqT K H a xs) : SqT K H' a xs := h.imp (QL.Same.rd e) id

section
variable {G : Gd} {C C' : Hp}
mutual
theorem Rp.mono (e : Same C C') : ∀ (d : D) (v : V), Rp G C d v → Rp G C' d v
  | .non, _, h => h
  | .bl _, _, h => h
  | .int _, _, h => h
  | .str _, _, h => h
  | .tup ds, v, h => by
    unfold Rp at h ⊢
    obtain ⟨a, xs, h1, h2, h3⟩ := h
    exact ⟨a, xs, h1, QL.Same.sqT e h2, Rps.mono e ds xs h3⟩
  | .lst ds, v, h => by
    unfold Rp at h ⊢
    obtain ⟨a, xs, h1, h2, h3⟩ := h
    exact ⟨a, xs, h1, e _ _ h2, Rps.mono e ds xs h3⟩
  | .rol ds, v, h => by
    unfold Rp at h ⊢
    obtain ⟨a, xs, h1, h2, h3⟩ := h
    exact ⟨a, xs, h1, QL.Same.sqL e h2, Rps.mono e ds xs h3⟩
  | .dic ks ds, v, h => by
    unfold Rp at h ⊢
    obtain ⟨a, xs, h1, h2, h4, h3⟩ := h
    exact ⟨a, xs, h1, e _ _ h2, h4, Rps.mono e ds xs h3⟩
  | .ob c fs ds, v, h => by
    unfold Rp at h ⊢
    obtain ⟨a, dx, xs, h1, h2, h4, h3⟩ := h
    exact ⟨a, dx, xs, h1, e _ _ h2, h4, Rps.mono e ds xs h3⟩
theorem Rps.mono (e : Same C C') : ∀ (ds : List D) (xs : List V), Rps G C ds xs → Rps G C' ds xs
  | [], _, h => h
  | d :: ds, xs, h => by
    unfold Rps at h ⊢
    obtain ⟨x, r, h1, h2, h3⟩ := h
    exact ⟨x, r, h1, Rp.mono e d x h2, Rps.mono e ds r h3⟩
end

theorem Rp.non {v : V} : Rp G C .non v ↔ v = .non := by unfold Rp; exact Iff.rfl
theorem Rp.bl {b : Bool} {v : V} : Rp G C (.bl b) v ↔ v = .bl b := by unfold Rp; exact Iff.rfl
theorem Rp.int {i : Int} {v : V} : Rp G C (.int i) v ↔ v = .int i := by unfold Rp; exact Iff.rfl
theorem Rp.str {x : Str} {v : V} : Rp G C (.str x) v ↔ v = .str x := by unfold Rp; exact Iff.rfl
theorem Rp.tup {ds : List D} {v : V} : Rp G C (.tup ds) v ↔ ∃ a xs, v = .ref a ∧ SqT G.K C a xs ∧ Rps G C ds xs := by conv => lhs; unfold Rp
theorem Rp.lst {ds : List D} {v : V} : Rp G C (.lst ds) v ↔ ∃ a xs, v = .ref a ∧ C a = some (.lst xs) ∧ Rps G C ds xs := by conv => lhs; unfold Rp
theorem Rp.rol {ds : List D} {v : V} : Rp G C (.rol ds) v ↔ ∃ a xs, v = .ref a ∧ SqL G.K C a xs ∧ Rps G C ds xs := by conv => lhs; unfold Rp
theorem Rp.ob {c : Nat} {fs : List Nat} {ds : List D} {v : V} : Rp G C (.ob c fs ds) v ↔ ∃ a dx xs, v = .ref a ∧ C a = some (.ins (G.cl c) dx ((fs.map G.fl).zip xs)) ∧ fs.length = ds.length ∧ Rps G C ds xs := by conv => lhs; unfold Rp
theorem Rps.nil {xs : List V} : Rps G C [] xs ↔ xs = [] := by unfold Rps; exact Iff.rfl
theorem Rps.cons {d : D} {ds : List D} {xs : List V} : Rps G C (d :: ds) xs ↔ ∃ x r, xs = x :: r ∧ Rp G C d x ∧ Rps G C ds r := by conv => lhs; unfold Rps
theorem Rps.len : ∀ {ds : List D} {xs : List V}, Rps G C ds xs → ds.length = xs.length
  | [], _, h => by rw [Rps.nil.mp h]; rfl
  | d :: ds, _, h => by
    obtain ⟨x, r, rfl, _, h2⟩ := Rps.cons.mp h
    rw [List.length_cons, List.length_cons, Rps.len h2]
theorem Rps.get : ∀ {ds : List D} {xs : List V} {i : Nat} {d : D}, Rps G C ds xs → ds[i]? = some d → ∃ x, xs[i]? = some x ∧ Rp G C d x
  | [], _, _, _, _, e => by simp at e
  | d :: ds, _, 0, d', h, e => by
    obtain ⟨x, r, rfl, h1, _⟩ := Rps.cons.mp h
    cases (Option.some.inj e)
    exact ⟨x, rfl, h1⟩
  | d :: ds, _, i + 1, d', h, e => by
    obtain ⟨x, r, rfl, _, h2⟩ := Rps.cons.mp h
    exact Rps.get (i := i) h2 e
theorem Rps.get' : ∀ {ds : List D} {xs : List V} {i : Nat} {x : V}, Rps G C ds xs → xs[i]? = some x → ∃ d, ds[i]? = some d ∧ Rp G C d x
  | [], _, _, _, h, e => by rw [Rps.nil.mp h] at e; simp at e
  | d :: ds, _, 0, _, h, e => by
    obtain ⟨x, r, rfl, h1, _⟩ := Rps.cons.mp h
    cases (Option.some.inj e)
    exact ⟨d, rfl, h1⟩
  | d :: ds, _, i + 1, _, h, e => by
    obtain ⟨x, r, rfl, _, h2⟩ := Rps.cons.mp h
    exact Rps.get' (i := i) h2 e
theorem Rps.append : ∀ {ds es : List D} {xs ys : List V}, Rps G C ds xs → Rps G C es ys → Rps G C (ds ++ es) (xs ++ ys)
  | [], _, _, _, h, h' => by rw [Rps.nil.mp h]; exact h'
  | d :: ds, _, _, _, h, h' => by
    obtain ⟨x, r, rfl, h1, h2⟩ := Rps.cons.mp h
    exact Rps.cons.mpr ⟨x, _, rfl, h1, Rps.append h2 h'⟩
theorem Rps.take : ∀ (n : Nat) {ds : List D} {xs : List V}, Rps G C ds xs → Rps G C (ds.take n) (xs.take n)
  | 0, _, _, _ => Rps.nil.mpr rfl
  | _ + 1, [], _, h => by rw [Rps.nil.mp h]; exact Rps.nil.mpr rfl
  | n + 1, d :: ds, _, h => by
    obtain ⟨x, r, rfl, h1, h2⟩ := Rps.cons.mp h
    exact Rps.cons.mpr ⟨x, _, rfl, h1, Rps.take n h2⟩
theorem Rps.drop : ∀ (n : Nat) {ds : List D} {xs : List V}, Rps G C ds xs → Rps G C (ds.drop n) (xs.drop n)
  | 0, _, _, h => h
  | _ + 1, [], _, h => by rw [Rps.nil.mp h]; exact Rps.nil.mpr rfl
  | n + 1, d :: ds, _, h => by
    obtain ⟨x, r, rfl, h1, h2⟩ := Rps.cons.mp h
    exact Rps.drop n h2
theorem Rps.set {d : D} {x : V} (hd : Rp G C d x) : ∀ (n : Nat) {ds : List D} {xs : List V}, Rps G C ds xs → Rps G C (ds.set n d) (xs.set n x)
  | _, [], _, h => by rw [Rps.nil.mp h]; exact Rps.nil.mpr rfl
  | 0, _ :: ds, _, h => by
    obtain ⟨y, r, rfl, h1, h2⟩ := Rps.cons.mp h
    exact Rps.cons.mpr ⟨x, _, rfl, hd, h2⟩
  | n + 1, _ :: ds, _, h => by
    obtain ⟨y, r, rfl, h1, h2⟩ := Rps.cons.mp h
    exact Rps.cons.mpr ⟨y, _, rfl, h1, Rps.set hd n h2⟩
theorem Rps.one {d : D} {x : V} (h : Rp G C d x) : Rps G C [d] [x] := Rps.cons.mpr ⟨x, [], rfl, h, Rps.nil.mpr rfl⟩
theorem Rps.reverse : ∀ {ds : List D} {xs : List V}, Rps G C ds xs → Rps G C ds.reverse xs.reverse
  | [], _, h => by rw [Rps.nil.mp h]; exact Rps.nil.mpr rfl
  | d :: ds, _, h => by
    obtain ⟨x, r, rfl, h1, h2⟩ := Rps.cons.mp h
    rw [List.reverse_cons, List.reverse_cons]
    exact Rps.append (Rps.reverse h2) (Rps.one h1)
end

/-! ### states -/
/-- what stays fixed while a body runs: the heap at its entry, the part that it may look at there, the parameters' own lists (by slot) -/
structure Bd where
  G : Gd
  H0 : Hp
  C0 : Hp
  L0 : Addr → Prop
  pa : Nat → Option Addr

def isLv : Sl → Bool
  | .lv _ => true
  | .lp _ => true
  | .dv _ _ => true
  | _ => false

/-- one slot -/
def SlotR (B : Bd) (H C : Hp) (i : Nat) (s : Sl) (o : Option V) : Prop := match s with
  | .un => True
  | .fz d => ∃ v, o = some v ∧ Rp B.G C d v
  | .lv ds => ∃ a xs, o = some (V.ref a) ∧ H a = some (.lst xs) ∧ C a = none ∧ B.H0 a = none ∧ Rps B.G C ds xs
  | .lp ds => ∃ a xs, o = some (V.ref a) ∧ H a = some (.lst xs) ∧ C a = none ∧ (B.L0 a ∧ B.pa i = some a) ∧ Rps B.G C ds xs
  | .dv ks ds => ∃ a xs, o = some (V.ref a) ∧ H a = some (.dK (ks.zip xs)) ∧ C a = none ∧ B.H0 a = none ∧ ks.length = ds.length ∧ Rps B.G C ds xs

/-- no slot holds the own thing at a -/
def Off (σ : L2.St) (δ : Env) (a : Addr) : Prop := ∀ (i : Nat) (s : Sl), δ[i]? = some s → isLv s = true → σ[i]? ≠ some (some (V.ref a))

/-- the state: σ the slots' values, H the heap, C its settled part, δ what the slots are -/
structure Rl (B : Bd) (σ : L2.St) (H C : Hp) (δ : Env) : Prop where
  len : σ.length = δ.length
  slot : ∀ (i : Nat) (s : Sl) (o : Option V), δ[i]? = some s → σ[i]? = some o → SlotR B H C i s o
  sub : Same C H
  conf : ∀ a o, C a = some o → B.C0 a = some o ∨ B.H0 a = none
  vis : Same B.C0 C
  keep : ∀ a o, B.H0 a = some o → ¬ B.L0 a → H a = some o
  al0 : ∀ a, H a = none → B.H0 a = none
  apart : ∀ (i j : Nat) (s t : Sl) (a : Addr), i ≠ j → δ[i]? = some s → δ[j]? = some t → isLv s = true → isLv t = true → σ[i]? = some (some (V.ref a)) → σ[j]? ≠ some (some (V.ref a))

/-- from a state to a later one -/
structure Stp (σ : L2.St) (H C : Hp) (δ : Env) (H' C' : Hp) (δ' : Env) : Prop where
  cs : Same C C'
  fr : ∀ a o, H a = some o → Off σ δ a → H' a = some o
  off : ∀ a o, H a = some o → Off σ δ a → Off σ δ' a
  cn : ∀ a o, H a = some o → C a = none → Off σ δ a → C' a = none
  al : ∀ a, H' a = none → H a = none

/-- a value; Hb the heap ahead of it -/
def RvR (B : Bd) (σ : L2.St) (Hb H C : Hp) (δ : Env) (r : Rv) (v : V) : Prop := match r with
  | .fz d => Rp B.G C d v
  | .lv ds => ∃ a xs, v = V.ref a ∧ H a = some (.lst xs) ∧ C a = none ∧ (B.H0 a = none ∧ Hb a = none) ∧ Off σ δ a ∧ Rps B.G C ds xs
  | .dv ks ds => ∃ a xs, v = V.ref a ∧ H a = some (.dK (ks.zip xs)) ∧ C a = none ∧ (B.H0 a = none ∧ Hb a = none) ∧ Off σ δ a ∧ ks.length = ds.length ∧ Rps B.G C ds xs

section
variable {B : Bd} {σ : L2.St} {H C H' C' H2 C2 : Hp} {δ δ' δ2 : Env}
theorem Stp.refl : Stp σ H C δ H C δ := ⟨L2.Same.refl _, fun _ _ h _ => h, fun _ _ _ h => h, fun _ _ _ h _ => h, fun _ h => h⟩
theorem Stp.trans (a : Stp σ H C δ H' C' δ') (b : Stp σ H' C' δ' H2 C2 δ2) : Stp σ H C δ H2 C2 δ2 :=
  ⟨a.cs.trans b.cs, fun x o h f => b.fr x o (a.fr x o h f) (a.off x o h f), fun x o h f => b.off x o (a.fr x o h f) (a.off x o h f), fun x o h n f => b.cn x o (a.fr x o h f) (a.cn x o h n f) (a.off x o h f), fun x h => a.al x (b.al x h)⟩

theorem Rl.at_ (R : Rl B σ H C δ) {i : Nat} {s : Sl} (h : δ[i]? = some s) : ∃ o, σ[i]? = some o ∧ SlotR B H C i s o := by
  have hi : i < δ.length := (List.getElem?_eq_some_iff.mp h).1
  have hs : i < σ.length := by rw [R.len]; exact hi
  exact ⟨σ[i], List.getElem?_eq_getElem hs, R.slot i s _ h (List.getElem?_eq_getElem hs)⟩
/-- an own thing's object is there, not settled -/
theorem SlotR.obj {s : Sl} {i : Nat} {o : Option V} (h : SlotR B H C i s o) (l : isLv s = true) : ∃ a u, o = some (V.ref a) ∧ H a = some u ∧ C a = none := by
  cases s with
  | un => cases l
  | fz d => cases l
  | lv ds => obtain ⟨a, xs, h1, h2, h3, _⟩ := h; exact ⟨a, _, h1, h2, h3⟩
  | lp ds => obtain ⟨a, xs, h1, h2, h3, _⟩ := h; exact ⟨a, _, h1, h2, h3⟩
  | dv ks ds => obtain ⟨a, xs, h1, h2, h3, _⟩ := h; exact ⟨a, _, h1, h2, h3⟩
theorem Rl.offNone (R : Rl B σ H C δ) {a : Addr} (h : H a = none) : Off σ δ a := fun i s hs l e => by
  obtain ⟨o, ho, q⟩ := R.at_ hs
  obtain ⟨b, u, e1, e2, _⟩ := q.obj l
  rw [ho, e1] at e
  cases e
  rw [h] at e2
  cases e2
theorem Rl.offC (R : Rl B σ H C δ) {a : Addr} {u : HO} (h : C a = some u) : Off σ δ a := fun i s hs l e => by
  obtain ⟨o, ho, q⟩ := R.at_ hs
  obtain ⟨b, u, e1, _, e2⟩ := q.obj l
  rw [ho, e1] at e
  cases e
  rw [h] at e2
  cases e2
/-- a slot under a later heap in which the settled part has grown and the own things stand -/
theorem SlotR.mono {s : Sl} {i : Nat} {o : Option V} (h : SlotR B H C i s o) (cs : Same C C') (fr : ∀ a u, isLv s = true → o = some (V.ref a) → H a = some u → C a = none → H' a = some u ∧ C' a = none) : SlotR B H' C' i s o := by
  cases s with
  | un => exact h
  | fz d => obtain ⟨v, h1, h2⟩ := h; exact ⟨v, h1, Rp.mono cs _ _ h2⟩
  | lv ds =>
    obtain ⟨a, xs, h1, h2, h3, h4, h5⟩ := h
    obtain ⟨q1, q2⟩ := fr a _ rfl h1 h2 h3
    exact ⟨a, xs, h1, q1, q2, h4, Rps.mono cs _ _ h5⟩
  | lp ds =>
    obtain ⟨a, xs, h1, h2, h3, h4, h5⟩ := h
    obtain ⟨q1, q2⟩ := fr a _ rfl h1 h2 h3
    exact ⟨a, xs, h1, q1, q2, h4, Rps.mono cs _ _ h5⟩
  | dv ks ds =>
    obtain ⟨a, xs, h1, h2, h3, h4, h6, h5⟩ := h
    obtain ⟨q1, q2⟩ := fr a _ rfl h1 h2 h3
    exact ⟨a, xs, h1, q1, q2, h4, h6, Rps.mono cs _ _ h5⟩
theorem Rl.cNone (R : Rl B σ H C δ) {p : Addr} (hp : H p = none) : C p = none := by
  cases e : C p with
  | none => rfl
  | some u => rw [R.sub _ _ e] at hp; cases hp
/-- a new object, settled at once -/
theorem Rl.new (R : Rl B σ H C δ) {p : Addr} (o : HO) (hp : H p = none) : Rl B σ (upd H p o) (upd C p o) δ ∧ Stp σ H C δ (upd H p o) (upd C p o) δ := by
  have cp := R.cNone hp
  have ne : ∀ {a : Addr} {u : HO}, H a = some u → a ≠ p := fun h => ne_of_none h hp
  refine ⟨⟨R.len, fun i s o' h1 h2 => (R.slot i s o' h1 h2).mono (same_upd cp) fun a u _ _ h3 h4 => ?_, fun a u h => ?_, fun a u h => ?_, R.vis.trans (same_upd cp), fun a u h1 h2 => ?_, fun a h => ?_, R.apart⟩, ⟨same_upd cp, fun a u h _ => ?_, fun _ _ _ h => h, fun a u h n _ => ?_, fun a h => ?_⟩⟩
  · rw [upd_ne (ne h3), upd_ne (ne h3)]; exact ⟨h3, h4⟩
  · by_cases e : a = p
    · subst e; rw [upd_same] at h ⊢; exact h
    · rw [upd_ne e] at h ⊢; exact R.sub _ _ h
  · by_cases e : a = p
    · subst e; exact .inr (R.al0 _ hp)
    · rw [upd_ne e] at h; exact R.conf _ _ h
  · have h3 := R.keep _ _ h1 h2
    rw [upd_ne (ne h3)]; exact h3
  · by_cases e : a = p
    · subst e; exact R.al0 _ hp
    · rw [upd_ne e] at h; exact R.al0 _ h
  · rw [upd_ne (ne h)]; exact h
  · rw [upd_ne (ne h)]; exact n
  · by_cases e : a = p
    · subst e; exact hp
    · rw [upd_ne e] at h; exact h
/-- a new object, an own one -/
theorem Rl.newO (R : Rl B σ H C δ) {p : Addr} (o : HO) (hp : H p = none) : Rl B σ (upd H p o) C δ ∧ Stp σ H C δ (upd H p o) C δ ∧ C p = none ∧ B.H0 p = none ∧ Off σ δ p := by
  have cp := R.cNone hp
  have ne : ∀ {a : Addr} {u : HO}, H a = some u → a ≠ p := fun h => ne_of_none h hp
  refine ⟨⟨R.len, fun i s o' h1 h2 => (R.slot i s o' h1 h2).mono (L2.Same.refl _) fun a u _ _ h3 h4 => ?_, fun a u h => ?_, R.conf, R.vis, fun a u h1 h2 => ?_, fun a h => ?_, R.apart⟩, ⟨L2.Same.refl _, fun a u h _ => ?_, fun _ _ _ h => h, fun a u h n _ => n, fun a h => ?_⟩, cp, R.al0 _ hp, R.offNone hp⟩
  · rw [upd_ne (ne h3)]; exact ⟨h3, h4⟩
  · rw [upd_ne (ne (R.sub _ _ h))]; exact R.sub _ _ h
  · have h3 := R.keep _ _ h1 h2
    rw [upd_ne (ne h3)]; exact h3
  · by_cases e : a = p
    · subst e; exact R.al0 _ hp
    · rw [upd_ne e] at h; exact R.al0 _ h
  · rw [upd_ne (ne h)]; exact h
  · by_cases e : a = p
    · subst e; exact hp
    · rw [upd_ne e] at h; exact h
/-- an own thing that no slot holds is settled -/
theorem Rl.settle (R : Rl B σ H C δ) {p : Addr} {o : HO} (hp : H p = some o) (cp : C p = none) (h0 : B.H0 p = none) (hf : Off σ δ p) : Rl B σ H (upd C p o) δ := by
  refine ⟨R.len, fun i s o' h1 h2 => (R.slot i s o' h1 h2).mono (same_upd cp) fun a u l e h3 h4 => ⟨h3, ?_⟩, fun a u h => ?_, fun a u h => ?_, R.vis.trans (same_upd cp), R.keep, R.al0, R.apart⟩
  · have ne : a ≠ p := fun z => by
      subst z
      exact hf i s h1 l (by rw [h2, e])
    rw [upd_ne ne]; exact h4
  · by_cases e : a = p
    · subst e; rw [upd_same] at h; cases h; exact hp
    · rw [upd_ne e] at h; exact R.sub _ _ h
  · by_cases e : a = p
    · subst e; exact .inr h0
    · rw [upd_ne e] at h; exact R.conf _ _ h
/-- a value is settled: it is its data -/
theorem Rl.frz {r : Rv} {v : V} {Hb Cb : Hp} {δb : Env} (R : Rl B σ H C δ) (s : Stp σ Hb Cb δb H C δ) (h : RvR B σ Hb H C δ r v) : ∃ C1, Rl B σ H C1 δ ∧ Stp σ Hb Cb δb H C1 δ ∧ Rp B.G C1 r.d v := by
  have go : ∀ {p : Addr} {o : HO}, H p = some o → C p = none → B.H0 p = none → Hb p = none → Off σ δ p → Rl B σ H (upd C p o) δ ∧ Stp σ Hb Cb δb H (upd C p o) δ ∧ Same C (upd C p o) := fun {p o} h1 h2 h3 h4 h5 =>
    ⟨R.settle h1 h2 h3 h5, ⟨s.cs.trans (same_upd h2), s.fr, s.off, fun a u e n f => by rw [upd_ne (ne_of_none e h4)]; exact s.cn a u e n f, s.al⟩, same_upd h2⟩
  cases r with
  | fz d => exact ⟨C, R, s, h⟩
  | lv ds =>
    obtain ⟨p, xs, rfl, h1, h2, ⟨h3, h4⟩, h5, h6⟩ := h
    obtain ⟨q1, q2, q3⟩ := go h1 h2 h3 h4 h5
    exact ⟨_, q1, q2, Rp.lst.mpr ⟨p, xs, rfl, upd_same, Rps.mono q3 _ _ h6⟩⟩
  | dv ks ds =>
    obtain ⟨p, xs, rfl, h1, h2, ⟨h3, h4⟩, h5, h7, h6⟩ := h
    obtain ⟨q1, q2, q3⟩ := go h1 h2 h3 h4 h5
    refine ⟨_, q1, q2, ?_⟩
    unfold Rp Rv.d
    exact ⟨p, xs, rfl, upd_same, h7, Rps.mono q3 _ _ h6⟩
end

/-! ### readings -/
structure Xg where
  /-- the error classes by number, the field's name -/
  xc : Nat → Addr
  xf : Nat → Str
  /-- those that are raised -/
  rs : List Nat
/-- an error -/
def XnR (G : Gd) (Y : Xg) (H C : Hp) (x : Xn) (cls : Value) (dd : Option Addr) : Prop := x.c ∈ Y.rs ∧ cls = .ref (Y.xc x.c) ∧ match x.d with
  | none => False
  | some d => ∃ da v, dd = some da ∧ C da = some (.xd [(Y.xf x.c, v)]) ∧ Rp G C d v

/-- the context of readings: the body's ground, the errors' classes, the wish about errors -/
structure Tx where
  B : Bd
  Y : Xg
  W : WX

def Out {α : Type} (T : Tx) (σ : L2.St) (H C : Hp) (δ : Env) (S : α → Hp → Hp → Env → Prop) : Rs α → Prop
  | .ok a δ' => ∀ H' C', Rl T.B σ H' C' δ' → Stp σ H C δ H' C' δ' → S a H' C' δ'
  | .er x δ' => ∀ cls dd H' C', Rl T.B σ H' C' δ' → Same C C' → XnR T.B.G T.Y H' C' x cls dd → T.W cls dd σ H'
  | .no => False
theorem Out.base {α : Type} {T : Tx} {σ : L2.St} {H C H1 C1 : Hp} {δ δ1 : Env} {S : α → Hp → Hp → Env → Prop} : ∀ {r : Rs α}, Out T σ H C δ S r → Stp σ H C δ H1 C1 δ1 → Out T σ H1 C1 δ1 S r
  | .ok a δ', h, s => fun H' C' R q => h H' C' R (s.trans q)
  | .er x δ', h, s => fun cls dd H' C' R q => h cls dd H' C' R (s.cs.trans q)
  | .no, h, _ => h
theorem Out.here {α : Type} {T : Tx} {σ : L2.St} {H C : Hp} {δ : Env} {S : α → Hp → Hp → Env → Prop} {a : α} (h : Out T σ H C δ S (.ok a δ)) (R : Rl T.B σ H C δ) : S a H C δ := h H C R .refl

/-- an expression that f tells -/
def tE (T : Tx) (f : Env → Rs Rv) : TE := fun σ H Q => ∃ C δ, Rl T.B σ H C δ ∧ Out T σ H C δ (fun r H' C' δ' => ∀ v, RvR T.B σ H H' C' δ' r v → Q v H') (f δ)
def tAs (T : Tx) (f : Env → Rs (List D)) : TA := fun σ H Q => ∃ C δ, Rl T.B σ H C δ ∧ Out T σ H C δ (fun ds H' C' δ' => ∀ vs, Rps T.B.G C' ds vs → Q vs H') (f δ)

section
variable {T : Tx} {σ : L2.St} {H C : Hp} {δ : Env}
/-- a part first, its value settled, then the rest -/
theorem tE.then {β : Type} {S : β → Hp → Hp → Env → Prop} {fa : Env → Rs Rv} {k : Rv → Env → Rs β} {Q : VK} (R : Rl T.B σ H C δ) (h : Out T σ H C δ S ((fa δ).bind k))
    (hk : ∀ r δ1 H1 C1 v, Rl T.B σ H1 C1 δ1 → Stp σ H C δ H1 C1 δ1 → Rp T.B.G C1 r.d v → Out T σ H1 C1 δ1 S (k r δ1) → Q v H1) : tE T fa σ H Q := by
  refine ⟨C, δ, R, ?_⟩
  cases e : fa δ with
  | ok r δ1 =>
    rw [e] at h
    intro H1 C1 R1 s1 v hv
    obtain ⟨C2, R2, s2, hp⟩ := R1.frz s1 hv
    exact hk r δ1 H1 C2 v R2 s2 hp (Out.base h s2)
  | er x δ1 =>
    rw [e] at h
    exact h
  | no =>
    rw [e] at h
    exact h
/-- .. its value as it is -/
theorem tE.thenR {β : Type} {S : β → Hp → Hp → Env → Prop} {fa : Env → Rs Rv} {k : Rv → Env → Rs β} {Q : VK} (R : Rl T.B σ H C δ) (h : Out T σ H C δ S ((fa δ).bind k))
    (hk : ∀ r δ1 H1 C1 v, Rl T.B σ H1 C1 δ1 → Stp σ H C δ H1 C1 δ1 → RvR T.B σ H H1 C1 δ1 r v → Out T σ H1 C1 δ1 S (k r δ1) → Q v H1) : tE T fa σ H Q := by
  refine ⟨C, δ, R, ?_⟩
  cases e : fa δ with
  | ok r δ1 =>
    rw [e] at h
    intro H1 C1 R1 s1 v hv
    exact hk r δ1 H1 C1 v R1 s1 hv (Out.base h s1)
  | er x δ1 =>
    rw [e] at h
    exact h
  | no =>
    rw [e] at h
    exact h
theorem tAs.then {β : Type} {S : β → Hp → Hp → Env → Prop} {fa : Env → Rs (List D)} {k : List D → Env → Rs β} {Q : List V → Hp → Prop} (R : Rl T.B σ H C δ) (h : Out T σ H C δ S ((fa δ).bind k))
    (hk : ∀ ds δ1 H1 C1 vs, Rl T.B σ H1 C1 δ1 → Stp σ H C δ H1 C1 δ1 → Rps T.B.G C1 ds vs → Out T σ H1 C1 δ1 S (k ds δ1) → Q vs H1) : tAs T fa σ H Q := by
  refine ⟨C, δ, R, ?_⟩
  cases e : fa δ with
  | ok r δ1 =>
    rw [e] at h
    intro H1 C1 R1 s1 v hv
    exact hk r δ1 H1 C1 v R1 s1 hv (Out.base h s1)
  | er x δ1 =>
    rw [e] at h
    exact h
  | no =>
    rw [e] at h
    exact h
end
theorem PE.imp {X : Cx} {e : Expr} {t t' : TE} (h : PE X e t) (i : ∀ σ H Q, t' σ H Q → t σ H Q) : PE X e t' := ⟨fun pins s σ H Q I q => h.run pins s σ H Q I (i σ H Q q)⟩
theorem PT.imp {X : Cx} {e : Expr} {t t' : TT} (h : PT X e t) (i : ∀ σ H Q, t' σ H Q → t σ H Q) : PT X e t' := ⟨fun pins s σ H Q I q => h.run pins s σ H Q I (i σ H Q q)⟩
theorem PA.imp {X : Cx} {e : List Expr} {t t' : TA} (h : PA X e t) (i : ∀ σ H Q, t' σ H Q → t σ H Q) : PA X e t' := ⟨fun pos pins s σ H Q I q => h.run pos pins s σ H Q I (i σ H Q q)⟩
theorem PS.imp {X : Cx} {e : Stmt} {t t' : TS} (h : PS X e t) (i : ∀ D σ H, t' D σ H → t D σ H) : PS X e t' := ⟨fun pins s σ H D I q => h.run pins s σ H D I (i D σ H q)⟩
theorem PSs.imp {X : Cx} {e : List Stmt} {t t' : TS} (h : PSs X e t) (i : ∀ D σ H, t' D σ H → t D σ H) : PSs X e t' := ⟨fun pins s σ H D I q => h.run pins s σ H D I (i D σ H q)⟩
end QL

end
section
set_option Elab.async false
set_option linter.all false
/-! Q3: expressions keep what the small syntax tells. -/
namespace QL
open PySem PySem.Spec L2

theorem len_sz {n : Nat} (h : n ≤ LIM) : n ≤ sizeLine := Nat.le_trans h (by decide)
theorem len_szlt {n : Nat} (h : n < LIM) : n < sizeLine := Nat.lt_of_lt_of_le h (by decide)

section
variable {T : Tx} {X : Cx} {σ : L2.St} {H C : Hp} {δ : Env} {pos : Pos}

/-! ### names, constants -/
theorem set_get {α : Type} {l : List α} {i j : Nat} {a b : α} (h : (l.set i a)[j]? = some b) : (i = j ∧ b = a ∧ i < l.length) ∨ (i ≠ j ∧ l[j]? = some b) := by
  by_cases e : i = j
  · subst e
    by_cases hl : i < l.length
    · rw [List.getElem?_set_self hl] at h
      exact .inl ⟨rfl, (Option.some.inj h).symm, hl⟩
    · rw [List.getElem?_eq_none (by rw [List.length_set]; omega)] at h
      cases h
  · rw [List.getElem?_set_ne e] at h
    exact .inr ⟨e, h⟩
/-- an own list is settled in its slot -/
theorem Rl.useLv {B : Bd} (R : Rl B σ H C δ) {i : Nat} {ds : List D} (h : δ[i]? = some (.lv ds)) : ∃ a xs, σ[i]? = some (some (V.ref a)) ∧ Rl B σ H (upd C a (.lst xs)) (δ.set i (.fz (.lst ds))) ∧ Stp σ H C δ H (upd C a (.lst xs)) (δ.set i (.fz (.lst ds))) ∧ Rp B.G (upd C a (.lst xs)) (.lst ds) (V.ref a) := by
  obtain ⟨o, ho, a, xs, rfl, h1, h2, h3, h4⟩ := R.at_ h
  have cs : Same C (upd C a (.lst xs)) := same_upd h2
  have hr : Rp B.G (upd C a (.lst xs)) (.lst ds) (V.ref a) := Rp.lst.mpr ⟨a, xs, rfl, upd_same, Rps.mono cs _ _ h4⟩
  have od : ∀ b, Off σ δ b → Off σ (δ.set i (.fz (.lst ds))) b := fun b f j s hs l => by
    rcases set_get hs with ⟨_, e, _⟩ | ⟨_, e⟩
    · subst e; cases l
    · exact f j s e l
  refine ⟨a, xs, ho, ⟨by rw [List.length_set]; exact R.len, fun j s o' hs ho' => ?_, fun b u e => ?_, fun b u e => ?_, R.vis.trans cs, R.keep, R.al0, fun j k s t b jk hs ht ls lt ej => ?_⟩, ⟨cs, fun _ _ h _ => h, fun b _ _ f => od b f, fun b u e n f => ?_, fun _ h => h⟩, hr⟩
  · rcases set_get hs with ⟨rfl, e, _⟩ | ⟨ne, e⟩
    · subst e
      rw [ho] at ho'
      cases ho'
      exact ⟨_, rfl, hr⟩
    · refine (R.slot j s o' e ho').mono cs fun b u l eb hb cb => ⟨hb, ?_⟩
      have nb : b ≠ a := fun z => by
        subst z
        exact R.apart i j _ _ b ne h e rfl l ho (by rw [ho', eb])
      rw [upd_ne nb]; exact cb
  · by_cases z : b = a
    · subst z; rw [upd_same] at e; cases e; exact h1
    · rw [upd_ne z] at e; exact R.sub _ _ e
  · by_cases z : b = a
    · subst z; exact .inr h3
    · rw [upd_ne z] at e; exact R.conf _ _ e
  · rcases set_get hs with ⟨_, e, _⟩ | ⟨_, e⟩
    · subst e; cases ls
    · rcases set_get ht with ⟨_, e', _⟩ | ⟨_, e'⟩
      · subst e'; cases lt
      · exact R.apart j k s t b jk e e' ls lt ej
  · have nb : b ≠ a := fun z => by
      subst z
      exact f i _ h rfl ho
    rw [upd_ne nb]; exact n

theorem s_var {i : Nat} {x : Str} (hN : X.N[i]? = some x) (hv : Vis X.env.scope x) (hd : (x == ("__debug__" : Str)) = false) (hcd : (x == ("__classdict__" : Str)) = false) : PE X (.Name x pos) (tE T fun δ => useSl δ i) := by
  refine QL.PE.imp (pe_var hN hv hd hcd) fun σ H Q h => ?_
  obtain ⟨C, δ, R, h⟩ := h
  unfold useSl at h
  dsimp only at h
  cases e : δ[i]? with
  | none => rw [e] at h; exact h.elim
  | some s =>
    rw [e] at h
    cases s with
    | fz d =>
      obtain ⟨o, ho, v, rfl, hv⟩ := R.at_ e
      exact ⟨v, ho, h H C R .refl v hv⟩
    | lv ds =>
      obtain ⟨a, xs, ho, R2, s2, hp⟩ := R.useLv e
      exact ⟨_, ho, h H _ R2 s2 _ hp⟩
    | un => exact h.elim
    | lp ds => exact h.elim
    | dv ks ds => exact h.elim

theorem s_cst {e : Expr} {d : D} {v : V} (h : PE X e (tC v)) (r : ∀ C, Rp T.B.G C d v) : PE X e (tE T fun δ => .ok (.fz d) δ) := QL.PE.imp h fun σ H Q h => by
  obtain ⟨C, δ, R, h⟩ := h
  exact h.here R v (r C)
theorem s_int {i : Int} {j : Nat} : PE X (.Constant (.int i) j pos) (tE T fun δ => .ok (.fz (.int i)) δ) := s_cst pe_int fun _ => Rp.int.mpr rfl
theorem s_bl {b : Bool} {j : Nat} : PE X (.Constant (.bool b) j pos) (tE T fun δ => .ok (.fz (.bl b)) δ) := s_cst pe_bl fun _ => Rp.bl.mpr rfl
theorem s_non {j : Nat} : PE X (.Constant .none j pos) (tE T fun δ => .ok (.fz .non) δ) := s_cst pe_non fun _ => Rp.non.mpr rfl
theorem s_str {x : Str} {j : Nat} : PE X (.Constant (.str x) j pos) (tE T fun δ => .ok (.fz (.str x)) δ) := s_cst pe_str fun _ => Rp.str.mpr rfl
/-- the read name of the module: a constant of the written part -/
theorem s_glob {x : Str} {v : V} {u : Value} {d : D} (hg : Gl X x) (hm : X.mg x = some u) (r : RelV v u) (hd : (x == ("__debug__" : Str)) = false) (rp : ∀ C, Rp T.B.G C d v) : PE X (.Name x pos) (tE T fun δ => .ok (.fz d) δ) := s_cst (pe_glob hg hm r hd) rp

/-! ### two parts, then an operation on values -/
variable {a b c : Expr} {fa fb fc : Env → Rs Rv}
/-- an operation that is right on data -/
def OpD (T : Tx) (X : Cx) (g : Value → Value → Sem Value) (f : D → D → Option Rv) : Prop := ∃ r : R2, OpR X g r ∧ ∀ (σ : L2.St) (H C : Hp) (δ : Env) (x y : V) (dx dy : D) (z : Rv) (Q : VK), Rl T.B σ H C δ → Rp T.B.G C dx x → Rp T.B.G C dy y → f dx dy = some z →
  (∀ v H' C', Rl T.B σ H' C' δ → Stp σ H C δ H' C' δ → RvR T.B σ H H' C' δ z v → Q v H') → r x y H Q
theorem optR_some {α : Type} {S : α → Hp → Hp → Env → Prop} {o : Option α} {δ1 : Env} (h : Out T σ H C δ S (optR o δ1)) : ∃ z, o = some z ∧ Out T σ H C δ S (.ok z δ1) := by
  cases o with
  | none => exact h.elim
  | some z => exact ⟨z, rfl, h⟩
/-- what is left to show of a value from a later ground -/
theorem RvR.back {B : Bd} {Hb Hc H C : Hp} {δ : Env} {r : Rv} {v : V} (al : ∀ a, Hc a = none → Hb a = none) (h : RvR B σ Hc H C δ r v) : RvR B σ Hb H C δ r v := by
  cases r with
  | fz d => exact h
  | lv ds => obtain ⟨a, xs, h1, h2, h3, ⟨h4, h5⟩, h6⟩ := h; exact ⟨a, xs, h1, h2, h3, ⟨h4, al _ h5⟩, h6⟩
  | dv ks ds => obtain ⟨a, xs, h1, h2, h3, ⟨h4, h5⟩, h6⟩ := h; exact ⟨a, xs, h1, h2, h3, ⟨h4, al _ h5⟩, h6⟩
theorem s_op {e : Expr} {g : Value → Value → Sem Value} {f : D → D → Option Rv} (ho : OpD T X g f) (hp : ∀ {ta tb : TE} {r : R2}, OpR X g r → PE X a ta → PE X b tb → PE X e (tOp r ta tb)) (ha : PE X a (tE T fa)) (hb : PE X b (tE T fb)) :
    PE X e (tE T fun δ => (fa δ).bind fun x δ => (fb δ).bind fun y δ => optR (f x.d y.d) δ) := by
  obtain ⟨r, hr, hf⟩ := ho
  refine QL.PE.imp (hp hr ha hb) fun σ H Q h => ?_
  obtain ⟨C, δ, R, h⟩ := h
  refine tE.then R h fun x δ1 H1 C1 v R1 s1 p1 h1 => ?_
  refine tE.then R1 h1 fun y δ2 H2 C2 w R2 s2 p2 h2 => ?_
  obtain ⟨z, ez, h3⟩ := optR_some h2
  refine hf σ H2 C2 δ2 v w x.d y.d z Q R2 (Rp.mono s2.cs _ _ p1) p2 ez fun v' H' C' R' s' hv => h3 H' C' R' s' v' ?_
  exact RvR.back (fun a h => s1.al a (s2.al a h)) hv
theorem s_bin {op : Operator} {f : D → D → Option Rv} (ho : OpD T X (binaryOp op) f) (ha : PE X a (tE T fa)) (hb : PE X b (tE T fb)) : PE X (.BinOp a op b pos) (tE T fun δ => (fa δ).bind fun x δ => (fb δ).bind fun y δ => optR (f x.d y.d) δ) :=
  s_op ho (fun hr ha hb => pe_op hr ha hb) ha hb
theorem s_cmp {op : CmpOp} {f : D → D → Option Rv} (ho : OpD T X (compareOp op) f) (hm : behindInMarks op b = false) (ha : PE X a (tE T fa)) (hb : PE X b (tE T fb)) : PE X (.Compare a [op] [b] pos) (tE T fun δ => (fa δ).bind fun x δ => (fb δ).bind fun y δ => optR (f x.d y.d) δ) :=
  s_op ho (fun hr ha hb => pe_cmpR hr ha hb hm) ha hb

/-! ### the operators -/
theorem OpD.int {g : Value → Value → Sem Value} {f : D → D → Option Rv} {P : Int → Int → Prop} {h : Int → Int → V} (r : OpR X g (rI P h)) (hf : ∀ dx dy z, f dx dy = some z → ∃ i j d, dx = .int i ∧ dy = .int j ∧ P i j ∧ z = .fz d ∧ ∀ C, Rp T.B.G C d (h i j)) : OpD T X g f :=
  ⟨_, r, fun σ H C δ x y dx dy z Q R px py e k => by
    obtain ⟨i, j, d, rfl, rfl, hP, rfl, hd⟩ := hf dx dy z e
    exact ⟨i, j, Rp.int.mp px, Rp.int.mp py, hP, k _ H C R .refl (hd C)⟩⟩
theorem OpD.int0 {g : Value → Value → Sem Value} {f : D → D → Option Rv} {h : Int → Int → V} (r : OpR X g (rI0 h)) (hf : ∀ dx dy z, f dx dy = some z → ∃ i j d, dx = .int i ∧ dy = .int j ∧ z = .fz d ∧ ∀ C, Rp T.B.G C d (h i j)) : OpD T X g f :=
  ⟨_, r, fun σ H C δ x y dx dy z Q R px py e k => by
    obtain ⟨i, j, d, rfl, rfl, rfl, hd⟩ := hf dx dy z e
    exact ⟨i, j, Rp.int.mp px, Rp.int.mp py, k _ H C R .refl (hd C)⟩⟩
theorem od_add (hK : X.K = T.B.G.K) : OpD T X (binaryOp .Add) (binD .add) := by
  refine ⟨_, (op_add.or op_catA).or op_cat, fun σ H C δ x y dx dy z Q R px py e k => ?_⟩
  have e : addD dx dy = some z := e
  unfold addD at e
  split at e
  · cases e
    exact .inl (.inl ⟨_, _, Rp.int.mp px, Rp.int.mp py, k _ H C R .refl (show Rp T.B.G C _ _ from Rp.int.mpr rfl)⟩)
  · rename_i xs ys _
    split at e
    · rename_i hl
      cases e
      obtain ⟨a, us, rfl, ha, hu⟩ := Rp.tup.mp px
      obtain ⟨b, ws, rfl, hb, hw⟩ := Rp.tup.mp py
      rw [← hK] at ha hb
      refine .inl (.inr ⟨a, b, us, ws, rfl, rfl, QL.Same.sqT R.sub ha, QL.Same.sqT R.sub hb, ?_, fun e => ?_, fun _ e => ?_, fun _ _ p hp => ?_⟩)
      · rw [← hu.len, ← hw.len]; exact len_sz hl
      · subst e
        have e2 : xs = [] := List.eq_nil_of_length_eq_zero (by rw [hu.len]; rfl)
        subst e2
        exact k _ H C R .refl py
      · subst e
        have e2 : ys = [] := List.eq_nil_of_length_eq_zero (by rw [hw.len]; rfl)
        subst e2
        refine k _ H C R .refl ?_
        show Rp T.B.G C (.tup (xs ++ [])) _
        rw [List.append_nil]
        exact px
      · obtain ⟨R2, s2⟩ := R.new (.tup (us ++ ws)) hp
        exact k _ _ _ R2 s2 (Rp.tup.mpr ⟨p, _, rfl, .of upd_same, Rps.mono s2.cs _ _ (hu.append hw)⟩)
    · cases e
  · rename_i xs ys _
    split at e
    · rename_i hl
      cases e
      obtain ⟨a, us, rfl, ha, hu⟩ := Rp.lst.mp px
      obtain ⟨b, ws, rfl, hb, hw⟩ := Rp.lst.mp py
      refine .inr ⟨a, b, us, ws, rfl, rfl, R.sub _ _ ha, R.sub _ _ hb, ?_, fun p hp => ?_⟩
      · rw [← hu.len, ← hw.len]; exact len_sz hl
      · obtain ⟨R2, s2, h1, h2, h3⟩ := R.newO (.lst (us ++ ws)) hp
        exact k _ _ _ R2 s2 ⟨p, _, rfl, upd_same, h1, ⟨h2, hp⟩, h3, hu.append hw⟩
    · cases e
  all_goals first | cases e | contradiction
theorem od_sub : OpD T X (binaryOp .Sub) (binD .sub) := .int0 op_sub fun dx dy z e => by
  cases dx <;> cases dy <;> cases e
  exact ⟨_, _, _, rfl, rfl, rfl, fun _ => Rp.int.mpr rfl⟩
theorem od_mul : OpD T X (binaryOp .Mult) (binD .mul) := .int op_mul fun dx dy z e => by
  cases dx <;> cases dy <;> first | (cases e; done) | skip
  rename_i i j
  simp only [binD, mulD] at e
  split at e
  · rename_i h
    cases e
    exact ⟨_, _, _, rfl, rfl, h, rfl, fun _ => Rp.int.mpr rfl⟩
  · cases e
theorem od_mod : OpD T X (binaryOp .Mod) (binD .mod) := .int op_mod fun dx dy z e => by
  cases dx <;> cases dy <;> first | (cases e; done) | skip
  rename_i i j
  simp only [binD, modD] at e
  split at e
  · rename_i h
    cases e
    exact ⟨_, _, _, rfl, rfl, h, rfl, fun _ => Rp.int.mpr rfl⟩
  · cases e
theorem od_fdv : OpD T X (binaryOp .FloorDiv) (binD .fdv) := .int op_fdiv fun dx dy z e => by
  cases dx <;> cases dy <;> first | (cases e; done) | skip
  rename_i i j
  simp only [binD, fdvD] at e
  split at e
  · rename_i h
    cases e
    exact ⟨_, _, _, rfl, rfl, h, rfl, fun _ => Rp.int.mpr rfl⟩
  · cases e
theorem od_pow : OpD T X (binaryOp .Pow) (binD .pow) := .int op_pow fun dx dy z e => by
  cases dx <;> cases dy <;> first | (cases e; done) | skip
  rename_i i j
  simp only [binD, powD] at e
  split at e
  · rename_i h
    cases e
    exact ⟨_, _, _, rfl, rfl, h, rfl, fun _ => Rp.int.mpr rfl⟩
  · cases e

def opOf : BOp → Operator
  | .add => .Add
  | .sub => .Sub
  | .mul => .Mult
  | .mod => .Mod
  | .fdv => .FloorDiv
  | .pow => .Pow
theorem od_bin (hK : X.K = T.B.G.K) : ∀ o : BOp, OpD T X (binaryOp (opOf o)) (binD o)
  | .add => od_add hK
  | .sub => od_sub
  | .mul => od_mul
  | .mod => od_mod
  | .fdv => od_fdv
  | .pow => od_pow

/-! ### == -/
mutual
def pyD : D → PyData
  | .non => .none
  | .bl b => .bool b
  | .int i => .int i
  | .str x => .str x
  | .lst ds => .list (pyDs ds)
  | .tup ds => .tuple (pyDs ds)
  | .dic _ _ => .none
  | .ob _ _ _ => .none
  | .rol _ => .none
def pyDs : List D → List PyData
  | [] => []
  | d :: ds => pyD d :: pyDs ds
end
mutual
theorem eqv_pyD : ∀ (n m : Nat) (d e : D), eqOk n d = true → eqOk m e = true → PyData.eqv (pyD d) (pyD e) = eqD d e
  | n, m, d, e, hd, he => by
    cases d <;> cases e <;> first
      | (cases hd; done)
      | (cases he; done)
      | rfl
      | skip
    · rename_i xs ys
      unfold eqOk at hd he
      simp only [Bool.and_eq_true] at hd he
      show PyData.eqvAll (pyDs xs) (pyDs ys) = eqDs xs ys
      exact eqvs_pyD _ _ xs ys hd.2 he.2
    · rename_i xs ys
      unfold eqOk at hd he
      simp only [Bool.and_eq_true] at hd he
      show PyData.eqvAll (pyDs xs) (pyDs ys) = eqDs xs ys
      exact eqvs_pyD _ _ xs ys hd.2 he.2
theorem eqvs_pyD : ∀ (n m : Nat) (ds es : List D), eqOks n ds = true → eqOks m es = true → PyData.eqvAll (pyDs ds) (pyDs es) = eqDs ds es
  | n, m, [], [], _, _ => rfl
  | n, m, [], _ :: _, _, _ => rfl
  | n, m, _ :: _, [], _, _ => rfl
  | n, m, d :: ds, e :: es, hd, he => by
    unfold eqOks at hd he
    simp only [Bool.and_eq_true] at hd he
    show (PyData.eqv (pyD d) (pyD e) && PyData.eqvAll (pyDs ds) (pyDs es)) = (eqD d e && eqDs ds es)
    rw [eqv_pyD n m d e hd.1 he.1, eqvs_pyD n m ds es hd.2 he.2]
end
mutual
theorem lay_pyD : ∀ (n : Nat) (d : D), eqOk n d = true → (pyD d).canLay0 = true ∧ (pyD d).depth ≤ n
  | n, .non, _ => ⟨rfl, Nat.zero_le _⟩
  | n, .bl _, _ => ⟨rfl, Nat.zero_le _⟩
  | n, .int _, _ => ⟨rfl, Nat.zero_le _⟩
  | n, .str x, h => ⟨h, Nat.zero_le _⟩
  | n, .lst ds, h => by
    unfold eqOk at h
    simp only [Bool.and_eq_true, decide_eq_true_eq] at h
    obtain ⟨h1, h2⟩ := lays_pyD (n - 1) ds h.2
    refine ⟨h1, ?_⟩
    show PyData.depthAll (pyDs ds) + 1 ≤ n
    omega
  | n, .tup ds, h => by
    unfold eqOk at h
    simp only [Bool.and_eq_true, decide_eq_true_eq] at h
    obtain ⟨h1, h2⟩ := lays_pyD (n - 1) ds h.2
    refine ⟨h1, ?_⟩
    show PyData.depthAll (pyDs ds) + 1 ≤ n
    omega
  | n, .dic _ _, h => by cases h
  | n, .ob _ _ _, h => by cases h
  | n, .rol _, h => by cases h
theorem lays_pyD : ∀ (n : Nat) (ds : List D), eqOks n ds = true → PyData.canLayAll0 (pyDs ds) = true ∧ PyData.depthAll (pyDs ds) ≤ n
  | n, [], _ => ⟨rfl, Nat.zero_le _⟩
  | n, d :: ds, h => by
    unfold eqOks at h
    simp only [Bool.and_eq_true] at h
    obtain ⟨h1, h2⟩ := lay_pyD n d h.1
    obtain ⟨h3, h4⟩ := lays_pyD n ds h.2
    refine ⟨?_, ?_⟩
    · show ((pyD d).canLay0 && PyData.canLayAll0 (pyDs ds)) = true
      rw [h1, h3]; rfl
    · show max (pyD d).depth (PyData.depthAll (pyDs ds)) ≤ n
      omega
end
theorem shaped_pyD {d : D} (h : eqOk 60 d = true) : SeqAt.shaped (pyD d) = true := by
  obtain ⟨h1, h2⟩ := lay_pyD 60 d h
  unfold SeqAt.shaped
  rw [h1, decide_eq_true (by omega)]; rfl
mutual
theorem dp_of {G : Gd} {C H : Hp} (sub : Same C H) : ∀ (n : Nat) (d : D) (v : V), eqOk n d = true → Rp G C d v → Dp G.K H v (pyD d)
  | n, .non, v, _, r => by rw [Rp.non.mp r]; exact .non
  | n, .bl b, v, _, r => by rw [Rp.bl.mp r]; exact .bl b
  | n, .int i, v, _, r => by rw [Rp.int.mp r]; exact .int i
  | n, .str x, v, _, r => by rw [Rp.str.mp r]; exact .str x
  | n, .lst ds, v, h, r => by
    obtain ⟨a, xs, rfl, h1, h2⟩ := Rp.lst.mp r
    unfold eqOk at h
    simp only [Bool.and_eq_true] at h
    exact .lst (.of (sub _ _ h1)) (dps_of sub (n - 1) ds xs h.2 h2)
  | n, .tup ds, v, h, r => by
    obtain ⟨a, xs, rfl, h1, h2⟩ := Rp.tup.mp r
    unfold eqOk at h
    simp only [Bool.and_eq_true] at h
    exact .tup (QL.Same.sqT sub h1) (dps_of sub (n - 1) ds xs h.2 h2)
  | n, .dic _ _, v, h, r => by cases h
  | n, .ob _ _ _, v, h, r => by cases h
  | n, .rol _, v, h, r => by cases h
theorem dps_of {G : Gd} {C H : Hp} (sub : Same C H) : ∀ (n : Nat) (ds : List D) (vs : List V), eqOks n ds = true → Rps G C ds vs → DpAll G.K H vs (pyDs ds)
  | n, [], vs, _, r => by rw [Rps.nil.mp r]; exact .nil
  | n, d :: ds, vs, h, r => by
    obtain ⟨x, xs, rfl, h1, h2⟩ := Rps.cons.mp r
    unfold eqOks at h
    simp only [Bool.and_eq_true] at h
    exact .cons (dp_of sub n d x h.1 h1) (dps_of sub n ds xs h.2 h2)
end

/-! ### comparisons -/
def bR (o : Option Bool) : Option Rv := o.map fun c => .fz (.bl c)
theorem bR_some {o : Option Bool} {z : Rv} (h : bR o = some z) : ∃ c, o = some c ∧ z = .fz (.bl c) := by
  cases o with
  | none => cases h
  | some c => exact ⟨c, rfl, (Option.some.inj h).symm⟩
theorem oc_eq (hK : X.K = T.B.G.K) (hu : X.A.units + 64 < cLine) : OpD T X (compareOp .Eq) fun x y => bR (eqED false x y) :=
  ⟨_, op_eqD hu, fun σ H C δ x y dx dy z Q R px py e k => by
    obtain ⟨c, e1, rfl⟩ := bR_some e
    unfold eqED at e1
    split at e1
    · rename_i h
      simp only [Bool.and_eq_true] at h
      cases e1
      refine ⟨pyD dx, pyD dy, hK ▸ dp_of R.sub 60 dx x h.1 px, hK ▸ dp_of R.sub 60 dy y h.2 py, shaped_pyD h.1, shaped_pyD h.2, ?_⟩
      rw [eqv_pyD 60 60 dx dy h.1 h.2]
      exact k _ H C R .refl (Rp.bl.mpr rfl : Rp T.B.G C _ _)
    · cases e1⟩
theorem oc_ne (hK : X.K = T.B.G.K) (hu : X.A.units + 64 < cLine) : OpD T X (compareOp .NotEq) fun x y => bR (eqED true x y) :=
  ⟨_, op_neD hu, fun σ H C δ x y dx dy z Q R px py e k => by
    obtain ⟨c, e1, rfl⟩ := bR_some e
    unfold eqED at e1
    split at e1
    · rename_i h
      simp only [Bool.and_eq_true] at h
      cases e1
      refine ⟨pyD dx, pyD dy, hK ▸ dp_of R.sub 60 dx x h.1 px, hK ▸ dp_of R.sub 60 dy y h.2 py, shaped_pyD h.1, shaped_pyD h.2, ?_⟩
      rw [eqv_pyD 60 60 dx dy h.1 h.2]
      exact k _ H C R .refl (Rp.bl.mpr rfl : Rp T.B.G C _ _)
    · cases e1⟩
theorem oc_lt {op : CmpOp} {p : Int → Int → Bool} (r : OpR X (compareOp op) (rI0 fun i j => .bl (p i j))) : OpD T X (compareOp op) fun x y => bR (ltD p x y) := .int0 r fun dx dy z e => by
  obtain ⟨c, e1, rfl⟩ := bR_some e
  cases dx <;> cases dy <;> cases e1
  exact ⟨_, _, _, rfl, rfl, rfl, fun _ => Rp.bl.mpr rfl⟩
theorem isN_iff {G : Gd} {C : Hp} {d : D} {v : V} (r : Rp G C d v) : decide (v = .non) = isN d := by
  cases d with
  | non => rw [Rp.non.mp r]; rfl
  | bl b => rw [Rp.bl.mp r]; rfl
  | int b => rw [Rp.int.mp r]; rfl
  | str b => rw [Rp.str.mp r]; rfl
  | tup ds => obtain ⟨a, _, rfl, _⟩ := Rp.tup.mp r; rfl
  | lst ds => obtain ⟨a, _, rfl, _⟩ := Rp.lst.mp r; rfl
  | rol ds => obtain ⟨a, _, rfl, _⟩ := Rp.rol.mp r; rfl
  | ob c fs ds => obtain ⟨a, _, _, rfl, _⟩ := Rp.ob.mp r; rfl
  | dic ks ds =>
    unfold Rp at r
    obtain ⟨a, _, rfl, _⟩ := r; rfl
theorem isND_some {n : Bool} {x y : D} {c : Bool} (h : isND n x y = some c) : y = .non ∧ c = (if n then !isN x else isN x) := by
  cases y <;> first | exact ⟨rfl, (Option.some.inj h).symm⟩ | cases h
theorem oc_isn : OpD T X (compareOp .Is) fun x y => bR (isND false x y) :=
  ⟨_, op_isN, fun σ H C δ x y dx dy z Q R px py e k => by
    obtain ⟨c, e1, rfl⟩ := bR_some e
    obtain ⟨rfl, rfl⟩ := isND_some e1
    refine ⟨Rp.non.mp py, ?_⟩
    rw [isN_iff px]
    exact k _ H C R .refl (Rp.bl.mpr rfl : Rp T.B.G C _ _)⟩
theorem oc_nisn : OpD T X (compareOp .IsNot) fun x y => bR (isND true x y) :=
  ⟨_, op_notN, fun σ H C δ x y dx dy z Q R px py e k => by
    obtain ⟨c, e1, rfl⟩ := bR_some e
    obtain ⟨rfl, rfl⟩ := isND_some e1
    refine ⟨Rp.non.mp py, ?_⟩
    rw [isN_iff px]
    exact k _ H C R .refl (Rp.bl.mpr rfl : Rp T.B.G C _ _)⟩
theorem isBD_some {n : Bool} {x y : D} {c : Bool} (h : isBD n x y = some c) : ∃ a b, x = .bl a ∧ y = .bl b ∧ c = (if n then !(a == b) else a == b) := by
  cases x <;> cases y <;> first | exact ⟨_, _, rfl, rfl, (Option.some.inj h).symm⟩ | cases h
theorem dec_beq (a b : Bool) : decide (a = b) = (a == b) := by cases a <;> cases b <;> rfl
theorem oc_isb : OpD T X (compareOp .Is) fun x y => bR (isBD false x y) :=
  ⟨_, op_isBl, fun σ H C δ x y dx dy z Q R px py e k => by
    obtain ⟨c, e1, rfl⟩ := bR_some e
    obtain ⟨a, b, rfl, rfl, rfl⟩ := isBD_some e1
    refine ⟨a, b, Rp.bl.mp px, Rp.bl.mp py, ?_⟩
    rw [dec_beq]
    exact k _ H C R .refl (Rp.bl.mpr rfl : Rp T.B.G C _ _)⟩
theorem oc_nisb : OpD T X (compareOp .IsNot) fun x y => bR (isBD true x y) :=
  ⟨_, op_notBl, fun σ H C δ x y dx dy z Q R px py e k => by
    obtain ⟨c, e1, rfl⟩ := bR_some e
    obtain ⟨a, b, rfl, rfl, rfl⟩ := isBD_some e1
    refine ⟨a, b, Rp.bl.mp px, Rp.bl.mp py, ?_⟩
    rw [dec_beq]
    exact k _ H C R .refl (Rp.bl.mpr rfl : Rp T.B.G C _ _)⟩
theorem flat_of {G : Gd} {C : Hp} {d : D} {v : V} (h : flatD d = true) (r : Rp G C d v) : flatV v = true := by
  cases d <;> first | (cases h; done) | skip
  · rw [Rp.non.mp r]; rfl
  · rw [Rp.bl.mp r]; rfl
  · rw [Rp.int.mp r]; rfl
  · rw [Rp.str.mp r]; rfl
theorem eqV_of {G : Gd} {C : Hp} {d e : D} {v w : V} (hd : flatD d = true) (he : flatD e = true) (r : Rp G C d v) (q : Rp G C e w) : eqV v w = eqD d e := by
  cases d <;> first | (cases hd; done) | skip
  all_goals cases e <;> first | (cases he; done) | skip
  all_goals
    first
      | rw [Rp.non.mp r] | rw [Rp.bl.mp r] | rw [Rp.int.mp r] | rw [Rp.str.mp r]
  all_goals
    first
      | rw [Rp.non.mp q] | rw [Rp.bl.mp q] | rw [Rp.int.mp q] | rw [Rp.str.mp q]
  all_goals rfl
theorem flats_of {G : Gd} {C : Hp} {d : D} {v : V} (hd : flatD d = true) (r : Rp G C d v) : ∀ {ds : List D} {xs : List V}, ds.all flatD = true → Rps G C ds xs → xs.all flatV = true ∧ inV v xs = inD d ds
  | [], xs, _, q => by rw [Rps.nil.mp q]; exact ⟨rfl, rfl⟩
  | e :: ds, xs, h, q => by
    obtain ⟨x, ys, rfl, h1, h2⟩ := Rps.cons.mp q
    rw [List.all_cons, Bool.and_eq_true] at h
    obtain ⟨q1, q2⟩ := flats_of hd r h.2 h2
    refine ⟨?_, ?_⟩
    · rw [List.all_cons, flat_of h.1 h1, q1]; rfl
    · show (eqV x v || inV v ys) = (eqD e d || inD d ds)
      rw [eqV_of h.1 hd h1 r, q2]
theorem inSD_some {n : Bool} {x y : D} {c : Bool} (h : inSD n x y = some c) : ∃ ds, (y = .lst ds ∨ y = .tup ds) ∧ flatD x = true ∧ ds.all flatD = true ∧ c = (if n then !inD x ds else inD x ds) := by
  unfold inSD at h
  split at h
  · split at h
    · rename_i q
      simp only [Bool.and_eq_true] at q
      exact ⟨_, .inl rfl, q.1, q.2, (Option.some.inj h).symm⟩
    · cases h
  · split at h
    · rename_i q
      simp only [Bool.and_eq_true] at q
      exact ⟨_, .inr rfl, q.1, q.2, (Option.some.inj h).symm⟩
    · cases h
  · cases h
theorem in_read (n : Bool) (hK : X.K = T.B.G.K) {σ : L2.St} {H C : Hp} {δ : Env} {x y : V} {dx dy : D} {z : Rv} {Q : VK} (R : Rl T.B σ H C δ) (px : Rp T.B.G C dx x) (py : Rp T.B.G C dy y) (e : bR (inSD n dx dy) = some z)
    (k : ∀ v H' C', Rl T.B σ H' C' δ → Stp σ H C δ H' C' δ → RvR T.B σ H H' C' δ z v → Q v H') : rIn X.K n x y H Q := by
  obtain ⟨c, e1, rfl⟩ := bR_some e
  obtain ⟨ds, hy, h1, h2, rfl⟩ := inSD_some e1
  have fin : ∀ {p : Addr} {xs : List V}, y = .ref p → (SqL X.K H p xs ∨ SqT X.K H p xs) → Rps T.B.G C ds xs → rIn X.K n x y H Q := fun {p xs} ey hs hr => by
    obtain ⟨q1, q2⟩ := flats_of h1 px h2 hr
    refine ⟨p, xs, ey, hs, flat_of h1 px, q1, ?_⟩
    rw [q2]
    exact k _ H C R .refl (Rp.bl.mpr rfl : Rp T.B.G C _ _)
  rcases hy with rfl | rfl
  · obtain ⟨p, xs, rfl, q1, q2⟩ := Rp.lst.mp py
    exact fin rfl (.inl (.of (R.sub _ _ q1))) q2
  · obtain ⟨p, xs, rfl, q1, q2⟩ := Rp.tup.mp py
    exact fin rfl (.inr (hK ▸ QL.Same.sqT R.sub q1)) q2
theorem oc_in (hK : X.K = T.B.G.K) : OpD T X (compareOp .In) fun x y => bR (inSD false x y) := ⟨_, op_in_seq, fun σ H C δ x y dx dy z Q R px py e k => in_read false hK R px py e k⟩
theorem oc_nin (hK : X.K = T.B.G.K) : OpD T X (compareOp .NotIn) fun x y => bR (inSD true x y) := ⟨_, op_notIn_seq, fun σ H C δ x y dx dy z Q R px py e k => in_read true hK R px py e k⟩

def cmpOf : COp → CmpOp
  | .eq => .Eq
  | .ne => .NotEq
  | .lt => .Lt
  | .le => .LtE
  | .gt => .Gt
  | .ge => .GtE
  | .isn => .Is
  | .nisn => .IsNot
  | .isb => .Is
  | .nisb => .IsNot
  | .isin => .In
  | .nin => .NotIn
theorem oc_cmp (hK : X.K = T.B.G.K) (hu : X.A.units + 64 < cLine) : ∀ o : COp, OpD T X (compareOp (cmpOf o)) fun x y => bR (cmpD o x y)
  | .eq => oc_eq hK hu
  | .ne => oc_ne hK hu
  | .lt => oc_lt op_lt
  | .le => oc_lt op_le
  | .gt => oc_lt op_gt
  | .ge => oc_lt op_ge
  | .isn => oc_isn
  | .nisn => oc_nisn
  | .isb => oc_isb
  | .nisb => oc_nisb
  | .isin => oc_in hK
  | .nin => oc_nin hK
end
end QL

end
section
set_option Elab.async false
set_option linter.all false
/-! Q4: chains, and, or, not, tests; argument rows, displays, subscripts, built-ins. -/
namespace QL
open PySem PySem.Spec PyProof.Rows L2

section
variable {T : Tx} {X : Cx} {σ : L2.St} {H C : Hp} {δ : Env} {pos : Pos} {a b c d : Expr} {fa fb fc fd : Env → Rs Rv}

/-- a test that f tells -/
def tT (T : Tx) (f : Env → Rs Rv) : TT := fun σ H Q => ∃ C δ, Rl T.B σ H C δ ∧ Out T σ H C δ (fun r H' _ _ => match r with | .fz (.bl b) => Q b H' | _ => False) (f δ)

/-! ### chains -/
theorem pe_chain3 {op op' op'' : CmpOp} {r r' r'' : R2} {ta tb tc td : TE} (ho : OpR X (compareOp op) r) (ho' : OpR X (compareOp op') r') (ho'' : OpR X (compareOp op'') r'') (ha : PE X a ta) (hb : PE X b tb) (hc : PE X c tc) (hd : PE X d td)
    (hm : lastMarks [op, op', op''] [b, c, d] = false) : PE X (.Compare a [op, op', op''] [b, c, d] pos) (fun σ H Q => ta σ H fun x H1 => tb σ H1 fun y H2 => r x y H2 fun z H3 => ∃ k, z = .bl k ∧
      (if k = true then tc σ H3 fun w' H4 => r' y w' H4 fun z H5 => ∃ k, z = .bl k ∧ (if k = true then td σ H5 fun w'' H6 => r'' w' w'' H6 Q else Q (.bl false) H5) else Q (.bl false) H3)) := by
  refine ⟨fun pins s σ H Q I h => ?_⟩
  refine Compare_chain (thn (ha.run pins s σ H _ I h) fun v s1 ⟨x, H1, I1, r1, q1⟩ => chain_link (thn (hb.run pins s1 σ H1 _ I1 q1) fun u s2 ⟨y, H2, I2, r2, q2⟩ =>
    thn (ho pins s2 σ H2 x y v u _ I2 r1 r2 q2) fun d s3 ⟨z, H3, I3, r3, k, e, q3⟩ => ?_)) hm
  subst e
  cases r3
  refine wpAny_truthy_bool ?_
  cases k with
  | false => exact ite_ff ⟨.bl false, H3, I3, rfl, q3⟩
  | true =>
    refine ite_tt (chain_link (thn (hc.run pins s3 σ H3 _ I3 q3) fun u' s4 ⟨y', H4, I4, r4, q4⟩ => thn (ho' pins s4 σ H4 y y' u u' _ I4 r2 r4 q4) fun d s5 ⟨z', H5, I5, r5, k', e', q5⟩ => ?_))
    subst e'
    cases r5
    refine wpAny_truthy_bool ?_
    cases k' with
    | false => exact ite_ff ⟨.bl false, H5, I5, rfl, q5⟩
    | true => exact ite_tt (chain_last (thn (hd.run pins s5 σ H5 _ I5 q5) fun w' s6 ⟨z'', H6, I6, r6, q6⟩ => ho'' pins s6 σ H6 y' z'' u' w' Q I6 r4 r6 q6))
theorem pt_chain3 {op op' op'' : CmpOp} {r r' r'' : R2} {ta tb tc td : TE} (ho : OpR X (compareOp op) r) (ho' : OpR X (compareOp op') r') (ho'' : OpR X (compareOp op'') r'') (ha : PE X a ta) (hb : PE X b tb) (hc : PE X c tc) (hd : PE X d td)
    (hm : lastMarks [op, op', op''] [b, c, d] = false) : PT X (.Compare a [op, op', op''] [b, c, d] pos) (fun σ H Q => ta σ H fun x H1 => tb σ H1 fun y H2 => r x y H2 fun z H3 => ∃ k, z = .bl k ∧
      (if k = true then tc σ H3 fun w' H4 => r' y w' H4 fun z H5 => ∃ k, z = .bl k ∧ (if k = true then td σ H5 fun w'' H6 => r'' w' w'' H6 fun z H7 => ∃ k, z = .bl k ∧ Q k H7 else Q false H5) else Q false H3)) := by
  refine ⟨fun pins s σ H Q I h => ?_⟩
  refine isTrue_chain (thn (ha.run pins s σ H _ I h) fun v s1 ⟨x, H1, I1, r1, q1⟩ => test_link (thn (hb.run pins s1 σ H1 _ I1 q1) fun u s2 ⟨y, H2, I2, r2, q2⟩ =>
    thn (ho pins s2 σ H2 x y v u _ I2 r1 r2 q2) fun d s3 ⟨z, H3, I3, r3, k, e, q3⟩ => ?_)) hm
  subst e
  cases r3
  refine wpAny_truthy_bool ?_
  cases k with
  | false => exact ite_ff ⟨H3, I3, q3⟩
  | true =>
    refine ite_tt (test_link (thn (hc.run pins s3 σ H3 _ I3 q3) fun u' s4 ⟨y', H4, I4, r4, q4⟩ => thn (ho' pins s4 σ H4 y y' u u' _ I4 r2 r4 q4) fun d s5 ⟨z', H5, I5, r5, k', e', q5⟩ => ?_))
    subst e'
    cases r5
    refine wpAny_truthy_bool ?_
    cases k' with
    | false => exact ite_ff ⟨H5, I5, q5⟩
    | true =>
      refine ite_tt (test_last (thn (hd.run pins s5 σ H5 _ I5 q5) fun w' s6 ⟨z'', H6, I6, r6, q6⟩ => thn (ho'' pins s6 σ H6 y' z'' u' w' _ I6 r4 r6 q6) fun d' s7 ⟨z2, H7, I7, r7, k2, e2, q7⟩ => ?_))
      subst e2
      cases r7
      exact wpAny_truthy_bool ⟨H7, I7, q7⟩

/-- what a comparison on data gives: its reading, with a bool -/
theorem OpD.cmp {g : Value → Value → Sem Value} {f : D → D → Option Bool} (ho : OpD T X g fun x y => bR (f x y)) : ∃ r : R2, OpR X g r ∧ ∀ (σ : L2.St) (H C : Hp) (δ : Env) (x y : V) (dx dy : D) (c : Bool) (Q : VK), Rl T.B σ H C δ → Rp T.B.G C dx x → Rp T.B.G C dy y → f dx dy = some c →
    (∀ H' C', Rl T.B σ H' C' δ → Stp σ H C δ H' C' δ → Q (.bl c) H') → r x y H Q := by
  obtain ⟨r, hr, hf⟩ := ho
  refine ⟨r, hr, fun σ H C δ x y dx dy c Q R px py e k => hf σ H C δ x y dx dy (.fz (.bl c)) Q R px py (by show bR (f dx dy) = _; rw [e]; rfl) fun v H' C' R' s' hv => ?_⟩
  have e2 : v = .bl c := Rp.bl.mp (show Rp T.B.G C' (.bl c) v from hv)
  subst e2
  exact k H' C' R' s'
abbrev fCh2 (g g' : D → D → Option Bool) (fa fb fc : Env → Rs Rv) : Env → Rs Rv := fun δ => (fa δ).bind fun x δ => (fb δ).bind fun y δ => match g x.d y.d with
    | some true => (fc δ).bind fun z δ => optR ((g' y.d z.d).map fun c => .fz (.bl c)) δ
    | some false => .ok (.fz (.bl false)) δ
    | none => .no
theorem map_some {o : Option Bool} {z : Rv} (h : (o.map fun c => Rv.fz (.bl c)) = some z) : ∃ c, o = some c ∧ z = .fz (.bl c) := bR_some h
theorem s_ch2 {op op' : CmpOp} {g g' : D → D → Option Bool} (ho : OpD T X (compareOp op) fun x y => bR (g x y)) (ho' : OpD T X (compareOp op') fun x y => bR (g' x y)) (ha : PE X a (tE T fa)) (hb : PE X b (tE T fb)) (hc : PE X c (tE T fc)) (hm : lastMarks [op, op'] [b, c] = false) :
    PE X (.Compare a [op, op'] [b, c] pos) (tE T (fCh2 g g' fa fb fc)) := by
  obtain ⟨r, hr, hf⟩ := ho.cmp
  obtain ⟨r', hr', hf'⟩ := ho'.cmp
  refine QL.PE.imp (pe_chain hr hr' ha hb hc hm) fun σ H Q h => ?_
  obtain ⟨C, δ, R, h⟩ := h
  refine tE.then R h fun x δ1 H1 C1 v R1 s1 p1 h1 => ?_
  refine tE.then R1 h1 fun y δ2 H2 C2 w R2 s2 p2 h2 => ?_
  cases e : g x.d y.d with
  | none => rw [e] at h2; exact h2.elim
  | some k =>
    rw [e] at h2
    refine hf σ H2 C2 δ2 v w x.d y.d k _ R2 (Rp.mono s2.cs _ _ p1) p2 e fun H3 C3 R3 s3 => ⟨k, rfl, ?_⟩
    cases k with
    | false => exact h2 H3 C3 R3 s3 _ (Rp.bl.mpr rfl : Rp T.B.G C3 _ _)
    | true =>
      refine tE.then R3 (Out.base h2 s3) fun z δ4 H4 C4 w' R4 s4 p4 h4 => ?_
      obtain ⟨z', ez, h5⟩ := optR_some h4
      obtain ⟨c', e', rfl⟩ := map_some ez
      exact hf' σ H4 C4 δ4 w w' y.d z.d c' Q R4 (Rp.mono s4.cs _ _ (Rp.mono s3.cs _ _ p2)) p4 e' fun H5 C5 R5 s5 => h5 H5 C5 R5 s5 _ (Rp.bl.mpr rfl : Rp T.B.G C5 _ _)
theorem s_tch2 {op op' : CmpOp} {g g' : D → D → Option Bool} (ho : OpD T X (compareOp op) fun x y => bR (g x y)) (ho' : OpD T X (compareOp op') fun x y => bR (g' x y)) (ha : PE X a (tE T fa)) (hb : PE X b (tE T fb)) (hc : PE X c (tE T fc)) (hm : lastMarks [op, op'] [b, c] = false) :
    PT X (.Compare a [op, op'] [b, c] pos) (tT T (fCh2 g g' fa fb fc)) := by
  obtain ⟨r, hr, hf⟩ := ho.cmp
  obtain ⟨r', hr', hf'⟩ := ho'.cmp
  refine QL.PT.imp (pt_chain hr hr' ha hb hc hm) fun σ H Q h => ?_
  obtain ⟨C, δ, R, h⟩ := h
  refine tE.then R h fun x δ1 H1 C1 v R1 s1 p1 h1 => ?_
  refine tE.then R1 h1 fun y δ2 H2 C2 w R2 s2 p2 h2 => ?_
  cases e : g x.d y.d with
  | none => rw [e] at h2; exact h2.elim
  | some k =>
    rw [e] at h2
    refine hf σ H2 C2 δ2 v w x.d y.d k _ R2 (Rp.mono s2.cs _ _ p1) p2 e fun H3 C3 R3 s3 => ⟨k, rfl, ?_⟩
    cases k with
    | false => exact ⟨_, rfl, h2 H3 C3 R3 s3⟩
    | true =>
      refine tE.then R3 (Out.base h2 s3) fun z δ4 H4 C4 w' R4 s4 p4 h4 => ?_
      obtain ⟨z', ez, h5⟩ := optR_some h4
      obtain ⟨c', e', rfl⟩ := map_some ez
      exact hf' σ H4 C4 δ4 w w' y.d z.d c' _ R4 (Rp.mono s4.cs _ _ (Rp.mono s3.cs _ _ p2)) p4 e' fun H5 C5 R5 s5 => ⟨_, rfl, h5 H5 C5 R5 s5⟩
abbrev fCh3 (g g' g'' : D → D → Option Bool) (fa fb fc fd : Env → Rs Rv) : Env → Rs Rv := fun δ => (fa δ).bind fun x δ => (fb δ).bind fun y δ => match g x.d y.d with
    | some true => (fc δ).bind fun z δ => (match g' y.d z.d with
      | some true => (fd δ).bind fun w δ => optR ((g'' z.d w.d).map fun c => .fz (.bl c)) δ
      | some false => .ok (.fz (.bl false)) δ
      | none => .no)
    | some false => .ok (.fz (.bl false)) δ
    | none => .no
theorem s_ch3 {op op' op'' : CmpOp} {g g' g'' : D → D → Option Bool} (ho : OpD T X (compareOp op) fun x y => bR (g x y)) (ho' : OpD T X (compareOp op') fun x y => bR (g' x y)) (ho'' : OpD T X (compareOp op'') fun x y => bR (g'' x y)) (ha : PE X a (tE T fa)) (hb : PE X b (tE T fb)) (hc : PE X c (tE T fc)) (hd : PE X d (tE T fd)) (hm : lastMarks [op, op', op''] [b, c, d] = false) :
    PE X (.Compare a [op, op', op''] [b, c, d] pos) (tE T (fCh3 g g' g'' fa fb fc fd)) := by
  obtain ⟨r, hr, hf⟩ := ho.cmp
  obtain ⟨r', hr', hf'⟩ := ho'.cmp
  obtain ⟨r'', hr'', hf''⟩ := ho''.cmp
  refine QL.PE.imp (pe_chain3 hr hr' hr'' ha hb hc hd hm) fun σ H Q h => ?_
  obtain ⟨C, δ, R, h⟩ := h
  refine tE.then R h fun x δ1 H1 C1 v R1 s1 p1 h1 => ?_
  refine tE.then R1 h1 fun y δ2 H2 C2 w R2 s2 p2 h2 => ?_
  cases e : g x.d y.d with
  | none => rw [e] at h2; exact h2.elim
  | some k =>
    rw [e] at h2
    refine hf σ H2 C2 δ2 v w x.d y.d k _ R2 (Rp.mono s2.cs _ _ p1) p2 e fun H3 C3 R3 s3 => ⟨k, rfl, ?_⟩
    cases k with
    | false => exact h2 H3 C3 R3 s3 _ (Rp.bl.mpr rfl : Rp T.B.G C3 _ _)
    | true =>
      refine tE.then R3 (Out.base h2 s3) fun z δ4 H4 C4 w' R4 s4 p4 h4 => ?_
      cases e' : g' y.d z.d with
      | none => rw [e'] at h4; exact h4.elim
      | some k =>
        rw [e'] at h4
        refine hf' σ H4 C4 δ4 w w' y.d z.d k _ R4 (Rp.mono s4.cs _ _ (Rp.mono s3.cs _ _ p2)) p4 e' fun H5 C5 R5 s5 => ⟨k, rfl, ?_⟩
        cases k with
        | false => exact h4 H5 C5 R5 s5 _ (Rp.bl.mpr rfl : Rp T.B.G C5 _ _)
        | true =>
          refine tE.then R5 (Out.base h4 s5) fun u δ6 H6 C6 w'' R6 s6 p6 h6 => ?_
          obtain ⟨z', ez, h7⟩ := optR_some h6
          obtain ⟨c', e'', rfl⟩ := map_some ez
          exact hf'' σ H6 C6 δ6 w' w'' z.d u.d c' Q R6 (Rp.mono s6.cs _ _ (Rp.mono s5.cs _ _ p4)) p6 e'' fun H7 C7 R7 s7 => h7 H7 C7 R7 s7 _ (Rp.bl.mpr rfl : Rp T.B.G C7 _ _)
theorem s_tch3 {op op' op'' : CmpOp} {g g' g'' : D → D → Option Bool} (ho : OpD T X (compareOp op) fun x y => bR (g x y)) (ho' : OpD T X (compareOp op') fun x y => bR (g' x y)) (ho'' : OpD T X (compareOp op'') fun x y => bR (g'' x y)) (ha : PE X a (tE T fa)) (hb : PE X b (tE T fb)) (hc : PE X c (tE T fc)) (hd : PE X d (tE T fd)) (hm : lastMarks [op, op', op''] [b, c, d] = false) :
    PT X (.Compare a [op, op', op''] [b, c, d] pos) (tT T (fCh3 g g' g'' fa fb fc fd)) := by
  obtain ⟨r, hr, hf⟩ := ho.cmp
  obtain ⟨r', hr', hf'⟩ := ho'.cmp
  obtain ⟨r'', hr'', hf''⟩ := ho''.cmp
  refine QL.PT.imp (pt_chain3 hr hr' hr'' ha hb hc hd hm) fun σ H Q h => ?_
  obtain ⟨C, δ, R, h⟩ := h
  refine tE.then R h fun x δ1 H1 C1 v R1 s1 p1 h1 => ?_
  refine tE.then R1 h1 fun y δ2 H2 C2 w R2 s2 p2 h2 => ?_
  cases e : g x.d y.d with
  | none => rw [e] at h2; exact h2.elim
  | some k =>
    rw [e] at h2
    refine hf σ H2 C2 δ2 v w x.d y.d k _ R2 (Rp.mono s2.cs _ _ p1) p2 e fun H3 C3 R3 s3 => ⟨k, rfl, ?_⟩
    cases k with
    | false => exact h2 H3 C3 R3 s3
    | true =>
      refine tE.then R3 (Out.base h2 s3) fun z δ4 H4 C4 w' R4 s4 p4 h4 => ?_
      cases e' : g' y.d z.d with
      | none => rw [e'] at h4; exact h4.elim
      | some k =>
        rw [e'] at h4
        refine hf' σ H4 C4 δ4 w w' y.d z.d k _ R4 (Rp.mono s4.cs _ _ (Rp.mono s3.cs _ _ p2)) p4 e' fun H5 C5 R5 s5 => ⟨k, rfl, ?_⟩
        cases k with
        | false => exact h4 H5 C5 R5 s5
        | true =>
          refine tE.then R5 (Out.base h4 s5) fun u δ6 H6 C6 w'' R6 s6 p6 h6 => ?_
          obtain ⟨z', ez, h7⟩ := optR_some h6
          obtain ⟨c', e'', rfl⟩ := map_some ez
          exact hf'' σ H6 C6 δ6 w' w'' z.d u.d c' _ R6 (Rp.mono s6.cs _ _ (Rp.mono s5.cs _ _ p4)) p6 e'' fun H7 C7 R7 s7 => ⟨_, rfl, h7 H7 C7 R7 s7⟩
abbrev fCmp (g : D → D → Option Bool) (fa fb : Env → Rs Rv) : Env → Rs Rv := fun δ => (fa δ).bind fun x δ => (fb δ).bind fun y δ => optR ((g x.d y.d).map fun c => .fz (.bl c)) δ
theorem s_tcmp {op : CmpOp} {g : D → D → Option Bool} (ho : OpD T X (compareOp op) fun x y => bR (g x y)) (hm : behindInMarks op b = false) (ha : PE X a (tE T fa)) (hb : PE X b (tE T fb)) : PT X (.Compare a [op] [b] pos) (tT T (fCmp g fa fb)) := by
  obtain ⟨r, hr, hf⟩ := ho.cmp
  refine QL.PT.imp (pt_cmpR hr ha hb hm) fun σ H Q h => ?_
  obtain ⟨C, δ, R, h⟩ := h
  refine tE.then R h fun x δ1 H1 C1 v R1 s1 p1 h1 => ?_
  refine tE.then R1 h1 fun y δ2 H2 C2 w R2 s2 p2 h2 => ?_
  obtain ⟨z, ez, h3⟩ := optR_some h2
  obtain ⟨c', e', rfl⟩ := map_some ez
  exact hf σ H2 C2 δ2 v w x.d y.d c' _ R2 (Rp.mono s2.cs _ _ p1) p2 e' fun H3 C3 R3 s3 => ⟨_, rfl, h3 H3 C3 R3 s3⟩

/-! ### and, or, not -/
/-- a value that must be a bool -/
theorem tE.bool {β : Type} {S : β → Hp → Hp → Env → Prop} {k : Rv → Env → Rs β} {Q : VK} (R : Rl T.B σ H C δ) (h : Out T σ H C δ S ((fa δ).bind k)) (hn : ∀ r δ, (∀ b, r ≠ .fz (.bl b)) → k r δ = .no)
    (hk : ∀ b δ1 H1 C1, Rl T.B σ H1 C1 δ1 → Stp σ H C δ H1 C1 δ1 → Out T σ H1 C1 δ1 S (k (.fz (.bl b)) δ1) → Q (.bl b) H1) : tE T fa σ H Q := by
  refine tE.thenR R h fun r δ1 H1 C1 v R1 s1 hv h1 => ?_
  by_cases q : ∃ b, r = .fz (.bl b)
  · obtain ⟨b, rfl⟩ := q
    have e : v = .bl b := Rp.bl.mp (show Rp T.B.G C1 (.bl b) v from hv)
    subst e
    exact hk b δ1 H1 C1 R1 s1 h1
  · rw [hn r δ1 fun b e => q ⟨b, e⟩] at h1
    exact h1.elim
theorem tT.bool {β : Type} {S : β → Hp → Hp → Env → Prop} {k : Rv → Env → Rs β} {Q : Bool → Hp → Prop} (R : Rl T.B σ H C δ) (h : Out T σ H C δ S ((fa δ).bind k)) (hn : ∀ r δ, (∀ b, r ≠ .fz (.bl b)) → k r δ = .no)
    (hk : ∀ b δ1 H1 C1, Rl T.B σ H1 C1 δ1 → Stp σ H C δ H1 C1 δ1 → Out T σ H1 C1 δ1 S (k (.fz (.bl b)) δ1) → Q b H1) : tT T fa σ H Q := by
  refine ⟨C, δ, R, ?_⟩
  cases e : fa δ with
  | ok r δ1 =>
    rw [e] at h
    intro H1 C1 R1 s1
    by_cases q : ∃ b, r = .fz (.bl b)
    · obtain ⟨b, rfl⟩ := q
      exact hk b δ1 H1 C1 R1 s1 (Out.base h s1)
    · have h' : Out T σ H C δ S (k r δ1) := h
      rw [hn r δ1 fun b e => q ⟨b, e⟩] at h'
      exact h'.elim
  | er x δ1 =>
    rw [e] at h
    exact h
  | no =>
    rw [e] at h
    exact h
abbrev fAnd (fa fb : Env → Rs Rv) : Env → Rs Rv := fun δ => (fa δ).bind fun x δ => match x with | .fz (.bl true) => fb δ | .fz (.bl false) => .ok (.fz (.bl false)) δ | _ => .no
abbrev fOr (fa fb : Env → Rs Rv) : Env → Rs Rv := fun δ => (fa δ).bind fun x δ => match x with | .fz (.bl true) => .ok (.fz (.bl true)) δ | .fz (.bl false) => fb δ | _ => .no
abbrev fNot (fa : Env → Rs Rv) : Env → Rs Rv := fun δ => (fa δ).bind fun x δ => match x with | .fz (.bl b) => .ok (.fz (.bl (!b))) δ | _ => .no
abbrev fIfe (fc fa fb : Env → Rs Rv) : Env → Rs Rv := fun δ => (fc δ).bind fun x δ => match x with | .fz (.bl true) => fa δ | .fz (.bl false) => fb δ | _ => .no
theorem no_bool {α : Type} {f g : Env → Rs α} : ∀ (r : Rv) (δ : Env), (∀ b, r ≠ .fz (.bl b)) → (match r with | .fz (.bl true) => f δ | .fz (.bl false) => g δ | _ => (.no : Rs α)) = .no := by
  intro r δ h
  split
  · exact absurd rfl (h true)
  · exact absurd rfl (h false)
  · rfl
theorem no_bool1 {α : Type} {f : Bool → Env → Rs α} : ∀ (r : Rv) (δ : Env), (∀ b, r ≠ .fz (.bl b)) → (match r with | .fz (.bl b) => f b δ | _ => (.no : Rs α)) = .no := by
  intro r δ h
  split
  · exact absurd rfl (h _)
  · rfl
/-- the value of a part stands for the whole -/
theorem tE.last {Q : VK} (R : Rl T.B σ H C δ) {Hb : Hp} (al : ∀ a, H a = none → Hb a = none) (h : Out T σ H C δ (fun r H' C' δ' => ∀ v, RvR T.B σ Hb H' C' δ' r v → Q v H') (fa δ)) : tE T fa σ H Q := by
  refine ⟨C, δ, R, ?_⟩
  cases e : fa δ with
  | ok r δ1 =>
    rw [e] at h
    exact fun H1 C1 R1 s1 v hv => h H1 C1 R1 s1 v (RvR.back al hv)
  | er x δ1 => rw [e] at h; exact h
  | no => rw [e] at h; exact h
theorem tT.last {Q : Bool → Hp → Prop} (R : Rl T.B σ H C δ) (h : Out T σ H C δ (fun r H' _ _ => match r with | .fz (.bl b) => Q b H' | _ => False) (fa δ)) : tT T fa σ H Q := ⟨C, δ, R, h⟩
theorem s_and {rest : List Expr} (ha : PE X a (tE T fa)) (hb : PE X (.BoolOp .And (b :: rest) pos) (tE T fb)) : PE X (.BoolOp .And (a :: b :: rest) pos) (tE T (fAnd fa fb)) := by
  refine QL.PE.imp (pe_and ha hb) fun σ H Q h => ?_
  obtain ⟨C, δ, R, h⟩ := h
  refine tE.bool R h no_bool fun c δ1 H1 C1 R1 s1 h1 => ⟨c, rfl, ?_⟩
  cases c with
  | true => exact tE.last R1 s1.al h1
  | false => exact h1.here R1 _ (Rp.bl.mpr rfl : Rp T.B.G C1 _ _)
theorem s_or {rest : List Expr} (ha : PE X a (tE T fa)) (hb : PE X (.BoolOp .Or (b :: rest) pos) (tE T fb)) : PE X (.BoolOp .Or (a :: b :: rest) pos) (tE T (fOr fa fb)) := by
  refine QL.PE.imp (pe_or ha hb) fun σ H Q h => ?_
  obtain ⟨C, δ, R, h⟩ := h
  refine tE.bool R h no_bool fun c δ1 H1 C1 R1 s1 h1 => ⟨c, rfl, ?_⟩
  cases c with
  | true => exact h1.here R1 _ (Rp.bl.mpr rfl : Rp T.B.G C1 _ _)
  | false => exact tE.last R1 s1.al h1
theorem s_one {op : BoolOp} (ha : PE X a (tE T fa)) : PE X (.BoolOp op [a] pos) (tE T fa) := pe_one ha
theorem s_not (ha : PE X a (tE T fa)) : PE X (.UnaryOp .Not a pos) (tE T (fNot fa)) := by
  refine QL.PE.imp (pe_not ha) fun σ H Q h => ?_
  obtain ⟨C, δ, R, h⟩ := h
  refine tE.bool R h no_bool1 fun c δ1 H1 C1 R1 s1 h1 => ⟨c, rfl, h1.here R1 _ (Rp.bl.mpr rfl : Rp T.B.G C1 _ _)⟩
theorem s_ife (hc : PT X c (tT T fc)) (ha : PE X a (tE T fa)) (hb : PE X b (tE T fb)) : PE X (.IfExp c a b pos) (tE T (fIfe fc fa fb)) := by
  refine QL.PE.imp (pe_ifExp hc ha hb) fun σ H Q h => ?_
  obtain ⟨C, δ, R, h⟩ := h
  refine tT.bool R h no_bool fun c δ1 H1 C1 R1 s1 h1 => ?_
  cases c with
  | true => exact tE.last R1 s1.al h1
  | false => exact tE.last R1 s1.al h1
/-- a value as a test -/
theorem s_tval (h : PE X a (tE T fa)) (he : ∀ whole, isTrue a X.env whole = (do let v ← whole; standAt a.pos; holding [v] (truthy v))) : PT X a (tT T fa) := by
  refine QL.PT.imp (pt_val h he) fun σ H Q h => ?_
  obtain ⟨C, δ, R, h⟩ := h
  refine ⟨C, δ, R, ?_⟩
  cases e : fa δ with
  | ok r δ1 =>
    rw [e] at h
    intro H1 C1 R1 s1 v hv
    have h1 := h H1 C1 R1 s1
    dsimp only at h1
    split at h1
    · rename_i b
      exact ⟨b, Rp.bl.mp (show Rp T.B.G C1 (.bl b) v from hv), h1⟩
    · exact h1.elim
  | er x δ1 => rw [e] at h; exact h
  | no => rw [e] at h; exact h
theorem s_tnot (ha : PT X a (tT T fa)) : PT X (.UnaryOp .Not a pos) (tT T (fNot fa)) := by
  refine QL.PT.imp (pt_not ha) fun σ H Q h => ?_
  obtain ⟨C, δ, R, h⟩ := h
  refine tT.bool R h no_bool1 fun c δ1 H1 C1 R1 s1 h1 => h1.here R1
theorem pw_of {op : BoolOp} {es : List Expr} {t : TT} (h : PT X (.BoolOp op es pos) t) : PW X (.BoolOp op es pos) t := ⟨fun _ pins s σ H Q I q => h.run pins s σ H Q I q⟩
theorem s_tone {op : BoolOp} (ha : PT X a (tT T fa)) : PT X (.BoolOp op [a] pos) (tT T fa) := by
  cases op with
  | And => exact PW.pt (pw_and1 ha)
  | Or => exact PW.pt (pw_or1 ha)
theorem s_tand {rest : List Expr} (ha : PT X a (tT T fa)) (hb : PT X (.BoolOp .And (b :: rest) pos) (tT T fb)) : PT X (.BoolOp .And (a :: b :: rest) pos) (tT T (fAnd fa fb)) := by
  refine QL.PT.imp (PW.pt (pw_and ha (pw_of hb))) fun σ H Q h => ?_
  obtain ⟨C, δ, R, h⟩ := h
  refine tT.bool R h no_bool fun c δ1 H1 C1 R1 s1 h1 => ?_
  cases c with
  | true => exact tT.last R1 h1
  | false => exact h1.here R1
theorem s_tor {rest : List Expr} (ha : PT X a (tT T fa)) (hb : PT X (.BoolOp .Or (b :: rest) pos) (tT T fb)) : PT X (.BoolOp .Or (a :: b :: rest) pos) (tT T (fOr fa fb)) := by
  refine QL.PT.imp (PW.pt (pw_or ha (pw_of hb))) fun σ H Q h => ?_
  obtain ⟨C, δ, R, h⟩ := h
  refine tT.bool R h no_bool fun c δ1 H1 C1 R1 s1 h1 => ?_
  cases c with
  | true => exact h1.here R1
  | false => exact tT.last R1 h1

/-! ### rows of arguments, displays -/
variable {e : Expr} {es : List Expr} {fs : Env → Rs (List D)}
abbrev fNil : Env → Rs (List D) := fun δ => .ok [] δ
abbrev fCons (fa : Env → Rs Rv) (fs : Env → Rs (List D)) : Env → Rs (List D) := fun δ => (fa δ).bind fun x δ => (fs δ).bind fun xs δ => .ok (x.d :: xs) δ
theorem s_anil : PA X [] (tAs T fNil) := QL.PA.imp pa_nil fun σ H Q h => by
  obtain ⟨C, δ, R, h⟩ := h
  exact h.here R [] (Rps.nil.mpr rfl)
theorem s_acons (ha : PE X e (tE T fa)) (hr : PA X es (tAs T fs)) (hs : starEach (e :: es) X.env = (false, eval e X.env) :: starEach es X.env) : PA X (e :: es) (tAs T (fCons fa fs)) := by
  refine QL.PA.imp (pa_cons ha hr hs) fun σ H Q h => ?_
  obtain ⟨C, δ, R, h⟩ := h
  refine tE.then R h fun x δ1 H1 C1 v R1 s1 p1 h1 => ?_
  refine tAs.then R1 h1 fun ds δ2 H2 C2 vs R2 s2 p2 h2 => ?_
  exact h2.here R2 (v :: vs) (Rps.cons.mpr ⟨v, vs, rfl, Rp.mono s2.cs _ _ p1, p2⟩)
theorem s_tup {x1 : Nat} (h : PA X es (tAs T fs)) : PE X (.Tuple es x1 pos) (tE T fun δ => (fs δ).bind fun xs δ => if xs.length ≤ LIM then .ok (.fz (.tup xs)) δ else .no) := by
  refine QL.PE.imp (pe_tup h) fun σ H Q h => ?_
  obtain ⟨C, δ, R, h⟩ := h
  refine tAs.then R h fun ds δ1 H1 C1 vs R1 s1 p1 h1 => ?_
  split at h1
  · rename_i hl
    refine ⟨by rw [← p1.len]; exact len_sz hl, fun p hp => ?_⟩
    obtain ⟨R2, s2⟩ := R1.new (.tup vs) hp
    exact h1 _ _ R2 s2 _ (Rp.tup.mpr ⟨p, vs, rfl, .of upd_same, Rps.mono s2.cs _ _ p1⟩)
  · exact h1.elim
theorem s_lst (h : PA X es (tAs T fs)) : PE X (.List es pos) (tE T fun δ => (fs δ).bind fun xs δ => if xs.length ≤ LIM then .ok (.lv xs) δ else .no) := by
  refine QL.PE.imp (pe_lst h) fun σ H Q h => ?_
  obtain ⟨C, δ, R, h⟩ := h
  refine tAs.then R h fun ds δ1 H1 C1 vs R1 s1 p1 h1 => ?_
  split at h1
  · rename_i hl
    refine ⟨by rw [← p1.len]; exact len_sz hl, fun p hp => ?_⟩
    obtain ⟨R2, s2, q1, q2, q3⟩ := R1.newO (.lst vs) hp
    exact h1 _ _ R2 s2 _ ⟨p, vs, rfl, upd_same, q1, ⟨q2, s1.al _ hp⟩, q3, p1⟩
  · exact h1.elim

/-! ### subscripts -/
theorem atI_rps {G : Gd} {C : Hp} {ds : List D} {xs : List V} {i : Int} {d : D} (h : Rps G C ds xs) (e : atI ds i = some d) : ∃ x, atI xs i = some x ∧ Rp G C d x := by
  unfold atI at e ⊢
  rw [← h.len]
  cases hj : ixN ds.length i with
  | none => rw [hj] at e; cases e
  | some j =>
    rw [hj] at e
    exact h.get e
theorem ix_read (hK : X.K = T.B.G.K) {x y : V} {dx dy d : D} {Q : VK} (sub : Same C H) (px : Rp T.B.G C dx x) (py : Rp T.B.G C dy y) (e : ixD dx dy = some d) (k : ∀ v, Rp T.B.G C d v → Q v H) : rIxL X.K x y H Q ∨ rIxT X.K x y H Q := by
  unfold ixD at e
  split at e
  · obtain ⟨a, xs, rfl, h1, h2⟩ := Rp.lst.mp px
    obtain ⟨v, h3, h4⟩ := atI_rps h2 e
    exact .inl ⟨a, xs, _, v, rfl, Rp.int.mp py, .of (sub _ _ h1), h3, k v h4⟩
  · obtain ⟨a, xs, rfl, h1, h2⟩ := Rp.tup.mp px
    obtain ⟨v, h3, h4⟩ := atI_rps h2 e
    exact .inr ⟨a, xs, _, v, rfl, Rp.int.mp py, hK ▸ QL.Same.sqT sub h1, h3, k v h4⟩
  · cases e
abbrev fIx (fa fb : Env → Rs Rv) : Env → Rs Rv := fun δ => (fa δ).bind fun x δ => (fb δ).bind fun y δ => optR ((ixD x.d y.d).map Rv.fz) δ
theorem s_ix (hK : X.K = T.B.G.K) (ha : PE X a (tE T fa)) (hb : PE X b (tE T fb)) (hs : PlainIx b) : PE X (.Subscript a b pos) (tE T (fIx fa fb)) := by
  refine QL.PE.imp (pe_ix (ix_list.or ix_tup) ha hb hs) fun σ H Q h => ?_
  obtain ⟨C, δ, R, h⟩ := h
  refine tE.then R h fun x δ1 H1 C1 v R1 s1 p1 h1 => ?_
  refine tE.then R1 h1 fun y δ2 H2 C2 w R2 s2 p2 h2 => ?_
  obtain ⟨z, ez, h3⟩ := optR_some h2
  obtain ⟨d, ed, rfl⟩ := Option.map_eq_some_iff.mp ez
  exact ix_read hK R2.sub (Rp.mono s2.cs _ _ p1) p2 ed fun v' hv => h3.here R2 v' hv
/-- a slot's own list read in place: where it stands -/
theorem look_sl {B : Bd} (R : Rl B σ H C δ) {i : Nat} {x : D} (h : lookSl δ i = some x) : ∃ v, σ[i]? = some (some v) ∧ (Rp B.G C x v ∨ ∃ a xs ds, v = V.ref a ∧ H a = some (.lst xs) ∧ x = .lst ds ∧ Rps B.G C ds xs) := by
  unfold lookSl at h
  split at h
  · rename_i d e
    cases h
    obtain ⟨o, ho, v, rfl, hv⟩ := R.at_ e
    exact ⟨v, ho, .inl hv⟩
  · rename_i ds e
    cases h
    obtain ⟨o, ho, a, xs, rfl, h1, h2, h3, h4⟩ := R.at_ e
    exact ⟨_, ho, .inr ⟨a, xs, ds, rfl, h1, rfl, h4⟩⟩
  · rename_i ds e
    cases h
    obtain ⟨o, ho, a, xs, rfl, h1, h2, h3, h4⟩ := R.at_ e
    exact ⟨_, ho, .inr ⟨a, xs, ds, rfl, h1, rfl, h4⟩⟩
  · cases h
/-- a slot that is read in place keeps its value through an expression -/
theorem s_ixv (hK : X.K = T.B.G.K) {i : Nat} {x : Str} {p : Pos} (hN : X.N[i]? = some x) (hv : Vis X.env.scope x) (hd : (x == ("__debug__" : Str)) = false) (hcd : (x == ("__classdict__" : Str)) = false) (hb : PE X b (tE T fb)) (hs : PlainIx b) :
    PE X (.Subscript (.Name x p) b pos) (tE T fun δ => (optR (lookSl δ i) δ).bind fun _ δ => (fb δ).bind fun y δ => optR ((lookSl δ i).bind fun x => (ixD x y.d).map Rv.fz) δ) := by
  refine QL.PE.imp (pe_ix (ix_list.or ix_tup) (pe_var hN hv hd hcd) hb hs) fun σ H Q h => ?_
  obtain ⟨C, δ, R, h⟩ := h
  dsimp only at h
  cases e0 : lookSl δ i with
  | none => rw [e0] at h; exact h.elim
  | some d0 =>
    rw [e0] at h
    obtain ⟨v, ev, _⟩ := look_sl R e0
    refine ⟨v, ev, ?_⟩
    refine tE.then R h fun y δ2 H2 C2 w R2 s2 p2 h2 => ?_
    obtain ⟨z, ez, h3⟩ := optR_some h2
    obtain ⟨x1, ex, ez⟩ := Option.bind_eq_some_iff.mp ez
    obtain ⟨d, ed, rfl⟩ := Option.map_eq_some_iff.mp ez
    obtain ⟨v2, ev2, q⟩ := look_sl R2 ex
    rw [ev] at ev2
    cases ev2
    rcases q with q | ⟨a, xs, ds, rfl, q1, rfl, q2⟩
    · exact ix_read hK R2.sub q p2 ed fun v' hv => h3.here R2 v' hv
    · cases hy : y.d with
      | int j =>
        rw [hy] at ed p2
        obtain ⟨v', h5, h6⟩ := atI_rps q2 (show atI ds j = some d from ed)
        exact .inl ⟨a, xs, j, v', rfl, Rp.int.mp p2, .of q1, h5, h3.here R2 v' h6⟩
      | _ => rw [hy] at ed; cases ed

/-! ### slices -/
theorem cut_rps {G : Gd} {C : Hp} {ds : List D} {xs : List V} (h : Rps G C ds xs) (lo hi : Option Int) : Rps G C (cutD ds lo hi) (cutV xs lo hi) := by
  unfold cutD cutV
  rw [h.len]
  exact (h.drop _).take _
/-- a part of a slice -/
def tPartQ (T : Tx) (f : Env → Rs (Option Int)) : TO := fun σ H Q => ∃ C δ, Rl T.B σ H C δ ∧ Out T σ H C δ (fun o H' _ _ => Q o H') (f δ)
theorem PO.imp {X : Cx} {o : Option Expr} {t t' : TO} (h : PO X o t) (i : ∀ σ H Q, t' σ H Q → t σ H Q) : PO X o t' := ⟨fun pins s σ H Q I q => h.run pins s σ H Q I (i σ H Q q)⟩
theorem s_pnone : PO X none (tPartQ T fun δ => .ok none δ) := QL.PO.imp po_none fun σ H Q h => by
  obtain ⟨C, δ, R, h⟩ := h
  exact h.here R
theorem s_psome (ha : PE X a (tE T fa)) : PO X (some a) (tPartQ T fun δ => (fa δ).bind intP) := QL.PO.imp (po_some ha) fun σ H Q h => by
  obtain ⟨C, δ, R, h⟩ := h
  refine tE.thenR R h fun r δ1 H1 C1 v R1 s1 hv h1 => ?_
  unfold intP at h1
  split at h1
  · rename_i i
    exact ⟨i, Rp.int.mp (show Rp T.B.G C1 (.int i) v from hv), h1.here R1⟩
  · exact h1.elim
theorem tPartQ.then {β : Type} {S : β → Hp → Hp → Env → Prop} {fo : Env → Rs (Option Int)} {k : Option Int → Env → Rs β} {Q : Option Int → Hp → Prop} (R : Rl T.B σ H C δ) (h : Out T σ H C δ S ((fo δ).bind k))
    (hk : ∀ o δ1 H1 C1, Rl T.B σ H1 C1 δ1 → Stp σ H C δ H1 C1 δ1 → Out T σ H1 C1 δ1 S (k o δ1) → Q o H1) : tPartQ T fo σ H Q := by
  refine ⟨C, δ, R, ?_⟩
  cases e : fo δ with
  | ok r δ1 =>
    rw [e] at h
    intro H1 C1 R1 s1
    exact hk r δ1 H1 C1 R1 s1 (Out.base h s1)
  | er x δ1 => rw [e] at h; exact h
  | no => rw [e] at h; exact h
theorem sl_read (hK : X.K = T.B.G.K) {Hb : Hp} {x : V} {dx : D} {lo hi : Option Int} {z : Rv} {Q : VK} (R : Rl T.B σ H C δ) (al : ∀ a, H a = none → Hb a = none) (px : Rp T.B.G C dx x) (e : slD dx lo hi = some z) (k : ∀ v H' C', Rl T.B σ H' C' δ → Stp σ H C δ H' C' δ → RvR T.B σ Hb H' C' δ z v → Q v H') :
    rSlL X.K x lo hi H Q ∨ rSlA X.K x lo hi H Q := by
  unfold slD at e
  split at e
  · cases e
    obtain ⟨a, xs, rfl, h1, h2⟩ := Rp.lst.mp px
    refine .inl ⟨a, xs, rfl, .of (R.sub _ _ h1), fun p hp => ?_⟩
    obtain ⟨R2, s2, q1, q2, q3⟩ := R.newO (.lst (cutV xs lo hi)) hp
    exact k _ _ _ R2 s2 ⟨p, _, rfl, upd_same, q1, ⟨q2, al _ hp⟩, q3, cut_rps h2 lo hi⟩
  · cases e
    rename_i ds
    obtain ⟨a, xs, rfl, h1, h2⟩ := Rp.tup.mp px
    refine .inr ⟨a, xs, rfl, hK ▸ QL.Same.sqT R.sub h1, fun hw => ?_, fun _ p hp => ?_⟩
    · have e1 : cutV xs lo hi = xs := by
        unfold cutV
        rw [hw.1, hw.2]
        simp
      have e2 := cut_rps h2 lo hi
      rw [e1] at e2
      exact k _ H C R .refl (Rp.tup.mpr ⟨a, xs, rfl, h1, e2⟩ : Rp T.B.G C _ _)
    · obtain ⟨R2, s2⟩ := R.new (.tup (cutV xs lo hi)) hp
      exact k _ _ _ R2 s2 (Rp.tup.mpr ⟨p, _, rfl, .of upd_same, Rps.mono s2.cs _ _ (cut_rps h2 lo hi)⟩)
  · cases e
    obtain ⟨a, xs, rfl, h1, h2⟩ := Rp.rol.mp px
    refine .inl ⟨a, xs, rfl, hK ▸ QL.Same.sqL R.sub h1, fun p hp => ?_⟩
    obtain ⟨R2, s2, q1, q2, q3⟩ := R.newO (.lst (cutV xs lo hi)) hp
    exact k _ _ _ R2 s2 ⟨p, _, rfl, upd_same, q1, ⟨q2, al _ hp⟩, q3, cut_rps h2 lo hi⟩
  · cases e
theorem s_sl (hK : X.K = T.B.G.K) {lo hi : Option Expr} {p2 : Pos} {fl fh : Env → Rs (Option Int)} (ha : PE X a (tE T fa)) (hl : PO X lo (tPartQ T fl)) (hh : PO X hi (tPartQ T fh)) :
    PE X (.Subscript a (.Slice lo hi none p2) pos) (tE T fun δ => (fa δ).bind fun x δ => (fl δ).bind fun l δ => (fh δ).bind fun h δ => optR (slD x.d l h) δ) := by
  refine QL.PE.imp (pe_slice (sl_list.or sl_tupA) ha hl hh) fun σ H Q h => ?_
  obtain ⟨C, δ, R, h⟩ := h
  refine tE.then R h fun x δ1 H1 C1 v R1 s1 p1 h1 => ?_
  refine tPartQ.then R1 h1 fun l δ2 H2 C2 R2 s2 h2 => ?_
  refine tPartQ.then R2 h2 fun u δ3 H3 C3 R3 s3 h3 => ?_
  obtain ⟨z, ez, h4⟩ := optR_some h3
  exact sl_read hK R3 (fun a h => s1.al a (s2.al a (s3.al a h))) (Rp.mono s3.cs _ _ (Rp.mono s2.cs _ _ p1)) ez fun v' H' C' R' s' hv => h4 H' C' R' s' v' hv

/-! ### built-ins on data -/
/-- a call of a built-in that is right on data -/
def CaD (T : Tx) (X : Cx) (g : Value) (f : List D → Option Rv) : Prop := ∃ r : List V → Hp → VK → Prop, CallR X g r ∧ ∀ (σ : L2.St) (H C : Hp) (δ : Env) (vs : List V) (ds : List D) (z : Rv) (Q : VK), Rl T.B σ H C δ → Rps T.B.G C ds vs → f ds = some z →
  (∀ v H' C', Rl T.B σ H' C' δ → Stp σ H C δ H' C' δ → RvR T.B σ H H' C' δ z v → Q v H') → r vs H Q
abbrev fBi (f : List D → Option Rv) (fs : Env → Rs (List D)) : Env → Rs Rv := fun δ => (fs δ).bind fun xs δ => optR (f xs) δ
theorem ca_read {f : List D → Option Rv} {r : List V → Hp → VK → Prop} (hf : ∀ (σ : L2.St) (H C : Hp) (δ : Env) (vs : List V) (ds : List D) (z : Rv) (Q : VK), Rl T.B σ H C δ → Rps T.B.G C ds vs → f ds = some z →
  (∀ v H' C', Rl T.B σ H' C' δ → Stp σ H C δ H' C' δ → RvR T.B σ H H' C' δ z v → Q v H') → r vs H Q) {Q : VK} (h : tE T (fBi f fs) σ H Q) : tCB r (tAs T fs) σ H Q := by
  obtain ⟨C, δ, R, h⟩ := h
  refine tAs.then R h fun ds δ1 H1 C1 vs R1 s1 p1 h1 => ?_
  obtain ⟨z, ez, h2⟩ := optR_some h1
  exact hf σ H1 C1 δ1 vs ds z Q R1 p1 ez fun v H' C' R' s' hv => h2 H' C' R' s' v (RvR.back s1.al hv)
variable {x : Str} {p : Pos} {id : String}
theorem s_biB {f : List D → Option Rv} (hc : CaD T X (.builtin id) f) (hg : Gl X x) (hm : X.mg x = none) (hv : bootBuiltins x = some (.builtin id)) (ha : PA X (e :: es) (tAs T fs)) (hn : x ≠ "__name__") (hdb : (x == ("__debug__" : Str)) = false)
    (he : starEach (e :: es) X.env = (false, eval e X.env) :: starEach es X.env) (hpl : (backTo pos (starEach es X.env)).any (·.1) = false) : PE X (.Call (.Name x p) (e :: es) [] pos) (tE T (fBi f fs)) := by
  obtain ⟨r, hr, hf⟩ := hc
  exact QL.PE.imp (pe_callB hr hg hm hv ha hn hdb he hpl) fun σ H Q h => ca_read hf h
theorem s_biT {f : List D → Option Rv} (hc : CaD T X (.type id) f) (hg : Gl X x) (hm : X.mg x = none) (hv : bootBuiltins x = some (.type id)) (ha : PA X (e :: es) (tAs T fs)) (hn : x ≠ "__name__") (hdb : (x == ("__debug__" : Str)) = false)
    (he : starEach (e :: es) X.env = (false, eval e X.env) :: starEach es X.env) (hpl : (backTo pos (starEach es X.env)).any (·.1) = false) : PE X (.Call (.Name x p) (e :: es) [] pos) (tE T (fBi f fs)) := by
  obtain ⟨r, hr, hf⟩ := hc
  exact QL.PE.imp (pe_callTy hr hg hm hv ha hn hdb he hpl) fun σ H Q h => ca_read hf h
end
end QL

end
section
set_option Elab.async false
set_option linter.all false
/-! Q5: the built-ins on data. -/
namespace QL
open PySem PySem.Spec PyProof.Rows L2

section
variable {T : Tx} {X : Cx} {σ : L2.St} {H C : Hp} {δ : Env} {pos : Pos} {a b c d e : Expr} {es : List Expr} {fa fb fc fd : Env → Rs Rv} {fs : Env → Rs (List D)}

theorem rps1 {G : Gd} {d : D} {vs : List V} (h : Rps G C [d] vs) : ∃ v, vs = [v] ∧ Rp G C d v := by
  obtain ⟨x, r, rfl, h1, h2⟩ := Rps.cons.mp h
  rw [Rps.nil.mp h2]
  exact ⟨x, rfl, h1⟩
theorem rps2 {G : Gd} {d d' : D} {vs : List V} (h : Rps G C [d, d'] vs) : ∃ v w, vs = [v, w] ∧ Rp G C d v ∧ Rp G C d' w := by
  obtain ⟨x, r, rfl, h1, h2⟩ := Rps.cons.mp h
  obtain ⟨w, rfl, h3⟩ := rps1 h2
  exact ⟨x, w, rfl, h1, h3⟩
theorem ints_rps {G : Gd} : ∀ {ds : List D} {xs : List V} {l : List Int}, intsOf ds = some l → Rps G C ds xs → xs = l.map V.int
  | [], xs, l, e, h => by
    cases e
    exact Rps.nil.mp h
  | d :: ds, xs, l, e, h => by
    obtain ⟨x, r, rfl, h1, h2⟩ := Rps.cons.mp h
    cases d <;> first | (cases e; done) | skip
    rename_i i
    have e : (intsOf ds).map (i :: ·) = some l := e
    obtain ⟨l', e1, rfl⟩ := Option.map_eq_some_iff.mp e
    rw [ints_rps e1 h2, Rp.int.mp h1]
    rfl
theorem bools_rps {G : Gd} : ∀ {ds : List D} {xs : List V} {l : List Bool}, boolsOf ds = some l → Rps G C ds xs → xs = l.map V.bl
  | [], xs, l, e, h => by
    cases e
    exact Rps.nil.mp h
  | d :: ds, xs, l, e, h => by
    obtain ⟨x, r, rfl, h1, h2⟩ := Rps.cons.mp h
    cases d <;> first | (cases e; done) | skip
    rename_i i
    have e : (boolsOf ds).map (i :: ·) = some l := e
    obtain ⟨l', e1, rfl⟩ := Option.map_eq_some_iff.mp e
    rw [bools_rps e1 h2, Rp.bl.mp h1]
    rfl
theorem rps_ints {G : Gd} : ∀ (l : List Int), Rps G C (l.map D.int) (l.map V.int)
  | [] => Rps.nil.mpr rfl
  | i :: l => Rps.cons.mpr ⟨_, _, rfl, Rp.int.mpr rfl, rps_ints l⟩

/-! ### sorting of whole numbers -/
theorem insI_perm (x : Int) : ∀ l : List Int, (insI x l).Perm (x :: l)
  | [] => List.Perm.refl _
  | y :: ys => by
    unfold insI
    split
    · exact List.Perm.refl _
    · exact ((insI_perm x ys).cons y).trans (List.Perm.swap x y ys)
theorem sortI_perm : ∀ l : List Int, (sortI l).Perm l
  | [] => List.Perm.refl _
  | x :: xs => (insI_perm x (sortI xs)).trans ((sortI_perm xs).cons x)
theorem insI_sorted (x : Int) : ∀ l : List Int, l.Pairwise (· ≤ ·) → (insI x l).Pairwise (· ≤ ·)
  | [], _ => List.pairwise_singleton _ _
  | y :: ys, h => by
    unfold insI
    split
    · rename_i hxy
      refine List.pairwise_cons.mpr ⟨fun z hz => ?_, h⟩
      rcases List.mem_cons.mp hz with rfl | hz
      · exact hxy
      · exact Int.le_trans hxy ((List.pairwise_cons.mp h).1 z hz)
    · rename_i hxy
      have h2 := List.pairwise_cons.mp h
      refine List.pairwise_cons.mpr ⟨fun z hz => ?_, insI_sorted x ys h2.2⟩
      rcases List.mem_cons.mp ((insI_perm x ys).mem_iff.mp hz) with rfl | hz
      · omega
      · exact h2.1 z hz
theorem sortI_sorted : ∀ l : List Int, (sortI l).Pairwise (· ≤ ·)
  | [] => List.Pairwise.nil
  | x :: xs => insI_sorted x _ (sortI_sorted xs)
theorem sorted_one : ∀ {l m : List Int}, l.Perm m → l.Pairwise (· ≤ ·) → m.Pairwise (· ≤ ·) → l = m
  | [], m, p, _, _ => (List.Perm.nil_eq p)
  | x :: l, [], p, _, _ => by
    have := p.length_eq
    cases this
  | x :: l, y :: m, p, hl, hm => by
    have h1 := List.pairwise_cons.mp hl
    have h2 := List.pairwise_cons.mp hm
    have e : x = y := by
      have hx : x ∈ y :: m := p.mem_iff.mp List.mem_cons_self
      have hy : y ∈ x :: l := p.mem_iff.mpr List.mem_cons_self
      rcases List.mem_cons.mp hx with e | hx
      · exact e
      · rcases List.mem_cons.mp hy with e | hy
        · exact e.symm
        · exact Int.le_antisymm (h1.1 y hy) (h2.1 x hx)
    subst e
    rw [sorted_one (List.Perm.cons_inv p) h1.2 h2.2]

/-! ### rules -/
theorem lst_new {B : Bd} {Hb : Hp} (R : Rl B σ H C δ) (al : ∀ a, H a = none → Hb a = none) {p : Addr} (hp : H p = none) {ds : List D} {xs : List V} (h : Rps B.G C ds xs) :
    Rl B σ (upd H p (.lst xs)) C δ ∧ Stp σ H C δ (upd H p (.lst xs)) C δ ∧ RvR B σ Hb (upd H p (.lst xs)) C δ (.lv ds) (.ref p) := by
  obtain ⟨R2, s2, q1, q2, q3⟩ := R.newO (.lst xs) hp
  exact ⟨R2, s2, p, xs, rfl, upd_same, q1, ⟨q2, al _ hp⟩, q3, h⟩
theorem tup_new {B : Bd} {Hb : Hp} (R : Rl B σ H C δ) {p : Addr} (hp : H p = none) {ds : List D} {xs : List V} (h : Rps B.G C ds xs) :
    Rl B σ (upd H p (.tup xs)) (upd C p (.tup xs)) δ ∧ Stp σ H C δ (upd H p (.tup xs)) (upd C p (.tup xs)) δ ∧ RvR B σ Hb (upd H p (.tup xs)) (upd C p (.tup xs)) δ (.fz (.tup ds)) (.ref p) := by
  obtain ⟨R2, s2⟩ := R.new (.tup xs) hp
  exact ⟨R2, s2, Rp.tup.mpr ⟨p, xs, rfl, .of upd_same, Rps.mono s2.cs _ _ h⟩⟩
theorem cd_len (hK : X.K = T.B.G.K) : CaD T X (.builtin "len") (biD .len) := ⟨_, call_len_seq, fun σ H C δ vs ds z Q R hr e k => by
  unfold biD at e
  split at e <;> first | (cases e; done) | skip
  · cases e
    obtain ⟨v, rfl, h1⟩ := rps1 hr
    obtain ⟨a, xs, rfl, h2, h3⟩ := Rp.lst.mp h1
    refine ⟨a, xs, rfl, .inl (.of (R.sub _ _ h2)), ?_⟩
    rw [← h3.len]
    exact k _ H C R .refl (Rp.int.mpr rfl : Rp T.B.G C _ _)
  · cases e
    obtain ⟨v, rfl, h1⟩ := rps1 hr
    obtain ⟨a, xs, rfl, h2, h3⟩ := Rp.tup.mp h1
    refine ⟨a, xs, rfl, .inr (hK ▸ QL.Same.sqT R.sub h2), ?_⟩
    rw [← h3.len]
    exact k _ H C R .refl (Rp.int.mpr rfl : Rp T.B.G C _ _)
  all_goals contradiction⟩
theorem cd_max (hc : X.calm = true) : CaD T X (.builtin "max") (biD .max2) := ⟨_, call_max2 hc, fun σ H C δ vs ds z Q R hr e k => by
  unfold biD at e
  split at e <;> first | (cases e; done) | contradiction | skip
  cases e
  obtain ⟨v, w, rfl, h1, h2⟩ := rps2 hr
  rw [Rp.int.mp h1, Rp.int.mp h2]
  exact ⟨_, _, rfl, k _ H C R .refl (Rp.int.mpr rfl : Rp T.B.G C _ _)⟩⟩
theorem cd_min (hc : X.calm = true) : CaD T X (.builtin "min") (biD .min2) := ⟨_, call_min2 hc, fun σ H C δ vs ds z Q R hr e k => by
  unfold biD at e
  split at e <;> first | (cases e; done) | contradiction | skip
  cases e
  obtain ⟨v, w, rfl, h1, h2⟩ := rps2 hr
  rw [Rp.int.mp h1, Rp.int.mp h2]
  exact ⟨_, _, rfl, k _ H C R .refl (Rp.int.mpr rfl : Rp T.B.G C _ _)⟩⟩
theorem cd_abs : CaD T X (.builtin "abs") (biD .abs) := ⟨_, call_abs, fun σ H C δ vs ds z Q R hr e k => by
  unfold biD at e
  split at e <;> first | (cases e; done) | contradiction | skip
  cases e
  obtain ⟨v, rfl, h1⟩ := rps1 hr
  rw [Rp.int.mp h1]
  exact ⟨_, rfl, k _ H C R .refl (Rp.int.mpr rfl : Rp T.B.G C _ _)⟩⟩
theorem cd_int : CaD T X (.type "int") (biD .int1) := ⟨_, call_int1, fun σ H C δ vs ds z Q R hr e k => by
  unfold biD at e
  split at e <;> first | (cases e; done) | contradiction | skip
  · cases e
    obtain ⟨v, rfl, h1⟩ := rps1 hr
    rw [Rp.int.mp h1]
    exact .inl ⟨_, rfl, k _ H C R .refl (Rp.int.mpr rfl : Rp T.B.G C _ _)⟩
  · cases e
    obtain ⟨v, rfl, h1⟩ := rps1 hr
    rw [Rp.bl.mp h1]
    exact .inr ⟨_, rfl, k _ H C R .refl (Rp.int.mpr rfl : Rp T.B.G C _ _)⟩⟩
theorem cd_tuple (hK : X.K = T.B.G.K) : CaD T X (.type "tuple") (biD .tuple) := ⟨_, call_tuple_of, fun σ H C δ vs ds z Q R hr e k => by
  unfold biD at e
  split at e <;> first | (cases e; done) | contradiction | skip
  · cases e
    obtain ⟨v, rfl, h1⟩ := rps1 hr
    obtain ⟨a, xs, rfl, h2, h3⟩ := Rp.lst.mp h1
    refine ⟨a, xs, rfl, .inl ⟨.of (R.sub _ _ h2), fun p hp => ?_⟩⟩
    obtain ⟨R2, s2, q⟩ := tup_new (Hb := H) R hp h3
    exact k _ _ _ R2 s2 q
  · cases e
    obtain ⟨v, rfl, h1⟩ := rps1 hr
    obtain ⟨a, xs, rfl, h2, h3⟩ := Rp.tup.mp h1
    exact ⟨a, xs, rfl, .inr ⟨hK ▸ QL.Same.sqT R.sub h2, k _ H C R .refl h1⟩⟩⟩
theorem cd_list (hK : X.K = T.B.G.K) : CaD T X (.type "list") (biD .list) := ⟨_, call_list_of, fun σ H C δ vs ds z Q R hr e k => by
  unfold biD at e
  split at e <;> first | (cases e; done) | contradiction | skip
  · cases e
    obtain ⟨v, rfl, h1⟩ := rps1 hr
    obtain ⟨a, xs, rfl, h2, h3⟩ := Rp.lst.mp h1
    refine ⟨a, xs, rfl, .inl (.of (R.sub _ _ h2)), fun p hp => ?_⟩
    obtain ⟨R2, s2, q⟩ := lst_new R (fun _ h => h) hp h3
    exact k _ _ _ R2 s2 q
  · cases e
    obtain ⟨v, rfl, h1⟩ := rps1 hr
    obtain ⟨a, xs, rfl, h2, h3⟩ := Rp.tup.mp h1
    refine ⟨a, xs, rfl, .inr (hK ▸ QL.Same.sqT R.sub h2), fun p hp => ?_⟩
    obtain ⟨R2, s2, q⟩ := lst_new R (fun _ h => h) hp h3
    exact k _ _ _ R2 s2 q⟩
theorem cd_sorted : CaD T X (.builtin "sorted") (biD .sorted) := ⟨_, cr_sorted, fun σ H C δ vs ds z Q R hr e k => by
  unfold biD at e
  split at e <;> first | (cases e; done) | contradiction | skip
  · rename_i l _
    have e : ((intsOf l).bind fun l => if l.length < 64 then some (.lv ((sortI l).map D.int)) else none) = some z := e
    obtain ⟨ns, e1, e2⟩ := Option.bind_eq_some_iff.mp e
    split at e2
    · rename_i hl
      cases e2
      obtain ⟨v, rfl, h1⟩ := rps1 hr
      obtain ⟨a, xs, rfl, h2, h3⟩ := Rp.lst.mp h1
      have ex := ints_rps e1 h3
      subst ex
      refine ⟨a, ns, rfl, .of (R.sub _ _ h2), hl, fun ns' p hperm hs hp => ?_⟩
      have e3 : ns' = sortI ns := sorted_one (hperm.trans (sortI_perm ns).symm) hs (sortI_sorted ns)
      subst e3
      obtain ⟨R2, s2, q⟩ := lst_new R (fun _ h => h) hp (rps_ints (C := C) (sortI ns))
      exact k _ _ _ R2 s2 q
    · cases e2⟩
theorem cd_all (hc : X.calm = true) : CaD T X (.builtin "all") (biD .all) := ⟨_, cr_all hc, fun σ H C δ vs ds z Q R hr e k => by
  unfold biD at e
  split at e <;> first | (cases e; done) | contradiction | skip
  rename_i l _
  obtain ⟨bs, e1, rfl⟩ := Option.map_eq_some_iff.mp e
  obtain ⟨v, rfl, h1⟩ := rps1 hr
  obtain ⟨a, xs, rfl, h2, h3⟩ := Rp.lst.mp h1
  have ex := bools_rps e1 h3
  subst ex
  exact ⟨a, bs, rfl, .of (R.sub _ _ h2), k _ H C R .refl (Rp.bl.mpr rfl : Rp T.B.G C _ _)⟩⟩
theorem cd_any (hc : X.calm = true) : CaD T X (.builtin "any") (biD .any) := ⟨_, cr_any hc, fun σ H C δ vs ds z Q R hr e k => by
  unfold biD at e
  split at e <;> first | (cases e; done) | contradiction | skip
  rename_i l _
  obtain ⟨bs, e1, rfl⟩ := Option.map_eq_some_iff.mp e
  obtain ⟨v, rfl, h1⟩ := rps1 hr
  obtain ⟨a, xs, rfl, h2, h3⟩ := Rp.lst.mp h1
  have ex := bools_rps e1 h3
  subst ex
  exact ⟨a, bs, rfl, .of (R.sub _ _ h2), k _ H C R .refl (Rp.bl.mpr rfl : Rp T.B.G C _ _)⟩⟩
theorem cd_sum (hc : X.calm = true) : CaD T X (.builtin "sum") (biD .sum) := ⟨_, cr_sum hc, fun σ H C δ vs ds z Q R hr e k => by
  unfold biD at e
  split at e <;> first | (cases e; done) | contradiction | skip
  rename_i l _
  obtain ⟨bs, e1, rfl⟩ := Option.map_eq_some_iff.mp e
  obtain ⟨v, rfl, h1⟩ := rps1 hr
  obtain ⟨a, xs, rfl, h2, h3⟩ := Rp.lst.mp h1
  have ex := ints_rps e1 h3
  subst ex
  exact ⟨a, bs, rfl, .of (R.sub _ _ h2), k _ H C R .refl (Rp.int.mpr rfl : Rp T.B.G C _ _)⟩⟩
end
end QL

end
section
set_option Elab.async false
set_option linter.all false
/-! Q6: isinstance; own lists read in place; own things in slots changed. -/
namespace QL
open PySem PySem.Spec PyProof.Rows L2

def tyN : Ty → String
  | .int => "int"
  | .bool => "bool"
  | .str => "str"
  | .tuple => "tuple"
  | .list => "list"
def tyS : D → String
  | .non => "NoneType"
  | .bl _ => "bool"
  | .int _ => "int"
  | .str _ => "str"
  | .tup _ => "tuple"
  | .lst _ => "list"
  | _ => "object"
section
variable {T : Tx} {X : Cx} {σ : L2.St} {H C : Hp} {δ : Env} {pos : Pos} {a b c d e : Expr} {es : List Expr} {fa fb fc fd : Env → Rs Rv} {fs : Env → Rs (List D)}
theorem kit_is {K : PySem.W.Frag} {d : D} {t : Ty} {b : Bool} (h : isTy d t = some b) : PySem.W.kitOne K (.type (tyS d)) (.type (tyN t)) = some b := by
  cases d <;> cases t <;> first
    | (cases h; done)
    | (cases h; exact kit_ty (by dsimp only [tyS, tyN]; decide +kernel))
theorem kits_is {K : PySem.W.Frag} {d : D} : ∀ {ts : List Ty} {b : Bool}, isTys d ts = some b → PySem.W.kitAny K (.type (tyS d)) (ts.map fun t => .type (tyN t)) = some b
  | [], b, h => by
    cases h
    rfl
  | t :: ts, b, h => by
    obtain ⟨b1, h1, h2⟩ := Option.bind_eq_some_iff.mp (show ((isTy d t).bind fun b => (isTys d ts).map fun c => b || c) = some b from h)
    obtain ⟨c, h3, rfl⟩ := Option.map_eq_some_iff.mp h2
    refine kitAny_cons (kit_is h1) (fun e => ?_) (fun e => ?_)
    · subst e
      exact kits_is h3
    · subst e
      rfl
theorem tyx_sq {K : PySem.W.Frag} {p : Addr} {xs : List V} (h : SqT K H p xs) : TyX K H (.ref p) (.type "tuple") := by
  rcases h with (h | ⟨o, h⟩) | ⟨o, its, n, h, hc, _⟩
  · exact .base (.tup h)
  · exact .fTuple h
  · exact .kTuple h hc
theorem tyx_of {G : Gd} {d : D} {v : V} {t : Ty} {b : Bool} (sub : Same C H) (r : Rp G C d v) (h : isTy d t = some b) : TyX G.K H v (.type (tyS d)) := by
  cases d with
  | non => rw [Rp.non.mp r]; exact .base .non
  | bl b => rw [Rp.bl.mp r]; exact .base (.bl b)
  | int b => rw [Rp.int.mp r]; exact .base (.int b)
  | str b => rw [Rp.str.mp r]; exact .base (.str b)
  | tup ds => obtain ⟨p, xs, rfl, h1, _⟩ := Rp.tup.mp r; exact tyx_sq (QL.Same.sqT sub h1)
  | lst ds => obtain ⟨p, xs, rfl, h1, _⟩ := Rp.lst.mp r; exact .base (.lst (sub _ _ h1))
  | rol ds => cases t <;> cases h
  | ob c fs ds => cases t <;> cases h
  | dic ks ds => cases t <;> cases h
abbrev fIsi (ts : List Ty) (fa : Env → Rs Rv) : Env → Rs Rv := fun δ => (fa δ).bind fun x δ => optR ((isTys x.d ts).map fun b => .fz (.bl b)) δ
variable {p p2 : Pos}
/-- a built-in class as a value -/
theorem s_ty {x : Str} {n : String} (hg : Gl X x) (hm : X.mg x = none) (hv : bootBuiltins x = some (.type n)) (hn : x ≠ "__name__") (hd : (x == ("__debug__" : Str)) = false) : PE X (.Name x pos) (tC (.ty n)) := pe_bltn hg hm hv rfl hn hd
theorem s_isi1 (hK : X.K = T.B.G.K) {t : Ty} (hg : Gl X "isinstance") (hm : X.mg "isinstance" = none) (ha : PE X a (tE T fa)) (hb : PE X b (tC (.ty (tyN t)))) (h1 : starEach [a, b] X.env = (false, eval a X.env) :: starEach [b] X.env) (h2 : starEach [b] X.env = (false, eval b X.env) :: starEach [] X.env) :
    PE X (.Call (.Name "isinstance" p) [a, b] [] pos) (tE T (fIsi [t] fa)) := by
  have hpl : (backTo pos (starEach [b] X.env)).any (·.1) = false := by rw [h2]; rfl
  refine QL.PE.imp (pe_callB call_isi hg hm (by decide +kernel) (pa_cons ha (pa_cons hb pa_nil h2) h1) (by decide) (by decide) h1 hpl) fun σ H Q h => ?_
  obtain ⟨C, δ, R, h⟩ := h
  refine tE.then R h fun x δ1 H1 C1 v R1 s1 p1 h1 => ?_
  obtain ⟨z, ez, h2⟩ := optR_some h1
  obtain ⟨b, eb, rfl⟩ := Option.map_eq_some_iff.mp ez
  have eb' : isTy x.d t = some b := by
    have eb2 : ((isTy x.d t).bind fun b => (some false).map fun c => b || c) = some b := eb
    obtain ⟨b1, h3, h4⟩ := Option.bind_eq_some_iff.mp eb2
    rw [h3]
    simpa using h4
  refine ⟨v, .ty (tyN t), _, _, b, rfl, .ty _, hK ▸ tyx_of R1.sub p1 eb', kit_is eb', ?_⟩
  exact h2.here R1 _ (Rp.bl.mpr rfl : Rp T.B.G C1 _ _)
theorem tys_row {ts : List Ty} : ∀ {bs : List Expr} {ns : List V}, PA X bs (fun _ H Q => Q ns H) → ns = ts.map (fun t => V.ty (tyN t)) → PA X bs (fun _ H Q => Q (ts.map fun t => V.ty (tyN t)) H) := fun h e => by
  subst e
  exact h
theorem isTys_ty {d : D} {t : Ty} {ts : List Ty} {b : Bool} (h : isTys d (t :: ts) = some b) : ∃ b', isTy d t = some b' := by
  obtain ⟨b1, h1, _⟩ := Option.bind_eq_some_iff.mp (show ((isTy d t).bind fun b => (isTys d ts).map fun c => b || c) = some b from h)
  exact ⟨b1, h1⟩
theorem clsv_all (ts : List Ty) : Paired ClsV (ts.map fun t => V.ty (tyN t)) (ts.map fun t => Value.type (tyN t)) := by
  induction ts with
  | nil => exact .nil
  | cons t ts ih => exact .cons (.ty _) ih
theorem s_isiT (hK : X.K = T.B.G.K) {t : Ty} {ts : List Ty} {k : Nat} {bs : List Expr} (hl : (t :: ts).length ≤ 100) (hg : Gl X "isinstance") (hm : X.mg "isinstance" = none) (ha : PE X a (tE T fa)) (hb : PA X bs (fun _ H Q => Q ((t :: ts).map fun t => V.ty (tyN t)) H))
    (h1 : starEach [a, .Tuple bs k p2] X.env = (false, eval a X.env) :: starEach [.Tuple bs k p2] X.env) :
    PE X (.Call (.Name "isinstance" p) [a, .Tuple bs k p2] [] pos) (tE T (fIsi (t :: ts) fa)) := by
  have h2 : starEach [.Tuple bs k p2] X.env = (false, eval (.Tuple bs k p2) X.env) :: starEach [] X.env := rfl
  have hpl : (backTo pos (starEach [.Tuple bs k p2] X.env)).any (·.1) = false := rfl
  refine QL.PE.imp (pe_callB call_isiT hg hm (by decide +kernel) (pa_cons ha (pa_cons (pe_tup hb) pa_nil h2) h1) (by decide) (by decide) h1 hpl) fun σ H Q h => ?_
  obtain ⟨C, δ, R, h⟩ := h
  refine tE.then R h fun x δ1 H1 C1 v R1 s1 p1 h1 => ?_
  obtain ⟨z, ez, h2⟩ := optR_some h1
  obtain ⟨b, eb, rfl⟩ := Option.map_eq_some_iff.mp ez
  obtain ⟨b', eb'⟩ := isTys_ty eb
  refine ⟨by rw [List.length_map]; exact Nat.le_trans hl (by decide), fun q hq => ?_⟩
  obtain ⟨R2, s2, q1, q2, q3⟩ := R1.newO (.tup ((t :: ts).map fun t => V.ty (tyN t))) hq
  refine ⟨v, q, _, _, _, b, rfl, upd_same, clsv_all (t :: ts), hK ▸ tyx_of R2.sub (Rp.mono s2.cs _ _ p1) eb', kits_is eb, ?_⟩
  exact h2 _ _ R2 s2 _ (Rp.bl.mpr rfl : Rp T.B.G C1 _ _)

/-! ### own lists read in place -/
variable {i : Nat} {x : Str}
theorem s_lenv (hK : X.K = T.B.G.K) (hg : Gl X "len") (hm : X.mg "len" = none) (hN : X.N[i]? = some x) (hv : Vis X.env.scope x) (hd : (x == ("__debug__" : Str)) = false) (hcd : (x == ("__classdict__" : Str)) = false) :
    PE X (.Call (.Name "len" p) [.Name x p2] [] pos) (tE T fun δ => optR ((lookSl δ i).bind fun x => biD .len [x]) δ) := by
  refine QL.PE.imp (pe_callB call_len_seq hg hm PySem.boot_len (pa_cons (pe_var hN hv hd hcd) pa_nil rfl) (by decide) (by decide) rfl rfl) fun σ H Q h => ?_
  obtain ⟨C, δ, R, h⟩ := h
  obtain ⟨z, ez, h2⟩ := optR_some h
  obtain ⟨d, ed, ez⟩ := Option.bind_eq_some_iff.mp ez
  obtain ⟨v, ev, q⟩ := look_sl R ed
  refine ⟨v, ev, ?_⟩
  rcases q with q | ⟨a, xs, ds, rfl, q1, rfl, q2⟩
  · cases d <;> first | (cases ez; done) | skip
    · cases ez
      obtain ⟨a, xs, rfl, h3, h4⟩ := Rp.tup.mp q
      refine ⟨a, xs, rfl, .inr (hK ▸ QL.Same.sqT R.sub h3), ?_⟩
      rw [← h4.len]
      exact h2.here R _ (Rp.int.mpr rfl : Rp T.B.G C _ _)
    · cases ez
      obtain ⟨a, xs, rfl, h3, h4⟩ := Rp.lst.mp q
      refine ⟨a, xs, rfl, .inl (.of (R.sub _ _ h3)), ?_⟩
      rw [← h4.len]
      exact h2.here R _ (Rp.int.mpr rfl : Rp T.B.G C _ _)
  · cases ez
    refine ⟨a, xs, rfl, .inl (.of q1), ?_⟩
    rw [← q2.len]
    exact h2.here R _ (Rp.int.mpr rfl : Rp T.B.G C _ _)
theorem in_read0 (n : Bool) (hK : X.K = T.B.G.K) {x y : V} {dx dy : D} {c : Bool} {Q : VK} (sub : Same C H) (px : Rp T.B.G C dx x) (py : Rp T.B.G C dy y) (e1 : inSD n dx dy = some c) (k : Q (.bl c) H) : rIn X.K n x y H Q := by
  obtain ⟨ds, hy, h1, h2, rfl⟩ := inSD_some e1
  have fin : ∀ {p : Addr} {xs : List V}, y = .ref p → (SqL X.K H p xs ∨ SqT X.K H p xs) → Rps T.B.G C ds xs → rIn X.K n x y H Q := fun {p xs} ey hs hr => by
    obtain ⟨q1, q2⟩ := flats_of h1 px h2 hr
    refine ⟨p, xs, ey, hs, flat_of h1 px, q1, ?_⟩
    rw [q2]
    exact k
  rcases hy with rfl | rfl
  · obtain ⟨p, xs, rfl, q1, q2⟩ := Rp.lst.mp py
    exact fin rfl (.inl (.of (sub _ _ q1))) q2
  · obtain ⟨p, xs, rfl, q1, q2⟩ := Rp.tup.mp py
    exact fin rfl (.inr (hK ▸ QL.Same.sqT sub q1)) q2
theorem inv_read (hK : X.K = T.B.G.K) {n : Bool} {v w : V} {dx d : D} {c : Bool} {Q : VK} (R : Rl T.B σ H C δ) (px : Rp T.B.G C dx v) (ew : σ[i]? = some (some w)) (ed : lookSl δ i = some d) (ec : inSD n dx d = some c) (q : Q (.bl c) H) : rIn X.K n v w H Q := by
  obtain ⟨v2, ev2, l⟩ := look_sl R ed
  rw [ew] at ev2
  cases ev2
  rcases l with l | ⟨a, xs, ds, rfl, q1, rfl, q2⟩
  · exact in_read0 n hK R.sub px l ec q
  · obtain ⟨ds', hy, h1, h2, rfl⟩ := inSD_some ec
    rcases hy with hy | hy
    · cases hy
      obtain ⟨f1, f2⟩ := flats_of h1 px h2 q2
      refine ⟨a, xs, rfl, .inl (.of q1), flat_of h1 px, f1, ?_⟩
      rw [f2]
      exact q
    · cases hy
def inOp (n : Bool) : CmpOp := if n then .NotIn else .In
theorem inOp_ok (n : Bool) : OpR X (compareOp (inOp n)) (rIn X.K n) := by
  cases n
  · exact op_in_seq
  · exact op_notIn_seq
abbrev fInv (n : Bool) (fa : Env → Rs Rv) (i : Nat) : Env → Rs Rv := fun δ => (fa δ).bind fun x δ => optR ((lookSl δ i).bind fun y => (cmpD (if n then .nin else .isin) x.d y).map fun c => .fz (.bl c)) δ
theorem inv_cmp {n : Bool} {dx d : D} {c : Bool} (h : cmpD (if n then .nin else .isin) dx d = some c) : inSD n dx d = some c := by cases n <;> exact h
/-- x in, not in a slot's list -/
theorem s_inv (hK : X.K = T.B.G.K) {n : Bool} (ha : PE X a (tE T fa)) (hN : X.N[i]? = some x) (hv : Vis X.env.scope x) (hd : (x == ("__debug__" : Str)) = false) (hcd : (x == ("__classdict__" : Str)) = false) :
    PE X (.Compare a [inOp n] [.Name x p2] pos) (tE T (fInv n fa i)) := by
  refine QL.PE.imp (pe_cmpR (inOp_ok n) ha (pe_var hN hv hd hcd) rfl) fun σ H Q h => ?_
  obtain ⟨C, δ, R, h⟩ := h
  refine tE.then R h fun y δ1 H1 C1 v R1 s1 p1 h1 => ?_
  obtain ⟨z, ez, h2⟩ := optR_some h1
  obtain ⟨d, ed, ez⟩ := Option.bind_eq_some_iff.mp ez
  obtain ⟨c, ec, rfl⟩ := Option.map_eq_some_iff.mp ez
  obtain ⟨w, ew, _⟩ := look_sl R1 ed
  exact ⟨w, ew, inv_read hK R1 p1 ew ed (inv_cmp ec) (h2.here R1 _ (Rp.bl.mpr rfl : Rp T.B.G C1 _ _))⟩
theorem s_tinv (hK : X.K = T.B.G.K) {n : Bool} (ha : PE X a (tE T fa)) (hN : X.N[i]? = some x) (hv : Vis X.env.scope x) (hd : (x == ("__debug__" : Str)) = false) (hcd : (x == ("__classdict__" : Str)) = false) :
    PT X (.Compare a [inOp n] [.Name x p2] pos) (tT T (fInv n fa i)) := by
  refine QL.PT.imp (pt_cmpR (inOp_ok n) ha (pe_var hN hv hd hcd) rfl) fun σ H Q h => ?_
  obtain ⟨C, δ, R, h⟩ := h
  refine tE.then R h fun y δ1 H1 C1 v R1 s1 p1 h1 => ?_
  obtain ⟨z, ez, h2⟩ := optR_some h1
  obtain ⟨d, ed, ez⟩ := Option.bind_eq_some_iff.mp ez
  obtain ⟨c, ec, rfl⟩ := Option.map_eq_some_iff.mp ez
  obtain ⟨w, ew, _⟩ := look_sl R1 ed
  exact ⟨w, ew, inv_read hK R1 p1 ew ed (inv_cmp ec) ⟨_, rfl, h2.here R1⟩⟩
theorem s_neg (ha : PE X a (tE T fa)) : PE X (.UnaryOp .USub a pos) (tE T fun δ => (fa δ).bind fun x δ => match x.d with | .int i => .ok (.fz (.int (-i))) δ | _ => .no) := by
  refine QL.PE.imp (pe_un un_neg ha) fun σ H Q h => ?_
  obtain ⟨C, δ, R, h⟩ := h
  refine tE.then R h fun y δ1 H1 C1 v R1 s1 p1 h1 => ?_
  split at h1
  · rename_i i ei
    rw [ei] at p1
    exact ⟨i, Rp.int.mp p1, h1.here R1 _ (Rp.int.mpr rfl : Rp T.B.G C1 _ _)⟩
  · exact h1.elim
end
end QL

end
section
set_option Elab.async false
set_option linter.all false
/-! Q7: what a def promises; calls. -/
namespace QL
open PySem PySem.Spec PyProof.Rows L2

/-- a is an own argument's place -/
def lpA (vs : List V) (as : List Sl) (a : Addr) : Prop := ∃ (i : Nat) (ds : List D), as[i]? = some (.lp ds) ∧ vs[i]? = some (V.ref a)
def ArgR (G : Gd) (H C : Hp) (s : Sl) (v : V) : Prop := match s with
  | .fz d => Rp G C d v
  | .lp ds => ∃ a xs, v = V.ref a ∧ H a = some (.lst xs) ∧ C a = none ∧ Rps G C ds xs
  | _ => False
structure ArgsR (G : Gd) (H C : Hp) (vs : List V) (as : List Sl) : Prop where
  len : vs.length = as.length
  sub : Same C H
  arg : ∀ (i : Nat) (s : Sl) (v : V), as[i]? = some s → vs[i]? = some v → ArgR G H C s v
  apart : ∀ (i j : Nat) (ds es : List D) (a : Addr), i ≠ j → as[i]? = some (.lp ds) → as[j]? = some (.lp es) → vs[i]? = some (V.ref a) → vs[j]? ≠ some (V.ref a)
structure EndR (G : Gd) (H C : Hp) (vs : List V) (as : List Sl) (H' C' : Hp) (outs : List Sl) : Prop where
  cs : Same C C'
  sub : Same C' H'
  conf : ∀ a o, C' a = some o → C a = some o ∨ H a = none
  keep : ∀ a o, H a = some o → ¬ lpA vs as a → H' a = some o
  al : ∀ a, H' a = none → H a = none
  out : ∀ (i : Nat) (ds : List D) (a : Addr), as[i]? = some (.lp ds) → vs[i]? = some (V.ref a) → ∃ ds' xs', outs[i]? = some (.lp ds') ∧ H' a = some (.lst xs') ∧ C' a = none ∧ Rps G C' ds' xs'
def RvO (G : Gd) (H H' C' : Hp) (r : Rv) (v : V) : Prop := match r with
  | .fz d => Rp G C' d v
  | .lv ds => ∃ a xs, v = V.ref a ∧ H' a = some (.lst xs) ∧ C' a = none ∧ H a = none ∧ Rps G C' ds xs
  | .dv ks ds => ∃ a xs, v = V.ref a ∧ H' a = some (.dK (ks.zip xs)) ∧ C' a = none ∧ H a = none ∧ ks.length = ds.length ∧ Rps G C' ds xs
/-- the promise of a def that F tells -/
def spF (G : Gd) (Y : Xg) (F : Fn) : Sp := fun vs H Q E => ∃ (as : List Sl) (C : Hp), ArgsR G H C vs as ∧ as.length = F.np ∧ match F.run as with
  | .ok r outs => ∀ v H' C', EndR G H C vs as H' C' outs → RvO G H H' C' r v → Q v H'
  | .er x outs => ∀ cls dd H' C', EndR G H C vs as H' C' outs → XnR G Y H' C' x cls dd → E cls dd H'
  | .no => False

/-- a def stands behind the module's name x and keeps F -/
structure FnK (P : Program) (w : World) (G : Gd) (Y : Xg) (mg : Str → Option Value) (base : Heap) (k : Nat) (f : Addr) (F : Fn) : Prop where
  ex : ∃ (fd : FuncData) (ps : List Str), FnOk P w G.K mg base (L2.CX P w) k f fd ps (spF G Y F) ∧ ps.length = F.np ∧ ∀ n, n ≤ F.np → F.np - n ≤ F.dfl.length → ∃ (dvs : List V) (ds : List Value), Vals dvs ds ∧ Binds G.K fd ps ds ∧ ∀ C, Rps G C (F.dfl.drop (F.dfl.length - (F.np - n))) dvs
  kp : PySem.W.keepIn G.K (.ref f) = true
theorem FnK.mono {P : Program} {w : World} {G : Gd} {Y : Xg} {mg : Str → Option Value} {base : Heap} {j k : Nat} {f : Addr} {F : Fn} (h : FnK P w G Y mg base j f F) (l : j ≤ k) : FnK P w G Y mg base k f F := by
  obtain ⟨⟨fd, ps, h1, h2⟩, h3⟩ := h
  exact ⟨⟨fd, ps, h1.mono l, h2⟩, h3⟩

/-! ### handing back -/
theorem chg_some {δ δ' : Env} {i : Nat} {f : List D → Option (List D)} (h : chgSl δ i f = some δ') : ∃ ds ds', f ds = some ds' ∧ ((δ[i]? = some (.lv ds) ∧ δ' = δ.set i (.lv ds')) ∨ (δ[i]? = some (.lp ds) ∧ δ' = δ.set i (.lp ds'))) := by
  unfold chgSl at h
  split at h
  · rename_i ds e
    obtain ⟨ds', h1, rfl⟩ := Option.map_eq_some_iff.mp h
    exact ⟨ds, ds', h1, .inl ⟨e, rfl⟩⟩
  · rename_i ds e
    obtain ⟨ds', h1, rfl⟩ := Option.map_eq_some_iff.mp h
    exact ⟨ds, ds', h1, .inr ⟨e, rfl⟩⟩
  · cases h
def Kept (δ δ' : Env) (j : Nat) (ds' : List D) : Prop := ∃ ds, (δ[j]? = some (.lv ds) ∧ δ'[j]? = some (.lv ds')) ∨ (δ[j]? = some (.lp ds) ∧ δ'[j]? = some (.lp ds'))
theorem putBack_spec : ∀ {as : List Ag} {os : List Sl} {δ δ' : Env}, putBack δ as os = some δ' → noDup as = true →
    δ'.length = δ.length ∧ (∀ j : Nat, (∀ k : Nat, as[k]? ≠ some (.r j)) → δ'[j]? = δ[j]?) ∧ ∀ k j : Nat, as[k]? = some (.r j) → ∃ ds', os[k]? = some (.lp ds') ∧ Kept δ δ' j ds'
  | [], os, δ, δ', h, _ => by
    have h : some δ = some δ' := by cases os <;> exact h
    cases h
    exact ⟨rfl, fun _ _ => rfl, fun k j e => by simp at e⟩
  | .d x :: as, [], δ, δ', h, _ => by cases h
  | .d x :: as, o :: os, δ, δ', h, n => by
    obtain ⟨h1, h2, h3⟩ := putBack_spec (as := as) (os := os) (show putBack δ as os = some δ' from h) n
    refine ⟨h1, fun j hj => h2 j fun k => hj (k + 1), fun k j e => ?_⟩
    cases k with
    | zero => cases (Option.some.inj e)
    | succ k => exact h3 k j e
  | .r i :: as, [], δ, δ', h, _ => by cases h
  | .r i :: as, o :: os, δ, δ', h, n => by
    cases o with
    | lp ds =>
      obtain ⟨δ1, e1, h⟩ := Option.bind_eq_some_iff.mp (show ((chgSl δ i fun _ => some ds).bind fun δ' => putBack δ' as os) = some δ' from h)
      obtain ⟨n1, n2⟩ := Bool.and_eq_true_iff.mp (show ((as.all fun a => match a with | .r j => decide (i ≠ j) | .d _ => true) && noDup as) = true from n)
      obtain ⟨h1, h2, h3⟩ := putBack_spec (as := as) (os := os) h n2
      have ni : ∀ k : Nat, as[k]? ≠ some (.r i) := fun k e => by
        have q := List.all_eq_true.mp n1 _ (List.mem_of_getElem? e)
        simp at q
      obtain ⟨ds0, ds1, e2, e3⟩ := chg_some e1
      cases e2
      have hi : i < δ.length := by
        rcases e3 with ⟨e, _⟩ | ⟨e, _⟩ <;> exact (List.getElem?_eq_some_iff.mp e).1
      have l1 : δ1.length = δ.length := by rcases e3 with ⟨_, rfl⟩ | ⟨_, rfl⟩ <;> rw [List.length_set]
      have g1 : ∀ j : Nat, i ≠ j → δ1[j]? = δ[j]? := fun j ne => by rcases e3 with ⟨_, rfl⟩ | ⟨_, rfl⟩ <;> rw [List.getElem?_set_ne ne]
      refine ⟨h1.trans l1, fun j hj => ?_, fun k j e => ?_⟩
      · rw [h2 j fun k => hj (k + 1)]
        exact g1 j fun z => hj 0 (by subst z; rfl)
      · cases k with
        | zero =>
          cases (Option.some.inj e)
          refine ⟨ds, rfl, ds0, ?_⟩
          have q := h2 i ni
          rcases e3 with ⟨e3, rfl⟩ | ⟨e3, rfl⟩
          · exact .inl ⟨e3, by rw [q, List.getElem?_set_self hi]⟩
          · exact .inr ⟨e3, by rw [q, List.getElem?_set_self hi]⟩
        | succ k =>
          obtain ⟨ds', q1, ds2, q2⟩ := h3 k j e
          have ij : i ≠ j := fun z => by subst z; exact ni k e
          rw [g1 j ij] at q2
          exact ⟨ds', q1, ds2, q2⟩
    | un => cases h
    | fz d => cases h
    | lv ds => cases h
    | dv ks ds => cases h

def AgR (G : Gd) (σ : L2.St) (C : Hp) (g : Ag) (v : V) : Prop := match g with
  | .d x => Rp G C x v
  | .r i => σ[i]? = some (some v)
def AgsR (G : Gd) (σ : L2.St) (C : Hp) : List Ag → List V → Prop
  | [], vs => vs = []
  | g :: gs, vs => ∃ v r, vs = v :: r ∧ AgR G σ C g v ∧ AgsR G σ C gs r
theorem AgR.mono {G : Gd} {σ : L2.St} {C C' : Hp} (e : Same C C') {g : Ag} {v : V} (h : AgR G σ C g v) : AgR G σ C' g v := by
  cases g with
  | d x => exact Rp.mono e _ _ h
  | r i => exact h
theorem AgsR.len {G : Gd} {σ : L2.St} {C : Hp} : ∀ {gs : List Ag} {vs : List V}, AgsR G σ C gs vs → gs.length = vs.length
  | [], vs, h => by rw [show vs = [] from h]; rfl
  | g :: gs, vs, h => by
    obtain ⟨v, r, rfl, _, h2⟩ := h
    rw [List.length_cons, List.length_cons, AgsR.len h2]
theorem AgsR.get {G : Gd} {σ : L2.St} {C : Hp} : ∀ {gs : List Ag} {vs : List V} {i : Nat} {g : Ag}, AgsR G σ C gs vs → gs[i]? = some g → ∃ v, vs[i]? = some v ∧ AgR G σ C g v
  | [], _, _, _, _, e => by simp at e
  | g :: gs, _, 0, _, h, e => by
    obtain ⟨v, r, rfl, h1, _⟩ := h
    cases (Option.some.inj e)
    exact ⟨v, rfl, h1⟩
  | g :: gs, _, i + 1, _, h, e => by
    obtain ⟨v, r, rfl, _, h2⟩ := h
    exact AgsR.get (i := i) h2 e
theorem argSls_len {δ : Env} : ∀ {as : List Ag} {ss : List Sl}, argSls δ as = some ss → ss.length = as.length
  | [], ss, h => by cases h; rfl
  | a :: as, ss, h => by
    obtain ⟨s, _, h⟩ := Option.bind_eq_some_iff.mp (show ((argSl δ a).bind fun s => (argSls δ as).map fun r => s :: r) = some ss from h)
    obtain ⟨r, h1, rfl⟩ := Option.map_eq_some_iff.mp h
    rw [List.length_cons, List.length_cons, argSls_len h1]
theorem argSls_get {δ : Env} : ∀ {as : List Ag} {ss : List Sl} {i : Nat} {s : Sl}, argSls δ as = some ss → ss[i]? = some s → ∃ a, as[i]? = some a ∧ argSl δ a = some s
  | [], ss, i, s, h, e => by cases h; simp at e
  | a :: as, ss, i, s, h, e => by
    obtain ⟨s0, h0, h⟩ := Option.bind_eq_some_iff.mp (show ((argSl δ a).bind fun s => (argSls δ as).map fun r => s :: r) = some ss from h)
    obtain ⟨r, h1, rfl⟩ := Option.map_eq_some_iff.mp h
    cases i with
    | zero =>
      cases (Option.some.inj e)
      exact ⟨a, rfl, h0⟩
    | succ i => exact argSls_get (i := i) h1 e
theorem argSls_get' {δ : Env} : ∀ {as : List Ag} {ss : List Sl} {i : Nat} {a : Ag}, argSls δ as = some ss → as[i]? = some a → ∃ s, ss[i]? = some s ∧ argSl δ a = some s
  | [], ss, i, s, h, e => by simp at e
  | a :: as, ss, i, s, h, e => by
    obtain ⟨s0, h0, h⟩ := Option.bind_eq_some_iff.mp (show ((argSl δ a).bind fun s => (argSls δ as).map fun r => s :: r) = some ss from h)
    obtain ⟨r, h1, rfl⟩ := Option.map_eq_some_iff.mp h
    cases i with
    | zero =>
      cases (Option.some.inj e)
      exact ⟨s0, rfl, h0⟩
    | succ i => exact argSls_get' (i := i) h1 e
theorem argSl_lp {δ : Env} {a : Ag} {ds : List D} (h : argSl δ a = some (.lp ds)) : ∃ i, a = .r i ∧ (δ[i]? = some (.lv ds) ∨ δ[i]? = some (.lp ds)) := by
  cases a with
  | d x => cases h
  | r i =>
    unfold argSl at h
    dsimp only at h
    split at h
    · rename_i e; cases h; exact ⟨i, rfl, .inl e⟩
    · rename_i e; cases h; exact ⟨i, rfl, .inr e⟩
    · cases h
theorem argSl_fz {δ : Env} {a : Ag} {d : D} (h : argSl δ a = some (.fz d)) : a = .d d := by
  cases a with
  | d x => cases h; rfl
  | r i =>
    unfold argSl at h
    dsimp only at h
    split at h <;> cases h
theorem noDup_ne : ∀ {as : List Ag} {i j k : Nat}, noDup as = true → as[i]? = some (.r k) → as[j]? = some (.r k) → i = j
  | [], i, j, k, _, e, _ => by simp at e
  | .d x :: as, i, j, k, n, e, e' => by
    cases i with
    | zero => cases (Option.some.inj e)
    | succ i =>
      cases j with
      | zero => cases (Option.some.inj e')
      | succ j => rw [noDup_ne (as := as) (i := i) (j := j) n e e']
  | .r m :: as, i, j, k, n, e, e' => by
    obtain ⟨n1, n2⟩ := Bool.and_eq_true_iff.mp (show ((as.all fun a => match a with | .r j => decide (m ≠ j) | .d _ => true) && noDup as) = true from n)
    have ni : ∀ k : Nat, as[k]? ≠ some (.r m) := fun k e => by
      have q := List.all_eq_true.mp n1 _ (List.mem_of_getElem? e)
      simp at q
    cases i with
    | zero =>
      cases (Option.some.inj e)
      cases j with
      | zero => rfl
      | succ j => exact absurd e' (ni j)
    | succ i =>
      cases j with
      | zero =>
        cases (Option.some.inj e')
        exact absurd e (ni i)
      | succ j => rw [noDup_ne (as := as) (i := i) (j := j) n2 e e']

section
variable {B : Bd} {σ : L2.St} {H C H' C' : Hp} {δ δ' : Env}
/-- the arguments as the callee wants them -/
theorem args_ok (R : Rl B σ H C δ) {as : List Ag} {vs dvs : List V} {ss : List Sl} {dfl : List D} (ha : AgsR B.G σ C as vs) (hs : argSls δ as = some ss) (nd : noDup as = true) (hd : Rps B.G C dfl dvs) : ArgsR B.G H C (vs ++ dvs) (ss ++ dfl.map Sl.fz) := by
  have lv : vs.length = ss.length := by rw [← ha.len, argSls_len hs]
  have left : ∀ {i : Nat} {ds : List D}, (ss ++ dfl.map Sl.fz)[i]? = some (.lp ds) → i < ss.length ∧ ss[i]? = some (.lp ds) := fun {i ds} e => by
    by_cases hi : i < ss.length
    · rw [List.getElem?_append_left hi] at e
      exact ⟨hi, e⟩
    · rw [List.getElem?_append_right (by omega), List.getElem?_map] at e
      cases q : dfl[i - ss.length]? with
      | none => rw [q] at e; cases e
      | some d => rw [q] at e; cases e
  refine ⟨by rw [List.length_append, List.length_append, List.length_map, lv, hd.len], R.sub, fun i s v e1 e2 => ?_, fun i j ds es a ne e1 e2 e3 e4 => ?_⟩
  · by_cases hi : i < ss.length
    · rw [List.getElem?_append_left hi] at e1
      rw [List.getElem?_append_left (by omega)] at e2
      obtain ⟨g, h1, h2⟩ := argSls_get hs e1
      obtain ⟨v', h3, h4⟩ := ha.get h1
      rw [e2] at h3
      cases h3
      cases g with
      | d x =>
        cases h2
        exact h4
      | r k =>
        unfold argSl at h2
        dsimp only at h2
        split at h2
        · rename_i ds e
          cases h2
          obtain ⟨o, ho, a, xs, rfl, q1, q2, _, q4⟩ := R.at_ e
          rw [show σ[k]? = some (some v) from h4] at ho
          cases ho
          exact ⟨a, xs, rfl, q1, q2, q4⟩
        · rename_i ds e
          cases h2
          obtain ⟨o, ho, a, xs, rfl, q1, q2, _, q4⟩ := R.at_ e
          rw [show σ[k]? = some (some v) from h4] at ho
          cases ho
          exact ⟨a, xs, rfl, q1, q2, q4⟩
        · cases h2
    · rw [List.getElem?_append_right (by omega), List.getElem?_map] at e1
      rw [List.getElem?_append_right (by omega)] at e2
      cases q : dfl[i - ss.length]? with
      | none => rw [q] at e1; cases e1
      | some d =>
        rw [q] at e1
        cases e1
        obtain ⟨x, h1, h2⟩ := hd.get q
        rw [lv, h1] at e2
        cases e2
        exact h2
  · obtain ⟨hi, e1⟩ := left e1
    obtain ⟨hj, e2⟩ := left e2
    rw [List.getElem?_append_left (by omega)] at e3 e4
    obtain ⟨g, g1, g2⟩ := argSls_get hs e1
    obtain ⟨g', g1', g2'⟩ := argSls_get hs e2
    obtain ⟨k, rfl, hk⟩ := argSl_lp g2
    obtain ⟨k', rfl, hk'⟩ := argSl_lp g2'
    obtain ⟨v, h3, h4⟩ := ha.get g1
    obtain ⟨v', h3', h4'⟩ := ha.get g1'
    rw [e3] at h3
    rw [e4] at h3'
    cases h3
    cases h3'
    have kk : k ≠ k' := fun z => by subst z; exact ne (noDup_ne nd g1 g1')
    have s1 : ∃ s, δ[k]? = some s ∧ isLv s = true := by rcases hk with e | e <;> exact ⟨_, e, rfl⟩
    have s2 : ∃ s, δ[k']? = some s ∧ isLv s = true := by rcases hk' with e | e <;> exact ⟨_, e, rfl⟩
    obtain ⟨s1, u1, u2⟩ := s1
    obtain ⟨s2, w1, w2⟩ := s2
    exact R.apart k k' s1 s2 a kk u1 w1 u2 w2 h4 h4'
/-- behind a call -/
theorem after_call (R : Rl B σ H C δ) {as : List Ag} {vs dvs : List V} {ss outs : List Sl} {dfl : List D} (ha : AgsR B.G σ C as vs) (hs : argSls δ as = some ss) (nd : noDup as = true) (hp : putBack δ as outs = some δ')
    (e : EndR B.G H C (vs ++ dvs) (ss ++ dfl.map Sl.fz) H' C' outs) : Rl B σ H' C' δ' ∧ Stp σ H C δ H' C' δ' := by
  obtain ⟨l, p1, p2⟩ := putBack_spec hp nd
  have lv : vs.length = ss.length := by rw [← ha.len, argSls_len hs]
  -- an own argument's slot
  have inv : ∀ {a : Addr}, lpA (vs ++ dvs) (ss ++ dfl.map Sl.fz) a → ∃ (k j : Nat) (s : Sl), as[k]? = some (Ag.r j) ∧ δ[j]? = some s ∧ isLv s = true ∧ σ[j]? = some (some (V.ref a)) := fun {a} h => by
    obtain ⟨i, ds, e1, e2⟩ := h
    have hi : i < ss.length := by
      by_cases hi : i < ss.length
      · exact hi
      · rw [List.getElem?_append_right (by omega), List.getElem?_map] at e1
        cases q : dfl[i - ss.length]? with
        | none => rw [q] at e1; cases e1
        | some d => rw [q] at e1; cases e1
    rw [List.getElem?_append_left hi] at e1
    rw [List.getElem?_append_left (by omega)] at e2
    obtain ⟨g, g1, g2⟩ := argSls_get hs e1
    obtain ⟨k, rfl, hk⟩ := argSl_lp g2
    obtain ⟨v, h3, h4⟩ := ha.get g1
    rw [e2] at h3
    cases h3
    rcases hk with q | q
    · exact ⟨i, k, _, g1, q, rfl, h4⟩
    · exact ⟨i, k, _, g1, q, rfl, h4⟩
  -- what stands in such a slot
  have out : ∀ {k j : Nat} {a : Addr}, as[k]? = some (Ag.r j) → σ[j]? = some (some (V.ref a)) → ∃ ds' xs', outs[k]? = some (.lp ds') ∧ H' a = some (.lst xs') ∧ C' a = none ∧ Rps B.G C' ds' xs' := fun {k j a} e1 e2 => by
    obtain ⟨s, s1, s2⟩ := argSls_get' hs e1
    obtain ⟨v, v1, v2⟩ := ha.get e1
    have ev : v = V.ref a := by
      have z : σ[j]? = some (some v) := v2
      rw [e2] at z
      cases z
      rfl
    subst ev
    have hk : k < ss.length := (List.getElem?_eq_some_iff.mp s1).1
    have hs2 : ∃ ds, s = .lp ds := by
      unfold argSl at s2
      dsimp only at s2
      split at s2
      · cases s2; exact ⟨_, rfl⟩
      · cases s2; exact ⟨_, rfl⟩
      · cases s2
    obtain ⟨ds, rfl⟩ := hs2
    exact e.out k ds a (by rw [List.getElem?_append_left hk]; exact s1) (by rw [List.getElem?_append_left (by omega)]; exact v1)
  -- liveness is as before
  have live : ∀ {j : Nat} {s : Sl}, δ'[j]? = some s → isLv s = true → ∃ s0, δ[j]? = some s0 ∧ isLv s0 = true := fun {j s} e1 l1 => by
    by_cases q : ∃ k : Nat, as[k]? = some (Ag.r j)
    · obtain ⟨k, q⟩ := q
      obtain ⟨ds', _, ds, q2⟩ := p2 k j q
      rcases q2 with ⟨q2, _⟩ | ⟨q2, _⟩ <;> exact ⟨_, q2, rfl⟩
    · rw [p1 j fun k z => q ⟨k, z⟩] at e1
      exact ⟨s, e1, l1⟩
  have off : ∀ {a : Addr}, Off σ δ a → Off σ δ' a := fun {a} f j s e1 l1 => by
    obtain ⟨s0, q1, q2⟩ := live e1 l1
    exact f j s0 q1 q2
  have notarg : ∀ {a : Addr}, Off σ δ a → ¬ lpA (vs ++ dvs) (ss ++ dfl.map Sl.fz) a := fun {a} f q => by
    obtain ⟨k, j, s, _, q1, q2, q3⟩ := inv q
    exact f j s q1 q2 q3
  have cn : ∀ {a : Addr} {u : HO}, H a = some u → C a = none → C' a = none := fun {a u} h1 h2 => by
    cases q : C' a with
    | none => rfl
    | some o =>
      rcases e.conf a o q with z | z
      · rw [h2] at z; cases z
      · rw [h1] at z; cases z
  refine ⟨⟨R.len.trans l.symm, fun j s o e1 e2 => ?_, e.sub, fun a o h => ?_, R.vis.trans e.cs, fun a o h1 h2 => ?_, fun a h => R.al0 a (e.al a h), fun i j s t a ne e1 e2 l1 l2 e3 => ?_⟩, ⟨e.cs, fun a o h f => e.keep a o h (notarg f), fun a o h f => off f, fun a o h n f => cn h n, e.al⟩⟩
  · by_cases q : ∃ k : Nat, as[k]? = some (Ag.r j)
    · obtain ⟨k, q⟩ := q
      obtain ⟨ds', q1, ds, q2⟩ := p2 k j q
      rcases q2 with ⟨q2, q3⟩ | ⟨q2, q3⟩
      · rw [e1] at q3
        cases q3
        obtain ⟨o', ho, a, xs, rfl, _, _, u3, _⟩ := R.at_ q2
        rw [e2] at ho
        cases ho
        obtain ⟨ds2, xs', w1, w2, w3, w4⟩ := out q e2
        rw [q1] at w1
        cases w1
        exact ⟨a, xs', rfl, w2, w3, u3, w4⟩
      · rw [e1] at q3
        cases q3
        obtain ⟨o', ho, a, xs, rfl, _, _, u3, _⟩ := R.at_ q2
        rw [e2] at ho
        cases ho
        obtain ⟨ds2, xs', w1, w2, w3, w4⟩ := out q e2
        rw [q1] at w1
        cases w1
        exact ⟨a, xs', rfl, w2, w3, u3, w4⟩
    · have q' : ∀ k : Nat, as[k]? ≠ some (Ag.r j) := fun k z => q ⟨k, z⟩
      rw [p1 j q'] at e1
      refine (R.slot j s o e1 e2).mono e.cs fun a u l1 eo h1 h2 => ⟨e.keep a u h1 fun z => ?_, cn h1 h2⟩
      obtain ⟨k, j', s', z0, z1, z2, z3⟩ := inv z
      have jj : j ≠ j' := fun y => by subst y; exact q' k z0
      exact R.apart j j' s s' a jj e1 z1 l1 z2 (by rw [e2, eo]) z3
  · rcases e.conf a o h with z | z
    · exact R.conf a o z
    · exact .inr (R.al0 a z)
  · refine e.keep a o (R.keep a o h1 h2) fun z => ?_
    obtain ⟨k, j, s, z0, z1, z2, z3⟩ := inv z
    obtain ⟨o', ho, q⟩ := R.at_ z1
    rw [z3] at ho
    cases ho
    cases s with
    | un => cases z2
    | fz d => cases z2
    | lv ds => obtain ⟨a', xs, u1, u2, u3, u4, _⟩ := q; cases u1; rw [h1] at u4; cases u4
    | lp ds => obtain ⟨a', xs, u1, u2, u3, u4, _⟩ := q; cases u1; exact h2 u4.1
    | dv ks ds => obtain ⟨a', xs, u1, u2, u3, u4, _⟩ := q; cases u1; rw [h1] at u4; cases u4
  · obtain ⟨s0, q1, q2⟩ := live e1 l1
    obtain ⟨t0, w1, w2⟩ := live e2 l2
    exact R.apart i j s0 t0 a ne q1 w1 q2 w2 e3
end

/-! ### calls -/
def tAg (T : Tx) (f : Env → Rs (List Ag)) : TA := fun σ H Q => ∃ C δ, Rl T.B σ H C δ ∧ Out T σ H C δ (fun as H' C' _ => ∀ vs, AgsR T.B.G σ C' as vs → Q vs H') (f δ)
section
variable {T : Tx} {X : Cx} {σ : L2.St} {H C : Hp} {δ : Env} {pos p p2 : Pos} {a b c d e : Expr} {es : List Expr} {fa fb fc fd : Env → Rs Rv} {fg : Env → Rs (List Ag)} {x : Str} {i : Nat}
theorem tAg.then {β : Type} {S : β → Hp → Hp → Env → Prop} {k : List Ag → Env → Rs β} {Q : List V → Hp → Prop} (R : Rl T.B σ H C δ) (h : Out T σ H C δ S ((fg δ).bind k))
    (hk : ∀ as δ1 H1 C1 vs, Rl T.B σ H1 C1 δ1 → Stp σ H C δ H1 C1 δ1 → AgsR T.B.G σ C1 as vs → Out T σ H1 C1 δ1 S (k as δ1) → fg δ = .ok as δ1 → Q vs H1) : tAg T fg σ H Q := by
  refine ⟨C, δ, R, ?_⟩
  cases e : fg δ with
  | ok r δ1 =>
    rw [e] at h
    intro H1 C1 R1 s1 v hv
    exact hk r δ1 H1 C1 v R1 s1 hv (Out.base h s1) e
  | er x δ1 => rw [e] at h; exact h
  | no => rw [e] at h; exact h
abbrev gNil : Env → Rs (List Ag) := fun δ => .ok [] δ
abbrev gCons (fa : Env → Rs Rv) (fg : Env → Rs (List Ag)) : Env → Rs (List Ag) := fun δ => (fa δ).bind fun x δ => (fg δ).bind fun xs δ => .ok (.d x.d :: xs) δ
abbrev gLr (i : Nat) (fg : Env → Rs (List Ag)) : Env → Rs (List Ag) := fun δ => (optR (lookSl δ i) δ).bind fun _ δ => (fg δ).bind fun xs δ => .ok (.r i :: xs) δ
theorem s_gnil : PA X [] (tAg T gNil) := QL.PA.imp pa_nil fun σ H Q h => by
  obtain ⟨C, δ, R, h⟩ := h
  exact h.here R [] rfl
theorem s_gcons (ha : PE X e (tE T fa)) (hr : PA X es (tAg T fg)) (hs : starEach (e :: es) X.env = (false, eval e X.env) :: starEach es X.env) : PA X (e :: es) (tAg T (gCons fa fg)) := by
  refine QL.PA.imp (pa_cons ha hr hs) fun σ H Q h => ?_
  obtain ⟨C, δ, R, h⟩ := h
  refine tE.then R h fun x δ1 H1 C1 v R1 s1 p1 h1 => ?_
  refine tAg.then R1 h1 fun as δ2 H2 C2 vs R2 s2 p2 h2 _ => ?_
  exact h2.here R2 (v :: vs) ⟨v, vs, rfl, Rp.mono s2.cs _ _ p1, p2⟩
theorem s_glr (hN : X.N[i]? = some x) (hv : Vis X.env.scope x) (hd : (x == ("__debug__" : Str)) = false) (hcd : (x == ("__classdict__" : Str)) = false) (hr : PA X es (tAg T fg)) : PA X (.Name x p :: es) (tAg T (gLr i fg)) := by
  refine QL.PA.imp (pa_cons (pe_var hN hv hd hcd) hr rfl) fun σ H Q h => ?_
  obtain ⟨C, δ, R, h⟩ := h
  dsimp only [gLr] at h
  cases e0 : lookSl δ i with
  | none => rw [e0] at h; exact h.elim
  | some d0 =>
    rw [e0] at h
    obtain ⟨v, ev, _⟩ := look_sl R e0
    refine ⟨v, ev, ?_⟩
    refine tAg.then R h fun as δ2 H2 C2 vs R2 s2 p2 h2 _ => ?_
    exact h2.here R2 (v :: vs) ⟨v, vs, rfl, ev, p2⟩
/-- the callee's promise gives what callF tells -/
theorem call_read {F : Fn} {as : List Ag} {vs dvs : List V} {Q : VK} {Hb : Hp} (R : Rl T.B σ H C δ) (al : ∀ a, H a = none → Hb a = none) (ha : AgsR T.B.G σ C as vs) (hd : Rps T.B.G C (F.dfl.drop (F.dfl.length - (F.np - as.length))) dvs)
    (h : Out T σ H C δ (fun r H' C' δ' => ∀ v, RvR T.B σ Hb H' C' δ' r v → Q v H') (callF F as δ)) : spF T.B.G T.Y F (vs ++ dvs) H Q fun cls dd H' => T.W cls dd σ H' := by
  unfold callF at h
  split at h
  · rename_i ss hc hs
    obtain ⟨h0, nd⟩ := Bool.and_eq_true_iff.mp hc
    have h0 := of_decide_eq_true h0
    refine ⟨_, C, args_ok R ha hs nd hd, ?_, ?_⟩
    · rw [List.length_append, List.length_map, argSls_len hs, List.length_drop]
      omega
    · split
      · rename_i r outs er
        rw [er] at h
        dsimp only at h
        cases hp : putBack δ as outs with
        | none => rw [hp] at h; exact h.elim
        | some δ' =>
          rw [hp] at h
          intro v H' C' e hv
          obtain ⟨R', s'⟩ := after_call R ha hs nd hp e
          refine h H' C' R' s' v ?_
          have off : ∀ {q : Addr}, H q = none → Off σ δ' q := fun {q} hq j s e1 l1 z => by
            obtain ⟨o, ho, sl⟩ := R'.at_ e1
            obtain ⟨b, u, e2, _, _⟩ := sl.obj l1
            have f := R.offNone hq
            obtain ⟨l, p1, p2⟩ := putBack_spec hp nd
            by_cases w : ∃ k : Nat, as[k]? = some (Ag.r j)
            · obtain ⟨k, w⟩ := w
              obtain ⟨ds', _, ds, w2⟩ := p2 k j w
              rcases w2 with ⟨w2, _⟩ | ⟨w2, _⟩
              · exact f j _ w2 rfl z
              · exact f j _ w2 rfl z
            · rw [p1 j fun k y => w ⟨k, y⟩] at e1
              exact f j s e1 l1 z
          cases r with
          | fz d => exact hv
          | lv ds =>
            obtain ⟨q, xs, h1, h2, h3, h4, h5⟩ := hv
            exact ⟨q, xs, h1, h2, h3, ⟨R.al0 _ h4, al _ h4⟩, off h4, h5⟩
          | dv ks ds =>
            obtain ⟨q, xs, h1, h2, h3, h4, h5⟩ := hv
            exact ⟨q, xs, h1, h2, h3, ⟨R.al0 _ h4, al _ h4⟩, off h4, h5⟩
      · rename_i x outs er
        rw [er] at h
        dsimp only at h
        cases hp : putBack δ as outs with
        | none => rw [hp] at h; exact h.elim
        | some δ' =>
          rw [hp] at h
          intro cls dd H' C' e hx
          obtain ⟨R', s'⟩ := after_call R ha hs nd hp e
          exact h cls dd H' C' R' s'.cs hx
      · rename_i er
        rw [er] at h
        exact h
  · exact h.elim
theorem s_call {F : Fn} {k n : Nat} {f : Addr} (hK : X.K = T.B.G.K) (hF : FnK X.prog X.w T.B.G T.Y X.mg X.base k f F) (hr : Room k X.A) (hg : Gl X x) (hm : X.mg x = some (.ref f)) (tk : Takes X T.W) (hl : ∀ δ as δ', fg δ = .ok as δ' → as.length = n) (hn : n ≤ F.np ∧ F.np - n ≤ F.dfl.length) (ha : PA X (e :: es) (tAg T fg))
    (hdb : (x == ("__debug__" : Str)) = false) (he : starEach (e :: es) X.env = (false, eval e X.env) :: starEach es X.env) (hpl : (backTo pos (starEach es X.env)).any (·.1) = false) :
    PE X (.Call (.Name x p) (e :: es) [] pos) (tE T fun δ => (fg δ).bind fun as δ => callF F as δ) := by
  obtain ⟨⟨fd, ps, h1, h2, h3⟩, kp⟩ := hF
  obtain ⟨dvs, ds, hd, hb, hv⟩ := h3 n hn.1 hn.2
  rw [← hK] at h1 hb kp
  refine QL.PE.imp (pe_callSD (E := fun σ => WE T.W σ) h1 hr hg hm kp hb hd (fun σ => passAt tk σ) ha hdb he hpl) fun σ H Q h => ?_
  obtain ⟨C, δ, R, h⟩ := h
  refine tAg.then R h fun as δ1 H1 C1 vs R1 s1 p1 h1 e1 => ?_
  refine call_read R1 s1.al p1 ?_ h1
  rw [hl _ _ _ e1]
  exact hv C1
end
end QL

end
section
set_option Elab.async false
set_option linter.all false
/-! Q8: what is walked; list comprehensions. -/
namespace QL
open PySem PySem.Spec PyProof.Rows L2

/-- J walks the items ds, wherever the part C of the heap stands -/
structure Wk (G : Gd) (C : Hp) (ds : List D) (J : It) : Prop where
  go : ∀ (i : Nat) (H : Hp), Same C H → i < ds.length → J.go i H
  yld : ∀ (i : Nat) (H : Hp) (x : V) (H' : Hp), Same C H → i < ds.length → J.yld i H x H' → H' = H ∧ ∃ d, ds[i]? = some d ∧ Rp G C d x
  stop : ∀ (i : Nat) (H : Hp), Same C H → ds.length ≤ i → J.stop i H
theorem Wk.mono {G : Gd} {C C' : Hp} {ds : List D} {J : It} (w : Wk G C ds J) (e : Same C C') : Wk G C' ds J :=
  ⟨fun i H s => w.go i H (e.trans s), fun i H x H' s h y => by
    obtain ⟨h1, d, h2, h3⟩ := w.yld i H x H' (e.trans s) h y
    exact ⟨h1, d, h2, Rp.mono e _ _ h3⟩, fun i H s => w.stop i H (e.trans s)⟩
theorem wk_list {G : Gd} {C : Hp} {a : Addr} {xs : List V} {ds : List D} (h : SqL G.K C a xs) (r : Rps G C ds xs) : Wk G C ds (Itl G.K a) := by
  refine ⟨fun i H s hi => ?_, fun i H x H' s hi y => ?_, fun i H s hi => ⟨xs, QL.Same.sqL s h, by rw [← r.len]; exact hi⟩⟩
  · obtain ⟨x, e, _⟩ := r.get (List.getElem?_eq_getElem hi)
    exact ⟨xs, x, QL.Same.sqL s h, e⟩
  · obtain ⟨e, y⟩ := y
    have e2 := y xs (QL.Same.sqL s h)
    obtain ⟨d, e3, e4⟩ := r.get' e2
    exact ⟨e, d, e3, e4⟩
theorem wk_tup {G : Gd} {C : Hp} {a : Addr} {xs : List V} {ds : List D} (h : SqT G.K C a xs) (r : Rps G C ds xs) : Wk G C ds (Itt G.K a) := by
  refine ⟨fun i H s hi => ?_, fun i H x H' s hi y => ?_, fun i H s hi => ⟨xs, QL.Same.sqT s h, by rw [← r.len]; exact hi⟩⟩
  · obtain ⟨x, e, _⟩ := r.get (List.getElem?_eq_getElem hi)
    exact ⟨xs, x, QL.Same.sqT s h, e⟩
  · obtain ⟨e, y⟩ := y
    have e2 := y xs (QL.Same.sqT s h)
    obtain ⟨d, e3, e4⟩ := r.get' e2
    exact ⟨e, d, e3, e4⟩
theorem rangeD_len : ∀ (a : Int) (n : Nat), (rangeD a n).length = n
  | _, 0 => rfl
  | a, n + 1 => by rw [rangeD, List.length_cons, rangeD_len]
theorem rangeD_get : ∀ (a : Int) (n i : Nat), i < n → (rangeD a n)[i]? = some (.int (a + i))
  | _, 0, _, h => absurd h (Nat.not_lt_zero _)
  | a, n + 1, 0, _ => by simp [rangeD]
  | a, n + 1, i + 1, h => by
    rw [rangeD, List.getElem?_cons_succ, rangeD_get (a + 1) n i (by omega)]
    congr 2
    omega
theorem wk_rng {G : Gd} {C : Hp} {lo : Int} {n : Nat} : Wk G C (rangeD lo n) (Itr lo n) := by
  refine ⟨fun i H s hi => ?_, fun i H x H' s hi y => ?_, fun i H s hi => ?_⟩
  · rw [rangeD_len] at hi; exact hi
  · obtain ⟨e, rfl⟩ := y
    rw [rangeD_len] at hi
    exact ⟨e, _, rangeD_get lo n i hi, Rp.int.mpr rfl⟩
  · rw [rangeD_len] at hi; exact hi

def tI (T : Tx) (f : Env → Rs (List D)) : TI := fun σ H R => ∃ C δ, Rl T.B σ H C δ ∧ Out T σ H C δ (fun ds H' C' _ => ∀ J, Wk T.B.G C' ds J → R J H') (f δ)
theorem PI.imp {X : Cx} {tg e : Expr} {t t' : TI} (h : PI X tg e t) (i : ∀ σ H Q, t' σ H Q → t σ H Q) : PI X tg e t' := ⟨fun pins s σ H Q I q => h.run pins s σ H Q I (i σ H Q q)⟩
theorem PI.or {X : Cx} {tg e : Expr} {t t' : TI} (h : PI X tg e t) (h' : PI X tg e t') : PI X tg e (fun σ H R => t σ H R ∨ t' σ H R) := ⟨fun pins s σ H Q I q => by
  rcases q with q | q
  · exact h.run pins s σ H Q I q
  · exact h'.run pins s σ H Q I q⟩
section
variable {T : Tx} {X : Cx} {σ : L2.St} {H C : Hp} {δ : Env} {pos p p2 : Pos} {a b c d e tg : Expr} {es : List Expr} {fa fb fc fd : Env → Rs Rv} {fi : Env → Rs (List D)} {x : Str} {i : Nat}
abbrev fSeq (fa : Env → Rs Rv) : Env → Rs (List D) := fun δ => (fa δ).bind fun x δ => optR (itemsOf x.d) δ
theorem s_iseq (hK : X.K = T.B.G.K) (ha : PE X a (tE T fa)) : PI X tg a (tI T (fSeq fa)) := by
  refine QL.PI.imp (QL.PI.or (pi_list ha) (pi_tup ha)) fun σ H R h => ?_
  obtain ⟨C, δ, Rl0, h⟩ := h
  have lst : (∀ r δ1, fa δ = .ok r δ1 → ∀ ds, r.d ≠ .tup ds) → iList X.K (tE T fa) σ H R := fun hn => by
    refine ⟨C, δ, Rl0, ?_⟩
    cases e : fa δ with
    | ok r δ1 =>
      have h1 : Out T σ H C δ (fun ds H' C' _ => ∀ J, Wk T.B.G C' ds J → R J H') (optR (itemsOf r.d) δ1) := by
        have h' := h
        dsimp only [fSeq] at h'
        rw [e] at h'
        exact h'
      intro H1 C1 R1 s1 v hv
      obtain ⟨C2, R2, s2, hp⟩ := R1.frz s1 hv
      obtain ⟨ds, ed, h2⟩ := optR_some h1
      have h3 := h2 H1 C2 R2 s2
      cases hd : r.d with
      | lst l =>
        rw [hd] at ed hp
        cases ed
        obtain ⟨q, xs, rfl, q1, q2⟩ := Rp.lst.mp hp
        exact ⟨q, rfl, ⟨xs, .of (R2.sub _ _ q1)⟩, h3 _ (hK ▸ wk_list (.of q1) q2)⟩
      | rol l =>
        rw [hd] at ed hp
        cases ed
        obtain ⟨q, xs, rfl, q1, q2⟩ := Rp.rol.mp hp
        exact ⟨q, rfl, ⟨xs, hK ▸ QL.Same.sqL R2.sub q1⟩, h3 _ (hK ▸ wk_list q1 q2)⟩
      | tup l => exact absurd hd (hn r δ1 e l)
      | _ => rw [hd] at ed; cases ed
    | er x δ1 =>
      dsimp only [fSeq] at h
      rw [e] at h
      exact h
    | no =>
      dsimp only [fSeq] at h
      rw [e] at h
      exact h
  cases e : fa δ with
  | ok r δ1 =>
    cases hd : r.d with
    | tup l =>
      refine .inr ⟨C, δ, Rl0, ?_⟩
      have h1 : Out T σ H C δ (fun ds H' C' _ => ∀ J, Wk T.B.G C' ds J → R J H') (optR (itemsOf r.d) δ1) := by
        have h' := h
        dsimp only [fSeq] at h'
        rw [e] at h'
        exact h'
      rw [e]
      intro H1 C1 R1 s1 v hv
      obtain ⟨C2, R2, s2, hp⟩ := R1.frz s1 hv
      obtain ⟨ds, ed, h2⟩ := optR_some h1
      have h3 := h2 H1 C2 R2 s2
      rw [hd] at ed hp
      cases ed
      obtain ⟨q, xs, rfl, q1, q2⟩ := Rp.tup.mp hp
      exact ⟨q, rfl, ⟨xs, hK ▸ QL.Same.sqT R2.sub q1⟩, h3 _ (hK ▸ wk_tup q1 q2)⟩
    | _ => exact .inl (lst fun r' δ' e' ds z => by rw [e] at e'; cases e'; rw [hd] at z; cases z)
  | er x δ1 => exact .inl (lst fun r' δ' e' ds z => by rw [e] at e'; cases e')
  | no => exact .inl (lst fun r' δ' e' ds z => by rw [e] at e'; cases e')
abbrev fRng1 (fa : Env → Rs Rv) : Env → Rs (List D) := fun δ => (fa δ).bind fun x δ => match x.d with
    | .int j => if -(2 ^ 62) ≤ j ∧ j < 2 ^ 62 then .ok (rangeD 0 j.toNat) δ else .no
    | _ => .no
theorem s_irng1 (hg : Gl X "range") (hm : X.mg "range" = none) (ha : PE X a (tE T fa)) (hs : starEach [a] X.env = [(false, eval a X.env)]) : PI X tg (.Call (.Name "range" p) [a] [] pos) (tI T (fRng1 fa)) := by
  refine QL.PI.imp (pi_range1 hg hm (pa_cons ha pa_nil hs) hs) fun σ H R h => ?_
  obtain ⟨C, δ, Rl0, h⟩ := h
  refine tE.then Rl0 h fun x δ1 H1 C1 v R1 s1 p1 h1 => ?_
  split at h1
  · rename_i j ej
    split at h1
    · rename_i hj
      rw [ej] at p1
      rw [Rp.int.mp p1]
      exact ⟨j, rfl, hj.1, hj.2, h1.here R1 _ wk_rng⟩
    · exact h1.elim
  · exact h1.elim
abbrev fRng2 (fa fb : Env → Rs Rv) : Env → Rs (List D) := fun δ => (fa δ).bind fun x δ => (fb δ).bind fun y δ => match x.d, y.d with
    | .int i, .int j => if -(2 ^ 62) ≤ i ∧ i < 2 ^ 62 ∧ -(2 ^ 62) ≤ j ∧ j < 2 ^ 62 then .ok (rangeD i (j - i).toNat) δ else .no
    | _, _ => .no
theorem s_irng2 (hg : Gl X "range") (hm : X.mg "range" = none) (ha : PE X a (tE T fa)) (hb : PE X b (tE T fb)) (hs : starEach [a, b] X.env = [(false, eval a X.env), (false, eval b X.env)]) (hs2 : starEach [b] X.env = [(false, eval b X.env)]) : PI X tg (.Call (.Name "range" p) [a, b] [] pos) (tI T (fRng2 fa fb)) := by
  refine QL.PI.imp (pi_range2 hg hm (pa_cons ha (pa_cons hb pa_nil hs2) (by rw [hs, hs2])) hs hs2) fun σ H R h => ?_
  obtain ⟨C, δ, Rl0, h⟩ := h
  refine tE.then Rl0 h fun x δ1 H1 C1 v R1 s1 p1 h1 => ?_
  refine tE.then R1 h1 fun y δ2 H2 C2 w R2 s2 p2 h2 => ?_
  split at h2
  · rename_i i j ei ej
    split at h2
    · rename_i hj
      rw [ei] at p1
      rw [ej] at p2
      rw [Rp.int.mp p1, Rp.int.mp p2]
      exact ⟨i, j, rfl, hj, h2.here R2 _ wk_rng⟩
    · exact h2.elim
  · exact h2.elim

/-! ### slots set -/
/-- two states that differ in one slot that holds nothing own -/
theorem Off.set {a : Addr} {i : Nat} {s : Sl} {o : Option V} (hs : isLv s = false) (f : Off σ δ a) : Off (σ.set i o) (δ.set i s) a := fun j t e l => by
  rcases set_get e with ⟨rfl, rfl, _⟩ | ⟨ne, e⟩
  · rw [hs] at l; cases l
  · rw [List.getElem?_set_ne ne]
    exact f j t e l
theorem Off.unset {a : Addr} {i : Nat} {s t : Sl} {o : Option V} (ht : δ[i]? = some t) (hl : isLv t = false) (f : Off (σ.set i o) (δ.set i s) a) : Off σ δ a := fun j u e l => by
  by_cases ne : i = j
  · subst ne
    rw [ht] at e
    cases e
    rw [hl] at l
    cases l
  · have q := f j u (by rw [List.getElem?_set_ne ne]; exact e) l
    rwa [List.getElem?_set_ne ne] at q
/-- a slot that holds nothing own (no parameter's own list) gets settled data -/
theorem Rl.put {B : Bd} (R : Rl B σ H C δ) {i : Nat} {s : Sl} {o : Option V} (hs : isLv s = false) (h : SlotR B H C i s o) : Rl B (σ.set i o) H C (δ.set i s) := by
  refine ⟨by rw [List.length_set, List.length_set]; exact R.len, fun j t o' e1 e2 => ?_, R.sub, R.conf, R.vis, R.keep, R.al0, fun j k t u a ne e1 e2 l1 l2 e3 e4 => ?_⟩
  · rcases set_get e1 with ⟨rfl, rfl, _⟩ | ⟨ne, e1⟩
    · rcases set_get e2 with ⟨_, rfl, _⟩ | ⟨ne, _⟩
      · exact h
      · exact absurd rfl ne
    · rw [List.getElem?_set_ne ne] at e2
      exact R.slot j t o' e1 e2
  · rcases set_get e1 with ⟨rfl, rfl, _⟩ | ⟨n1, e1⟩
    · rw [hs] at l1; cases l1
    · rcases set_get e2 with ⟨rfl, rfl, _⟩ | ⟨n2, e2⟩
      · rw [hs] at l2; cases l2
      · rw [List.getElem?_set_ne n1] at e3
        rw [List.getElem?_set_ne n2] at e4
        exact R.apart j k t u a ne e1 e2 l1 l2 e3 e4
/-- an own thing that no slot holds is changed -/
theorem Rl.chgO {B : Bd} (R : Rl B σ H C δ) {q : Addr} {o o' : HO} (h1 : H q = some o) (h2 : C q = none) (h3 : B.H0 q = none) (hf : Off σ δ q) : Rl B σ (upd H q o') C δ := by
  have ne : ∀ {a : Addr} {u : HO}, C a = some u → a ≠ q := fun h => ne_of_none h h2
  refine ⟨R.len, fun j t o'' e1 e2 => (R.slot j t o'' e1 e2).mono (L2.Same.refl _) fun a u l eo h4 h5 => ⟨?_, h5⟩, fun a u h => ?_, R.conf, R.vis, fun a u h4 h5 => ?_, fun a h => ?_, R.apart⟩
  · have na : a ≠ q := fun z => by
      subst z
      exact hf j t e1 l (by rw [e2, eo])
    rw [upd_ne na]; exact h4
  · rw [upd_ne (ne h)]; exact R.sub _ _ h
  · rw [upd_ne (ne_of_none h4 h3)]; exact R.keep _ _ h4 h5
  · by_cases z : a = q
    · subst z; rw [upd_same] at h; cases h
    · rw [upd_ne z] at h; exact R.al0 _ h

/-! ### a comprehension -/
/-- the same readings where no error is wished for -/
def Tx.nx (T : Tx) : Tx := { T with W := fun _ _ _ _ => False }
theorem ne_ok {α : Type} {r : Rs α} {a : α} {δ : Env} (h : r.ne = .ok a δ) : r = .ok a δ := by
  cases r with
  | ok b δ' => exact h
  | er x δ' => cases h
  | no => cases h
theorem ne_out {α : Type} {S : α → Hp → Hp → Env → Prop} {r : Rs α} (h : Out T σ H C δ S r.ne) : Out T.nx σ H C δ S r := by
  cases r with
  | ok a δ' => exact h
  | er x δ' => exact h.elim
  | no => exact h.elim
/-- where no error is wished for -/
theorem nx_bind {α β : Type} {S : β → Hp → Hp → Env → Prop} {r : Rs α} {k : α → Env → Rs β} (h : Out T σ H C δ S (r.ne.bind k)) : ∃ a δ', r = .ok a δ' ∧ Out T σ H C δ S (k a δ') := by
  cases r with
  | ok a δ' => exact ⟨a, δ', rfl, h⟩
  | er x δ' => exact h.elim
  | no => exact h.elim

/-- between two turns: acc made so far at q, from the rest xs to come the same end -/
def LcI (T : Tx) (σ : L2.St) (Hb Cb : Hp) (δb : Env) (i : Nat) (tst elt : Env → Rs Rv) (q : Addr) (ds : List D) (j : Nat) (H : Hp) : Prop :=
  ∃ (C : Hp) (δ : Env) (acc : List D) (av : List V), Rl T.B (σ.set i none) H C δ ∧ Stp (σ.set i none) Hb Cb δb H C δ ∧ H q = some (.lst av) ∧ C q = none ∧ Off (σ.set i none) δ q ∧ Rps T.B.G C acc av ∧ δ[i]? = some .un ∧
    lcGo i tst elt (ds.drop j) acc δ = lcGo i tst elt ds [] δb
theorem upd_stp {B : Bd} {Hb Cb : Hp} {δb : Env} {q : Addr} {o o' : HO} (s : Stp σ Hb Cb δb H C δ) (h : H q = some o) (hb : Hb q = none) : Stp σ Hb Cb δb (upd H q o') C δ :=
  ⟨s.cs, fun a u e f => by rw [upd_ne (ne_of_none e hb)]; exact s.fr a u e f, s.off, s.cn, fun a e => by
    by_cases z : a = q
    · subst z; exact hb
    · rw [upd_ne z] at e; exact s.al a e⟩
variable {tt : TT} {fe : Env → Rs Rv}
/-- the comprehension's reading, from what the small syntax tells; tt the tests' reading, te the element's, both where no error is wished for -/
theorem lc_read {Q : VK} (htt : ∀ σ H Q, tT T.nx fc σ H Q → tt σ H Q) (h : tE T (fun δ => (fi δ).bind fun xs δ => lcRun i fc fe xs δ) σ H Q) : tLc (tI T fi) (L2.gName i) tt (tE T.nx fe) [i] σ H Q := by
  obtain ⟨C, δ, R, h⟩ := h
  refine ⟨C, δ, R, ?_⟩
  cases ei : fi δ with
  | er x δ1 => dsimp only at h; rw [ei] at h; exact h
  | no => dsimp only at h; rw [ei] at h; exact h
  | ok ds δ1 =>
    dsimp only at h
    rw [ei] at h
    intro H1 C1 R1 s1 J wk
    have h : Out T σ H C δ (fun r H' C' δ' => ∀ v, RvR T.B σ H H' C' δ' r v → Q v H') (lcRun i fc fe ds δ1) := h
    have h := Out.base h s1
    unfold lcRun at h
    cases es : lcSl δ1 i with
    | none => rw [es] at h; exact h.elim
    | some s =>
      rw [es] at h
      dsimp only at h
      have hs : δ1[i]? = some s ∧ isLv s = false := by
        unfold lcSl at es
        split at es
        · rename_i e; cases es; exact ⟨e, rfl⟩
        · rename_i d e; cases es; exact ⟨e, rfl⟩
        · cases es
      obtain ⟨o0, ho0, slot0⟩ := R1.at_ hs.1
      have hi : i < δ1.length := (List.getElem?_eq_some_iff.mp hs.1).1
      have R1w : Rl T.B (σ.set i none) H1 C1 (δ1.set i .un) := R1.put (s := .un) (o := none) rfl trivial
      intro q hq
      obtain ⟨R2, s2, q1, q2, q3⟩ := R1w.newO (.lst []) hq
      -- from the wiped slots back
      have back : ∀ {H' C' : Hp} {δ' : Env} {acc : List D} {av : List V}, Rl T.B (σ.set i none) H' C' δ' → Stp (σ.set i none) H1 C1 (δ1.set i .un) H' C' δ' → H' q = some (.lst av) → C' q = none → Off (σ.set i none) δ' q → Rps T.B.G C' acc av → δ'[i]? = some .un →
          Rl T.B σ H' C' (δ'.set i s) ∧ Stp σ H1 C1 δ1 H' C' (δ'.set i s) ∧ RvR T.B σ H H' C' (δ'.set i s) (.lv acc) (.ref q) := fun {H' C' δ' acc av} R' s' h1 h2 h3 h4 h5 => by
        have sw : (σ.set i none).set i o0 = σ := by
          rw [List.set_set]
          apply List.ext_getElem?
          intro j
          by_cases ne : i = j
          · subst ne
            rw [List.getElem?_set_self (by rw [R1.len]; exact hi), ho0]
          · rw [List.getElem?_set_ne ne]
        have hslot : SlotR T.B H' C' i s o0 := slot0.mono s'.cs fun a u l _ _ _ => by rw [hs.2] at l; cases l
        have Rn := R'.put (s := s) (o := o0) hs.2 hslot
        rw [sw] at Rn
        have of1 : ∀ {a : Addr}, Off σ δ1 a → Off (σ.set i none) (δ1.set i .un) a := fun f => Off.set rfl f
        have of2 : ∀ {a : Addr}, Off (σ.set i none) δ' a → Off σ (δ'.set i s) a := fun {a} f => by
          have z := Off.set (i := i) (s := s) (o := o0) hs.2 f
          rwa [sw] at z
        refine ⟨Rn, ⟨s'.cs, fun a u e f => s'.fr a u e (of1 f), fun a u e f => of2 (s'.off a u e (of1 f)), fun a u e n f => s'.cn a u e n (of1 f), s'.al⟩, q, av, rfl, h1, h2, ⟨q2, s1.al _ hq⟩, of2 h3, h4⟩
      have hL : lcGo i fc fe ds [] (δ1.set i .un) ≠ .no := fun z => by
        rw [z] at h
        exact h
      refine ⟨fun j m H' => m = ds.length - j ∧ j ≤ ds.length ∧ LcI T σ H1 C1 (δ1.set i .un) i fc fe q ds j H', ⟨ds.length, by simp, Nat.zero_le _, C1, _, [], [], R2, s2, upd_same, q1, q3, Rps.nil.mpr rfl, by rw [List.getElem?_set_self hi], rfl⟩, ?_⟩
      rintro j m H' ⟨rfl, hj, C', δ', acc, av, R', s', h1, h2, h3, h4, h5, h6⟩
      have sm : Same C1 H' := s'.cs.trans R'.sub
      by_cases hlt : j < ds.length
      · refine .inr ⟨wk.go j H' sm hlt, fun H'' => LcI T σ H1 C1 (δ1.set i .un) i fc fe q ds (j + 1) H'', fun H'' z => ⟨ds.length - (j + 1), by omega, rfl, hlt, z⟩, fun x H'' y => ?_⟩
        obtain ⟨rfl, d, ed, rd⟩ := wk.yld j H' x H'' sm hlt y
        have edr : ds.drop j = d :: ds.drop (j + 1) := by
          rw [List.drop_eq_getElem_cons hlt]
          rw [List.getElem?_eq_getElem hlt] at ed
          cases ed
          rfl
        rw [edr] at h6
        have hi' : i < δ'.length := (List.getElem?_eq_some_iff.mp h5).1
        have Rx : Rl T.B ((σ.set i none).set i (some x)) H'' C' (δ'.set i (.fz d)) := R'.put (s := .fz d) (o := some x) rfl ⟨x, rfl, Rp.mono s'.cs _ _ rd⟩
        have hsw : ((σ.set i none).set i (some x)).set i none = σ.set i none := by rw [List.set_set, List.set_set]
        have offx : ∀ {a : Addr}, Off (σ.set i none) δ' a → Off ((σ.set i none).set i (some x)) (δ'.set i (.fz d)) a := fun f => Off.set rfl f
        refine ⟨hsw, htt _ _ _ ⟨C', _, Rx, ?_⟩⟩
        have h6 : ((fc (δ'.set i (.fz d))).ne.bind fun b δ1 => match b with
            | .fz (.bl true) => (fe δ1).ne.bind fun r δ2 => if acc.length < LIM then lcGo i fc fe (ds.drop (j + 1)) (acc ++ [r.d]) (δ2.set i .un) else .no
            | .fz (.bl false) => lcGo i fc fe (ds.drop (j + 1)) acc (δ1.set i .un)
            | _ => .no) = lcGo i fc fe ds [] (δ1.set i .un) := h6
        cases et : fc (δ'.set i (.fz d)) with
        | er x δ3 => rw [et] at h6; exact absurd h6.symm hL
        | no => rw [et] at h6; exact absurd h6.symm hL
        | ok r δ3 =>
          rw [et] at h6
          intro H3 C3 R3 s3
          -- what the turn leaves behind, with the slot forgotten
          have turn : ∀ {H4 C4 : Hp} {δ4 : Env}, Rl T.B ((σ.set i none).set i (some x)) H4 C4 δ4 → Stp ((σ.set i none).set i (some x)) H'' C' (δ'.set i (.fz d)) H4 C4 δ4 → Rl T.B (σ.set i none) H4 C4 (δ4.set i .un) ∧ Stp (σ.set i none) H1 C1 (δ1.set i .un) H4 C4 (δ4.set i .un) ∧ H4 q = some (.lst av) ∧ C4 q = none ∧ Off (σ.set i none) (δ4.set i .un) q ∧ (δ4.set i .un)[i]? = some .un := fun {H4 C4 δ4} R4 s4 => by
            have Rn := R4.put (i := i) (s := .un) (o := none) rfl trivial
            rw [hsw] at Rn
            have l4 : i < δ4.length := by rw [← R4.len, List.length_set, List.length_set, R1.len]; exact hi
            have of2 : ∀ {a : Addr}, Off ((σ.set i none).set i (some x)) δ4 a → Off (σ.set i none) (δ4.set i .un) a := fun {a} f => by
              have z := Off.set (i := i) (s := .un) (o := none) rfl f
              rwa [hsw] at z
            have st : Stp (σ.set i none) H'' C' δ' H4 C4 (δ4.set i .un) := ⟨s4.cs, fun a u e f => s4.fr a u e (offx f), fun a u e f => of2 (s4.off a u e (offx f)), fun a u e n f => s4.cn a u e n (offx f), s4.al⟩
            exact ⟨Rn, s'.trans st, s4.fr q _ h1 (offx h3), s4.cn q _ h1 h2 (offx h3), of2 (s4.off q _ h1 (offx h3)), by rw [List.getElem?_set_self l4]⟩
          cases r with
          | lv _ => exact absurd h6.symm hL
          | dv _ _ => exact absurd h6.symm hL
          | fz dd =>
            cases dd with
            | bl bb =>
              cases bb with
              | false =>
                obtain ⟨Rn, st, n1, n2, n3, n4⟩ := turn R3 s3
                refine iteF ?_
                exact ⟨C3, _, acc, av, Rn, st, n1, n2, n3, Rps.mono s3.cs _ _ h4, n4, h6⟩
              | true =>
                refine iteT ⟨C3, δ3, R3, ?_⟩
                have h7 : ((fe δ3).ne.bind fun r δ2 => if acc.length < LIM then lcGo i fc fe (ds.drop (j + 1)) (acc ++ [r.d]) (δ2.set i .un) else .no) = lcGo i fc fe ds [] (δ1.set i .un) := h6
                cases ee : fe δ3 with
                | er x δ4 => rw [ee] at h7; exact absurd h7.symm hL
                | no => rw [ee] at h7; exact absurd h7.symm hL
                | ok r4 δ4 =>
                  rw [ee] at h7
                  intro H4 C4 R4 s4 v hv
                  obtain ⟨C5, R5, s5, rv⟩ := R4.frz s4 hv
                  obtain ⟨Rn, st, n1, n2, n3, n4⟩ := turn R5 (s3.trans s5)
                  have h8 : (if acc.length < LIM then lcGo i fc fe (ds.drop (j + 1)) (acc ++ [r4.d]) (δ4.set i .un) else .no) = lcGo i fc fe ds [] (δ1.set i .un) := h7
                  split at h8
                  · rename_i hl
                    refine ⟨av, n1, by rw [← h4.len]; exact len_szlt hl, C5, _, acc ++ [r4.d], av ++ [v], Rn.chgO n1 n2 q2 n3, upd_stp (B := T.B) st n1 hq, upd_same, n2, n3, ?_, n4, h8⟩
                    exact (Rps.mono s5.cs _ _ (Rps.mono s3.cs _ _ h4)).append (.one rv)
                  · exact absurd h8.symm hL
            | _ => exact absurd h6.symm hL
      · refine .inl ⟨wk.stop j H' sm (by omega), ?_⟩
        have e0 : ds.drop j = [] := List.drop_eq_nil_of_le (by omega)
        rw [e0] at h6
        have h6 : Rs.ok acc δ' = lcGo i fc fe ds [] (δ1.set i .un) := h6
        rw [← h6] at h
        obtain ⟨Rn, sn, rv⟩ := back R' s' h1 h2 h3 h4 h5
        exact h H' C' Rn sn _ rv

theorem yes_read : ∀ σ H Q, tT T.nx (fun δ => .ok (.fz (.bl true)) δ) σ H Q → tYes σ H Q := fun σ H Q h => by
  obtain ⟨C, δ, R, h⟩ := h
  exact h.here R
variable {elt iter : Expr} {ifs : List Expr} {scope : Scope}
abbrev fLc (i : Nat) (fi : Env → Rs (List D)) (fc fe : Env → Rs Rv) : Env → Rs Rv := fun δ => (fi δ).bind fun xs δ => lcRun i fc fe xs δ
theorem s_lc (hc : X.calm = true) (hN : X.N.Nodup) (hi : PI X tg iter (tI T fi)) (ok : BlkOk X.N X.env.scope scope [(x, i)]) (htt : ∀ σ H Q, tT T.nx fc σ H Q → tt σ H Q)
    (hg : ∀ (s : Shared) (H : Hp) (C : Addr) (cl : List (Str × Addr)) (fp : List Addr), PG (X.blk s H scope (compEnvC scope cl C X.env) fp) tg (L2.gName i)) (ht : ∀ (s : Shared) (H : Hp) (C : Addr) (cl : List (Str × Addr)) (fp : List Addr), PTs (X.blk s H scope (compEnvC scope cl C X.env) fp) ifs tt)
    (he : ∀ (s : Shared) (H : Hp) (C : Addr) (cl : List (Str × Addr)) (fp : List Addr), PE (X.blk s H scope (compEnvC scope cl C X.env) fp) elt (tE T.nx fe)) (hs : ∀ x, foldedSetIterable iter X.env x = pure x) :
    PE X (.ListComp elt [⟨tg, iter, ifs, 0⟩] scope pos) (tE T (fLc i fi fc fe)) := QL.PE.imp (pe_lc hc hN hi ok hg ht he hs) fun σ H Q h => lc_read htt h
end
end QL

end
section
set_option Elab.async false
set_option linter.all false
/-! Q9: statements keep what the small syntax tells. -/
namespace QL
open PySem PySem.Spec PyProof.Rows L2

def OutS (T : Tx) (C : Hp) (D : Ends) : Rs Fl → Prop
  | .ok .nx δ' => ∀ σ' H' C', Rl T.B σ' H' C' δ' → Same C C' → D.nx σ' H'
  | .ok .bk δ' => ∀ σ' H' C', Rl T.B σ' H' C' δ' → Same C C' → D.bk σ' H'
  | .ok .ct δ' => ∀ σ' H' C', Rl T.B σ' H' C' δ' → Same C C' → D.ct σ' H'
  | .ok (.rt r) δ' => ∀ v σ' H' C', Rl T.B σ' H' C' δ' → Same C C' → RvR T.B σ' T.B.H0 H' C' δ' r v → D.rt v H'
  | .er x δ' => ∀ cls dd σ' H' C', Rl T.B σ' H' C' δ' → Same C C' → XnR T.B.G T.Y H' C' x cls dd → T.W cls dd σ' H'
  | .no => False
theorem OutS.base {T : Tx} {C C1 : Hp} {D : Ends} {r : Rs Fl} (h : OutS T C D r) (e : Same C C1) : OutS T C1 D r := by
  cases r with
  | ok f δ' =>
    cases f with
    | nx => exact fun σ' H' C' R s => h σ' H' C' R (e.trans s)
    | bk => exact fun σ' H' C' R s => h σ' H' C' R (e.trans s)
    | ct => exact fun σ' H' C' R s => h σ' H' C' R (e.trans s)
    | rt r => exact fun v σ' H' C' R s => h v σ' H' C' R (e.trans s)
  | er x δ' => exact fun cls dd σ' H' C' R s => h cls dd σ' H' C' R (e.trans s)
  | no => exact h
def tS (T : Tx) (f : Env → Rs Fl) : TS := fun D σ H => ∃ C δ, Rl T.B σ H C δ ∧ OutS T C D (f δ)
section
variable {T : Tx} {X : Cx} {σ : L2.St} {H C : Hp} {δ : Env} {D : Ends} {pos p p2 : Pos} {a b c d e tg : Expr} {es : List Expr} {fa fb fc fd : Env → Rs Rv} {fi : Env → Rs (List QL.D)} {x : Str} {i : Nat}
theorem tE.thenS {k : Rv → Env → Rs Fl} {Q : VK} (R : Rl T.B σ H C δ) (h : OutS T C D ((fa δ).bind k))
    (hk : ∀ r δ1 H1 C1 v, Rl T.B σ H1 C1 δ1 → Stp σ H C δ H1 C1 δ1 → RvR T.B σ H H1 C1 δ1 r v → OutS T C1 D (k r δ1) → Q v H1) : tE T fa σ H Q := by
  refine ⟨C, δ, R, ?_⟩
  cases e : fa δ with
  | ok r δ1 =>
    rw [e] at h
    intro H1 C1 R1 s1 v hv
    exact hk r δ1 H1 C1 v R1 s1 hv (OutS.base h s1.cs)
  | er x δ1 =>
    rw [e] at h
    exact fun cls dd H' C' R' hx => h cls dd σ H' C' R' hx
  | no => rw [e] at h; exact h
/-- .. its value settled -/
theorem tE.thenD {k : Rv → Env → Rs Fl} {Q : VK} (R : Rl T.B σ H C δ) (h : OutS T C D ((fa δ).bind k))
    (hk : ∀ r δ1 H1 C1 v, Rl T.B σ H1 C1 δ1 → Stp σ H C δ H1 C1 δ1 → Rp T.B.G C1 r.d v → OutS T C1 D (k r δ1) → Q v H1) : tE T fa σ H Q := by
  refine ⟨C, δ, R, ?_⟩
  cases e : fa δ with
  | ok r δ1 =>
    rw [e] at h
    intro H1 C1 R1 s1 v hv
    obtain ⟨C2, R2, s2, hp⟩ := R1.frz s1 hv
    exact hk r δ1 H1 C2 v R2 s2 hp (OutS.base h s2.cs)
  | er x δ1 =>
    rw [e] at h
    exact fun cls dd H' C' R' hx => h cls dd σ H' C' R' hx
  | no => rw [e] at h; exact h
theorem tT.thenS {k : Rv → Env → Rs Fl} {Q : Bool → Hp → Prop} (R : Rl T.B σ H C δ) (h : OutS T C D ((fa δ).bind k)) (hn : ∀ r δ, (∀ b, r ≠ .fz (.bl b)) → k r δ = .no)
    (hk : ∀ b δ1 H1 C1, Rl T.B σ H1 C1 δ1 → Stp σ H C δ H1 C1 δ1 → OutS T C1 D (k (.fz (.bl b)) δ1) → Q b H1) : tT T fa σ H Q := by
  refine ⟨C, δ, R, ?_⟩
  cases e : fa δ with
  | ok r δ1 =>
    rw [e] at h
    intro H1 C1 R1 s1
    by_cases q : ∃ b, r = .fz (.bl b)
    · obtain ⟨b, rfl⟩ := q
      exact hk b δ1 H1 C1 R1 s1 (OutS.base h s1.cs)
    · have h' : OutS T C D (k r δ1) := h
      rw [hn r δ1 fun b e => q ⟨b, e⟩] at h'
      exact h'.elim
  | er x δ1 =>
    rw [e] at h
    exact fun cls dd H' C' R' hx => h cls dd σ H' C' R' hx
  | no => rw [e] at h; exact h
theorem optS {α : Type} {o : Option α} {k : α → Env → Rs Fl} {δ1 : Env} (h : OutS T C D ((optR o δ1).bind k)) : ∃ z, o = some z ∧ OutS T C D (k z δ1) := by
  cases o with
  | none => exact h.elim
  | some z => exact ⟨z, rfl, h⟩

/-! ### a value into a slot -/
theorem Rl.putRv {B : Bd} {Hb : Hp} (R : Rl B σ H C δ) {δ' : Env} {r : Rv} {v : V} (hr : RvR B σ Hb H C δ r v) (h : putSl δ i r = some δ') : Rl B (σ.set i (some v)) H C δ' := by
  unfold putSl at h
  split at h
  · cases h
  · rename_i s0 hlp h0
    cases h
    -- the new slot
    have new : SlotR B H C i r.sl (some v) := by
      cases r with
      | fz d => exact ⟨v, rfl, hr⟩
      | lv ds => obtain ⟨q, xs, rfl, h1, h2, h3, _, h5⟩ := hr; exact ⟨q, xs, rfl, h1, h2, h3.1, h5⟩
      | dv ks ds => obtain ⟨q, xs, rfl, h1, h2, h3, _, h5⟩ := hr; exact ⟨q, xs, rfl, h1, h2, h3.1, h5⟩
    have off : ∀ {q : Addr}, isLv r.sl = true → v = V.ref q → Off σ δ q := fun {q} l ev => by
      cases r with
      | fz d => cases l
      | lv ds => obtain ⟨q', xs, e, _, _, _, h4, _⟩ := hr; rw [ev] at e; cases e; exact h4
      | dv ks ds => obtain ⟨q', xs, e, _, _, _, h4, _⟩ := hr; rw [ev] at e; cases e; exact h4
    refine ⟨by rw [List.length_set, List.length_set]; exact R.len, fun j t o' e1 e2 => ?_, R.sub, R.conf, R.vis, R.keep, R.al0, fun j k t u q ne e1 e2 l1 l2 e3 e4 => ?_⟩
    · rcases set_get e1 with ⟨rfl, rfl, _⟩ | ⟨ne, e1⟩
      · rcases set_get e2 with ⟨_, rfl, _⟩ | ⟨ne, _⟩
        · exact new
        · exact absurd rfl ne
      · rw [List.getElem?_set_ne ne] at e2
        exact R.slot j t o' e1 e2
    · rcases set_get e1 with ⟨rfl, rfl, _⟩ | ⟨n1, e1⟩
      · rcases set_get e2 with ⟨rfl, rfl, _⟩ | ⟨n2, e2⟩
        · exact ne rfl
        · rcases set_get e3 with ⟨_, e3, _⟩ | ⟨n3, _⟩
          · rw [List.getElem?_set_ne n2] at e4
            exact off l1 (Option.some.inj e3.symm) k u e2 l2 e4
          · exact n3 rfl
      · rcases set_get e2 with ⟨rfl, rfl, _⟩ | ⟨n2, e2⟩
        · rcases set_get e4 with ⟨_, e4, _⟩ | ⟨n4, _⟩
          · rw [List.getElem?_set_ne n1] at e3
            exact off l2 (Option.some.inj e4.symm) j t e1 l1 e3
          · exact n4 rfl
        · rw [List.getElem?_set_ne n1] at e3
          rw [List.getElem?_set_ne n2] at e4
          exact R.apart j k t u q ne e1 e2 l1 l2 e3 e4
  · cases h
/-- an own list in a slot is changed -/
theorem Rl.chg {B : Bd} (R : Rl B σ H C δ) {δ' : Env} {f : List QL.D → Option (List QL.D)} (h : chgSl δ i f = some δ') : ∃ q xs ds ds', σ[i]? = some (some (V.ref q)) ∧ H q = some (.lst xs) ∧ Rps B.G C ds xs ∧ f ds = some ds' ∧ (liveSl δ i = some ds) ∧ ∀ xs', Rps B.G C ds' xs' → Rl B σ (upd H q (.lst xs')) C δ' := by
  obtain ⟨ds, ds', ef, hh⟩ := chg_some h
  clear h
  have key : ∀ {s s' : Sl}, δ[i]? = some s → isLv s = true → isLv s' = true → ∀ {q : Addr}, σ[i]? = some (some (V.ref q)) → H q ≠ none → C q = none → (∀ o, B.H0 q = some o → B.L0 q) → ∀ xs', SlotR B (upd H q (.lst xs')) C i s' (some (V.ref q)) → Rl B σ (upd H q (.lst xs')) C (δ.set i s') := fun {s s'} e1 l1 l1' {q} e2 hq cq h0 xs' sl => by
    have ne : ∀ {b : Addr} {u : HO}, C b = some u → b ≠ q := fun h => ne_of_none h cq
    refine ⟨by rw [List.length_set]; exact R.len, fun j t o' g1 g2 => ?_, fun b u hb => ?_, R.conf, R.vis, fun b u g1 g2 => ?_, fun b hb => ?_, fun j k t u b nj g1 g2 k1 k2 g3 g4 => ?_⟩
    · rcases set_get g1 with ⟨rfl, rfl, _⟩ | ⟨nj, g1⟩
      · rw [e2] at g2
        cases g2
        exact sl
      · refine (R.slot j t o' g1 g2).mono (L2.Same.refl _) fun b u l eo h4 h5 => ⟨?_, h5⟩
        have nb : b ≠ q := fun z => by
          subst z
          exact R.apart i j s t b nj e1 g1 l1 l e2 (by rw [g2, eo])
        rw [upd_ne nb]; exact h4
    · rw [upd_ne (ne hb)]; exact R.sub _ _ hb
    · by_cases z : b = q
      · subst z; exact absurd (h0 _ g1) g2
      · rw [upd_ne z]; exact R.keep _ _ g1 g2
    · by_cases z : b = q
      · subst z; rw [upd_same] at hb; cases hb
      · rw [upd_ne z] at hb; exact R.al0 _ hb
    · have live : ∀ {m : Nat} {w : Sl}, (δ.set i s')[m]? = some w → isLv w = true → ∃ w0, δ[m]? = some w0 ∧ isLv w0 = true := fun {m w} g l => by
        rcases set_get g with ⟨rfl, _, _⟩ | ⟨_, g⟩
        · exact ⟨s, e1, l1⟩
        · exact ⟨w, g, l⟩
      obtain ⟨w1, x1, x2⟩ := live g1 k1
      obtain ⟨w2, y1, y2⟩ := live g2 k2
      exact R.apart j k w1 w2 b nj x1 y1 x2 y2 g3 g4
  rcases hh with ⟨h, rfl⟩ | ⟨h, rfl⟩
  · obtain ⟨o, ho, q, xs, rfl, h1, h2, h3, h4⟩ := R.at_ h
    refine ⟨q, xs, ds, ds', ho, h1, h4, ef, by unfold liveSl; rw [h], fun xs' hr => key h rfl rfl ho (by rw [h1]; exact fun z => by cases z) h2 (fun o e => by rw [h3] at e; cases e) xs' ⟨q, xs', rfl, upd_same, h2, h3, hr⟩⟩
  · obtain ⟨o, ho, q, xs, rfl, h1, h2, h3, h4⟩ := R.at_ h
    refine ⟨q, xs, ds, ds', ho, h1, h4, ef, by unfold liveSl; rw [h], fun xs' hr => key h rfl rfl ho (by rw [h1]; exact fun z => by cases z) h2 (fun o e => h3.1) xs' ⟨q, xs', rfl, upd_same, h2, h3, hr⟩⟩
/-- a slot is forgotten -/
theorem Rl.forget {B : Bd} (R : Rl B σ H C δ) : Rl B σ H C (δ.set i .un) := by
  refine ⟨by rw [List.length_set]; exact R.len, fun j t o' e1 e2 => ?_, R.sub, R.conf, R.vis, R.keep, R.al0, fun j k t u q ne e1 e2 l1 l2 e3 e4 => ?_⟩
  · rcases set_get e1 with ⟨rfl, rfl, _⟩ | ⟨ne, e1⟩
    · trivial
    · exact R.slot j t o' e1 e2
  · rcases set_get e1 with ⟨rfl, rfl, _⟩ | ⟨n1, e1⟩
    · cases l1
    · rcases set_get e2 with ⟨rfl, rfl, _⟩ | ⟨n2, e2⟩
      · cases l2
      · exact R.apart j k t u q ne e1 e2 l1 l2 e3 e4
theorem Rl.moved {B : Bd} (R : Rl B σ H C δ) {r : Rv} {δ' : Env} (h : moveSl δ i = .ok r δ') : ∃ v, σ[i]? = some (some v) ∧ Rl B σ H C δ' ∧ RvR B σ B.H0 H C δ' r v := by
  unfold moveSl at h
  have off : ∀ {s : Sl} {q : Addr}, δ[i]? = some s → isLv s = true → σ[i]? = some (some (V.ref q)) → Off σ (δ.set i .un) q := fun {s q} e l e2 j t e3 l3 e4 => by
    rcases set_get e3 with ⟨rfl, rfl, _⟩ | ⟨n, e3⟩
    · cases l3
    · exact R.apart i j s t q n e e3 l l3 e2 e4
  split at h
  · rename_i d e
    cases h
    obtain ⟨o, ho, v, rfl, hv⟩ := R.at_ e
    exact ⟨v, ho, R, hv⟩
  · rename_i ds e
    cases h
    obtain ⟨o, ho, q, xs, rfl, h1, h2, h3, h4⟩ := R.at_ e
    exact ⟨_, ho, R.forget, q, xs, rfl, h1, h2, ⟨h3, h3⟩, off e rfl ho, h4⟩
  · rename_i ks ds e
    cases h
    obtain ⟨o, ho, q, xs, rfl, h1, h2, h3, h4⟩ := R.at_ e
    exact ⟨_, ho, R.forget, q, xs, rfl, h1, h2, ⟨h3, h3⟩, off e rfl ho, h4⟩
  · cases h

/-! ### plain statements -/
theorem s_pass : PS X (.Pass pos) (tS T fun δ => .ok .nx δ) := QL.PS.imp ps_pass fun D σ H h => by
  obtain ⟨C, δ, R, h⟩ := h
  exact h σ H C R (L2.Same.refl _)
theorem s_brk : PS X (.Break pos) (tS T fun δ => .ok .bk δ) := QL.PS.imp ps_break fun D σ H h => by
  obtain ⟨C, δ, R, h⟩ := h
  exact h σ H C R (L2.Same.refl _)
theorem s_cnt : PS X (.Continue pos) (tS T fun δ => .ok .ct δ) := QL.PS.imp ps_continue fun D σ H h => by
  obtain ⟨C, δ, R, h⟩ := h
  exact h σ H C R (L2.Same.refl _)
theorem s_retN : PS X (.Return none pos) (tS T fun δ => .ok (.rt (.fz .non)) δ) := QL.PS.imp ps_retN fun D σ H h => by
  obtain ⟨C, δ, R, h⟩ := h
  exact h _ σ H C R (L2.Same.refl _) (Rp.non.mpr rfl : Rp T.B.G C _ _)
abbrev fSet (i : Nat) (fa : Env → Rs Rv) : Env → Rs Fl := fun δ => (fa δ).bind fun r δ => (optR (putSl δ i r) δ).bind fun δ' _ => .ok .nx δ'
theorem set_read {te : TE} (hte : ∀ σ H Q, tE T fa σ H Q → te σ H Q) : ∀ D σ H, tS T (fSet i fa) D σ H → tAsg te (L2.gName i) D σ H := fun D σ H h => by
  obtain ⟨C, δ, R, h⟩ := h
  refine hte _ _ _ (tE.thenS R h fun r δ1 H1 C1 v R1 s1 hv h1 => ?_)
  obtain ⟨δ', e, h2⟩ := optS h1
  exact h2 _ _ _ (R1.putRv hv e) (L2.Same.refl _)
theorem s_set (hN : X.N.Nodup) (hi : X.N[i]? = some x) (hx : Loc X.env.scope x) (he : PE X e (tE T fa)) (hs : swapsWith e (some (.Name x p)) pos.line X.env = pure false) (hf : X.fn x = true ∨ X.env.scope.names.lookup x = some .local) :
    PS X (.Assign [.Name x p] e pos) (tS T (fSet i fa)) := QL.PS.imp (ps_set hN hi hx he hs hf) (set_read fun _ _ _ h => h)
theorem s_ex (he : PE X e (tE T fa)) (hs : swapsWith e none pos.line X.env = pure false) : PS X (.Expr e pos) (tS T fun δ => (fa δ).bind fun _ δ => .ok .nx δ) := QL.PS.imp (ps_expr he hs) fun D σ H h => by
  obtain ⟨C, δ, R, h⟩ := h
  exact tE.thenS R h fun r δ1 H1 C1 v R1 s1 hv h1 => h1 σ H1 C1 R1 (L2.Same.refl _)
theorem s_ret (he : PE X e (tE T fa)) : PS X (.Return (some e) pos) (tS T fun δ => (fa δ).bind fun r δ => .ok (.rt r) δ) := QL.PS.imp (ps_ret he) fun D σ H h => by
  obtain ⟨C, δ, R, h⟩ := h
  exact tE.thenS R h fun r δ1 H1 C1 v R1 s1 hv h1 => h1 v σ H1 C1 R1 (L2.Same.refl _) (RvR.back (R.al0) hv)
theorem s_retv (hN : X.N[i]? = some x) (hv : Vis X.env.scope x) (hd : (x == ("__debug__" : Str)) = false) (hcd : (x == ("__classdict__" : Str)) = false) : PS X (.Return (some (.Name x p)) pos) (tS T fun δ => (moveSl δ i).bind fun r δ => .ok (.rt r) δ) := by
  refine QL.PS.imp (ps_ret (pe_var hN hv hd hcd)) fun D σ H h => ?_
  obtain ⟨C, δ, R, h⟩ := h
  dsimp only at h
  cases e : moveSl δ i with
  | ok r δ' =>
    rw [e] at h
    obtain ⟨v, ev, R', hv⟩ := R.moved e
    exact ⟨v, ev, h v σ H C R' (L2.Same.refl _) hv⟩
  | er x δ' =>
    unfold moveSl at e
    split at e <;> cases e
  | no => rw [e] at h; exact h.elim
variable {ga gb : Env → Rs Fl} {sa sb : List Stmt} {st : Stmt}
abbrev fIf (fc : Env → Rs Rv) (ga gb : Env → Rs Fl) : Env → Rs Fl := fun δ => (fc δ).bind fun x δ => match x with
    | .fz (.bl true) => ga δ
    | .fz (.bl false) => gb δ
    | _ => .no
theorem s_if (hc : PT X c (tT T fc)) (ha : PSs X sa (tS T ga)) (hb : PSs X sb (tS T gb)) : PS X (.If c sa sb pos) (tS T (fIf fc ga gb)) := QL.PS.imp (ps_if hc ha hb) fun D σ H h => by
  obtain ⟨C, δ, R, h⟩ := h
  refine tT.thenS R h no_bool fun b δ1 H1 C1 R1 s1 h1 => ?_
  cases b with
  | true => exact iteT ⟨C1, δ1, R1, h1⟩
  | false => exact iteF ⟨C1, δ1, R1, h1⟩
theorem s_nil : PSs X [] (tS T fun δ => .ok .nx δ) := QL.PSs.imp pss_nil fun D σ H h => by
  obtain ⟨C, δ, R, h⟩ := h
  exact h σ H C R (L2.Same.refl _)
abbrev fSq (ga gb : Env → Rs Fl) : Env → Rs Fl := fun δ => (ga δ).bind fun f δ => match f with
    | .nx => gb δ
    | f => .ok f δ
theorem s_cons (ha : PS X st (tS T ga)) (hb : PSs X sb (tS T gb)) : PSs X (st :: sb) (tS T (fSq ga gb)) := QL.PSs.imp (pss_cons ha hb) fun D σ H h => by
  obtain ⟨C, δ, R, h⟩ := h
  refine ⟨C, δ, R, ?_⟩
  dsimp only [fSq] at h
  cases e : ga δ with
  | ok f δ1 =>
    rw [e] at h
    cases f with
    | nx => exact fun σ' H' C' R' s' => ⟨C', δ1, R', OutS.base h s'⟩
    | bk => exact h
    | ct => exact h
    | rt r => exact h
  | er x δ1 => rw [e] at h; exact h
  | no => rw [e] at h; exact h

/-! ### own lists changed in place -/
theorem live_sl {B : Bd} (R : Rl B σ H C δ) {ds : List QL.D} (h : liveSl δ i = some ds) : ∃ q xs, σ[i]? = some (some (V.ref q)) ∧ H q = some (.lst xs) ∧ Rps B.G C ds xs := by
  unfold liveSl at h
  split at h
  · rename_i e
    cases h
    obtain ⟨o, ho, q, xs, rfl, h1, _, _, h4⟩ := R.at_ e
    exact ⟨q, xs, ho, h1, h4⟩
  · rename_i e
    cases h
    obtain ⟨o, ho, q, xs, rfl, h1, _, _, h4⟩ := R.at_ e
    exact ⟨q, xs, ho, h1, h4⟩
  · cases h
abbrev fApp (i : Nat) (fa : Env → Rs Rv) : Env → Rs Fl := fun δ => (optR (liveSl δ i) δ).bind fun _ δ => (fa δ).bind fun y δ => (optR (chgSl δ i fun ds => if ds.length < LIM then some (ds ++ [y.d]) else none) δ).bind fun δ' _ => .ok .nx δ'
theorem s_app (hN : X.N[i]? = some x) (hv : Vis X.env.scope x) (hd : (x == ("__debug__" : Str)) = false) (hcd : (x == ("__classdict__" : Str)) = false) (he : PE X e (tE T fa)) (hs : starEach [e] X.env = (false, eval e X.env) :: starEach [] X.env) {ap : Pos}
    (hb : ∀ {to : TE} {t : TA}, PE X (.Name x p) to → PA X [e] t → PE X (.Call (.Attribute (.Name x p) "append" ap) [e] [] p2) (tBM X.K "list" rAppend to t)) :
    PS X (.Expr (.Call (.Attribute (.Name x p) "append" ap) [e] [] p2) pos) (tS T (fApp i fa)) := by
  refine QL.PS.imp (ps_expr (hb (pe_var hN hv hd hcd) (pa_cons he pa_nil hs)) rfl) fun D σ H h => ?_
  obtain ⟨C, δ, R, h⟩ := h
  obtain ⟨ds0, e0, h⟩ := optS h
  obtain ⟨q, xs, eq, hq, _⟩ := live_sl R e0
  refine ⟨_, eq, .inl ⟨rfl, xs, .of hq⟩, ?_⟩
  refine tE.thenD R h fun y δ1 H1 C1 v R1 s1 p1 h1 => ?_
  obtain ⟨δ', e1, h2⟩ := optS h1
  obtain ⟨q', xs1, ds, ds', g1, g2, g3, g4, g5, g6⟩ := R1.chg e1
  rw [eq] at g1
  cases g1
  split at g4
  · rename_i hl
    cases g4
    exact ⟨q, xs1, v, rfl, rfl, g2, by rw [← g3.len]; exact len_szlt hl, h2 _ _ _ (g6 _ (g3.append (.one p1))) (L2.Same.refl _)⟩
  · cases g4
abbrev fSix (i : Nat) (fk fa : Env → Rs Rv) : Env → Rs Fl := fun δ => (fa δ).bind fun y δ => (optR (liveSl δ i) δ).bind fun _ δ => (fk δ).bind fun x δ => match x.d with
    | .int j => (optR (chgSl δ i fun ds => (ixN ds.length j).map fun n => ds.set n y.d) δ).bind fun δ' _ => .ok .nx δ'
    | _ => .no
theorem s_six (hN : X.N[i]? = some x) (hv : Vis X.env.scope x) (hd : (x == ("__debug__" : Str)) = false) (hcd : (x == ("__classdict__" : Str)) = false) (hk : PE X b (tE T fb)) (he : PE X e (tE T fa)) {ap : Pos}
    (hb : ∀ {te to ti : TE}, PE X e te → PE X (.Name x p) to → PE X b ti → PS X (.Assign [.Subscript (.Name x p) b ap] e pos) (tAsg te (gSub to ti rSetL))) :
    PS X (.Assign [.Subscript (.Name x p) b ap] e pos) (tS T (fSix i fb fa)) := by
  refine QL.PS.imp (hb he (pe_var hN hv hd hcd) hk) fun D σ H h => ?_
  obtain ⟨C, δ, R, h⟩ := h
  refine tE.thenD R h fun y δ1 H1 C1 v R1 s1 p1 h1 => ?_
  obtain ⟨ds0, e0, h1⟩ := optS h1
  obtain ⟨q, xs, eq, hq, _⟩ := live_sl R1 e0
  refine ⟨_, eq, ?_⟩
  refine tE.thenD R1 h1 fun k δ2 H2 C2 w R2 s2 p2 h2 => ?_
  split at h2
  · rename_i j ej
    obtain ⟨δ', e1, h3⟩ := optS h2
    obtain ⟨q', xs1, ds, ds', g1, g2, g3, g4, g5, g6⟩ := R2.chg e1
    rw [eq] at g1
    cases g1
    obtain ⟨n, en, rfl⟩ := Option.map_eq_some_iff.mp g4
    rw [ej] at p2
    rw [g3.len] at en
    exact ⟨q, xs1, j, n, rfl, Rp.int.mp p2, g2, en, h3 _ _ _ (g6 _ (Rps.set (Rp.mono s2.cs _ _ p1) n g3)) (L2.Same.refl _)⟩
  · exact h2.elim

/-! ### targets -/
/-- what a target stores -/
def TgR (T : Tx) (is : List Nat) (g : TG) : Prop := ∀ (σ : L2.St) (H C : Hp) (δ δ' : Env) (d : QL.D) (v : V) (Q : L2.St → Hp → Prop), Rl T.B σ H C δ → Rp T.B.G C d v → bindT δ is d = some δ' → (∀ σ', Rl T.B σ' H C δ' → Q σ' H) → g v σ H Q
theorem tg_one : TgR T [i] (L2.gName i) := fun σ H C δ δ' d v Q R hr e k => k _ (R.putRv (Hb := H) (r := .fz d) hr e)
/-- rows of plain names -/
def tgs : List Nat → TGs
  | [] => L2.gNil
  | i :: is => L2.gCons (L2.gName i) (tgs is)
theorem tgs_read : ∀ {is : List Nat} {σ : L2.St} {δ δ' : Env} {ds : List QL.D} {vs : List V} {Q : L2.St → Hp → Prop}, Rl T.B σ H C δ → Rps T.B.G C ds vs → putAll δ is ds = some δ' → (∀ σ', Rl T.B σ' H C δ' → Q σ' H) → tgs is vs σ H Q
  | [], σ, δ, δ', ds, vs, Q, R, hr, e, k => by
    cases ds with
    | nil => cases e; exact ⟨Rps.nil.mp hr, k _ R⟩
    | cons d ds => cases e
  | i :: is, σ, δ, δ', ds, vs, Q, R, hr, e, k => by
    cases ds with
    | nil => cases e
    | cons d ds =>
      obtain ⟨x, r, rfl, h1, h2⟩ := Rps.cons.mp hr
      obtain ⟨δ1, e1, e2⟩ := Option.bind_eq_some_iff.mp (show ((putSl δ i (.fz d)).bind fun δ' => putAll δ' is ds) = some δ' from e)
      exact ⟨x, r, rfl, tgs_read (R.putRv (Hb := H) (r := .fz d) h1 e1) h2 e2 k⟩
theorem putAll_len : ∀ {is : List Nat} {ds : List QL.D} {δ δ' : Env}, putAll δ is ds = some δ' → ds.length = is.length
  | [], [], _, _, _ => rfl
  | [], _ :: _, _, _, e => by cases e
  | _ :: _, [], _, _, e => by cases e
  | i :: is, d :: ds, δ, δ', e => by
    obtain ⟨δ1, e1, e2⟩ := Option.bind_eq_some_iff.mp (show ((putSl δ i (.fz d)).bind fun δ' => putAll δ' is ds) = some δ' from e)
    rw [List.length_cons, List.length_cons, putAll_len e2]
theorem tg_tup (hK : X.K = T.B.G.K) {i j : Nat} {is : List Nat} : TgR T (i :: j :: is) (gTup X.K (i :: j :: is).length (tgs (i :: j :: is))) := fun σ H C δ δ' d v Q R hr e k => by
  cases d <;> first | (cases e; done) | skip
  rename_i ds
  obtain ⟨a, xs, rfl, h1, h2⟩ := Rp.tup.mp hr
  have e : putAll δ (i :: j :: is) ds = some δ' := e
  exact ⟨a, xs, rfl, hK ▸ QL.Same.sqT R.sub h1, by rw [← h2.len]; exact putAll_len e, tgs_read R h2 e k⟩
abbrev fTset (is : List Nat) (fa : Env → Rs Rv) : Env → Rs Fl := fun δ => (fa δ).bind fun r δ => match r.d with
    | .tup ds => (optR (putAll δ is ds) δ).bind fun δ' _ => .ok .nx δ'
    | _ => .no
theorem s_tset (hK : X.K = T.B.G.K) {is : List Nat} (he : PE X e (tE T fa)) (hb : ∀ {te : TE}, PE X e te → PS X (.Assign [tg] e pos) (tAsg te (gTup X.K is.length (tgs is)))) : PS X (.Assign [tg] e pos) (tS T (fTset is fa)) := by
  refine QL.PS.imp (hb he) fun D σ H h => ?_
  obtain ⟨C, δ, R, h⟩ := h
  refine tE.thenD R h fun r δ1 H1 C1 v R1 s1 p1 h1 => ?_
  split at h1
  · rename_i ds ed
    obtain ⟨δ', e1, h2⟩ := optS h1
    rw [ed] at p1
    obtain ⟨a, xs, rfl, g1, g2⟩ := Rp.tup.mp p1
    exact ⟨a, xs, rfl, hK ▸ QL.Same.sqT R1.sub g1, by rw [← g2.len]; exact putAll_len e1, tgs_read R1 g2 e1 fun σ' R' => h2 σ' H1 C1 R' (L2.Same.refl _)⟩
  · exact h1.elim

/-! ### loops -/
theorem tI.thenS {k : List QL.D → Env → Rs Fl} {Q : It → Hp → Prop} (R : Rl T.B σ H C δ) (h : OutS T C D ((fi δ).bind k))
    (hk : ∀ ds δ1 H1 C1 J, Rl T.B σ H1 C1 δ1 → Wk T.B.G C1 ds J → OutS T C1 D (k ds δ1) → Q J H1) : tI T fi σ H Q := by
  refine ⟨C, δ, R, ?_⟩
  cases e : fi δ with
  | ok r δ1 =>
    rw [e] at h
    intro H1 C1 R1 s1 J w
    exact hk r δ1 H1 C1 J R1 w (OutS.base h s1.cs)
  | er x δ1 =>
    rw [e] at h
    exact fun cls dd H' C' R' hx => h cls dd σ H' C' R' hx
  | no => rw [e] at h; exact h
abbrev fFor (is : List Nat) (fi : Env → Rs (List QL.D)) (gb : Env → Rs Fl) : Env → Rs Fl := fun δ => (fi δ).bind fun xs δ => forGo is gb xs δ
theorem s_for {g : TG} {is : List Nat} (hp : PassesOwn (model X.prog X.w) X.A X.env X.xe) (hc : X.calm = true) (hi : PI X tg a (tI T fi)) (hg : PG X tg g) (tr : TgR T is g) (hb : PSs X sb (tS T gb)) (hs : ∀ x, foldedSetIterable a X.env x = pure x) :
    PS X (.For tg a sb [] pos) (tS T (fFor is fi gb)) := by
  refine QL.PS.imp (ps_for hp hc hi hg hb hs) fun D σ H h => ?_
  obtain ⟨C, δ, R, h⟩ := h
  refine tI.thenS R h fun ds δ1 H1 C1 J R1 wk h1 => ?_
  refine ⟨fun j m σ H => m = ds.length - j ∧ j ≤ ds.length ∧ ∃ C' δ', Rl T.B σ H C' δ' ∧ Same C1 C' ∧ OutS T C' D (forGo is gb (ds.drop j) δ'), ⟨ds.length, by simp, Nat.zero_le _, C1, δ1, R1, L2.Same.refl _, h1⟩, ?_⟩
  rintro j m σ' H' ⟨rfl, hj, C', δ', R', sc, ho⟩
  have sm : Same C1 H' := sc.trans R'.sub
  by_cases hlt : j < ds.length
  · refine .inr ⟨wk.go j H' sm hlt, fun σ2 H2 => ∃ C' δ', Rl T.B σ2 H2 C' δ' ∧ Same C1 C' ∧ OutS T C' D (forGo is gb (ds.drop (j + 1)) δ'), fun σ2 H2 z => ⟨ds.length - (j + 1), by omega, rfl, hlt, z⟩, fun x H'' y => ?_⟩
    obtain ⟨rfl, d, ed, rd⟩ := wk.yld j H' x H'' sm hlt y
    have edr : ds.drop j = d :: ds.drop (j + 1) := by
      rw [List.drop_eq_getElem_cons hlt]
      rw [List.getElem?_eq_getElem hlt] at ed
      cases ed
      rfl
    rw [edr] at ho
    unfold forGo at ho
    cases eb : bindT δ' is d with
    | none => rw [eb] at ho; exact ho.elim
    | some δ2 =>
      rw [eb] at ho
      dsimp only at ho
      refine tr σ' H'' C' δ' δ2 d x _ R' (Rp.mono sc _ _ rd) eb fun σ2 R2 => ⟨C', δ2, R2, ?_⟩
      cases ee : gb δ2 with
      | ok f δ3 =>
        rw [ee] at ho
        cases f with
        | nx => exact fun σ3 H3 C3 R3 s3 => ⟨C3, δ3, R3, sc.trans s3, OutS.base ho s3⟩
        | ct => exact fun σ3 H3 C3 R3 s3 => ⟨C3, δ3, R3, sc.trans s3, OutS.base ho s3⟩
        | bk => exact ho
        | rt r => exact ho
      | er x δ3 => rw [ee] at ho; exact ho
      | no => rw [ee] at ho; exact ho
  · refine .inl ⟨wk.stop j H' sm (by omega), ?_⟩
    rw [List.drop_eq_nil_of_le (by omega)] at ho
    exact ho σ' H' C' R' (L2.Same.refl _)
theorem s_whl (hp : PassesOwn (model X.prog X.w) X.A X.env X.xe) (hc : PT X c (tT T fc)) (hb : PSs X sb (tS T gb)) : PS X (.While c sb [] pos) (tS T fun δ => whlGo fc gb WH δ) := by
  refine QL.PS.imp (ps_while hp hc hb) fun D σ H h => ?_
  obtain ⟨C, δ, R, h⟩ := h
  refine ⟨fun m σ H => ∃ C' δ', Rl T.B σ H C' δ' ∧ Same C C' ∧ OutS T C' D (whlGo fc gb m δ'), ⟨WH, C, δ, R, L2.Same.refl _, h⟩, ?_⟩
  rintro m σ' H' ⟨C', δ', R', sc, ho⟩
  cases m with
  | zero => exact ho.elim
  | succ m =>
    unfold whlGo at ho
    refine tT.thenS R' ho ?_ fun b δ1 H1 C1 R1 s1 h1 => ?_
    · intro r δ hn
      exact no_bool (f := fun δ => (gb δ).bind fun f δ2 => match f with
        | .nx => whlGo fc gb m δ2
        | .ct => whlGo fc gb m δ2
        | .bk => .ok .nx δ2
        | .rt r => .ok (.rt r) δ2) (g := fun δ => .ok .nx δ) r δ hn
    · cases b with
      | false => exact iteF (h1 σ' H1 C1 R1 (L2.Same.refl _))
      | true =>
        refine iteT ⟨fun σ2 H2 => ∃ C' δ', Rl T.B σ2 H2 C' δ' ∧ Same C C' ∧ OutS T C' D (whlGo fc gb m δ'), fun σ2 H2 z => ⟨m, by omega, z⟩, C1, δ1, R1, ?_⟩
        dsimp only at h1
        cases ee : gb δ1 with
        | ok f δ3 =>
          rw [ee] at h1
          cases f with
          | nx => exact fun σ3 H3 C3 R3 s3 => ⟨C3, δ3, R3, (sc.trans s1.cs).trans s3, OutS.base h1 s3⟩
          | ct => exact fun σ3 H3 C3 R3 s3 => ⟨C3, δ3, R3, (sc.trans s1.cs).trans s3, OutS.base h1 s3⟩
          | bk => exact h1
          | rt r => exact h1
        | er x δ3 => rw [ee] at h1; exact h1
        | no => rw [ee] at h1; exact h1

/-! ### x op= e of whole numbers -/
abbrev fAug (i : Nat) (o : BOp) (fa : Env → Rs Rv) : Env → Rs Fl := fun δ => match δ[i]? with
    | some (.fz d) => (fa δ).bind fun y δ => match d, binD o d y.d with
      | .int _, some r => (optR (putSl δ i r) δ).bind fun δ' _ => .ok .nx δ'
      | _, _ => .no
    | _ => .no
theorem s_aug {o : BOp} {op : Operator} {g : Int → Int → Int} (hip : PIp X op (ipI g)) (ho : ∀ m dy r, binD o (.int m) dy = some r → ∃ n, dy = .int n ∧ r = .fz (.int (g m n))) (hN : X.N.Nodup) (hi : X.N[i]? = some x) (hx : Loc X.env.scope x) (he : PE X e (tE T fa)) (hf : X.fn x = true ∨ X.env.scope.names.lookup x = some .local) :
    PS X (.AugAssign (.Name x p) op e pos) (tS T (fAug i o fa)) := by
  refine QL.PS.imp (ps_aug hN hi hx he hip hf) fun D σ H h => ?_
  obtain ⟨C, δ, R, h⟩ := h
  dsimp only [fAug] at h
  cases e0 : δ[i]? with
  | none => rw [e0] at h; exact h.elim
  | some s =>
    rw [e0] at h
    cases s with
    | fz d =>
      obtain ⟨o', ho', v, rfl, hv⟩ := R.at_ e0
      refine ⟨v, ho', ?_⟩
      refine tE.thenD R h fun y δ1 H1 C1 w R1 s1 p1 h1 => ?_
      split at h1
      · rename_i m r em
        obtain ⟨n, en, rfl⟩ := ho _ _ _ em
        obtain ⟨δ', e1, h2⟩ := optS h1
        rw [en] at p1
        refine ⟨m, n, Rp.int.mp hv, Rp.int.mp p1, h2 _ _ _ (R1.putRv (Hb := H1) (r := .fz (.int (g m n))) (show Rp T.B.G C1 _ _ from Rp.int.mpr rfl) e1) (L2.Same.refl _)⟩
      · exact h1.elim
    | un => exact h.elim
    | lv ds => exact h.elim
    | lp ds => exact h.elim
    | dv ks ds => exact h.elim
theorem s_augadd (hN : X.N.Nodup) (hi : X.N[i]? = some x) (hx : Loc X.env.scope x) (he : PE X e (tE T fa)) (hf : X.fn x = true ∨ X.env.scope.names.lookup x = some .local) : PS X (.AugAssign (.Name x p) .Add e pos) (tS T (fAug i .add fa)) :=
  s_aug ip_add (fun m dy r h => by cases dy <;> cases h; exact ⟨_, rfl, rfl⟩) hN hi hx he hf
theorem s_augsub (hN : X.N.Nodup) (hi : X.N[i]? = some x) (hx : Loc X.env.scope x) (he : PE X e (tE T fa)) (hf : X.fn x = true ∨ X.env.scope.names.lookup x = some .local) : PS X (.AugAssign (.Name x p) .Sub e pos) (tS T (fAug i .sub fa)) :=
  s_aug ip_sub (fun m dy r h => by cases dy <;> cases h; exact ⟨_, rfl, rfl⟩) hN hi hx he hf
end
end QL

end
section
set_option Elab.async false
set_option linter.all false
/-! Q10: a def keeps what its body tells. -/
namespace QL
open PySem PySem.Spec PyProof.Rows L2

theorem lpOk_get : ∀ {as : List Sl} {δ : Env} {i : Nat} {ds : List D}, lpOk as δ = true → as[i]? = some (.lp ds) → ∃ ds', δ[i]? = some (.lp ds')
  | [], δ, i, ds, _, e => by simp at e
  | s :: as, [], i, ds, h, e => by cases s <;> cases h
  | s :: as, t :: δ, 0, ds, h, e => by
    cases (Option.some.inj e)
    cases t <;> first | (cases h; done) | exact ⟨_, rfl⟩
  | s :: as, t :: δ, i + 1, ds, h, e => by
    have h' : lpOk as δ = true := by
      cases s with
      | lp d => cases t <;> first | (cases h; done) | exact h
      | _ => exact h
    exact lpOk_get (i := i) h' e

section
variable {G : Gd} {Y : Xg} {H C : Hp} {vs : List V} {as : List Sl} {E : XK}
/-- where an own argument stands -/
def paOf (vs : List V) (as : List Sl) (i : Nat) : Option Addr := match as[i]?, vs[i]? with
  | some (.lp _), some (.ref a) => some a
  | _, _ => none
abbrev txOf (G : Gd) (Y : Xg) (H C : Hp) (vs : List V) (as : List Sl) (E : XK) : Tx := ⟨⟨G, H, C, lpA vs as, paOf vs as⟩, Y, fun cls dd _ H' => E cls dd H'⟩
theorem rl_start {N : List Str} (h : ArgsR G H C vs as) (hl : vs.length ≤ N.length) : Rl (txOf G Y H C vs as E).B (L2.start N vs) H C (as ++ List.replicate (N.length - as.length) .un) := by
  have gs : ∀ {i : Nat} {s : Sl}, (as ++ List.replicate (N.length - as.length) .un)[i]? = some s → (as[i]? = some s) ∨ s = .un := fun {i s} e => by
    by_cases hi : i < as.length
    · rw [List.getElem?_append_left hi] at e
      exact .inl e
    · rw [List.getElem?_append_right (by omega), List.getElem?_replicate] at e
      split at e
      · cases e; exact .inr rfl
      · cases e
  have gv : ∀ {i : Nat}, i < vs.length → (L2.start N vs)[i]? = (vs[i]?).map some := fun {i} hi => by
    unfold L2.start
    rw [List.getElem?_append_left (by rw [List.length_map]; exact hi), List.getElem?_map]
  have idx : ∀ {i : Nat} {s : Sl}, as[i]? = some s → i < vs.length := fun {i s} e => by
    rw [h.len]; exact (List.getElem?_eq_some_iff.mp e).1
  refine ⟨?_, fun i s o e1 e2 => ?_, h.sub, fun a o e => .inl e, L2.Same.refl _, fun a o e _ => e, fun a e => e, fun i j s t a ne e1 e2 l1 l2 e3 e4 => ?_⟩
  · unfold L2.start
    rw [List.length_append, List.length_append, List.length_map, List.length_replicate, List.length_replicate, h.len]
  · rcases gs e1 with e1 | rfl
    · have hi := idx e1
      rw [gv hi] at e2
      obtain ⟨v, ev, rfl⟩ := Option.map_eq_some_iff.mp e2
      have q := h.arg i s v e1 ev
      cases s with
      | fz d => exact ⟨v, rfl, q⟩
      | lp ds =>
        obtain ⟨a, xs, rfl, h1, h2, h3⟩ := q
        refine ⟨a, xs, rfl, h1, h2, ⟨⟨i, ds, e1, ev⟩, ?_⟩, h3⟩
        show paOf vs as i = some a
        unfold paOf
        rw [e1, ev]
      | un => exact q.elim
      | lv ds => exact q.elim
      | dv ks ds => exact q.elim
    · trivial
  · rcases gs e1 with e1 | rfl
    · rcases gs e2 with e2 | rfl
      · have hi := idx e1
        have hj := idx e2
        rw [gv hi] at e3
        rw [gv hj] at e4
        obtain ⟨v, ev, z⟩ := Option.map_eq_some_iff.mp e3
        cases z
        obtain ⟨w, ew, z⟩ := Option.map_eq_some_iff.mp e4
        cases z
        have lp : ∀ {k : Nat} {u : Sl} {y : V}, as[k]? = some u → vs[k]? = some y → isLv u = true → ∃ ds, u = .lp ds := fun {k u y} f1 f2 f3 => by
          have q := h.arg k u y f1 f2
          cases u with
          | fz d => cases f3
          | un => cases f3
          | lp ds => exact ⟨ds, rfl⟩
          | lv ds => exact q.elim
          | dv ks ds => exact q.elim
        obtain ⟨ds, rfl⟩ := lp e1 ev l1
        obtain ⟨es, rfl⟩ := lp e2 ew l2
        exact h.apart i j ds es a ne e1 e2 ev ew
      · cases l2
    · cases l1
theorem end_of {σ' : L2.St} {H' C' : Hp} {δ' : Env} (h : ArgsR G H C vs as) (R : Rl (txOf G Y H C vs as E).B σ' H' C' δ') (hl : lpOk as δ' = true) (cs : Same C C') : EndR G H C vs as H' C' (δ'.take as.length) := by
  refine ⟨cs, R.sub, R.conf, R.keep, R.al0, fun i ds a e1 e2 => ?_⟩
  obtain ⟨ds', e3⟩ := lpOk_get hl e1
  obtain ⟨o, ho, a', xs, rfl, h1, h2, h3, h4⟩ := R.at_ e3
  have ea : a = a' := by
    have z : paOf vs as i = some a' := h3.2
    unfold paOf at z
    rw [e1, e2] at z
    exact Option.some.inj z
  subst ea
  refine ⟨ds', xs, ?_, h1, h2, h4⟩
  rw [List.getElem?_take_of_lt (List.getElem?_eq_some_iff.mp e1).1]
  exact e3
theorem rvo_of {σ' : L2.St} {H' C' : Hp} {δ' : Env} {r : Rv} {v : V} (h : RvR (txOf G Y H C vs as E).B σ' H H' C' δ' r v) : RvO G H H' C' r v := by
  cases r with
  | fz d => exact h
  | lv ds => obtain ⟨a, xs, h1, h2, h3, h4, _, h6⟩ := h; exact ⟨a, xs, h1, h2, h3, h4.1, h6⟩
  | dv ks ds => obtain ⟨a, xs, h1, h2, h3, h4, _, h6⟩ := h; exact ⟨a, xs, h1, h2, h3, h4.1, h6⟩
end
/-- THE RULE: a def of the text, its body checked, keeps the promise of its small body -/
theorem fn_ok {P : Program} {w : World} {G : Gd} {Y : Xg} {mg : Str → Option Value} {base : Heap} {x qual : Str} {params : Arguments} {body : List Stmt} {scope : Scope} {dvs : List V} {kws : List (Str × V)} {f : Addr} {fd : FuncData} {N ps : List Str} {k np : Nat} {R : Pr} {dfl : List D} {b : Ss}
    (F : FunD G.K x qual params body scope dvs kws f fd) (S : FnScope N ps scope) (hnp : ps.length = np)
    (hb : ∀ (cdv : Value) (A : Around) (outer : List PySem.Env) (s : Shared) (H C : Hp) (vs : List V) (as : List Sl) (E : XK), Room k (A.deeper (envOfC qual scope s.heap.objs.size f cdv)) →
      PSs (cxOf (L2.CX P w) P w G.K mg base N qual scope f cdv A outer s H E) body (tS (txOf G Y H C vs as E) (exs R b))) :
    FnOk P w G.K mg base (L2.CX P w) (k + 1) f fd ps (spF G Y (mk R np N.length dfl b)) := by
  refine F.ok S (fun vs H Q E h => ?_) fun cdv A outer s H vs Q E hr h => ?_
  · obtain ⟨as, C, h1, h2, _⟩ := h
    rw [h1.len, hnp]
    exact h2
  · obtain ⟨as, C, h1, h2, h3⟩ := h
    have hN : ps.length ≤ N.length := by
      have := congrArg List.length S.pre
      rw [List.length_take] at this
      omega
    have hl : vs.length ≤ N.length := by
      have h2 : as.length = np := h2
      rw [h1.len, h2, ← hnp]
      exact hN
    refine ⟨_, hb cdv A outer s H C vs as E hr, C, _, rl_start h1 hl, ?_⟩
    have h3 : match fin as (exs R b (as ++ List.replicate (N.length - as.length) .un)) with
      | .ok r outs => ∀ v H' C', EndR G H C vs as H' C' outs → RvO G H H' C' r v → Q v H'
      | .er x outs => ∀ cls dd H' C', EndR G H C vs as H' C' outs → XnR G Y H' C' x cls dd → E cls dd H'
      | .no => False := h3
    generalize exs R b (as ++ List.replicate (N.length - as.length) .un) = out at h3 ⊢
    cases out with
    | no => exact h3
    | er x δ' =>
      unfold fin at h3
      dsimp only at h3
      split at h3
      · rename_i r outs e; split at e <;> cases e
      · rename_i x' outs e
        split at e
        · rename_i hlp
          cases e
          intro cls dd σ' H' C' R' _ hx
          exact h3 cls dd H' C' (end_of h1 R' hlp R'.vis) hx
        · cases e
      · exact h3.elim
    | ok f δ' =>
      cases f with
      | bk => exact h3.elim
      | ct => exact h3.elim
      | nx =>
        unfold fin at h3
        dsimp only at h3
        split at h3
        · rename_i r outs e
          split at e
          · rename_i hlp
            cases e
            intro σ' H' C' R' cs
            exact h3 _ H' C' (end_of h1 R' hlp cs) (Rp.non.mpr rfl : Rp G C' _ _)
          · cases e
        · rename_i x' outs e; split at e <;> cases e
        · exact h3.elim
      | rt r =>
        unfold fin at h3
        dsimp only at h3
        split at h3
        · rename_i r outs e
          split at e
          · rename_i hlp
            cases e
            intro v σ' H' C' R' cs hv
            exact h3 v H' C' (end_of h1 R' hlp cs) (rvo_of hv)
          · cases e
        · rename_i x' outs e; split at e <;> cases e
        · exact h3.elim
end QL

end
section
set_option Elab.async false
set_option linter.all false
/-! Q11: the small syntax is held against the text's own; expressions. -/
namespace QL
open PySem PySem.Spec PyProof.Rows L2

/-- the names' places: slots, defs, constants of the module, classes, methods, error classes; the defs' parameters and defaults, counted -/
structure Ct where
  N : List Str
  fns : List Str
  ars : List (Nat × Nat)
  gls : List Str
  cls : List Str
  mts : List Str
  /-- the error classes' names, fields; those that are raised; which is under which -/
  xcs : List Str
  xfs : List Str
  xrs : List Nat
  sb : Nat → Nat → Bool

def visB (sc : Scope) (x : Str) : Bool := match sc.names.lookup x with
  | some .local => true
  | some .cell => true
  | some .free => true
  | _ => false
def glB (sc : Scope) (x : Str) : Bool := decide (sc.names.lookup x = some .globalImplicit)
def okB (x : Str) : Bool := !(x == ("__debug__" : Str)) && !(x == ("__classdict__" : Str))
def nmB (K : Ct) (sc : Scope) (i : Nat) (x : Str) : Bool := decide (K.N[i]? = some x) && (visB sc x && okB x)
def bnames : List Str := ["len", "max", "min", "abs", "int", "tuple", "list", "sorted", "all", "any", "sum", "isinstance", "bool", "str", "range"]
def biS : Bi → Str
  | .len => "len"
  | .max2 => "max"
  | .min2 => "min"
  | .abs => "abs"
  | .int1 => "int"
  | .tuple => "tuple"
  | .list => "list"
  | .sorted => "sorted"
  | .all => "all"
  | .any => "any"
  | .sum => "sum"
def tyStr : Ty → Str
  | .int => "int"
  | .bool => "bool"
  | .str => "str"
  | .tuple => "tuple"
  | .list => "list"
def cstB : D → Const → Bool
  | .non, .none => true
  | .bl a, .bool b => a == b
  | .int i, .int j => decide (i = j)
  | .str x, .str y => decide (x = y)
  | _, _ => false
def tyNB (sc : Scope) (t : Ty) : Expr → Bool
  | .Name x _ => decide (x = tyStr t) && glB sc x
  | _ => false
def tyNsB (sc : Scope) : List Ty → List Expr → Bool
  | [], [] => true
  | t :: ts, e :: es => tyNB sc t e && tyNsB sc ts es
  | _, _ => false
def ownB (sc scope : Scope) (x : Str) : Bool := match (relS scope sc).names.lookup x with
  | some .local => true
  | some .cell => decide (scope.names.lookup x = some .cell)
  | _ => false
/-- the target of a comprehension, a name of its own -/
def lcTg (K : Ct) (sc scope : Scope) (i : Nat) : Expr → Bool
  | .Name x _ => decide (K.N[i]? = some x) && (blkC K.N sc scope [(x, i)] && ownB sc scope x)
  | _ => false
def isSetE : Expr → Bool
  | .Set _ _ _ => true
  | _ => false
def isTrueE : E → Bool
  | .c (.bl true) => true
  | _ => false
def Es.len : Es → Nat
  | .nil => 0
  | .cons _ es => es.len + 1

mutual
def chkE (K : Ct) : Scope → E → Expr → Bool
  | sc, .v i, e => (match e with
    | .Name x _ => nmB K sc i x
    | _ => false)
  | sc, .c d, e => (match e with
    | .Constant c _ _ => cstB d c
    | _ => false)
  | sc, .g k, e => (match e with
    | .Name x _ => decide (K.gls[k]? = some x) && (glB sc x && okB x)
    | _ => false)
  | sc, .neg a, e => (match e with
    | .UnaryOp .USub x _ => chkE K sc a x
    | _ => false)
  | sc, .bin o a b, e => (match e with
    | .BinOp x op y _ => decide (op = opOf o) && (chkE K sc a x && chkE K sc b y)
    | _ => false)
  | sc, .cmp o a b, e => (match e with
    | .Compare x [op] [y] _ => decide (op = cmpOf o) && (!behindInMarks op y && (chkE K sc a x && chkE K sc b y))
    | _ => false)
  | sc, .ch2 o p a b c, e => (match e with
    | .Compare x [op, op'] [y, z] _ => decide (op = cmpOf o) && (decide (op' = cmpOf p) && (!lastMarks [op, op'] [y, z] && (chkE K sc a x && (chkE K sc b y && chkE K sc c z))))
    | _ => false)
  | sc, .ch3 o p q a b c d, e => (match e with
    | .Compare x [op, op', op''] [y, z, u] _ => decide (op = cmpOf o) && (decide (op' = cmpOf p) && (decide (op'' = cmpOf q) && (!lastMarks [op, op', op''] [y, z, u] && (chkE K sc a x && (chkE K sc b y && (chkE K sc c z && chkE K sc d u))))))
    | _ => false)
  | sc, .and_ a b, e => (match e with
    | .BoolOp .And (x :: y :: rest) pos => chkE K sc a x && (match rest with
      | [] => chkE K sc b y
      | z :: r => chkE K sc b (.BoolOp .And (y :: z :: r) pos))
    | _ => false)
  | sc, .or_ a b, e => (match e with
    | .BoolOp .Or (x :: y :: rest) pos => chkE K sc a x && (match rest with
      | [] => chkE K sc b y
      | z :: r => chkE K sc b (.BoolOp .Or (y :: z :: r) pos))
    | _ => false)
  | sc, .not_ a, e => (match e with
    | .UnaryOp .Not x _ => chkE K sc a x
    | _ => false)
  | sc, .ife c a b, e => (match e with
    | .IfExp z x y _ => chkE K sc c z && (chkE K sc a x && chkE K sc b y)
    | _ => false)
  | sc, .tup es, e => (match e with
    | .Tuple l _ _ => chkEs K sc es l
    | _ => false)
  | sc, .lst es, e => (match e with
    | .List l _ => chkEs K sc es l
    | _ => false)
  | sc, .ix a i, e => (match e with
    | .Subscript x y _ => chkE K sc a x && chkE K sc i y
    | _ => false)
  | sc, .ixv s i, e => (match e with
    | .Subscript (.Name x _) y _ => nmB K sc s x && chkE K sc i y
    | _ => false)
  | sc, .sl a lo hi, e => (match e with
    | .Subscript x (.Slice l h none _) _ => chkE K sc a x && ((match l with
      | none => isNonE lo
      | some l => !isNonE lo && chkE K sc lo l) && (match h with
      | none => isNonE hi
      | some h => !isNonE hi && chkE K sc hi h))
    | _ => false)
  | _, .rev _, _ => false
  | sc, .call k es, e => (match e with
    | .Call (.Name x _) (y :: ys) [] _ => decide (K.fns[k]? = some x) && (glB sc x && (okB x && ((match K.ars[k]? with
      | some (np, nd) => decide (es.len ≤ np ∧ np - es.len ≤ nd)
      | none => false) && chkA K sc es (y :: ys))))
    | _ => false)
  | sc, .bi b es, e => (match e with
    | .Call (.Name x _) (y :: ys) [] _ => decide (x = biS b) && (glB sc x && chkEs K sc es (y :: ys))
    | _ => false)
  | sc, .lenv s, e => (match e with
    | .Call (.Name f _) [.Name x _] [] _ => decide (f = "len") && (glB sc f && nmB K sc s x)
    | _ => false)
  | sc, .inv n a s, e => (match e with
    | .Compare x [op] [.Name y _] _ => decide (op = inOp n) && (nmB K sc s y && chkE K sc a x)
    | _ => false)
  | sc, .isi a ts, e => (match e with
    | .Call (.Name f _) [x, y] [] _ => decide (f = "isinstance") && (glB sc f && (chkE K sc a x && (match y, ts with
      | .Tuple bs _ _, t :: ts => decide ((t :: ts).length ≤ 100) && tyNsB sc (t :: ts) bs
      | y, [t] => tyNB sc t y
      | _, _ => false)))
    | _ => false)
  | sc, .lc i it c e', e => (match e with
    | .ListComp elt [⟨tg, iter, ifs, 0⟩] scope _ => lcTg K sc scope i tg && (!isSetE iter && (chkI K sc it iter && (chkE K (relS scope sc) e' elt && (match ifs with
      | [] => isTrueE c
      | [t] => chkE K (relS scope sc) c t
      | _ => false))))
    | _ => false)
  | _, .meth _ _ _, _ => false
  | _, .new _, _ => false
  | _, .lr _, _ => false
def chkEs (K : Ct) : Scope → Es → List Expr → Bool
  | _, .nil, l => (match l with
    | [] => true
    | _ => false)
  | sc, .cons a es, l => (match l with
    | x :: l => chkE K sc a x && chkEs K sc es l
    | _ => false)
def chkA (K : Ct) : Scope → Es → List Expr → Bool
  | _, .nil, l => (match l with
    | [] => true
    | _ => false)
  | sc, .cons a es, l => (match l with
    | x :: l => (match isLr a with
      | some s => (match x with
        | .Name y _ => nmB K sc s y
        | _ => false)
      | none => chkE K sc a x) && chkA K sc es l
    | _ => false)
def chkI (K : Ct) : Scope → I → Expr → Bool
  | sc, .seq a, e => chkE K sc a e
  | sc, .rng1 a, e => (match e with
    | .Call (.Name f _) [x] [] _ => decide (f = "range") && (glB sc f && chkE K sc a x)
    | _ => false)
  | sc, .rng2 a b, e => (match e with
    | .Call (.Name f _) [x, y] [] _ => decide (f = "range") && (glB sc f && (chkE K sc a x && chkE K sc b y))
    | _ => false)
end

/-! ### what the checks say -/
theorem ba {a b : Bool} (h : (a && b) = true) : a = true ∧ b = true := Bool.and_eq_true_iff.mp h
theorem bn {a : Bool} (h : (!a) = true) : a = false := by cases a <;> first | rfl | cases h
theorem de {p : Prop} [Decidable p] (h : decide p = true) : p := of_decide_eq_true h
theorem visB_ok {sc : Scope} {x : Str} (h : visB sc x = true) : Vis sc x := by
  unfold visB at h
  split at h
  · rename_i e; exact .inl e
  · rename_i e; exact .inr (.inl e)
  · rename_i e; exact .inr (.inr e)
  · cases h
theorem okB_ok {x : Str} (h : okB x = true) : (x == ("__debug__" : Str)) = false ∧ (x == ("__classdict__" : Str)) = false := ⟨bn (ba h).1, bn (ba h).2⟩
theorem star_no {K : Ct} {sc : Scope} {c : E} {v : Expr} {p : Pos} : chkE K sc c (.Starred v p) = false := by cases c <;> rfl
theorem slice_no {K : Ct} {sc : Scope} {c : E} {l u s : Option Expr} {p : Pos} : chkE K sc c (.Slice l u s p) = false := by cases c <;> rfl
theorem starEach_c {e : Expr} {es : List Expr} {env : PySem.Env} (h : ∀ v p, e ≠ .Starred v p) : starEach (e :: es) env = (false, eval e env) :: starEach es env := by
  cases e <;> first | rfl | exact absurd rfl (h _ _)
theorem chk_star {K : Ct} {sc : Scope} {c : E} {e : Expr} (h : chkE K sc c e = true) : ∀ v p, e ≠ .Starred v p := fun v p z => by
  subst z
  rw [star_no] at h
  cases h
theorem plainIx_c {K : Ct} {sc : Scope} {c : E} {e : Expr} (h : chkE K sc c e = true) : PlainIx e := fun o i => by
  cases e <;> first | rfl | (rw [slice_no] at h; cases h)
theorem chkEs_star {K : Ct} {sc : Scope} : ∀ {es : Es} {l : List Expr} {env : PySem.Env} {pos : Pos}, chkEs K sc es l = true → (backTo pos (starEach l env)).any (·.1) = false
  | .nil, [], _, _, _ => rfl
  | .nil, _ :: _, _, _, h => by cases h
  | .cons a es, [], _, _, h => by cases h
  | .cons a es, x :: l, env, pos, h => by
    obtain ⟨h1, h2⟩ := ba (show (chkE K sc a x && chkEs K sc es l) = true from h)
    rw [starEach_c (chk_star h1)]
    show (false || (backTo pos (starEach l env)).any (·.1)) = false
    rw [chkEs_star h2]; rfl
theorem chkA_head {K : Ct} {sc : Scope} {a : E} {es : Es} {x : Expr} {l : List Expr} (h : chkA K sc (.cons a es) (x :: l) = true) : ∀ v p, x ≠ .Starred v p := fun v p z => by
  subst z
  obtain ⟨h1, _⟩ := ba (show ((match isLr a with
      | some s => false
      | none => chkE K sc a (.Starred v p)) && chkA K sc es l) = true from h)
  split at h1
  · cases h1
  · rw [star_no] at h1; cases h1
theorem chkA_star {K : Ct} {sc : Scope} : ∀ {es : Es} {l : List Expr} {env : PySem.Env} {pos : Pos}, chkA K sc es l = true → (backTo pos (starEach l env)).any (·.1) = false
  | .nil, [], _, _, _ => rfl
  | .nil, _ :: _, _, _, h => by cases h
  | .cons a es, [], _, _, h => by cases h
  | .cons a es, x :: l, env, pos, h => by
    have h2 : chkA K sc es l = true := by
      have h' := h
      unfold chkA at h'
      exact (ba h').2
    rw [starEach_c (chkA_head h)]
    show (false || (backTo pos (starEach l env)).any (·.1)) = false
    rw [chkA_star h2]; rfl

/-! ### the names' worth -/
structure Ef (R : Pr) (K : Ct) (k : Nat) (P : Program) (w : World) (G : Gd) (Y : Xg) (mg : Str → Option Value) (base : Heap) : Prop where
  fn : ∀ (j : Nat) (x : Str) (a : Nat × Nat), K.fns[j]? = some x → K.ars[j]? = some a → ∃ F f, R.fn[j]? = some F ∧ F.np = a.1 ∧ F.dfl.length = a.2 ∧ mg x = some (.ref f) ∧ FnK P w G Y mg base k f F
  gl : ∀ (j : Nat) (x : Str), K.gls[j]? = some x → ∃ d v u, R.gl[j]? = some d ∧ mg x = some u ∧ RelV v u ∧ ∀ C, Rp G C d v
  fr : ∀ x, x ∈ bnames → mg x = none
structure Cn (T : Tx) (R : Pr) (K : Ct) (k : Nat) (sc : Scope) (X : Cx) : Prop where
  N : X.N = K.N
  nd : X.N.Nodup
  sc : X.env.scope = sc
  hK : X.K = T.B.G.K
  calm : X.calm = true
  room : Room k X.A
  tk : Takes X T.W
  ef : Ef R K k X.prog X.w T.B.G T.Y X.mg X.base
section
variable {T : Tx} {R : Pr} {K : Ct} {k : Nat} {sc : Scope} {X : Cx}
theorem Cn.gl (c : Cn T R K k sc X) {x : Str} (h : glB sc x = true) : Gl X x := by
  show X.env.scope.names.lookup x = _
  rw [c.sc]
  exact de h
theorem Cn.vis (c : Cn T R K k sc X) {x : Str} (h : visB sc x = true) : Vis X.env.scope x := by
  rw [c.sc]
  exact visB_ok h
theorem Cn.nm (c : Cn T R K k sc X) {i : Nat} {x : Str} (h : nmB K sc i x = true) : X.N[i]? = some x ∧ Vis X.env.scope x ∧ (x == ("__debug__" : Str)) = false ∧ (x == ("__classdict__" : Str)) = false := by
  obtain ⟨h1, h2⟩ := ba h
  obtain ⟨h3, h4⟩ := ba h2
  rw [c.N]
  exact ⟨de h1, c.vis h3, okB_ok h4⟩
/-- a comprehension's block: no error is wished for -/
theorem Cn.blk (c : Cn T R K k sc X) {s : Shared} {H : Hp} {scope : Scope} {C : Addr} {cl : List (Str × Addr)} {fp : List Addr} : Cn T.nx R K k (relS scope sc) (X.blk s H scope (compEnvC scope cl C X.env) fp) where
  N := c.N
  nd := c.nd
  sc := by
    show relS scope X.env.scope = _
    rw [c.sc]
  hK := c.hK
  calm := c.calm
  room := c.room
  tk := takes0
  ef := c.ef
end
theorem bi_boot (b : Bi) : (biS b) ∈ bnames ∧ (biS b ≠ "__name__") ∧ ((biS b) == ("__debug__" : Str)) = false := by cases b <;> exact ⟨by decide, by decide, by decide⟩
theorem ty_boot (t : Ty) : (tyStr t) ∈ bnames ∧ (tyStr t ≠ "__name__") ∧ ((tyStr t) == ("__debug__" : Str)) = false ∧ bootBuiltins (tyStr t) = some (.type (tyN t)) := by cases t <;> exact ⟨by decide, by decide, by decide, by decide +kernel⟩
end QL

end
section
set_option Elab.async false
set_option linter.all false
/-! Q12: what is checked is right: expressions. -/
namespace QL
open PySem PySem.Spec PyProof.Rows L2

theorem foldedSet_no {e : Expr} {env : PySem.Env} (h : isSetE e = false) : ∀ x, foldedSetIterable e env x = pure x := fun x => by
  cases e <;> first | rfl | cases h
theorem isTrueE_ok {c : E} (h : isTrueE c = true) : c = .c (.bl true) := by
  cases c with
  | c d => cases d with
    | bl b => cases b with
      | true => rfl
      | false => cases h
    | _ => cases h
  | _ => cases h
theorem isLr_some {c : E} {s : Nat} (h : isLr c = some s) : c = .lr s := by
  cases c <;> first | (cases h; rfl) | cases h
theorem evA_len {R : Pr} : ∀ {es : Es} {δ δ' : Env} {as : List Ag}, evA R es δ = .ok as δ' → as.length = es.len
  | .nil, δ, δ', as, h => by cases h; rfl
  | .cons e es, δ, δ', as, h => by
    have h : (match isLr e with
    | some s => (optR (lookSl δ s) δ).bind fun _ δ => (evA R es δ).bind fun xs δ => .ok (.r s :: xs) δ
    | none => (ev R e δ).bind fun x δ => (evA R es δ).bind fun xs δ => .ok (.d x.d :: xs) δ) = Rs.ok as δ' := h
    split at h
    · cases e1 : lookSl δ _ with
      | none => rw [e1] at h; cases h
      | some z =>
        rw [e1] at h
        change ((evA R es δ).bind fun xs δ => Rs.ok (Ag.r _ :: xs) δ) = _ at h
        cases e2 : evA R es δ with
        | ok bs δ2 =>
          rw [e2] at h
          cases h
          show bs.length + 1 = es.len + 1
          rw [evA_len e2]
        | er x δ2 => rw [e2] at h; cases h
        | no => rw [e2] at h; cases h
    · cases e1 : ev R e δ with
      | ok z δ1 =>
        rw [e1] at h
        change ((evA R es δ1).bind fun xs δ => Rs.ok (Ag.d z.d :: xs) δ) = _ at h
        cases e2 : evA R es δ1 with
        | ok bs δ2 =>
          rw [e2] at h
          cases h
          show bs.length + 1 = es.len + 1
          rw [evA_len e2]
        | er x δ2 => rw [e2] at h; cases h
        | no => rw [e2] at h; cases h
      | er x δ2 => rw [e1] at h; cases h
      | no => rw [e1] at h; cases h

section
variable {T : Tx} {X : Cx} {R : Pr} {K : Ct} {k : Nat} {sc : Scope} {e : Expr} {f : Env → Rs Rv}
theorem s_tife {a b c : Expr} {fa fb fc : Env → Rs Rv} {pos : Pos} (hc : PT X c (tT T fc)) (ha : PT X a (tT T fa)) (hb : PT X b (tT T fb)) : PT X (.IfExp c a b pos) (tT T (fIfe fc fa fb)) := by
  refine ⟨fun pins s σ H Q I h => ?_⟩
  obtain ⟨C, δ, R, h⟩ := h
  show wpAny _ _ (do if ← isTrue c X.env (eval c X.env) then isTrue a X.env (eval a X.env) else isTrue b X.env (eval b X.env)) _ _ _
  refine wpAny_bind (thn (hc.run pins s σ H (fun k H1 => if k = true then tT T fa σ H1 Q else tT T fb σ H1 Q) I ?_) fun k s1 q => ?_)
  · refine tT.bool R h no_bool fun k δ1 H1 C1 R1 s1 h1 => ?_
    cases k with
    | true => exact iteT (tT.last R1 h1)
    | false => exact iteF (tT.last R1 h1)
  · obtain ⟨H1, I1, q1⟩ := q
    cases k with
    | true => exact ha.run pins s1 σ H1 Q I1 (by simpa using q1)
    | false =>
      show wpAny _ _ (if false = true then _ else _) _ _ _
      rw [if_neg (by decide)]
      exact hb.run pins s1 σ H1 Q I1 (by simpa using q1)
/-- both readings, by the value's -/
theorem two (h : PE X e (tE T f)) (he : ∀ whole, isTrue e X.env whole = (do let v ← whole; standAt e.pos; holding [v] (truthy v))) : PE X e (tE T f) ∧ PT X e (tT T f) := ⟨h, s_tval h he⟩
theorem Cn.un (c : Cn T R K k sc X) : X.A.units + 64 < cLine := by
  have := c.room.un
  omega
theorem Cn.nob (c : Cn T R K k sc X) {x : Str} (h : x ∈ bnames) : X.mg x = none := c.ef.fr x h
theorem cd_bi (c : Cn T R K k sc X) (b : Bi) {es : List Expr} {p pos : Pos} {fs : Env → Rs (List D)} (hg : Gl X (biS b)) (ha : PA X (e :: es) (tAs T fs)) (he : starEach (e :: es) X.env = (false, eval e X.env) :: starEach es X.env) (hpl : (backTo pos (starEach es X.env)).any (·.1) = false) :
    PE X (.Call (.Name (biS b) p) (e :: es) [] pos) (tE T (fBi (biD b) fs)) := by
  have hK := c.hK
  have m := c.nob (bi_boot b).1
  cases b with
  | len => exact s_biB (cd_len hK) hg m (by decide +kernel) ha (by decide) (by decide) he hpl
  | max2 => exact s_biB (cd_max c.calm) hg m (by decide +kernel) ha (by decide) (by decide) he hpl
  | min2 => exact s_biB (cd_min c.calm) hg m (by decide +kernel) ha (by decide) (by decide) he hpl
  | abs => exact s_biB cd_abs hg m (by decide +kernel) ha (by decide) (by decide) he hpl
  | int1 => exact s_biT cd_int hg m (by decide +kernel) ha (by decide) (by decide) he hpl
  | tuple => exact s_biT (cd_tuple hK) hg m (by decide +kernel) ha (by decide) (by decide) he hpl
  | list => exact s_biT (cd_list hK) hg m (by decide +kernel) ha (by decide) (by decide) he hpl
  | sorted => exact s_biB cd_sorted hg m (by decide +kernel) ha (by decide) (by decide) he hpl
  | all => exact s_biB (cd_all c.calm) hg m (by decide +kernel) ha (by decide) (by decide) he hpl
  | any => exact s_biB (cd_any c.calm) hg m (by decide +kernel) ha (by decide) (by decide) he hpl
  | sum => exact s_biB (cd_sum c.calm) hg m (by decide +kernel) ha (by decide) (by decide) he hpl

theorem tyNs_ok (c : Cn T R K k sc X) : ∀ {ts : List Ty} {bs : List Expr}, tyNsB sc ts bs = true → PA X bs (fun _ H Q => Q (ts.map fun t => V.ty (tyN t)) H)
  | [], [], _ => pa_nil
  | [], _ :: _, h => by cases h
  | _ :: _, [], h => by cases h
  | t :: ts, b :: bs, h => by
    obtain ⟨h1, h2⟩ := ba h
    unfold tyNB at h1
    split at h1
    · rename_i x p
      obtain ⟨h3, h4⟩ := ba h1
      have h3 := de h3
      subst h3
      obtain ⟨q1, q2, q3, q4⟩ := ty_boot t
      exact pa_cons (s_ty (c.gl h4) (c.nob q1) q4 q2 q3) (tyNs_ok c h2) rfl
    · cases h1
theorem tyN_ok (c : Cn T R K k sc X) {t : Ty} (h1 : tyNB sc t e = true) : PE X e (tC (.ty (tyN t))) ∧ starEach [e] X.env = (false, eval e X.env) :: starEach [] X.env := by
  unfold tyNB at h1
  split at h1
  · rename_i x p
    obtain ⟨h3, h4⟩ := ba h1
    have h3 := de h3
    subst h3
    obtain ⟨q1, q2, q3, q4⟩ := ty_boot t
    exact ⟨s_ty (c.gl h4) (c.nob q1) q4 q2 q3, rfl⟩
  · cases h1
theorem cst_ok {d : D} {q : Const} {j : Nat} {pos : Pos} (h : cstB d q = true) : PE X (.Constant q j pos) (tE T fun δ => .ok (.fz d) δ) := by
  cases d <;> cases q <;> first | (cases h; done) | skip
  · exact s_non
  · rename_i a b
    have : a = b := by cases a <;> cases b <;> first | rfl | cases h
    subst this
    exact s_bl
  · have h := de h
    subst h
    exact s_int
  · have h := de h
    subst h
    exact s_str
theorem lcTg_ok (c : Cn T R K k sc X) {scope : Scope} {i : Nat} {tg : Expr} (h : lcTg K sc scope i tg = true) : ∃ x, BlkOk X.N X.env.scope scope [(x, i)] ∧ ∀ (s : Shared) (H : Hp) (C : Addr) (cl : List (Str × Addr)) (fp : List Addr), PG (X.blk s H scope (compEnvC scope cl C X.env) fp) tg (L2.gName i) := by
  unfold lcTg at h
  split at h
  · rename_i x p
    obtain ⟨h2, h3⟩ := ba h
    obtain ⟨h4, h5⟩ := ba h3
    refine ⟨x, ?_, fun s H C cl fp => ?_⟩
    · rw [c.N, c.sc]
      exact blkOk_by h4
    · have hN : (X.blk s H scope (compEnvC scope cl C X.env) fp).N[i]? = some x := by
        show X.N[i]? = some x
        rw [c.N]
        exact de h2
      have es : (X.blk s H scope (compEnvC scope cl C X.env) fp).env.scope = relS scope sc := by
        show relS scope X.env.scope = _
        rw [c.sc]
      unfold ownB at h5
      split at h5
      · rename_i hl
        exact pg_name c.nd hN (.inl (by rw [es]; exact hl)) (.inr (by rw [es]; exact hl))
      · rename_i hl
        refine pg_name c.nd hN (.inr (by rw [es]; exact hl)) (.inl ?_)
        show (scope.names.lookup x == some .cell) = true
        rw [de h5]; rfl
      · cases h5
  · cases h
end
section
variable {R : Pr} {K : Ct} {k : Nat}
mutual
theorem sndE : ∀ (c : E) {T : Tx} {sc : Scope} {X : Cx} {e : Expr}, Cn T R K k sc X → chkE K sc c e = true → PE X e (tE T (ev R c)) ∧ PT X e (tT T (ev R c))
  | .v i, T, sc, X, e, c, h => by
    unfold chkE at h
    split at h
    · obtain ⟨h1, h2, h3, h4⟩ := c.nm h
      exact two (s_var h1 h2 h3 h4) fun _ => rfl
    · cases h
  | .c d, T, sc, X, e, c, h => by
    unfold chkE at h
    split at h
    · exact two (cst_ok h) fun _ => rfl
    · cases h
  | .g j, T, sc, X, e, c, h => by
    unfold chkE at h
    split at h
    · rename_i x p
      obtain ⟨h1, h2⟩ := ba h
      obtain ⟨h3, h4⟩ := ba h2
      obtain ⟨d, v, u, q1, q2, q3, q4⟩ := c.ef.gl j x (de h1)
      have ee : ev R (.g j) = fun δ => .ok (.fz d) δ := by
        funext δ
        show optR ((R.gl[j]?).map Rv.fz) δ = _
        rw [q1]; rfl
      rw [ee]
      exact two (s_glob (c.gl h3) q2 q3 (okB_ok h4).1 q4) fun _ => rfl
    · cases h
  | .neg a, T, sc, X, e, c, h => by
    unfold chkE at h
    split at h
    · exact two (s_neg (sndE a c h).1) fun _ => rfl
    · cases h
  | .bin o a b, T, sc, X, e, c, h => by
    unfold chkE at h
    split at h
    · obtain ⟨h1, h2⟩ := ba h
      obtain ⟨h3, h4⟩ := ba h2
      have h1 := de h1
      subst h1
      exact two (s_bin (od_bin c.hK o) (sndE a c h3).1 (sndE b c h4).1) fun _ => rfl
    · cases h
  | .cmp o a b, T, sc, X, e, c, h => by
    unfold chkE at h
    split at h
    · obtain ⟨h1, h2⟩ := ba h
      obtain ⟨h3, h4⟩ := ba h2
      obtain ⟨h5, h6⟩ := ba h4
      have h1 := de h1
      subst h1
      exact ⟨s_cmp (oc_cmp c.hK c.un o) (bn h3) (sndE a c h5).1 (sndE b c h6).1, s_tcmp (oc_cmp c.hK c.un o) (bn h3) (sndE a c h5).1 (sndE b c h6).1⟩
    · cases h
  | .ch2 o p a b d, T, sc, X, e, c, h => by
    unfold chkE at h
    split at h
    · obtain ⟨h1, h2⟩ := ba h
      obtain ⟨h3, h4⟩ := ba h2
      obtain ⟨h5, h6⟩ := ba h4
      obtain ⟨h7, h8⟩ := ba h6
      obtain ⟨h9, h10⟩ := ba h8
      have h1 := de h1
      have h3 := de h3
      subst h1
      subst h3
      exact ⟨s_ch2 (oc_cmp c.hK c.un o) (oc_cmp c.hK c.un p) (sndE a c h7).1 (sndE b c h9).1 (sndE d c h10).1 (bn h5), s_tch2 (oc_cmp c.hK c.un o) (oc_cmp c.hK c.un p) (sndE a c h7).1 (sndE b c h9).1 (sndE d c h10).1 (bn h5)⟩
    · cases h
  | .ch3 o p q a b d f, T, sc, X, e, c, h => by
    unfold chkE at h
    split at h
    · obtain ⟨h1, h2⟩ := ba h
      obtain ⟨h3, h4⟩ := ba h2
      obtain ⟨h5, h6⟩ := ba h4
      obtain ⟨h7, h8⟩ := ba h6
      obtain ⟨h9, h10⟩ := ba h8
      obtain ⟨h11, h12⟩ := ba h10
      obtain ⟨h13, h14⟩ := ba h12
      have h1 := de h1
      have h3 := de h3
      have h5 := de h5
      subst h1
      subst h3
      subst h5
      exact ⟨s_ch3 (oc_cmp c.hK c.un o) (oc_cmp c.hK c.un p) (oc_cmp c.hK c.un q) (sndE a c h9).1 (sndE b c h11).1 (sndE d c h13).1 (sndE f c h14).1 (bn h7), s_tch3 (oc_cmp c.hK c.un o) (oc_cmp c.hK c.un p) (oc_cmp c.hK c.un q) (sndE a c h9).1 (sndE b c h11).1 (sndE d c h13).1 (sndE f c h14).1 (bn h7)⟩
    · cases h
  | .and_ a b, T, sc, X, e, c, h => by
    unfold chkE at h
    split at h
    · obtain ⟨h1, h2⟩ := ba h
      split at h2
      · exact ⟨s_and (sndE a c h1).1 (s_one (sndE b c h2).1), s_tand (sndE a c h1).2 (s_tone (sndE b c h2).2)⟩
      · exact ⟨s_and (sndE a c h1).1 (sndE b c h2).1, s_tand (sndE a c h1).2 (sndE b c h2).2⟩
    · cases h
  | .or_ a b, T, sc, X, e, c, h => by
    unfold chkE at h
    split at h
    · obtain ⟨h1, h2⟩ := ba h
      split at h2
      · exact ⟨s_or (sndE a c h1).1 (s_one (sndE b c h2).1), s_tor (sndE a c h1).2 (s_tone (sndE b c h2).2)⟩
      · exact ⟨s_or (sndE a c h1).1 (sndE b c h2).1, s_tor (sndE a c h1).2 (sndE b c h2).2⟩
    · cases h
  | .not_ a, T, sc, X, e, c, h => by
    unfold chkE at h
    split at h
    · exact ⟨s_not (sndE a c h).1, s_tnot (sndE a c h).2⟩
    · cases h
  | .ife d a b, T, sc, X, e, c, h => by
    unfold chkE at h
    split at h
    · obtain ⟨h1, h2⟩ := ba h
      obtain ⟨h3, h4⟩ := ba h2
      exact ⟨s_ife (sndE d c h1).2 (sndE a c h3).1 (sndE b c h4).1, s_tife (sndE d c h1).2 (sndE a c h3).2 (sndE b c h4).2⟩
    · cases h
  | .tup es, T, sc, X, e, c, h => by
    unfold chkE at h
    split at h
    · exact two (s_tup (sndEs es c h)) fun _ => rfl
    · cases h
  | .lst es, T, sc, X, e, c, h => by
    unfold chkE at h
    split at h
    · exact two (s_lst (sndEs es c h)) fun _ => rfl
    · cases h
  | .ix a i, T, sc, X, e, c, h => by
    unfold chkE at h
    split at h
    · obtain ⟨h1, h2⟩ := ba h
      exact two (s_ix c.hK (sndE a c h1).1 (sndE i c h2).1 (plainIx_c h2)) fun _ => rfl
    · cases h
  | .ixv s i, T, sc, X, e, c, h => by
    unfold chkE at h
    split at h
    · obtain ⟨h1, h2⟩ := ba h
      obtain ⟨q1, q2, q3, q4⟩ := c.nm h1
      exact two (s_ixv c.hK q1 q2 q3 q4 (sndE i c h2).1 (plainIx_c h2)) fun _ => rfl
    · cases h
  | .sl a lo hi, T, sc, X, e, c, h => by
    unfold chkE at h
    split at h
    · rename_i x l u p2 pos
      obtain ⟨h1, h2⟩ := ba h
      obtain ⟨h3, h4⟩ := ba h2
      have hl : PO X l (tPartQ T fun δ => if isNonE lo then .ok none δ else (ev R lo δ).bind intP) := by
        split at h3
        · rw [h3]
          exact s_pnone
        · obtain ⟨h5, h6⟩ := ba h3
          rw [bn h5]
          exact s_psome (sndE lo c h6).1
      have hh : PO X u (tPartQ T fun δ => if isNonE hi then .ok none δ else (ev R hi δ).bind intP) := by
        split at h4
        · rw [h4]
          exact s_pnone
        · obtain ⟨h5, h6⟩ := ba h4
          rw [bn h5]
          exact s_psome (sndE hi c h6).1
      exact two (s_sl c.hK (sndE a c h1).1 hl hh) fun _ => rfl
    · cases h
  | .rev a, T, sc, X, e, c, h => by
    unfold chkE at h
    cases h
  | .call j es, T, sc, X, e, c, h => by
    unfold chkE at h
    split at h
    · rename_i x p y ys pos
      obtain ⟨h1, h2⟩ := ba h
      obtain ⟨h3, h4⟩ := ba h2
      obtain ⟨h5, h6⟩ := ba h4
      obtain ⟨h7, h8⟩ := ba h6
      split at h7
      · rename_i np nd ea
        obtain ⟨F, f, q1, q2, q3, q4, q5⟩ := c.ef.fn j x _ (de h1) ea
        have ee : ev R (.call j es) = fun δ => (evA R es δ).bind fun as δ => callF F as δ := by
          funext δ
          show (match R.fn[j]? with
            | some f => (evA R es δ).bind fun as δ => callF f as δ
            | none => .no) = _
          rw [q1]
        rw [ee]
        cases es with
        | nil => cases h8
        | cons a es =>
          have h9 : chkA K sc es ys = true := by
            have h' := h8
            unfold chkA at h'
            exact (ba h').2
          refine two (s_call c.hK q5 c.room (c.gl h3) q4 c.tk (fun δ as δ' w => evA_len w) ?_ (sndA (.cons a es) c h8) (okB_ok h5).1 (starEach_c (chkA_head h8)) (chkA_star h9)) fun _ => rfl
          have := de h7
          rw [q2, q3]
          exact this
      · cases h7
    · cases h
  | .bi b es, T, sc, X, e, c, h => by
    unfold chkE at h
    split at h
    · rename_i x p y ys pos
      obtain ⟨h1, h2⟩ := ba h
      obtain ⟨h3, h4⟩ := ba h2
      have h1 := de h1
      subst h1
      cases es with
      | nil => cases h4
      | cons a es =>
        obtain ⟨h5, h6⟩ := ba (show (chkE K sc a y && chkEs K sc es ys) = true from h4)
        exact two (cd_bi c b (c.gl h3) (sndEs (.cons a es) c h4) (starEach_c (chk_star h5)) (chkEs_star h6)) fun _ => rfl
    · cases h
  | .lenv s, T, sc, X, e, c, h => by
    unfold chkE at h
    split at h
    · obtain ⟨h1, h2⟩ := ba h
      obtain ⟨h3, h4⟩ := ba h2
      have h1 := de h1
      subst h1
      obtain ⟨q1, q2, q3, q4⟩ := c.nm h4
      exact two (s_lenv c.hK (c.gl h3) (c.nob (by decide)) q1 q2 q3 q4) fun _ => rfl
    · cases h
  | .inv n a s, T, sc, X, e, c, h => by
    unfold chkE at h
    split at h
    · obtain ⟨h1, h2⟩ := ba h
      obtain ⟨h3, h4⟩ := ba h2
      have h1 := de h1
      subst h1
      obtain ⟨q1, q2, q3, q4⟩ := c.nm h3
      exact ⟨s_inv c.hK (sndE a c h4).1 q1 q2 q3 q4, s_tinv c.hK (sndE a c h4).1 q1 q2 q3 q4⟩
    · cases h
  | .isi a ts, T, sc, X, e, c, h => by
    unfold chkE at h
    split at h
    · obtain ⟨h1, h2⟩ := ba h
      obtain ⟨h3, h4⟩ := ba h2
      obtain ⟨h5, h6⟩ := ba h4
      have h1 := de h1
      subst h1
      split at h6
      · obtain ⟨h7, h8⟩ := ba h6
        exact two (s_isiT c.hK (de h7) (c.gl h3) (c.nob (by decide)) (sndE a c h5).1 (tyNs_ok c h8) (starEach_c (chk_star h5))) fun _ => rfl
      · obtain ⟨q1, q2⟩ := tyN_ok c h6
        exact two (s_isi1 c.hK (c.gl h3) (c.nob (by decide)) (sndE a c h5).1 q1 (starEach_c (chk_star h5)) q2) fun _ => rfl
      · cases h6
    · cases h
  | .lc i it d f, T, sc, X, e, c, h => by
    unfold chkE at h
    split at h
    · obtain ⟨h1, h2⟩ := ba h
      obtain ⟨h3, h4⟩ := ba h2
      obtain ⟨h5, h6⟩ := ba h4
      obtain ⟨h7, h8⟩ := ba h6
      obtain ⟨x, ok, hg⟩ := lcTg_ok c h1
      split at h8
      · have h8 := isTrueE_ok h8
        subst h8
        exact two (s_lc c.calm c.nd (sndI it c h5) ok yes_read hg (fun _ _ _ _ _ => pts_nil) (fun s H C cl fp => (sndE f c.blk h7).1) (foldedSet_no (bn h3))) fun _ => rfl
      · exact two (s_lc c.calm c.nd (sndI it c h5) ok (fun _ _ _ h => h) hg (fun s H C cl fp => pts_one (sndE d c.blk h8).2) (fun s H C cl fp => (sndE f c.blk h7).1) (foldedSet_no (bn h3))) fun _ => rfl
      · cases h8
    · cases h
  | .meth a m es, T, sc, X, e, c, h => by
    unfold chkE at h
    cases h
  | .new a, T, sc, X, e, c, h => by
    unfold chkE at h
    cases h
  | .lr s, T, sc, X, e, c, h => by
    unfold chkE at h
    cases h
theorem sndEs : ∀ (es : Es) {T : Tx} {sc : Scope} {X : Cx} {l : List Expr}, Cn T R K k sc X → chkEs K sc es l = true → PA X l (tAs T (evs R es))
  | .nil, T, sc, X, l, c, h => by
    unfold chkEs at h
    split at h
    · exact s_anil
    · cases h
  | .cons a es, T, sc, X, l, c, h => by
    unfold chkEs at h
    split at h
    · obtain ⟨h1, h2⟩ := ba h
      exact s_acons (sndE a c h1).1 (sndEs es c h2) (starEach_c (chk_star h1))
    · cases h
theorem sndA : ∀ (es : Es) {T : Tx} {sc : Scope} {X : Cx} {l : List Expr}, Cn T R K k sc X → chkA K sc es l = true → PA X l (tAg T (evA R es))
  | .nil, T, sc, X, l, c, h => by
    unfold chkA at h
    split at h
    · exact s_gnil
    · cases h
  | .cons a es, T, sc, X, l, c, h => by
    unfold chkA at h
    split at h
    · obtain ⟨h1, h2⟩ := ba h
      cases ea : isLr a with
      | some s =>
        rw [ea] at h1
        have ee : evA R (.cons a es) = gLr s (evA R es) := by
          funext δ
          show (match isLr a with
            | some s => (optR (lookSl δ s) δ).bind fun _ δ => (evA R es δ).bind fun xs δ => .ok (Ag.r s :: xs) δ
            | none => (ev R a δ).bind fun x δ => (evA R es δ).bind fun xs δ => .ok (Ag.d x.d :: xs) δ) = _
          rw [ea]
        rw [ee]
        dsimp only at h1
        split at h1
        · obtain ⟨q1, q2, q3, q4⟩ := c.nm h1
          exact s_glr q1 q2 q3 q4 (sndA es c h2)
        · cases h1
      | none =>
        rw [ea] at h1
        dsimp only at h1
        have ee : evA R (.cons a es) = gCons (ev R a) (evA R es) := by
          funext δ
          show (match isLr a with
            | some s => (optR (lookSl δ s) δ).bind fun _ δ => (evA R es δ).bind fun xs δ => .ok (Ag.r s :: xs) δ
            | none => (ev R a δ).bind fun x δ => (evA R es δ).bind fun xs δ => .ok (Ag.d x.d :: xs) δ) = _
          rw [ea]
        rw [ee]
        exact s_gcons (sndE a c h1).1 (sndA es c h2) (starEach_c (chk_star h1))
    · cases h
theorem sndI : ∀ (it : I) {T : Tx} {sc : Scope} {X : Cx} {tg e : Expr}, Cn T R K k sc X → chkI K sc it e = true → PI X tg e (tI T (evI R it))
  | .seq a, T, sc, X, tg, e, c, h => s_iseq c.hK (sndE a c h).1
  | .rng1 a, T, sc, X, tg, e, c, h => by
    unfold chkI at h
    split at h
    · obtain ⟨h1, h2⟩ := ba h
      obtain ⟨h3, h4⟩ := ba h2
      have h1 := de h1
      subst h1
      exact s_irng1 (c.gl h3) (c.nob (by decide)) (sndE a c h4).1 (starEach_c (chk_star h4))
    · cases h
  | .rng2 a b, T, sc, X, tg, e, c, h => by
    unfold chkI at h
    split at h
    · obtain ⟨h1, h2⟩ := ba h
      obtain ⟨h3, h4⟩ := ba h2
      obtain ⟨h5, h6⟩ := ba h4
      have h1 := de h1
      subst h1
      exact s_irng2 (c.gl h3) (c.nob (by decide)) (sndE a c h5).1 (sndE b c h6).1 (by rw [starEach_c (chk_star h5), starEach_c (chk_star h6)]; rfl) (starEach_c (chk_star h6))
    · cases h
end
end
end QL

end
section
set_option Elab.async false
set_option linter.all false
set_option maxRecDepth 100000
/-! Q13: errors: raised, caught, looked at. -/
namespace QL
open PySem PySem.Spec PyProof.Rows L2

/-! ### isinstance of a caught error that has its dict -/
section
open PySem.W PySem.Calls
variable {Kf : Frag} {Cl : Addr}
theorem fob {nm : Str} {av gv : Value} {od : Option Obj} (q0 : (clsIn Kf Cl).isSome = true) (q1 : findIn Kf (.ref Cl) nm = some (some av)) (q2 : specialIn Kf av "__get__" = some (some gv)) (q3 : takesIn Kf av = some true) : findObj Kf Cl od nm = some (.bind gv av) := by
  obtain ⟨cdat, e0⟩ := Option.isSome_iff_exists.mp q0
  unfold findObj
  rw [e0, Option.bind_some, q1]
  rw [Option.bind_some]
  simp [q2, q3]
theorem hdSome (E : ExcC Kf Cl) : (clsIn Kf Cl).isSome = true := by
  obtain ⟨cdat, e0, _⟩ := any_some E.hd
  rw [e0]
  rfl
theorem classE {prog : Program} {w : World} {A : Around} {Ex : Value → Shared → Prop} {sx : Shared} {xa : Addr} {ob : Obj} {od : Option Obj} {Q : Option Value → Shared → Prop} (E : ExcC Kf Cl) (kin : Kf.In sx.heap) (Ia : InstAt sx.heap xa ob Cl od) (fin : Q (some (.ref Cl)) { sx with toks := sx.toks + 1 }) :
    wpAny (model prog w) A (getAttr? (.ref xa) "__class__") Q Ex sx := by
  have found : findObj Kf Cl od "__class__" = some (.bind (.builtin "getset_descriptor.__get__") (.builtin "object.__class__")) := fob (hdSome E) E.ha E.hn E.ht
  obtain ⟨hh, gg, dd, tt, oo⟩ := sx
  have M0 := Ia.type (M := model prog w)
  have M1 := looks_findIn (M := model prog w) kin E.hg
  have M2 := looks_findIn (M := model prog w) kin E.hk
  have M3 := looks_find (M := model prog w) kin Ia found
  have isEx : Looks (model prog w) hh (isInstance (.ref xa) (.type "BaseException")) true := M0.andThen (looks_subIn kin E.hs)
  have z0 : (false && onTheHeap (Value.builtin "BaseException.__getattribute__")) = false := rfl
  have z1 : (onTheHeap (Value.ref Cl) && Value.builtin "BaseException.__getattribute__" == Value.builtin "object.__getattribute__") = false := by
    rw [show (Value.builtin "BaseException.__getattribute__" == Value.builtin "object.__getattribute__") = false by decide +kernel]
    rfl
  unfold getAttr? getAttrBy? getAttrBy
  refine wpAny_bind (wpAny_mkText (wpAny_bind (wpAny_attempt (wpAny_holding (wpAny_bind (M0.at (wpAny_bind (M1.at ?_))))))))
  show wpAny (model prog w) A (if (onTheHeap (Value.ref Cl) && Value.builtin "BaseException.__getattribute__" == Value.builtin "object.__getattribute__") = true then _ else _) _ _ _
  rw [z1, if_neg Bool.false_ne_true]
  unfold getAttrByItsOwn hookBefore
  refine wpAny_bind ?_
  rw [if_pos (show onTheHeap (Value.ref Cl) = true from rfl)]
  refine M2.at (wpAny_bind (wpAny_attempt (wpAny_holding ?_)))
  unfold callGetattribute
  rw [z0, if_neg Bool.false_ne_true]
  unfold boundAndCalled
  rw [PySem.F.excAttr_ValueError.ga.bind (.ref xa)]
  refine wpAny_bind (wpAny_pure ?_)
  show wpAny (model prog w) A (call (.builtin "BaseException.__getattribute__") [.ref xa, .str "__class__" tt]) _ _ _
  refine wpAny_call (codeAny_call_builtin (PySem.F.excAttr_ValueError.ga.plain) PySem.F.entry_bexc_ga ?_)
  refine @check_slot (model prog w) _ _ ⟨hh, gg, dd, tt + 1, oo⟩ "BaseException.__getattribute__" "BaseException" "__getattribute__" (.ref xa) [.str "__class__" tt] [] _ (by decide +kernel) (by decide +kernel) isEx (PySem.F.args_bexc_ga (.ref xa) (.str "__class__" tt)) ?_
  unfold Builtin.«object.__getattribute__»
  refine wpAny_bind (wpAny_of_eq (a := ((Value.ref xa : Value), [Value.str "__class__" tt])) (by first | rfl | (simp only [slotArgs]; rfl)) ?_)
  refine wpAny_bind (wpAny_pure (wpAny_bind (M0.at (wpAny_bind (M3.at ?_)))))
  show wpAny (model prog w) _ (holding [Value.builtin "object.__class__"] (call (.builtin "getset_descriptor.__get__") [.builtin "object.__class__", .ref xa, .ref Cl]) >>= ret) _ _ _
  refine wpAny_bind (wpAny_holding (wpAny_call (class_get (s := ⟨hh, gg, dd, tt + 1, oo⟩) (ox := ob) (od := od) kin Ia E.hm ?_)))
  refine wpAny_pure ?_
  show wpAny (model prog w) _ (handedOut (.ref Cl)) _ _ _
  rw [handedOut_of (v := .ref Cl) rfl]
  first
    | exact wpAny_pure (wpAny_pure fin)
    | exact wpAny_pure fin
    | exact wpAny_pure (wpAny_bind (wpAny_pure (wpAny_pure fin)))
theorem kitE {xa : Addr} {ob : Obj} {od : Option Obj} (E : ExcC Kf Cl) : KitX Kf (.ref xa) (.ref Cl) (fun hh => InstAt hh xa ob Cl od) where
  ty := fun _ _ _ Ia => Ia.type
  it := fun _ _ kin _ => by
    obtain ⟨cdat, e0, _⟩ := any_some E.hd
    unfold clsIn at e0
    split at e0
    · rename_i c1 d1 cd1 sl1 lk
      intro A' Q' E' s' kp fin
      unfold isType loadHead
      exact wpAny_bind (wpAny_loadPart (kp _ _ (kin _ _ lk)) (wpAny_pure fin))
    · cases e0
  ne := fun hh tp dd its n sl kin htp => by
    obtain ⟨cdat, e0, _⟩ := any_some E.hd
    refine Bool.eq_false_iff.mpr fun qq => ?_
    have ee : Cl = tp := Value.ref.inj (beq_iff_eq.mp qq)
    subst ee
    unfold clsIn at e0
    split at e0
    · rename_i c1 d1 cd1 sl1 lk
      have zz := (kin _ _ lk).symm.trans htp
      cases zz
    · cases e0
  ca := fun kin Ia fin => classE E kin Ia fin
end

/-- what an error class is, seen from outside: isinstance, except, the field -/
structure XcD (Kf : PySem.W.Frag) (Cl : Addr) (fld : Str) : Prop where
  ec : ExcC Kf Cl
  xf : XfC Kf Cl
  no : PySem.W.findIn Kf (.ref Cl) fld = some none
/-- .. and made -/
structure XmD (P : Program) (w : World) (Kf : PySem.W.Frag) (mg : Str → Option Value) (base : Heap) (Cl : Addr) (fld : Str) : Prop where
  oex : OexC Kf Cl
  ini : ∃ (fI D : Addr) (fd : FuncData), PySem.W.findIn Kf (.ref Cl) "__init__" = some (some (.ref fI)) ∧ PySem.W.typeIn Kf (.ref fI) = some (.type "function") ∧ FnOk P w Kf mg base (L2.CX P w) 1 fI fd ["self", fld] (spS Kf D fld) ∧ Binds Kf fd ["self", fld] [] ∧
    PySem.W.mroIn Kf Cl (.ref D) = some true ∧ PySem.W.ks_superIn Kf Cl D "__init__" = some (some (.builtin "ValueError.__init__")) ∧ PySem.W.subIn Kf (.ref Cl) (.type "ValueError") = some true

section
variable {T : Tx} {X : Cx} {σ : L2.St} {H C : Hp} {δ : Env} {D : Ends} {pos p p2 : Pos} {a b c d e tg : Expr} {es : List Expr} {fa fb fc fd : Env → Rs Rv} {x : Str} {i : Nat}
abbrev fRse (c : Nat) (fa : Env → Rs Rv) : Env → Rs Fl := fun δ => (fa δ).bind fun r δ => .er ⟨c, some r.d⟩ δ
theorem made_eq {H1 : Hp} {q dx Cl : Addr} {f : Str} {v : V} (hq : H1 q = none) (hd : H1 dx = none) (ne : dx ≠ q) : upd (L2.del (upd (upd (upd H1 q (exo q Cl none)) dx (exd dx [(f, v)])) q (exo q Cl (some dx))) q) dx (.xd [(f, v)]) = upd H1 dx (.xd [(f, v)]) := by
  funext z
  by_cases h1 : z = dx
  · subst h1; rw [upd_same, upd_same]
  · rw [upd_ne h1, upd_ne h1]
    by_cases h2 : z = q
    · subst h2; rw [L2.del_same, hq]
    · rw [L2.del_ne h2, upd_ne h2, upd_ne h1, upd_ne h2]
theorem s_rse {n : Nat} (hK : X.K = T.B.G.K) (hm : n ∈ T.Y.rs) (M : XmD X.prog X.w X.K X.mg X.base (T.Y.xc n) (T.Y.xf n)) (no : PySem.W.findIn X.K (.ref (T.Y.xc n)) (T.Y.xf n) = some none) (hc : X.calm = true) (tk : Takes X T.W) (hr : Room 2 X.A) (hg : Gl X x) (hx : X.mg x = some (.ref (T.Y.xc n))) (hdb : (x == ("__debug__" : Str)) = false)
    (he : PE X e (tE T fa)) (hs : starEach [e] X.env = [(false, eval e X.env)]) : PS X (.Raise (some (.Call (.Name x p) [e] [] p2)) none pos) (tS T (fRse n fa)) := by
  obtain ⟨fI, Dc, fdat, q1, q2, q3, q4, q5, q6, q7⟩ := M.ini
  refine QL.PS.imp (ps_raise hc tk (pmk_oex (k := 1) M.oex q1 q2 q3 hr q4 (dvs := []) .nil passL hg hx (pa_cons he pa_nil hs) hdb hs rfl)) fun D σ H h => ?_
  obtain ⟨C, δ, R, h⟩ := h
  refine tE.thenD R h fun r δ1 H1 C1 v R1 s1 p1 h1 => ?_
  refine ⟨Nat.le_of_ble_eq_true rfl, fun q hq => ⟨q, _, v, rfl, M.oex, no, q5, q6, q7, upd_same, fun dx n1 ne => ?_⟩⟩
  rw [upd_ne ne] at n1
  refine ⟨rfl, dx, [(T.Y.xf n, v)], upd_same, by rw [upd_ne ne, upd_same], n1, ?_⟩
  rw [made_eq hq n1 ne]
  obtain ⟨w1, w2⟩ := R1.new (.xd [(T.Y.xf n, v)]) n1
  exact h1 _ _ σ _ _ w1 w2.cs ⟨hm, rfl, dx, v, rfl, upd_same, Rp.mono w2.cs _ _ p1⟩

/-! ### a handler -/
def Grow (H H' : Hp) : Prop := ∀ b o, H b = some o → H' b = some o
theorem Grow.upd {H : Hp} {q : Addr} {o : HO} (hn : H q = none) : Grow H (upd H q o) := fun b u h => by rw [upd_ne (ne_of_none h hn)]; exact h
theorem Rl.grow {B : Bd} {H' : Hp} (R : Rl B σ H C δ) (g : Grow H H') : Rl B σ H' C δ :=
  ⟨R.len, fun i s o h1 h2 => (R.slot i s o h1 h2).mono (L2.Same.refl _) fun a u _ _ h3 h4 => ⟨g _ _ h3, h4⟩, fun a u h => g _ _ (R.sub a u h), R.conf, R.vis, fun a u h1 h2 => g _ _ (R.keep a u h1 h2), fun a h => R.al0 a (by
    cases q : H a with
    | none => rfl
    | some u => rw [g _ _ q] at h; cases h), R.apart⟩
def cstV : QL.D → V
  | .non => .non
  | .bl b => .bl b
  | .int i => .int i
  | .str x => .str x
  | _ => .non
/-- the values of a handler's parts, the error's class n, its field's value v -/
def hiV (R : Pr) (n : Nat) (v : V) : HI → V
  | .fld => v
  | .is1 c => .bl (R.sub n c)
  | .is cs => .bl (cs.any (R.sub n))
  | .cst d => cstV d
def tHi (ie : Nat) (q da : Addr) (f : Str) (v u : V) : TE := fun σ H Q => σ[ie]? = some (some (.ref q)) ∧ H da = some (.xd [(f, v)]) ∧ ∀ H', Grow H H' → Q u H'
def tHs (ie : Nat) (q da : Addr) (f : Str) (v : V) (us : List V) : TA := fun σ H Q => σ[ie]? = some (some (.ref q)) ∧ H da = some (.xd [(f, v)]) ∧ ∀ H', Grow H H' → Q us H'
def clB (K : Ct) (sc : Scope) (n : Nat) : Expr → Bool
  | .Name x _ => decide (K.xcs[n]? = some x) && (glB sc x && okB x)
  | _ => false
def clsB (K : Ct) (sc : Scope) : List Nat → List Expr → Bool
  | [], [] => true
  | c :: cs, e :: es => clB K sc c e && clsB K sc cs es
  | _, _ => false
/-- the raised classes under c have the field f -/
def fldB (K : Ct) (c : Nat) (f : Str) : Bool := K.xrs.all fun j => !K.sb j c || decide (K.xfs[j]? = some f)
def chkH (K : Ct) (sc : Scope) (c : Nat) (en : Str) : HI → Expr → Bool
  | .fld, .Attribute (.Name x _) f _ => decide (x = en) && fldB K c f
  | .is1 j, .Call (.Name g _) [.Name x _, b] [] _ => decide (g = "isinstance") && (glB sc g && (decide (x = en) && clB K sc j b))
  | .is js, .Call (.Name g _) [.Name x _, .Tuple bs _ _] [] _ => decide (g = "isinstance") && (glB sc g && (decide (x = en) && (decide (js.length ≤ 100) && clsB K sc js bs)))
  | .cst d, .Constant q _ _ => cstB d q
  | _, _ => false
def chkHs (K : Ct) (sc : Scope) (c : Nat) (en : Str) : List HI → List Expr → Bool
  | [], [] => true
  | h :: hs, e :: es => chkH K sc c en h e && chkHs K sc c en hs es
  | _, _ => false
/-- what the text's error classes are -/
structure Ex (R : Pr) (K : Ct) (P : Program) (w : World) (G : Gd) (Y : Xg) (mg : Str → Option Value) (base : Heap) : Prop where
  xc : ∀ (j : Nat) (x : Str), K.xcs[j]? = some x → mg x = some (.ref (Y.xc j))
  rs : Y.rs = K.xrs
  xd : ∀ j ∈ K.xrs, XcD G.K (Y.xc j) (Y.xf j)
  xm : ∀ j ∈ K.xrs, XmD P w G.K mg base (Y.xc j) (Y.xf j)
  xf : ∀ j ∈ K.xrs, K.xfs[j]? = some (Y.xf j)
  kit : ∀ i ∈ K.xrs, ∀ (j : Nat) (x : Str), K.xcs[j]? = some x → PySem.W.kitOne G.K (.ref (Y.xc i)) (.ref (Y.xc j)) = some (R.sub i j)
  exm : ∀ i ∈ K.xrs, ∀ (j : Nat) (x : Str), K.xcs[j]? = some x → PySem.W.exmOne G.K (.ref (Y.xc i)) (.ref (Y.xc j)) = some (R.sub i j)
  sb : R.sub = K.sb

section
variable {R : Pr} {K : Ct} {sc : Scope} {q da : Addr} {oe : Obj} {pn : List (Addr × Obj)} {n : Nat} {v : V} {Xs : Cx} {ie : Nat} {en : Str}
theorem cl_ok (Z : Ex R K X.prog X.w T.B.G T.Y X.mg X.base) (hsc : X.env.scope = sc) {j : Nat} {e : Expr} (h : clB K sc j e = true) : PE (X.suite q ((q, oe) :: pn)) e (tC (.ref (T.Y.xc j))) ∧ (∃ x, K.xcs[j]? = some x) ∧ ∀ es, starEach (e :: es) X.env = (false, eval e X.env) :: starEach es X.env := by
  unfold clB at h
  split at h
  · rename_i x p
    obtain ⟨h1, h2⟩ := ba h
    obtain ⟨h3, h4⟩ := ba h2
    refine ⟨pe_glob (X := X.suite q ((q, oe) :: pn)) ?_ (Z.xc j x (de h1)) rfl (okB_ok h4).1, ⟨x, de h1⟩, fun _ => rfl⟩
    show X.env.scope.names.lookup x = _
    rw [hsc]
    exact de h3
  · cases h
theorem cls_ok (Z : Ex R K X.prog X.w T.B.G T.Y X.mg X.base) (hsc : X.env.scope = sc) : ∀ {js : List Nat} {es : List Expr}, clsB K sc js es = true → PA (X.suite q ((q, oe) :: pn)) es (fun _ H Q => Q (js.map fun j => V.ref (T.Y.xc j)) H) ∧ ∀ j ∈ js, ∃ x, K.xcs[j]? = some x
  | [], [], _ => ⟨pa_nil, fun j h => by cases h⟩
  | [], _ :: _, h => by cases h
  | _ :: _, [], h => by cases h
  | j :: js, e :: es, h => by
    obtain ⟨h1, h2⟩ := ba h
    obtain ⟨q1, q2, q3⟩ := cl_ok (q := q) (oe := oe) (pn := pn) Z hsc h1
    obtain ⟨w1, w2⟩ := cls_ok Z hsc h2
    exact ⟨pa_cons q1 w1 (q3 es), fun i hi => by
      rcases List.mem_cons.mp hi with rfl | hi
      · exact q2
      · exact w2 i hi⟩
theorem kit_any {Kf : PySem.W.Frag} {Y : Xg} {i : Nat} : ∀ {js : List Nat}, (∀ j ∈ js, PySem.W.kitOne Kf (.ref (Y.xc i)) (.ref (Y.xc j)) = some (R.sub i j)) → PySem.W.kitAny Kf (.ref (Y.xc i)) (js.map fun j => Value.ref (Y.xc j)) = some (js.any (R.sub i))
  | [], _ => rfl
  | j :: js, h => by
    refine kitAny_cons (h j (List.mem_cons_self ..)) (fun z => ?_) fun z => ?_
    · rw [kit_any fun i hi => h i (List.mem_cons_of_mem _ hi)]
      simp [List.any_cons, z]
    · simp [List.any_cons, z]
theorem instE (hz : Zc (.ref (T.Y.xc n)) (some da) oe) (hf : ∃ vs, oe.data = .fields vs) {pins : List (Addr × Obj)} {s : Shared} {fs : List (Str × V)} (I : L2.Inv (X.suite q ((q, oe) :: pn)) pins σ H s) (hd : H da = some (.xd fs)) : ∃ od, PySem.W.InstAt s.heap q oe (T.Y.xc n) (some od) := by
  obtain ⟨hget, _⟩ := I.pin (q, oe) (List.mem_append.mpr (.inl List.mem_cons_self))
  obtain ⟨vs, hv⟩ := hf
  obtain ⟨mA, ⟨o, es, ep, ho, _⟩, _⟩ := (show ObjOk X.prog X.w H s.heap da (.xd fs) from I.hok da _ hd)
  refine ⟨o, ?_⟩
  obtain ⟨oc, od, oda, osl⟩ := oe
  obtain ⟨h1, h2⟩ := hz
  dsimp only at h1 h2 hv
  subst h1 h2 hv
  exact ⟨hget, rfl, rfl, ho⟩
/-- isinstance(e, C) -/
def rE1 (Kf : PySem.W.Frag) (q da Cl : Addr) : List V → Hp → VK → Prop := fun xs H Q => ∃ (fs : List (Str × V)) (c : Addr) (b : Bool), xs = [.ref q, .ref c] ∧ H da = some (.xd fs) ∧ PySem.W.kitOne Kf (.ref Cl) (.ref c) = some b ∧ Q (.bl b) H
theorem call_e1 (E : ExcC X.K (T.Y.xc n)) (hz : Zc (.ref (T.Y.xc n)) (some da) oe) (hf : ∃ vs, oe.data = .fields vs) : CallR (X.suite q ((q, oe) :: pn)) (.builtin "isinstance") (rE1 X.K q da (T.Y.xc n)) := by
  intro pins s σ H xs us Q I r h
  obtain ⟨fs, c, b, rfl, hd, e, qq⟩ := h
  obtain ⟨u1, u2, rfl, r1, r2⟩ := vals2 r
  cases r1
  cases r2
  obtain ⟨od, J⟩ := instE hz hf I hd
  exact PySem.W.kia_one (kitE E) I.kIn J e (fun z => nomatch z) fun tk => ⟨.bl b, H, I.kept (t' := tk) fun _ _ z => z, rfl, qq⟩
/-- isinstance(e, (C, ..)) -/
def rE2 (Kf : PySem.W.Frag) (q da Cl : Addr) : List V → Hp → VK → Prop := fun xs H Q => ∃ (fs : List (Str × V)) (tp : Addr) (cs : List Addr) (b : Bool), xs = [.ref q, .ref tp] ∧ H da = some (.xd fs) ∧ H tp = some (.tup (cs.map V.ref)) ∧ PySem.W.kitAny Kf (.ref Cl) (cs.map Value.ref) = some b ∧ Q (.bl b) H
theorem clsV_refs : ∀ {cs : List Addr}, Paired ClsV (cs.map V.ref) (cs.map Value.ref)
  | [] => .nil
  | c :: cs => .cons (.own c) clsV_refs
theorem call_e2 (E : ExcC X.K (T.Y.xc n)) (hz : Zc (.ref (T.Y.xc n)) (some da) oe) (hf : ∃ vs, oe.data = .fields vs) : CallR (X.suite q ((q, oe) :: pn)) (.builtin "isinstance") (rE2 X.K q da (T.Y.xc n)) := by
  intro pins s σ H xs us Q I r h
  obtain ⟨fs, tp, cs, b, rfl, hd, hT, e, qq⟩ := h
  obtain ⟨u1, u2, rfl, r1, r2⟩ := vals2 r
  cases r1
  cases r2
  obtain ⟨od, J⟩ := instE hz hf I hd
  obtain ⟨_, its, rv, o, g1, g2, m, g3⟩ := (show ObjOk X.prog X.w H s.heap tp (.tup (cs.map V.ref)) from I.hok tp _ hT)
  have e3 := ClsV.all clsV_refs rv
  subst e3
  obtain ⟨oc, od, dt, sl⟩ := o
  simp only at g2 g3
  subst g2 g3
  exact PySem.W.kia_tup (kitE E) I.kIn J g1 e (fun z => nomatch z) fun tk => ⟨.bl b, H, I.kept (t' := tk) fun _ _ z => z, rfl, qq⟩
theorem hi_ok (Z : Ex R K X.prog X.w T.B.G T.Y X.mg X.base) (hK : X.K = T.B.G.K) (hsc : X.env.scope = sc) (hmi : X.mg "isinstance" = none) (hn : n ∈ K.xrs) {c : Nat} (hnc : K.sb n c = true) (hz : Zc (.ref (T.Y.xc n)) (some da) oe) (hf : ∃ vs, oe.data = .fields vs) (hN : X.N[ie]? = some en) (hv : Vis X.env.scope en) (ho : okB en = true) {h : HI} {e : Expr} (hc : chkH K sc c en h e = true) :
    PE (X.suite q ((q, oe) :: pn)) e (tHi ie q da (T.Y.xf n) v (hiV R n v h)) ∧ ∀ es, starEach (e :: es) X.env = (false, eval e X.env) :: starEach es X.env := by
  have hd := Z.xd n hn
  rw [← hK] at hd
  have pv : ∀ p, PE (X.suite q ((q, oe) :: pn)) (.Name en p) (tVar ie) := fun p => pe_var (X := X.suite q ((q, oe) :: pn)) hN hv (okB_ok ho).1 (okB_ok ho).2
  unfold chkH at hc
  split at hc
  · rename_i x p1 f p2
    obtain ⟨h1, h2⟩ := ba hc
    have h1 := de h1
    subst h1
    have h3 : K.xfs[n]? = some f := by
      have := List.all_eq_true.mp h2 n hn
      rw [hnc] at this
      simpa using this
    rw [Z.xf n hn] at h3
    cases h3
    refine ⟨QL.PE.imp (pe_xf (X := X) hd.xf hd.no hz hf (pv p1)) fun σ H Q h => ?_, fun _ => rfl⟩
    obtain ⟨w1, w2, w3⟩ := h
    refine ⟨_, w1, rfl, rfl, da, _, v, rfl, w2, ?_, w3 H fun _ _ z => z⟩
    simp [List.lookup]
  · rename_i j g p1 x p2 b p3
    obtain ⟨h1, h2⟩ := ba hc
    obtain ⟨h3, h4⟩ := ba h2
    obtain ⟨h5, h6⟩ := ba h4
    have h1 := de h1
    subst h1
    have h5 := de h5
    subst h5
    obtain ⟨q1, ⟨y, q2⟩, q3⟩ := cl_ok (q := q) (oe := oe) (pn := pn) Z hsc h6
    refine ⟨QL.PE.imp (pe_callB (X := X.suite q ((q, oe) :: pn)) (call_e1 hd.ec hz hf) (by show X.env.scope.names.lookup _ = _; rw [hsc]; exact de h3) hmi PyProof.Rows.Boot.«isinstance» (pa_cons (pv p2) (pa_cons q1 pa_nil (q3 [])) rfl) (by decide) (by decide) rfl (by show (backTo p3 (starEach [b] X.env)).any (·.1) = false; rw [q3 []]; rfl)) fun σ H Q h => ?_, fun _ => rfl⟩
    obtain ⟨w1, w2, w3⟩ := h
    refine ⟨_, w1, _, _, R.sub n j, rfl, w2, ?_, w3 H fun _ _ z => z⟩
    rw [hK]
    exact Z.kit n hn j y q2
  · rename_i js g p1 x p2 bs k p3 p4
    obtain ⟨h1, h2⟩ := ba hc
    obtain ⟨h3, h4⟩ := ba h2
    obtain ⟨h5, h6⟩ := ba h4
    obtain ⟨h7, h8⟩ := ba h6
    have h1 := de h1
    subst h1
    have h5 := de h5
    subst h5
    have h7 := de h7
    obtain ⟨q1, q2⟩ := cls_ok (q := q) (oe := oe) (pn := pn) Z hsc h8
    refine ⟨QL.PE.imp (pe_callB (X := X.suite q ((q, oe) :: pn)) (call_e2 hd.ec hz hf) (by show X.env.scope.names.lookup _ = _; rw [hsc]; exact de h3) hmi PyProof.Rows.Boot.«isinstance» (pa_cons (pv p2) (pa_cons (pe_tup q1) pa_nil rfl) rfl) (by decide) (by decide) rfl rfl) fun σ H Q h => ?_, fun _ => rfl⟩
    obtain ⟨w1, w2, w3⟩ := h
    refine ⟨_, w1, ?_⟩
    show (js.map fun j => V.ref (T.Y.xc j)).length ≤ sizeLine ∧ ∀ tp, H tp = none → _
    refine ⟨by rw [List.length_map, sizeLine_eq]; omega, fun tp ht => ?_⟩
    refine ⟨_, tp, js.map T.Y.xc, js.any (R.sub n), rfl, by rw [upd_ne (ne_of_none w2 ht)]; exact w2, ?_, ?_, w3 _ (Grow.upd ht)⟩
    · rw [upd_same, List.map_map]; rfl
    · rw [List.map_map, hK]
      exact kit_any fun j hj => by
        obtain ⟨y, hy⟩ := q2 j hj
        exact Z.kit n hn j y hy
  · rename_i d qc j p
    refine ⟨?_, fun _ => rfl⟩
    have go : ∀ {u : V}, PE (X.suite q ((q, oe) :: pn)) (.Constant qc j p) (tC u) → PE (X.suite q ((q, oe) :: pn)) (.Constant qc j p) (tHi ie q da (T.Y.xf n) v u) := fun hh => QL.PE.imp hh fun σ H Q h => h.2.2 H fun _ _ z => z
    cases d <;> cases qc <;> first | (cases hc; done) | skip
    · exact go pe_non
    · rename_i x y
      have : x = y := by cases x <;> cases y <;> first | rfl | cases hc
      subst this
      exact go pe_bl
    · have hc := de hc
      subst hc
      exact go pe_int
    · have hc := de hc
      subst hc
      exact go pe_str
  · cases hc
theorem his_ok (Z : Ex R K X.prog X.w T.B.G T.Y X.mg X.base) (hK : X.K = T.B.G.K) (hsc : X.env.scope = sc) (hmi : X.mg "isinstance" = none) (hn : n ∈ K.xrs) {c : Nat} (hnc : K.sb n c = true) (hz : Zc (.ref (T.Y.xc n)) (some da) oe) (hf : ∃ vs, oe.data = .fields vs) (hN : X.N[ie]? = some en) (hv : Vis X.env.scope en) (ho : okB en = true) :
    ∀ {hs : List HI} {es : List Expr}, chkHs K sc c en hs es = true → PA (X.suite q ((q, oe) :: pn)) es (tHs ie q da (T.Y.xf n) v (hs.map (hiV R n v)))
  | [], [], _ => QL.PA.imp pa_nil fun σ H Q h => h.2.2 H fun _ _ z => z
  | [], _ :: _, h => by cases h
  | _ :: _, [], h => by cases h
  | g :: gs, e :: es, h => by
    obtain ⟨h1, h2⟩ := ba h
    obtain ⟨q1, q2⟩ := hi_ok (q := q) (pn := pn) (v := v) Z hK hsc hmi hn hnc hz hf hN hv ho h1
    refine QL.PA.imp (pa_cons q1 (his_ok Z hK hsc hmi hn hnc hz hf hN hv ho h2) (q2 es)) fun σ H Q h => ?_
    obtain ⟨w1, w2, w3⟩ := h
    exact ⟨w1, w2, fun H1 g1 => ⟨w1, g1 _ _ w2, fun H2 g2 => w3 H2 fun b o z => g2 _ _ (g1 _ _ z)⟩⟩
end

/-! ### try .. except C as e: x = [..] -/
section
variable {R : Pr} {K : Ct} {sc : Scope} {q da : Addr} {n c ie i : Nat} {v : V} {en y : Str} {l : Bool} {its : List HI} {body : List Stmt} {gb : Env → Rs Fl}
theorem hi_rp {x : Xn} {d : QL.D} {G : Gd} {C : Hp} (hd : x.d = some d) (r : Rp G C d v) : ∀ {hs : List HI} {ds : List QL.D}, (∀ h ∈ hs, ∀ d, h = .cst d → ∃ q, cstB d q = true) → hiDs R x hs = some ds → Rps G C ds (hs.map (hiV R x.c v))
  | [], ds, _, h => by cases h; exact Rps.nil.mpr rfl
  | g :: gs, ds, hq, h => by
    obtain ⟨d1, e1, e2⟩ := Option.bind_eq_some_iff.mp (show ((hiD R x g).bind fun d => (hiDs R x gs).map fun ds => d :: ds) = some ds from h)
    obtain ⟨ds1, e3, rfl⟩ := Option.map_eq_some_iff.mp e2
    refine Rps.cons.mpr ⟨_, _, rfl, ?_, hi_rp hd r (fun h hh => hq h (List.mem_cons_of_mem _ hh)) e3⟩
    cases g with
    | fld =>
      have e1 : x.d = some d1 := e1
      rw [hd] at e1
      cases e1
      exact r
    | is1 j => cases e1; exact Rp.bl.mpr rfl
    | is js => cases e1; exact Rp.bl.mpr rfl
    | cst d2 =>
      cases e1
      obtain ⟨qc, hc⟩ := hq _ (List.mem_cons_self ..) d1 rfl
      cases d1 <;> cases qc <;> first | (cases hc; done) | skip
      · exact Rp.non.mpr rfl
      · exact Rp.bl.mpr rfl
      · exact Rp.int.mpr rfl
      · exact Rp.str.mpr rfl
theorem chkHs_cst {es : List Expr} : ∀ {hs : List HI} {es : List Expr}, chkHs K sc c en hs es = true → ∀ h ∈ hs, ∀ d, h = .cst d → ∃ q, cstB d q = true
  | [], _, _ => fun h hh => by cases hh
  | _ :: _, [], h => by cases h
  | g :: gs, e :: es, h => fun g' hg d ed => by
    obtain ⟨h1, h2⟩ := ba h
    rcases List.mem_cons.mp hg with rfl | hg
    · subst ed
      cases e <;> first | exact ⟨_, h1⟩ | cases h1
    · exact chkHs_cst (es := es) h2 g' hg d ed
/-- the handler's reading -/
def tHand (T : Tx) (R : Pr) (K : Ct) (c ie i : Nat) (l : Bool) (its : List HI) : Addr → Value → Option Addr → TS := fun q cls dd D σ H => ∃ (n : Nat) (da : Addr) (v : V), n ∈ K.xrs ∧ K.sb n c = true ∧ cls = .ref (T.Y.xc n) ∧ dd = some da ∧ H da = some (.xd [(T.Y.xf n, v)]) ∧ σ[ie]? = some (some (.ref q)) ∧ its.length ≤ LIM ∧
  ∀ H1 p, Grow H H1 → H1 p = none → D.nx (σ.set i (some (.ref p))) (upd H1 p (if l then .lst (its.map (hiV R n v)) else .tup (its.map (hiV R n v))))
abbrev fTry (R : Pr) (c ie i : Nat) (l : Bool) (its : List HI) (gb : Env → Rs Fl) : Env → Rs Fl := fun δ => match gb δ with
    | .er x δ' => if R.sub x.c c then hand R x ie i l its δ' else .er x δ'
    | r => r
def Tx.wish (T : Tx) (W : WX) : Tx := { T with W := W }
theorem sizeLIM {k : Nat} (h : k ≤ LIM) : k ≤ sizeLine := by
  rw [sizeLine_eq]
  unfold LIM at h
  omega
theorem s_try {vE : Expr} {es : List Expr} {x : Str} {kk : Nat} {p3 p4 p5 p6 : Pos} (Z : Ex R K X.prog X.w T.B.G T.Y X.mg X.base) (hK : X.K = T.B.G.K) (hsc : X.env.scope = sc) (hmi : X.mg "isinstance" = none) (hs : X.stack = X.env :: X.outer) (hfr : X.env.frame = some X.env.locals) (hnd : X.N.Nodup) (tk : Takes X T.W)
    (hN : X.N[ie]? = some en) (hl : sc.names.lookup en = some .local) (ho : okB en = true) (hi : X.N[i]? = some y) (hy : sc.names.lookup y = some .local) (hne : i ≠ ie) (hc : K.xcs[c]? = some x) (hg : Gl X x) (hox : okB x = true) (hits : chkHs K sc c en its es = true) (hv : vE = if l then .List es p5 else .Tuple es kk p5)
    (hb : ∀ (W : WX) (pn : List (Addr × Obj)) (xe : Value → Shared → Prop), Takes (X.tr pn xe) W → PassesOwn (model X.prog X.w) X.A X.env xe → PSs (X.tr pn xe) body (tS (T.wish W) gb)) :
    PS X (.Try body [.ExceptHandler (some (.Name x p)) (some en) [.Assign [.Name y p3] vE p4] p6] [] [] pos) (tS T (fTry R c ie i l its gb)) := by
  refine QL.PS.imp (ps_try_as (ts := tHand T R K c ie i l its) (tb := fun W => tS (T.wish W) gb) (c := .ref (T.Y.xc c)) hs hfr hnd hN (by show X.env.scope.names.lookup en = _; rw [hsc]; exact hl) ⟨hg, (okB_ok hox).1, .inl (Z.xc c x hc)⟩ tk hb fun q oe cls d pn hz hf => ?_) fun D σ H h => ?_
  · refine ⟨fun pins s σ H D I h => ?_⟩
    obtain ⟨n, da, v, h1, h2, rfl, rfl, h5, h6, h7, h8⟩ := h
    have pa := his_ok (q := q) (pn := pn) (v := v) Z hK hsc hmi h1 h2 hz hf hN (by rw [hsc]; exact .inl hl) ho hits
    have st : PS (X.suite q ((q, oe) :: pn)) (.Assign [.Name y p3] vE p4) (fun D σ H => σ[ie]? = some (some (.ref q)) ∧ H da = some (.xd [(T.Y.xf n, v)]) ∧ ∀ H1 p, Grow H H1 → H1 p = none → D.nx (σ.set i (some (.ref p))) (upd H1 p (if l then .lst (its.map (hiV R n v)) else .tup (its.map (hiV R n v))))) := by
      have lo : L2.Loc (X.suite q ((q, oe) :: pn)).env.scope y := .inl (by show X.env.scope.names.lookup y = _; rw [hsc]; exact hy)
      have lo2 : (X.suite q ((q, oe) :: pn)).env.scope.names.lookup y = some .local := by show X.env.scope.names.lookup y = _; rw [hsc]; exact hy
      subst hv
      cases l with
      | true =>
        refine QL.PS.imp (ps_set (X := X.suite q ((q, oe) :: pn)) hnd hi lo (pe_lst pa) rfl (.inr lo2)) fun D σ H h => ?_
        obtain ⟨w1, w2, w3⟩ := h
        refine ⟨w1, w2, fun H1 g1 => ⟨?_, fun p hp => w3 H1 p g1 hp⟩⟩
        rw [List.length_map]
        exact sizeLIM h7
      | false =>
        refine QL.PS.imp (ps_set (X := X.suite q ((q, oe) :: pn)) hnd hi lo (pe_tup pa) rfl (.inr lo2)) fun D σ H h => ?_
        obtain ⟨w1, w2, w3⟩ := h
        refine ⟨w1, w2, fun H1 g1 => ⟨?_, fun p hp => w3 H1 p g1 hp⟩⟩
        rw [List.length_map]
        exact sizeLIM h7
    exact (pss_cons st pss_nil).run pins s σ H D I ⟨h6, h5, h8⟩
  · obtain ⟨C, δ, R0, h⟩ := h
    refine ⟨C, δ, R0, ?_⟩
    dsimp only [fTry] at h
    cases e : gb δ with
    | no => rw [e] at h; exact h
    | ok f δ' =>
      rw [e] at h
      cases f <;> exact h
    | er x' δ' =>
      rw [e] at h
      dsimp only at h
      intro cls dd σ' H' C' R' sc' hx
      obtain ⟨x1, rfl, x3⟩ := hx
      rw [show (T.wish (wAs X.K (.ref (T.Y.xc c)) ie (tHand T R K c ie i l its) T.W D)).Y = T.Y from rfl, Z.rs] at x1
      refine ⟨R.sub x'.c c, by rw [hK]; exact Z.exm _ x1 c x hc, fun hb => ?_, fun hb => ?_⟩
      · rw [if_pos hb] at h
        intro q hq
        cases ed : x'.d with
        | none => rw [ed] at x3; exact x3.elim
        | some d =>
          rw [ed] at x3
          obtain ⟨da, v, rfl, y1, y2⟩ := x3
          unfold hand at h
          split at h
          · rename_i s0 ds g1 g2
            split at h
            · rename_i hlen
              obtain ⟨δ2, e2, h2⟩ := optS h
              have rp := hi_rp (R := R) ed y2 (chkHs_cst (es := es) hits) g2
              have lens : its.length = ds.length := by
                have := rp.len
                rw [List.length_map] at this
                omega
              have iel : ie < σ'.length := by
                rw [R'.len]
                unfold lcSl at g1
                split at g1
                · rename_i z; exact (List.getElem?_eq_some_iff.mp z).1
                · rename_i z; exact (List.getElem?_eq_some_iff.mp z).1
                · cases g1
              refine ⟨x'.c, da, v, x1, by rw [← Z.sb]; exact hb, rfl, rfl, R'.sub _ _ y1, by rw [List.getElem?_set_self iel], by omega, fun H1 p gw hp => ?_⟩
              have R1 := (R'.put (i := ie) (s := .un) (o := none) rfl trivial).grow gw
              have hHp : H' p = none := by
                cases z : H' p with
                | none => rfl
                | some u => rw [gw _ _ z] at hp; cases hp
              have es2 : ((σ'.set ie (some (V.ref q))).set i (some (V.ref p))).set ie none = (σ'.set ie none).set i (some (V.ref p)) := by
                rw [List.set_comm _ _ hne, List.set_set, List.set_comm _ _ (Ne.symm hne)]
              show D.nx (((σ'.set ie (some (V.ref q))).set i (some (V.ref p))).set ie none) _
              rw [es2]
              cases l with
              | true =>
                obtain ⟨w1, w2, w3, w4, w5⟩ := R1.newO (.lst (its.map (hiV R x'.c v))) hp
                exact h2 _ _ C' (w1.putRv (Hb := H') (r := .lv ds) ⟨p, _, rfl, upd_same, w3, ⟨w4, hHp⟩, w5, rp⟩ e2) sc'
              | false =>
                obtain ⟨w1, w2⟩ := R1.new (.tup (its.map (hiV R x'.c v))) hp
                exact h2 _ _ _ (w1.putRv (Hb := H') (r := .fz (.tup ds)) (Rp.tup.mpr ⟨p, _, rfl, .of upd_same, Rps.mono w2.cs _ _ rp⟩) e2) (sc'.trans w2.cs)
            · exact h.elim
          · exact h.elim
      · have hb' : ¬ R.sub x'.c c = true := by rw [hb]; decide
        rw [if_neg hb'] at h
        exact h _ _ σ' H' C' R' sc' ⟨by rw [Z.rs]; exact x1, rfl, x3⟩
end
end
end QL

end
section
set_option Elab.async false
set_option linter.all false
set_option maxRecDepth 100000
/-! Q14: the small syntax is held against the text's own; statements. -/
namespace QL
open PySem PySem.Spec PyProof.Rows L2

def locB (sc : Scope) (x : Str) : Bool := match sc.names.lookup x with
  | some .local => true
  | some .cell => true
  | _ => false
def isCompE : Expr → Bool
  | .ListComp _ _ _ _ => true
  | .SetComp _ _ _ _ => true
  | .DictComp _ _ _ _ _ => true
  | _ => false
def funB (sc : Scope) : Bool := match sc.kind with
  | .function => true
  | _ => false
/-- x = [.. for ..]: the store is swapped in -/
def swB (sc : Scope) (x : Str) (p : Pos) : Expr → Bool
  | .ListComp _ _ scope pos => funB sc && (decide (sc.names.lookup x = some .local) && ((p.line == pos.line) && !(scope.names.any fun (n, k) => n == x && (k == .local || k == .cell))))
  | _ => false
def tgN1 (K : Ct) (sc : Scope) (i : Nat) : Expr → Bool
  | .Name x _ => decide (K.N[i]? = some x) && locB sc x
  | _ => false
def tgNs (K : Ct) (sc : Scope) : List Nat → List Expr → Bool
  | [], [] => true
  | i :: is, e :: es => tgN1 K sc i e && tgNs K sc is es
  | _, _ => false
def isTupE : Expr → Bool
  | .Tuple _ _ _ => true
  | _ => false
def tgB (K : Ct) (sc : Scope) : List Nat → Expr → Bool
  | [i], .Name x _ => decide (K.N[i]? = some x) && locB sc x
  | i :: j :: is, .Tuple es _ _ => tgNs K sc (i :: j :: is) es
  | _, _ => false
def isV : E → Option Nat
  | .v i => some i
  | _ => none
def isLc : E → Bool
  | .lc _ _ _ _ => true
  | _ => false

mutual
def chkS (K : Ct) (sc : Scope) : S → Stmt → Bool
  | .pass, st => (match st with
    | .Pass _ => true
    | _ => false)
  | .set i e, st => (match st with
    | .Assign [.Name x p] v _ => decide (K.N[i]? = some x) && (locB sc x && (chkE K sc e v && (!isCompE v || swB sc x p v)))
    | _ => false)
  | .tset is e, st => (match st with
    | .Assign [.Tuple l k p] v _ => tgB K sc is (.Tuple l k p) && (chkE K sc e v && (!isCompE v && !isTupE v))
    | _ => false)
  | .six i k e, st => (match st with
    | .Assign [.Subscript (.Name x _) b _] v _ => nmB K sc i x && (chkE K sc k b && (chkE K sc e v && !isCompE v))
    | _ => false)
  | .app i e, st => (match st with
    | .Expr (.Call (.Attribute (.Name x _) f ap) [a] [] p2) _ => decide (f = "append") && (nmB K sc i x && ((ap.endLine == p2.line) && chkE K sc e a))
    | _ => false)
  | .ex e, st => (match st with
    | .Expr v _ => chkE K sc e v && !isCompE v
    | _ => false)
  | .aug i o e, st => (match st with
    | .AugAssign (.Name x _) op v _ => decide (K.N[i]? = some x) && (locB sc x && (chkE K sc e v && ((match o with
      | .add => true
      | .sub => true
      | _ => false) && decide (op = opOf o))))
    | _ => false)
  | .ret e, st => (match st with
    | .Return (some v) _ => chkE K sc e v
    | _ => false)
  | .retN, st => (match st with
    | .Return none _ => true
    | _ => false)
  | .ift c a b, st => (match st with
    | .If t x y _ => chkE K sc c t && (chkSs K sc a x && chkSs K sc b y)
    | _ => false)
  | .for_ is it b, st => (match st with
    | .For tg iter body [] _ => tgB K sc is tg && (!isSetE iter && (chkI K sc it iter && chkSs K sc b body))
    | _ => false)
  | .whl c b, st => (match st with
    | .While t body [] _ => chkE K sc c t && chkSs K sc b body
    | _ => false)
  | .brk, st => (match st with
    | .Break _ => true
    | _ => false)
  | .cnt, st => (match st with
    | .Continue _ => true
    | _ => false)
  | .rse c e, st => (match st with
    | .Raise (some (.Call (.Name x _) [a] [] _)) none _ => decide (K.xcs[c]? = some x) && (glB sc x && (okB x && (decide (c ∈ K.xrs) && chkE K sc e a)))
    | _ => false)
  | .try_ b ie c i l its, st => (match st with
    | .Try body [.ExceptHandler (some (.Name x _)) (some en) [.Assign [.Name y _] v _] _] [] [] _ => chkSs K sc b body && (decide (K.N[ie]? = some en) && (decide (sc.names.lookup en = some .local) && (okB en && (decide (K.N[i]? = some y) && (decide (sc.names.lookup y = some .local) && (decide (i ≠ ie) && (decide (K.xcs[c]? = some x) && (glB sc x && (okB x && (match v with
      | .List es _ => l && chkHs K sc c en its es
      | .Tuple es _ _ => !l && chkHs K sc c en its es
      | _ => false))))))))))
    | _ => false)
def chkSs (K : Ct) (sc : Scope) : Ss → List Stmt → Bool
  | .nil, l => (match l with
    | [] => true
    | _ => false)
  | .cons s ss, l => (match l with
    | st :: l => chkS K sc s st && chkSs K sc ss l
    | _ => false)
end

/-- the context of a def's body -/
structure Cs (T : Tx) (R : Pr) (K : Ct) (k : Nat) (sc : Scope) (X : Cx) : Prop extends Cn T R K k sc X where
  pas : PassesOwn (model X.prog X.w) X.A X.env X.xe
  fn : ∀ x, X.fn x = true
  stk : X.stack = X.env :: X.outer
  frm : X.env.frame = some X.env.locals
  two : 2 ≤ k
  exs : Ex R K X.prog X.w T.B.G T.Y X.mg X.base
section
variable {T : Tx} {R : Pr} {K : Ct} {k : Nat} {sc : Scope} {X : Cx}
theorem Cs.tr (c : Cs T R K k sc X) {W : WX} {pn : List (Addr × Obj)} {xe : Value → Shared → Prop} (tk : Takes (X.tr pn xe) W) (ps : PassesOwn (model X.prog X.w) X.A X.env xe) : Cs (T.wish W) R K k sc (X.tr pn xe) where
  N := c.N
  nd := c.nd
  sc := c.sc
  hK := c.hK
  calm := c.calm
  room := c.room
  tk := tk
  ef := c.ef
  pas := ps
  fn := c.fn
  stk := c.stk
  frm := c.frm
  two := c.two
  exs := c.exs
theorem Cs.loc (c : Cs T R K k sc X) {x : Str} (h : locB sc x = true) : L2.Loc X.env.scope x := by
  rw [c.sc]
  unfold locB at h
  split at h
  · rename_i e; exact .inl e
  · rename_i e; exact .inr e
  · cases h
theorem Cs.gNm (c : Cs T R K k sc X) {i : Nat} {x : Str} {p : Pos} (h1 : K.N[i]? = some x) (h2 : locB sc x = true) : PG X (.Name x p) (L2.gName i) := pg_name c.nd (by rw [c.N]; exact h1) (c.loc h2) (.inl (c.fn x))
theorem tgNs_ok (c : Cs T R K k sc X) : ∀ {is : List Nat} {es : List Expr}, tgNs K sc is es = true → PGs X es (tgs is) ∧ (assignEach es X.env).length = is.length ∧ List.findIdx? (fun x => x.fst) (assignEach es X.env) = none
  | [], [], _ => ⟨pgs_nil, rfl, rfl⟩
  | [], _ :: _, h => by cases h
  | _ :: _, [], h => by cases h
  | i :: is, e :: es, h => by
    obtain ⟨h1, h2⟩ := ba (show (tgN1 K sc i e && tgNs K sc is es) = true from h)
    unfold tgN1 at h1
    split at h1
    · rename_i x p
      obtain ⟨h3, h4⟩ := ba h1
      obtain ⟨q1, q2, q3⟩ := tgNs_ok c h2
      refine ⟨pgs_cons (c.gNm (de h3) h4) q1 rfl, ?_, ?_⟩
      · show (assignEach es X.env).length + 1 = is.length + 1
        rw [q2]
      · show List.findIdx? (fun x => x.fst) ((false, assign (.Name x p) X.env) :: assignEach es X.env) = none
        rw [List.findIdx?_cons, q3]
        rfl
    · cases h1
theorem tgB_ok (c : Cs T R K k sc X) {is : List Nat} {tg : Expr} (h : tgB K sc is tg = true) : ∃ g, PG X tg g ∧ TgR T is g := by
  unfold tgB at h
  split at h
  · obtain ⟨h1, h2⟩ := ba h
    exact ⟨_, c.gNm (de h1) h2, tg_one⟩
  · obtain ⟨q1, q2, q3⟩ := tgNs_ok c h
    exact ⟨_, pg_tup c.calm q1 q2 q3, tg_tup c.hK⟩
  · cases h
theorem sw_no {v : Expr} {t : Option Expr} {l : Nat} {env : PySem.Env} (h : isCompE v = false) : swapsWith v t l env = pure false := by
  cases v <;> first | rfl | cases h
theorem sole_no {v tg : Expr} {l : Nat} {env : PySem.Env} (h : isCompE v = false) : swapsWithSole [tg] v l env = pure false := by
  cases v <;> first | rfl | cases h | (cases tg <;> rfl)

theorem sto_no {v tg : Expr} {env : PySem.Env} (h : isTupE v = false) : swappedStores [tg] v env = pure none := by
  cases v <;> first | (cases h; done) | skip
  all_goals (cases tg <;> rfl)
theorem asg_ix {o b : Expr} {p : Pos} {env : PySem.Env} {v : Value} (h : ∀ l u s q, b ≠ .Slice l u s q) : assign (.Subscript o b p) env v = (do
      let ov ← holding [v] (eval o env)
      let iv ← holding [v, ov] (eval b env)
      standAt p
      holding [v, ov, iv] (setItem ov iv v)
      release [v, ov, iv] []) := by
  cases b <;> first | rfl | exact absurd rfl (h _ _ _ _)
theorem sto_ix {v o b : Expr} {p : Pos} {env : PySem.Env} : swappedStores [.Subscript o b p] v env = pure none := by
  cases v <;> rfl
/-- x = [.. for ..] -/
theorem s_setLc {i j : Nat} {x y : Str} {elt tg iter : Expr} {ifs : List Expr} {scope : Scope} {pos spos py : Pos} {fi : Env → Rs (List D)} {fc fe : Env → Rs Rv} {tt : TT} (hc : X.calm = true) (hN : X.N.Nodup) (hi : X.N[i]? = some y) (hl : X.env.scope.names.lookup y = some .local)
    (hsw : swapsWith (.ListComp elt [⟨tg, iter, ifs, 0⟩] scope pos) (some (.Name y py)) spos.line X.env = pure true) (hit : PI X tg iter (tI T fi)) (ok : BlkOk X.N X.env.scope scope [(x, j)]) (htt : ∀ σ H Q, tT T.nx fc σ H Q → tt σ H Q)
    (hg : ∀ (s : Shared) (H : Hp) (C : Addr) (cl : List (Str × Addr)) (fp : List Addr), PG (X.blk s H scope (compEnvC scope cl C X.env) fp) tg (L2.gName j)) (ht : ∀ (s : Shared) (H : Hp) (C : Addr) (cl : List (Str × Addr)) (fp : List Addr), PTs (X.blk s H scope (compEnvC scope cl C X.env) fp) ifs tt)
    (he : ∀ (s : Shared) (H : Hp) (C : Addr) (cl : List (Str × Addr)) (fp : List Addr), PE (X.blk s H scope (compEnvC scope cl C X.env) fp) elt (tE T.nx fe)) (hs : ∀ x, foldedSetIterable iter X.env x = pure x) :
    PS X (.Assign [.Name y py] (.ListComp elt [⟨tg, iter, ifs, 0⟩] scope pos) spos) (tS T (fSet i (fLc j fi fc fe))) :=
  QL.PS.imp (ps_setLc hc hN hi hl hsw hit ok hg ht he hs) (set_read fun _ _ _ h => lc_read htt h)
theorem funB_ok {sc : Scope} (h : funB sc = true) : sc.kind = .function := by
  unfold funB at h
  split at h
  · assumption
  · cases h
theorem ret_v {i : Nat} {st : Expr} {pos : Pos} (c : Cn T R K k sc X) (h : chkE K sc (.v i) st = true) : PS X (.Return (some st) pos) (tS T (ex R (.ret (.v i)))) := by
  unfold chkE at h
  split at h
  · obtain ⟨q1, q2, q3, q4⟩ := c.nm h
    exact s_retv q1 q2 q3 q4
  · cases h
/-- a comprehension's value, stored -/
theorem set_lc {i : Nat} {x : Str} {p spos : Pos} {e : E} {v : Expr} (c : Cs T R K k sc X) (h1 : K.N[i]? = some x) (h : chkE K sc e v = true) (hs : swB sc x p v = true) : PS X (.Assign [.Name x p] v spos) (tS T (ex R (.set i e))) := by
  unfold swB at hs
  split at hs
  · rename_i elt gs scope pos
    obtain ⟨g1, g2⟩ := ba hs
    obtain ⟨g3, g4⟩ := ba g2
    obtain ⟨g5, g6⟩ := ba g4
    have hl : X.env.scope.names.lookup x = some .local := by rw [c.sc]; exact de g3
    cases e with
    | lc j it d f =>
      unfold chkE at h
      split at h
      · rename_i elt' tg iter ifs scope' pos' ee
        cases ee
        have hsw : swapsWith (.ListComp elt [⟨tg, iter, ifs, 0⟩] scope pos) (some (.Name x p)) spos.line X.env = pure true := sw_true (by rw [c.sc]; exact funB_ok g1) hl g5 (bn g6)
        obtain ⟨w1, w2⟩ := ba h
        obtain ⟨w3, w4⟩ := ba w2
        obtain ⟨w5, w6⟩ := ba w4
        obtain ⟨w7, w8⟩ := ba w6
        obtain ⟨y, ok, hg⟩ := lcTg_ok c.toCn w1
        have hi : X.N[i]? = some x := by rw [c.N]; exact h1
        split at w8
        · have w8 := isTrueE_ok w8
          subst w8
          exact s_setLc c.calm c.nd hi hl hsw (sndI it c.toCn w5) ok yes_read hg (fun _ _ _ _ _ => pts_nil) (fun s H C cl fp => (sndE f c.toCn.blk w7).1) (foldedSet_no (bn w3))
        · exact s_setLc c.calm c.nd hi hl hsw (sndI it c.toCn w5) ok (fun _ _ _ h => h) hg (fun s H C cl fp => pts_one (sndE d c.toCn.blk w8).2) (fun s H C cl fp => (sndE f c.toCn.blk w7).1) (foldedSet_no (bn w3))
        · cases w8
      · cases h
    | _ => cases h
  · cases hs
end
section
variable {R : Pr} {K : Ct} {k : Nat} {sc : Scope}
mutual
theorem sndS : ∀ (s : S) {T : Tx} {X : Cx} {st : Stmt}, Cs T R K k sc X → chkS K sc s st = true → PS X st (tS T (ex R s))
  | .pass, T, X, st, c, h => by
    unfold chkS at h
    split at h
    · exact s_pass
    · cases h
  | .set i e, T, X, st, c, h => by
    unfold chkS at h
    split at h
    · obtain ⟨h1, h2⟩ := ba h
      obtain ⟨h3, h4⟩ := ba h2
      obtain ⟨h5, h6⟩ := ba h4
      rcases Bool.or_eq_true_iff.mp h6 with h6 | h6
      · exact s_set c.nd (by rw [c.N]; exact de h1) (c.loc h3) (sndE e c.toCn h5).1 (sw_no (bn h6)) (.inl (c.fn _))
      · exact set_lc c (de h1) h5 h6
    · cases h
  | .tset is e, T, X, st, c, h => by
    unfold chkS at h
    split at h
    · rename_i l kk p v pos
      obtain ⟨h1, h2⟩ := ba h
      obtain ⟨h3, h4⟩ := ba h2
      obtain ⟨h5, h6⟩ := ba h4
      match is, h1 with
      | i :: j :: is, h1 =>
        obtain ⟨q1, q2, q3⟩ := tgNs_ok c (show tgNs K sc (i :: j :: is) l = true from h1)
        exact s_tset c.hK (sndE e c.toCn h3).1 fun he => ps_asg he (pg_tup c.calm q1 q2 q3) (sole_no (bn h5)) (sto_no (bn h6)) rfl
    · cases h
  | .six i b e, T, X, st, c, h => by
    unfold chkS at h
    split at h
    · obtain ⟨h1, h2⟩ := ba h
      obtain ⟨h3, h4⟩ := ba h2
      obtain ⟨h5, h6⟩ := ba h4
      obtain ⟨q1, q2, q3, q4⟩ := c.toCn.nm h1
      refine s_six q1 q2 q3 q4 (sndE b c.toCn h3).1 (sndE e c.toCn h5).1 fun he ho hi => ps_asg he (pg_sub ho hi set_list ?_) (sole_no (bn h6)) sto_ix rfl
      exact fun v => asg_ix fun l u s p z => by
        subst z
        rw [slice_no] at h3
        cases h3
    · cases h
  | .app i e, T, X, st, c, h => by
    unfold chkS at h
    split at h
    · obtain ⟨h1, h2⟩ := ba h
      obtain ⟨h3, h4⟩ := ba h2
      obtain ⟨h5, h6⟩ := ba h4
      have h1 := de h1
      subst h1
      obtain ⟨q1, q2, q3, q4⟩ := c.toCn.nm h3
      have hs := starEach_c (es := []) (env := X.env) (chk_star h6)
      refine s_app q1 q2 q3 q4 (sndE e c.toCn h6).1 hs fun ho ha => pe_bm PySem.F.plainAttrs_list PySem.F.slot_list_append PySem.F.type_list_append mt_append ho ha rfl ?_ h5 hs rfl
      rw [hs]
      rfl
    · cases h
  | .ex e, T, X, st, c, h => by
    unfold chkS at h
    split at h
    · obtain ⟨h1, h2⟩ := ba h
      exact s_ex (sndE e c.toCn h1).1 (sw_no (bn h2))
    · cases h
  | .aug i o e, T, X, st, c, h => by
    unfold chkS at h
    split at h
    · obtain ⟨h1, h2⟩ := ba h
      obtain ⟨h3, h4⟩ := ba h2
      obtain ⟨h5, h6⟩ := ba h4
      obtain ⟨h7, h8⟩ := ba h6
      have h8 := de h8
      subst h8
      split at h7
      · exact s_augadd c.nd (by rw [c.N]; exact de h1) (c.loc h3) (sndE e c.toCn h5).1 (.inl (c.fn _))
      · exact s_augsub c.nd (by rw [c.N]; exact de h1) (c.loc h3) (sndE e c.toCn h5).1 (.inl (c.fn _))
      · cases h7
    · cases h
  | .ret e, T, X, st, c, h => by
    unfold chkS at h
    split at h
    · cases e with
      | v i => exact ret_v c.toCn h
      | _ => exact s_ret (sndE _ c.toCn h).1
    · cases h
  | .retN, T, X, st, c, h => by
    unfold chkS at h
    split at h
    · exact s_retN
    · cases h
  | .ift d a b, T, X, st, c, h => by
    unfold chkS at h
    split at h
    · obtain ⟨h1, h2⟩ := ba h
      obtain ⟨h3, h4⟩ := ba h2
      exact s_if (sndE d c.toCn h1).2 (sndSs a c h3) (sndSs b c h4)
    · cases h
  | .for_ is it b, T, X, st, c, h => by
    unfold chkS at h
    split at h
    · obtain ⟨h1, h2⟩ := ba h
      obtain ⟨h3, h4⟩ := ba h2
      obtain ⟨h5, h6⟩ := ba h4
      obtain ⟨g, q1, q2⟩ := tgB_ok c h1
      exact s_for c.pas c.calm (sndI it c.toCn h5) q1 q2 (sndSs b c h6) (foldedSet_no (bn h3))
    · cases h
  | .whl d b, T, X, st, c, h => by
    unfold chkS at h
    split at h
    · obtain ⟨h1, h2⟩ := ba h
      exact s_whl c.pas (sndE d c.toCn h1).2 (sndSs b c h2)
    · cases h
  | .brk, T, X, st, c, h => by
    unfold chkS at h
    split at h
    · exact s_brk
    · cases h
  | .cnt, T, X, st, c, h => by
    unfold chkS at h
    split at h
    · exact s_cnt
    · cases h
  | .rse n e, T, X, st, c, h => by
    unfold chkS at h
    split at h
    · obtain ⟨h1, h2⟩ := ba h
      obtain ⟨h3, h4⟩ := ba h2
      obtain ⟨h5, h6⟩ := ba h4
      obtain ⟨h7, h8⟩ := ba h6
      have h7 := de h7
      have M := c.exs.xm n h7
      have no := (c.exs.xd n h7).no
      rw [← c.hK] at M no
      exact s_rse c.hK (by rw [c.exs.rs]; exact h7) M no c.calm c.tk (c.room.mono c.two) (c.toCn.gl h3) (c.exs.xc n _ (de h1)) (okB_ok h5).1 (sndE e c.toCn h8).1 (starEach_c (chk_star h8))
    · cases h
  | .try_ b ie n i l its, T, X, st, c, h => by
    unfold chkS at h
    split at h
    · obtain ⟨h1, h⟩ := ba h
      obtain ⟨h2, h⟩ := ba h
      obtain ⟨h3, h⟩ := ba h
      obtain ⟨h4, h⟩ := ba h
      obtain ⟨h5, h⟩ := ba h
      obtain ⟨h6, h⟩ := ba h
      obtain ⟨h7, h⟩ := ba h
      obtain ⟨h8, h⟩ := ba h
      obtain ⟨h9, h⟩ := ba h
      obtain ⟨h10, h⟩ := ba h
      have go : ∀ {es : List Expr} {vE : Expr} {kk : Nat} {p p3 p4 p5 p6 pos : Pos} {en y x : Str} {body : List Stmt}, chkSs K sc b body = true → K.N[ie]? = some en → sc.names.lookup en = some .local → okB en = true → K.N[i]? = some y → sc.names.lookup y = some .local → K.xcs[n]? = some x → glB sc x = true → okB x = true → chkHs K sc n en its es = true →
          (vE = if l then .List es p5 else .Tuple es kk p5) → PS X (.Try body [.ExceptHandler (some (.Name x p)) (some en) [.Assign [.Name y p3] vE p4] p6] [] [] pos) (tS T (ex R (.try_ b ie n i l its))) := fun g1 g2 g3 g4 g5 g6 g8 g9 g10 g11 g12 =>
        s_try c.exs c.hK c.sc (c.toCn.nob (by decide)) c.stk c.frm c.nd c.tk (by rw [c.N]; exact g2) g3 g4 (by rw [c.N]; exact g5) g6 (de h7) g8 (c.toCn.gl g9) g10 g11 g12 fun W pn xe tk ps => sndSs b (c.tr tk ps) g1
      split at h
      · obtain ⟨w1, w2⟩ := ba h
        exact go (kk := 0) h1 (de h2) (de h3) h4 (de h5) (de h6) (de h8) h9 h10 w2 (by rw [w1]; rfl)
      · obtain ⟨w1, w2⟩ := ba h
        exact go h1 (de h2) (de h3) h4 (de h5) (de h6) (de h8) h9 h10 w2 (by rw [bn w1]; rfl)
      · cases h
    · cases h
theorem sndSs : ∀ (ss : Ss) {T : Tx} {X : Cx} {l : List Stmt}, Cs T R K k sc X → chkSs K sc ss l = true → PSs X l (tS T (exs R ss))
  | .nil, T, X, l, c, h => by
    unfold chkSs at h
    split at h
    · exact s_nil
    · cases h
  | .cons s ss, T, X, l, c, h => by
    unfold chkSs at h
    split at h
    · obtain ⟨h1, h2⟩ := ba h
      exact s_cons (sndS s c h1) (sndSs ss c h2)
    · cases h
end
end
end QL

end
section
set_option Elab.async false
set_option linter.all false
set_option maxRecDepth 100000
/-! Q15: the text's defs and error classes, from the head's facts; all defs at once. -/
namespace QL
open PySem PySem.Spec PyProof.Rows L2 He

/-! ### an error class's __init__ -/
def inCls (j : Nat) : Stmt → Stmt
  | .ClassDef _ _ _ b _ _ _ _ _ _ _ => b.getD j (.Pass ⟨0, 0, 0, 0⟩)
  | _ => .Pass ⟨0, 0, 0, 0⟩
structure IniD where
  cls : Str
  fld : Str
  qual : Str
  st : Stmt
abbrev IniV : Type := Option (Str × Str × Arguments × FuncBody × Scope × Addr × List Str × Addr)
def iniA (K : PySem.W.Frag) (d : IniD) : Addr := ma K (ga K d.cls) "__init__"
def iniW (K : PySem.W.Frag) (d : IniD) : IniV := match K.lookup (iniA K d) with
  | some ⟨_, _, .func fd, _⟩ => some (fd.name, fd.qualname, fd.params, fd.body, fd.scope, fd.globals, fd.closure.map (·.1), fd.builtins)
  | _ => none
def IniD.val (d : IniD) : IniV := some ("__init__", d.qual, defArgs d.st, .stmts (defBody d.st), defScope d.st, mainGlobals, ["__class__"], builtinsNs)
def codB (P : Program) (K : PySem.W.Frag) (q : Str) : Value → Bool
  | .ref c => PySem.W.codeIn K (.ref c) q && (match K.lookup c with
    | some ⟨_, _, .fields vs, _⟩ => (match (vs[2]? : Option Value) with
      | some (.str f _) => ((P.main.file : Str) == f)
      | _ => false)
    | _ => false)
  | _ => false
def celB (K : PySem.W.Frag) (D : Addr) : List (Str × Addr) → Bool
  | [(_, cc)] => (match K.lookup cc with
    | some ⟨_, _, .cell (some (.ref E)), _⟩ => decide (E = D) && (PySem.W.clsIn K E).isSome
    | _ => false)
  | _ => false
def nonB : Value → Bool
  | .none => true
  | _ => false
def IniD.ok (P : Program) (K : PySem.W.Frag) (d : IniD) : Bool := match K.lookup (iniA K d) with
  | some ⟨_, _, .func fd, _⟩ => codB P K d.qual fd.code && (celB K (ga K d.cls) fd.closure && nonB fd.defaults)
  | _ => false
/-- its shape, in the text -/
structure IniS (d : IniD) : Prop where
  body : ∃ (txt : Str) (j : Nat) (p0 p1 p2 p3 p4 p5 p6 p7 p8 p9 : Pos), defBody d.st = [.Expr (.Call (.Attribute (.Call (.Name "super" p0) [] [] p1) "__init__" p2) [.Constant (.str txt) j p3] [] p4) p5, .Assign [.Attribute (.Name "self" p6) d.fld p7] (.Name d.fld p8) p9] ∧ (p2.endLine == p4.line) = true
  par : ∃ ar, ((defArgs d.st).posonlyargs ++ (defArgs d.st).args).head? = some ar ∧ ar.arg = "self"
  sc : (defScope d.st).kind = .function ∧ (defScope d.st).isCoroutine = false ∧ (defScope d.st).isGenerator = false ∧ (defScope d.st).names.lookup ("super" : Str) = some .globalImplicit ∧ (defScope d.st).names.lookup ("__class__" : Str) = some .free ∧ (defScope d.st).names.lookup ("self" : Str) = some .local ∧ (defScope d.st).names.lookup d.fld = some .local ∧
    (∀ y ∈ (defScope d.st).names, y.2 ≠ .cell) ∧ (∀ y ∈ (defScope d.st).names, y.2 = .free → y.1 = "__class__")
  ne : d.fld ≠ "self"
  dbg : (d.fld == ("__debug__" : Str)) = false ∧ (d.fld == ("__classdict__" : Str)) = false
  bnd : ∀ (kV doc pm : Value) (an : Option Addr) (cdv ct : Value) (cc : Addr) (us : List Value), us.length = 2 → bindArgs (PySem.W.ksFn "__init__" d.qual (defArgs d.st) (defBody d.st) (defScope d.st) .none kV doc pm an cdv ct cc) ⟨us, []⟩ = pure ([("self" : Str), d.fld].zip us)
theorem ini_sup {P : Program} {K : PySem.W.Frag} {mg : Str → Option Value} {d : IniD} (S : IniS d) (e : iniW K d = d.val) (ok : d.ok P K = true) (top : (P.main.scope.names.lookup ("super" : Str)).isSome = false) (sup : mg "super" = none) (th : PySem.W.nsIn K cStatics "thirdparty.any" = some none) :
    ∃ fd, SupD P K mg (ga K d.cls) (iniA K d) fd d.fld ∧ Binds K fd ["self", d.fld] [] := by
  unfold IniD.ok at ok
  unfold iniW at e
  cases q : K.lookup (iniA K d) with
  | none => rw [q] at ok; cases ok
  | some o =>
    obtain ⟨oc, od, dt, osl⟩ := o
    rw [q] at ok e
    cases dt with
    | func fd =>
      obtain ⟨n1, n2, n3, n4, n5, n6, n7, n8, n9, n10, n11, n12, n13, n14, n15⟩ := fd
      have e2 : (some (n1, n2, n3, n4, n5, n6, n7.map (·.1), n15) : IniV) = some (("__init__" : Str), d.qual, defArgs d.st, FuncBody.stmts (defBody d.st), defScope d.st, mainGlobals, [("__class__" : Str)], builtinsNs) := e
      simp only [Option.some.injEq, Prod.mk.injEq] at e2
      obtain ⟨h1, h2, h3, h4, h5, h6, h7, h8⟩ := e2
      have ok2 : (codB P K d.qual n13 && (celB K (ga K d.cls) n7 && nonB n8)) = true := ok
      obtain ⟨c1, c02⟩ := QL.ba ok2
      obtain ⟨c2, c0⟩ := QL.ba c02
      clear c02
      unfold celB at c2
      split at c2
      · rename_i y cc
        have ey : y = "__class__" := by simpa using h7
        subst ey
        split at c2
        · rename_i k1 k2 E k3 lk
          obtain ⟨c3, c4⟩ := QL.ba c2
          have c3 := de c3
          obtain ⟨cdD, c4⟩ := Option.isSome_iff_exists.mp c4
          unfold codB at c1
          split at c1
          · rename_i c
            obtain ⟨c5, c6⟩ := QL.ba c1
            split at c6
            · rename_i k4 k5 vs k6 lk2
              split at c6
              · rename_i fl tk hv
                have e8 : n8 = .none := by
                  cases n8 <;> first | rfl | cases c0
                subst h1 h2 h3 h4 h5 h6 h8 e8
                refine ⟨_, ⟨?_, top, sup, th, S.ne, S.dbg⟩, .all fun us hl => S.bnd n9 n10 n11 n12 (.ref c) n14 cc us hl⟩
                obtain ⟨txt, j, p0, p1, p2, p3, p4, p5, p6, p7, p8, p9, hb, hl⟩ := S.body
                obtain ⟨ar, a1, a2⟩ := S.par
                obtain ⟨s1, s2, s3, s4, s5, s6, s7, s8, s9⟩ := S.sc
                refine ⟨"__init__", d.qual, _, _, .none, n9, n10, n11, n14, oc, n12, od, osl, c, cc, k4, k5, vs, k6, fl, tk, k1, k2, k3, cdD, ar, txt, j, p0, p1, p2, p3, p4, p5, p6, p7, p8, p9, ?_, q, c5, a1, a2, lk2, hv, c6, ?_, ?_, s1, s2, s3, s4, s5, s6, s7, s8, s9, hl⟩
                · rw [hb]
                · rw [lk, c3]
                · rw [← c3]; exact c4
              · cases c6
            · cases c6
          · cases c1
        · cases c2
      · cases c2
    | _ => cases ok

/-! ### error classes -/
def oexB (K : PySem.W.Frag) (C : Addr) : Bool := (match K.lookup C with
  | some ⟨.type t, _, .cls cd, sl⟩ => decide (t = "type") && (match cd.mro, sl.toList with
    | .ref C' :: bm, [_, _, _, _, some (.builtin n), _] => decide (C' = C) && (decide (n = "ValueError.__new__") && (!cd.hasDel && (cd.hasDict && PySem.HandSPX.refsVE bm)))
    | _, _ => false)
  | _ => false) && (decide (PySem.W.findIn K (.ref C) "__setattr__" = some (some (.builtin "object.__setattr__"))) && (decide (PySem.W.subIn K (.ref C) (.type "BaseException") = some true) && (decide (PySem.W.typeIn K (.ref C) = some (.type "type")) && PySem.W.keepIn K (.ref C))))
theorem oexB_ok {K : PySem.W.Frag} {C : Addr} (h : oexB K C = true) : OexC K C := by
  obtain ⟨h1, h2⟩ := QL.ba h
  obtain ⟨h3, h4⟩ := QL.ba h2
  obtain ⟨h5, h6⟩ := QL.ba h4
  obtain ⟨h7, h8⟩ := QL.ba h6
  refine ⟨?_, de h3, de h5, de h7, h8⟩
  split at h1
  · rename_i t dd cd sl lk
    obtain ⟨g1, g2⟩ := QL.ba h1
    have g1 := de g1
    subst g1
    split at g2
    · rename_i C' bm k0 k1 k2 k3 n k5 em es
      obtain ⟨g3, g4⟩ := QL.ba g2
      obtain ⟨g5, g6⟩ := QL.ba g4
      obtain ⟨g7, g8⟩ := QL.ba g6
      obtain ⟨g9, g10⟩ := QL.ba g8
      have g3 := de g3
      subst g3
      have g5 := de g5
      subst g5
      obtain ⟨cn, cb, cm, cns, cq, chd, csn, csb, cab, ccol, cdel⟩ := cd
      dsimp only at em g7 g9
      subst em
      have g7 := bn g7
      subst g7
      subst g9
      have esl : sl = #[k0, k1, k2, k3, some (.builtin "ValueError.__new__"), k5] := by
        rw [← es]
      subst esl
      exact ⟨cn, cq, cns, cb, bm, csn, csb, cab, ccol, dd, k0, k1, k2, k3, k5, lk, g10⟩
    · cases g2
  · cases h1
def ecB (K : PySem.W.Frag) (C : Addr) (f : Str) : Bool := decide (PySem.W.findIn K (.ref C) "__getattribute__" = some (some (.builtin "BaseException.__getattribute__"))) && (decide (PySem.W.findIn K (.ref C) "__getattr__" = some none) && (decide (PySem.W.subIn K (.ref C) (.type "BaseException") = some true) && (PySem.W.hasDictIn K C &&
  (decide (PySem.W.findIn K (.ref C) "__class__" = some (some (.builtin "object.__class__"))) && (decide (PySem.W.specialIn K (.builtin "object.__class__") "__get__" = some (some (.builtin "getset_descriptor.__get__"))) && (decide (PySem.W.takesIn K (.builtin "object.__class__") = some true) && (decide (PySem.W.mroIn K C (.type "object") = some true) &&
    decide (PySem.W.findIn K (.ref C) f = some none))))))))
theorem ecB_ok {K : PySem.W.Frag} {C : Addr} {f : Str} (h : ecB K C f = true) : XcD K C f := by
  obtain ⟨h1, h⟩ := QL.ba h
  obtain ⟨h2, h⟩ := QL.ba h
  obtain ⟨h3, h⟩ := QL.ba h
  obtain ⟨h4, h⟩ := QL.ba h
  obtain ⟨h5, h⟩ := QL.ba h
  obtain ⟨h6, h⟩ := QL.ba h
  obtain ⟨h7, h⟩ := QL.ba h
  obtain ⟨h8, h9⟩ := QL.ba h
  exact ⟨⟨de h1, de h2, de h3, h4, de h5, de h6, de h7, de h8⟩, ⟨de h1, de h2, de h3, h4⟩, de h9⟩
/-- C's __init__ is that of the class D, over ValueError's -/
def inB (K : PySem.W.Frag) (C D f : Addr) : Bool := decide (PySem.W.findIn K (.ref C) "__init__" = some (some (.ref f))) && (decide (PySem.W.typeIn K (.ref f) = some (.type "function")) && (decide (PySem.W.mroIn K C (.ref D) = some true) && (decide (PySem.W.ks_superIn K C D "__init__" = some (some (.builtin "ValueError.__init__"))) && decide (PySem.W.subIn K (.ref C) (.type "ValueError") = some true))))

/-- the text's error classes: names, fields, the raised ones with their __init__ (a number in ins), which is under which -/
structure ErD where
  xcs : List Str
  xfs : List Str
  xrs : List (Nat × Nat)
  sb : Nat → Nat → Bool
  ins : List IniD
def ErD.nm (e : ErD) (j : Nat) : Str := e.xcs.getD j ""
def ErD.ok (P : Program) (e : ErD) (K : PySem.W.Frag) : Bool := decide (PySem.W.nsIn K cStatics "thirdparty.any" = some none) && (e.ins.all (fun d => d.ok P K) && (e.xrs.all (fun q => oexB K (ga K (e.nm q.1)) && (ecB K (ga K (e.nm q.1)) (e.xfs.getD q.1 "") && (match e.ins[q.2]? with
    | some d => decide (d.fld = e.xfs.getD q.1 "") && inB K (ga K (e.nm q.1)) (ga K d.cls) (iniA K d)
    | none => false))) &&
  e.xrs.all fun q => (List.range e.xcs.length).all fun j => decide (PySem.W.kitOne K (.ref (ga K (e.nm q.1))) (.ref (ga K (e.nm j))) = some (e.sb q.1 j)) && decide (PySem.W.exmOne K (.ref (ga K (e.nm q.1))) (.ref (ga K (e.nm j))) = some (e.sb q.1 j))))
def ErD.Y (e : ErD) (K : PySem.W.Frag) : Xg := ⟨fun j => ga K (e.nm j), fun j => e.xfs.getD j "", e.xrs.map (·.1)⟩
/-- the checks' table -/
def ErD.ct (e : ErD) (N fns : List Str) (ars : List (Nat × Nat)) (gls : List Str) : Ct := ⟨N, fns, ars, gls, [], [], e.xcs, e.xfs, e.xrs.map (·.1), e.sb⟩
def gd (K : PySem.W.Frag) : Gd := ⟨K, fun _ => 0, fun _ => ""⟩
theorem er_ok {P : Program} {w : World} {K : PySem.W.Frag} {mg : Str → Option Value} {base : Heap} {e : ErD} {R : Pr} {N fns gls : List Str} {ars : List (Nat × Nat)} (h : e.ok P K = true) (hw : e.ins.map (iniW K) = e.ins.map IniD.val) (hS : ∀ d ∈ e.ins, IniS d) (top : (P.main.scope.names.lookup ("super" : Str)).isSome = false) (sup : mg "super" = none)
    (hg : ∀ x ∈ e.xcs, mg x = some (.ref (ga K x))) (hsb : R.sub = e.sb) (hl : e.xrs.all (fun q => decide (q.1 < e.xfs.length)) = true) : Ex R (e.ct N fns ars gls) P w (gd K) (e.Y K) mg base := by
  obtain ⟨h1, h2⟩ := QL.ba h
  obtain ⟨h3, h4⟩ := QL.ba h2
  obtain ⟨h5, h6⟩ := QL.ba h4
  have nmE : ∀ {j : Nat} {x : Str}, e.xcs[j]? = some x → e.nm j = x := fun {j x} q => by
    unfold ErD.nm
    rw [List.getD_eq_getElem?_getD, q]
    rfl
  have mem : ∀ {j : Nat}, j ∈ e.xrs.map (·.1) → ∃ m, (j, m) ∈ e.xrs := fun {j} q => by
    obtain ⟨⟨a, b⟩, q1, rfl⟩ := List.mem_map.mp q
    exact ⟨b, q1⟩
  refine ⟨fun j x q => ?_, rfl, fun j q => ?_, fun j q => ?_, fun j q => ?_, fun i q j x hx => ?_, fun i q j x hx => ?_, hsb⟩
  · have q : e.xcs[j]? = some x := q
    show mg x = some (.ref (ga K (e.nm j)))
    rw [nmE q]
    exact hg x (List.mem_of_getElem? q)
  · obtain ⟨m, q⟩ := mem q
    obtain ⟨_, g2⟩ := QL.ba (List.all_eq_true.mp h5 _ q)
    exact ecB_ok (QL.ba g2).1
  · obtain ⟨m, q⟩ := mem q
    obtain ⟨g1, g2⟩ := QL.ba (List.all_eq_true.mp h5 _ q)
    obtain ⟨g3, g4⟩ := QL.ba g2
    refine ⟨oexB_ok g1, ?_⟩
    split at g4
    · rename_i d hd
      obtain ⟨g5, g6⟩ := QL.ba g4
      obtain ⟨g7, g8⟩ := QL.ba g6
      obtain ⟨g9, g10⟩ := QL.ba g8
      obtain ⟨g11, g12⟩ := QL.ba g10
      obtain ⟨g13, g14⟩ := QL.ba g12
      have dm := List.mem_of_getElem? hd
      have ew : iniW K d = d.val := by
        have z : (e.ins.map (iniW K))[m]? = (e.ins.map IniD.val)[m]? := by rw [hw]
        rw [List.getElem?_map, List.getElem?_map, hd] at z
        exact Option.some.inj z
      obtain ⟨fd, S1, S2⟩ := ini_sup (mg := mg) (hS d dm) ew (List.all_eq_true.mp h3 d dm) top sup (de h1)
      have ef : d.fld = (e.Y K).xf j := de g5
      rw [ef] at S1 S2
      exact ⟨iniA K d, ga K d.cls, fd, de g7, de g9, sup_ok S1, S2, de g11, de g13, de g14⟩
    · cases g4
  · obtain ⟨m, q⟩ := mem q
    have := de (List.all_eq_true.mp hl _ q)
    show e.xfs[j]? = some (e.xfs.getD j "")
    rw [List.getD_eq_getElem?_getD, List.getElem?_eq_getElem this]
    rfl
  · obtain ⟨m, q⟩ := mem q
    have hx : e.xcs[j]? = some x := hx
    have := List.all_eq_true.mp (List.all_eq_true.mp h6 _ q) j (List.mem_range.mpr (List.getElem?_eq_some_iff.mp hx).1)
    rw [hsb]
    exact de (QL.ba this).1
  · obtain ⟨m, q⟩ := mem q
    have hx : e.xcs[j]? = some x := hx
    have := List.all_eq_true.mp (List.all_eq_true.mp h6 _ q) j (List.mem_range.mpr (List.getElem?_eq_some_iff.mp hx).1)
    rw [hsb]
    exact de (QL.ba this).2
end QL

end
section
set_option Elab.async false
set_option linter.all false
set_option maxRecDepth 100000
/-! Q16: all defs of the text at once; the head; the end. -/
namespace QL
open PySem PySem.Spec PyProof.Rows L2 He

structure Df where
  nm : Str
  st : Stmt
  N : List Str
  ps : List Str
  dv : List Dv
  b : Ss
def dvD : Dv → D
  | .bl b => .bl b
  | .int i => .int i
  | .str x => .str x
  | _ => .non
def dvB : Dv → Bool
  | .non => true
  | .bl _ => true
  | .int _ => true
  | .str _ => true
  | _ => false
def Df.dfl (d : Df) : List D := d.dv.map dvD
def Df.dd (d : Df) : DefD := ⟨(d.nm, none), d.nm, d.nm, defArgs d.st, defBody d.st, defScope d.st, d.dv, []⟩
/-- the worth of a def above those of acc -/
def Df.fn (gl : List D) (sb : Nat → Nat → Bool) (acc : List Fn) (d : Df) : Fn := QL.mk ⟨acc, gl, fun _ _ => none, sb⟩ d.ps.length d.N.length d.dfl d.b
def tabGo (gl : List D) (sb : Nat → Nat → Bool) (acc : List Fn) : List Df → List Fn
  | [] => acc
  | d :: ds => tabGo gl sb (acc ++ [d.fn gl sb acc]) ds
def scB (N ps : List Str) (sc : Scope) : Bool := funB sc && (!sc.isCoroutine && (!sc.isGenerator && (decide N.Nodup && (decide (N.take ps.length = ps) && (ps.all (locB sc) && sc.names.all fun y => match y.2 with
  | .free => false
  | _ => true)))))
def Df.chk (e : ErD) (gls fns : List Str) (ars : List (Nat × Nat)) (d : Df) : Bool := scB d.N d.ps (defScope d.st) && (d.dv.all dvB && chkSs (e.ct d.N fns ars gls) (defScope d.st) d.b (defBody d.st))
def chkGo (e : ErD) (gls fns : List Str) (ars : List (Nat × Nat)) : List Df → Bool
  | [] => true
  | d :: ds => d.chk e gls fns ars && chkGo e gls (fns ++ [d.nm]) (ars ++ [(d.ps.length, d.dv.length)]) ds
def Df.F (d : Df) (K : PySem.W.Frag) (f : Addr) (fd : FuncData) : Prop := FunD K d.nm d.nm (defArgs d.st) (defBody d.st) (defScope d.st) (d.dd.dvs K) (d.dd.kws K) f fd
/-- its parameters are bound as the small def says -/
def Df.Bn (d : Df) : Prop := ∀ (K : PySem.W.Frag) (f : Addr) (fd : FuncData), d.F K f fd → ∀ n, n ≤ d.ps.length → d.ps.length - n ≤ d.dv.length → ∃ ds, Vals ((d.dv.map (Dv.v K)).drop (d.dv.length - (d.ps.length - n))) ds ∧ Binds K fd d.ps ds
theorem bn0 {d : Df} (h0 : d.dv = []) (h : ∀ (kV doc pm : Value) (an : Option Addr) (cdv ct : Value) (us : List Value), us.length = d.ps.length → bindArgs (PySem.W.fnOf d.nm d.nm (defArgs d.st) (defBody d.st) (defScope d.st) .none kV doc pm an cdv ct) ⟨us, []⟩ = pure (d.ps.zip us)) : d.Bn := fun K f fd F n h1 h2 => by
  have F' : FunD K d.nm d.nm (defArgs d.st) (defBody d.st) (defScope d.st) [] (d.dd.kws K) f fd := by
    have e : d.dd.dvs K = [] := by
      show d.dv.map (Dv.v K) = []
      rw [h0]; rfl
    have F : FunD K d.nm d.nm (defArgs d.st) (defBody d.st) (defScope d.st) (d.dd.dvs K) (d.dd.kws K) f fd := F
    rw [e] at F
    exact F
  rw [h0]
  exact ⟨[], by rw [List.map_nil, List.drop_nil]; exact .nil, F'.bindsN h⟩
theorem bn1 {d : Df} {v : Dv} {m : Nat} (h0 : d.dv = [v]) (hm : d.ps.length = m + 1)
    (h : ∀ (T : Addr) (kV doc pm : Value) (an : Option Addr) (cdv ct : Value) (us its : List Value), us.length = m → its.length = 1 → ∃ k, bindArgs (PySem.W.fnOf d.nm d.nm (defArgs d.st) (defBody d.st) (defScope d.st) (.ref T) kV doc pm an cdv ct) ⟨us, []⟩ = seqItems? (.ref T) >>= k ∧ k (some its.toArray) = pure (d.ps.zip (us ++ its.drop 0)))
    (h' : ∀ (T : Addr) (kV doc pm : Value) (an : Option Addr) (cdv ct : Value) (us its : List Value), us.length = m + 1 → its.length = 1 → ∃ k, bindArgs (PySem.W.fnOf d.nm d.nm (defArgs d.st) (defBody d.st) (defScope d.st) (.ref T) kV doc pm an cdv ct) ⟨us, []⟩ = seqItems? (.ref T) >>= k ∧ k (some its.toArray) = pure (d.ps.zip (us ++ its.drop 1))) : d.Bn := fun K f fd F n h1 h2 => by
  have e : d.dd.dvs K = [v.v K] := by
    show d.dv.map (Dv.v K) = _
    rw [h0]; rfl
  have F' : FunD K d.nm d.nm (defArgs d.st) (defBody d.st) (defScope d.st) [v.v K] (d.dd.kws K) f fd := by
    have F : FunD K d.nm d.nm (defArgs d.st) (defBody d.st) (defScope d.st) (d.dd.dvs K) (d.dd.kws K) f fd := F
    rw [e] at F
    exact F
  have l1 : d.dv.length = 1 := by rw [h0]; rfl
  rw [l1] at h2
  have hn : n = m ∨ n = m + 1 := by omega
  rw [h0]
  rcases hn with rfl | rfl
  · rw [hm, show [v].length - (n + 1 - n) = 0 by simp]
    exact F'.binds1 n 0 (by simp) (by simp [hm]) h
  · rw [hm, show [v].length - (m + 1 - (m + 1)) = 1 by simp]
    exact F'.binds1 (m + 1) 1 (by simp) (by simp [hm]) h'
theorem scB_ok {N ps : List Str} {sc : Scope} (h : scB N ps sc = true) : FnScope N ps sc := by
  obtain ⟨h1, h⟩ := QL.ba h
  obtain ⟨h2, h⟩ := QL.ba h
  obtain ⟨h3, h⟩ := QL.ba h
  obtain ⟨h4, h⟩ := QL.ba h
  obtain ⟨h5, h⟩ := QL.ba h
  obtain ⟨h6, h7⟩ := QL.ba h
  refine ⟨funB_ok h1, bn h2, bn h3, de h4, de h5, fun x hx => ?_, fun y hy z => ?_⟩
  · have := List.all_eq_true.mp h6 x hx
    unfold locB at this
    split at this
    · rename_i e; exact .inl e
    · rename_i e; exact .inr e
    · cases this
  · have := List.all_eq_true.mp h7 y hy
    rw [z] at this
    cases this
theorem dv_rp {G : Gd} {C : Hp} {K : PySem.W.Frag} : ∀ {l : List Dv}, l.all dvB = true → Rps G C (l.map dvD) (l.map (Dv.v K))
  | [], _ => Rps.nil.mpr rfl
  | v :: l, h => by
    obtain ⟨h1, h2⟩ := QL.ba (show (dvB v && l.all dvB) = true from h)
    refine Rps.cons.mpr ⟨_, _, rfl, ?_, dv_rp h2⟩
    cases v <;> first | (cases h1; done) | skip
    · exact Rp.non.mpr rfl
    · exact Rp.bl.mpr rfl
    · exact Rp.int.mpr rfl
    · exact Rp.str.mpr rfl

section
variable {P : Program} {w : World} {K : PySem.W.Frag} {mg : Str → Option Value} {base : Heap} {e : ErD} {gls : List Str} {gl : List D}
/-- one more def -/
theorem def_fn {acc : List Fn} {fns : List Str} {ars : List (Nat × Nat)} {k : Nat} {d : Df} {f : Addr} {fd : FuncData} (two : 2 ≤ k) (hE : ∀ N, Ef ⟨acc, gl, fun _ _ => none, e.sb⟩ (e.ct N fns ars gls) k P w (gd K) (e.Y K) mg base) (hX : ∀ N fns ars R, R.sub = e.sb → Ex R (e.ct N fns ars gls) P w (gd K) (e.Y K) mg base)
    (hc : d.chk e gls fns ars = true) (F : d.F K f fd) : FnOk P w K mg base (L2.CX P w) (k + 1) f fd d.ps (spF (gd K) (e.Y K) (d.fn gl e.sb acc)) := by
  obtain ⟨h1, h2⟩ := QL.ba hc
  obtain ⟨h3, h4⟩ := QL.ba h2
  have S := scB_ok h1
  refine fn_ok (G := gd K) (Y := e.Y K) (R := ⟨acc, gl, fun _ _ => none, e.sb⟩) F S rfl fun cdv A outer s H C vs as E hr => ?_
  refine sndSs (K := e.ct d.N fns ars gls) (k := k) (sc := defScope d.st) d.b ?_ h4
  exact {
    N := rfl
    nd := S.nd
    sc := rfl
    hK := rfl
    calm := rfl
    room := hr
    tk := takes_of (X := cxOf (L2.CX P w) P w K mg base d.N d.nm (defScope d.st) f cdv A outer s H E) (E := E) rfl rfl rfl rfl
    ef := hE d.N
    pas := passes_of (X := cxOf (L2.CX P w) P w K mg base d.N d.nm (defScope d.st) f cdv A outer s H E) rfl
    fn := fun _ => rfl
    stk := rfl
    frm := rfl
    two := two
    exs := hX d.N fns ars _ rfl }
theorem def_ok {acc : List Fn} {fns : List Str} {ars : List (Nat × Nat)} {k : Nat} {d : Df} {f : Addr} {fd : FuncData} (two : 2 ≤ k) (hE : ∀ N, Ef ⟨acc, gl, fun _ _ => none, e.sb⟩ (e.ct N fns ars gls) k P w (gd K) (e.Y K) mg base) (hX : ∀ N fns ars R, R.sub = e.sb → Ex R (e.ct N fns ars gls) P w (gd K) (e.Y K) mg base)
    (hc : d.chk e gls fns ars = true) (F : d.F K f fd) (B : d.Bn) : FnK P w (gd K) (e.Y K) mg base (k + 1) f (d.fn gl e.sb acc) := by
  refine ⟨⟨fd, d.ps, def_fn two hE hX hc F, rfl, fun n hn1 hn2 => ?_⟩, F.kp⟩
  have h3 := (QL.ba (QL.ba hc).2).1
  have hn2 : d.ps.length - n ≤ d.dv.length := by
    have z : (d.fn gl e.sb acc).dfl.length = d.dv.length := List.length_map ..
    rw [z] at hn2
    exact hn2
  obtain ⟨ds, q1, q2⟩ := B K f fd F n hn1 hn2
  refine ⟨_, ds, q1, q2, fun C => ?_⟩
  show Rps (gd K) C ((d.dv.map dvD).drop ((d.dv.map dvD).length - (d.ps.length - n))) _
  rw [List.length_map]
  exact Rps.drop _ (dv_rp h3)
theorem Ef.mono {R : Pr} {Kt : Ct} {j k : Nat} {G : Gd} {Y : Xg} (h : Ef R Kt j P w G Y mg base) (l : j ≤ k) : Ef R Kt k P w G Y mg base :=
  ⟨fun i x a h1 h2 => by
    obtain ⟨F, f, q1, q2, q3, q4, q5⟩ := h.fn i x a h1 h2
    exact ⟨F, f, q1, q2, q3, q4, q5.mono l⟩, h.gl, h.fr⟩
/-- all of them -/
theorem build (hX : ∀ N fns ars R, R.sub = e.sb → Ex R (e.ct N fns ars gls) P w (gd K) (e.Y K) mg base) : ∀ (ds : List Df) (acc : List Fn) (fns : List Str) (ars : List (Nat × Nat)) (k : Nat), 2 ≤ k → acc.length = fns.length → acc.length = ars.length →
    (∀ N, Ef ⟨acc, gl, fun _ _ => none, e.sb⟩ (e.ct N fns ars gls) k P w (gd K) (e.Y K) mg base) → chkGo e gls fns ars ds = true → (∀ d ∈ ds, d.Bn ∧ mg d.nm = some (.ref (ga K d.nm)) ∧ ∃ fd, d.F K (ga K d.nm) fd) →
    ∀ N, Ef ⟨tabGo gl e.sb acc ds, gl, fun _ _ => none, e.sb⟩ (e.ct N (fns ++ ds.map (·.nm)) (ars ++ ds.map fun d => (d.ps.length, d.dv.length)) gls) (k + ds.length) P w (gd K) (e.Y K) mg base
  | [], acc, fns, ars, k, _, _, _, hE, _, _ => fun N => by
    rw [List.map_nil, List.map_nil, List.append_nil, List.append_nil]
    exact hE N
  | d :: ds, acc, fns, ars, k, h2, l1, l2, hE, hc, hd => fun N => by
    obtain ⟨c1, c2⟩ := QL.ba (show (d.chk e gls fns ars && chkGo e gls (fns ++ [d.nm]) (ars ++ [(d.ps.length, d.dv.length)]) ds) = true from hc)
    obtain ⟨B, g, fd, F⟩ := hd d (List.mem_cons_self ..)
    have FK := def_ok h2 hE hX c1 F B
    have step := build hX ds (acc ++ [d.fn gl e.sb acc]) (fns ++ [d.nm]) (ars ++ [(d.ps.length, d.dv.length)]) (k + 1) (by omega) (by simp [l1]) (by simp [l2]) (fun N => ?_) c2 (fun d' hd' => hd d' (List.mem_cons_of_mem _ hd')) N
    · rw [List.append_assoc, List.append_assoc, List.singleton_append, List.singleton_append] at step
      rw [List.map_cons, List.map_cons, List.length_cons]
      rw [show k + (ds.length + 1) = k + 1 + ds.length by omega]
      exact step
    · have hE' := (hE N).mono (Nat.le_succ k)
      refine ⟨fun j x a h3 h4 => ?_, hE'.gl, hE'.fr⟩
      have h3 : (fns ++ [d.nm])[j]? = some x := h3
      have h4 : (ars ++ [(d.ps.length, d.dv.length)])[j]? = some a := h4
      by_cases hj : j < fns.length
      · rw [List.getElem?_append_left hj] at h3
        rw [List.getElem?_append_left (by omega)] at h4
        obtain ⟨F', f', q1, q2⟩ := hE'.fn j x a h3 h4
        exact ⟨F', f', by show (acc ++ _)[j]? = _; rw [List.getElem?_append_left (by omega)]; exact q1, q2⟩
      · have ej : j = fns.length := by
          have := (List.getElem?_eq_some_iff.mp h3).1
          rw [List.length_append] at this
          simp at this
          omega
        subst ej
        rw [List.getElem?_append_right (Nat.le_refl _), Nat.sub_self] at h3
        rw [List.getElem?_append_right (by omega), show fns.length - ars.length = 0 by omega] at h4
        cases h3
        cases h4
        refine ⟨_, _, ?_, rfl, List.length_map .., g, FK⟩
        show (acc ++ [d.fn gl e.sb acc])[fns.length]? = _
        rw [List.getElem?_append_right (by omega), show fns.length - acc.length = 0 by omega]
        rfl
end

/-! ### the head's Hook -/
structure Hd where
  n : Nat
  ds : List Df
  e : ErD
  gls : List Str
  gi : List Int
def Hd.fa (h : Hd) : List Fa := h.ds.map (fun d => .glo d.nm) ++ (h.e.xcs.map .glo ++ ((("super" : Str) :: bnames).map .free ++ (h.gls.zip h.gi).map fun q => .int q.1 q.2))
def Hd.gl (h : Hd) : List D := h.gi.map D.int
def Hd.fr (h : Hd) (g : Addr → Option Obj) : PySem.W.Frag := frG g (cStatics :: asD g h.n)
abbrev AlQ : Type := AlD × (List IniV × Bool)
def Hd.obs (h : Hd) (P : Program) (K : PySem.W.Frag) : AlQ := (obsD h.fa (h.ds.map Df.dd) K, (h.e.ins.map (iniW K), h.e.ok P K))
def Hd.val (h : Hd) : AlQ := (valD (h.ds.map Df.dd), (h.e.ins.map IniD.val, true))
def Hd.hook (h : Hd) (P : Program) : PySem.W.Hook where
  α := AlQ
  obs := fun s => h.obs P (h.fr s.heap.get?)
  val := fun _ => h.val
  says := fun _ hp => ∃ K : PySem.W.Frag, K.In hp ∧ h.obs P K = h.val
  of := fun _ _ e => ⟨_, frG_in, e⟩
  keeps := fun _ _ _ ⟨K, hK, c⟩ k => ⟨K, PySem.W.Frag.In.keeps hK k, c⟩
def Hd.ob (h : Hd) (P : Program) (s : PySem.W.SharedT) : AlQ := h.obs P (h.fr (HandSHeadRun.getT s))
theorem Hd.ob_eq (h : Hd) (P : Program) (s : PySem.W.SharedT) : h.ob P s = (h.hook P).obs s.abs := by
  have e : HandSHeadRun.getT s = s.abs.heap.get? := funext (HandSHeadRun.getT_eq s)
  show h.obs P (h.fr (HandSHeadRun.getT s)) = h.obs P (h.fr s.abs.heap.get?)
  rw [e]

theorem chk_app {e : ErD} {gls : List Str} : ∀ {ds : List Df} {d : Df} {fns : List Str} {ars : List (Nat × Nat)}, chkGo e gls fns ars (ds ++ [d]) = true → chkGo e gls fns ars ds = true ∧ d.chk e gls (fns ++ ds.map (·.nm)) (ars ++ ds.map fun d => (d.ps.length, d.dv.length)) = true
  | [], d, fns, ars, h => by
    rw [List.map_nil, List.map_nil, List.append_nil, List.append_nil]
    exact ⟨rfl, (QL.ba (show (d.chk e gls fns ars && true) = true from h)).1⟩
  | c :: ds, d, fns, ars, h => by
    obtain ⟨h1, h2⟩ := QL.ba (show (c.chk e gls fns ars && chkGo e gls (fns ++ [c.nm]) (ars ++ [(c.ps.length, c.dv.length)]) (ds ++ [d])) = true from h)
    obtain ⟨h3, h4⟩ := chk_app h2
    rw [List.append_assoc, List.append_assoc] at h4
    exact ⟨by show (c.chk e gls fns ars && _) = true; rw [h1, h3]; rfl, h4⟩
/-- from the head's facts: the law's def keeps its promise -/
theorem law_ok {P : Program} {w : World} {K : PySem.W.Frag} {mg : Str → Option Value} {hp base : Heap} {h : Hd} {ds : List Df} {d : Df} (KX : K.In hp) (G : hp.Ns mainGlobals mg) (c : h.obs P K = h.val) (hs : h.ds = ds ++ [d]) (hc : chkGo h.e h.gls [] [] h.ds = true) (hb : ∀ d ∈ h.ds, d.Bn) (hi : ∀ d ∈ h.e.ins, IniS d)
    (top : (P.main.scope.names.lookup ("super" : Str)).isSome = false) (hl : h.e.xrs.all (fun q => decide (q.1 < h.e.xfs.length)) = true) (hg : h.gls.length = h.gi.length) :
    mg d.nm = some (.ref (ga K d.nm)) ∧ ∃ fd, d.F K (ga K d.nm) fd ∧ ∀ base, FnOk P w K mg base (L2.CX P w) (2 + ds.length + 1) (ga K d.nm) fd d.ps (spF (gd K) (h.e.Y K) (d.fn h.gl h.e.sb (tabGo h.gl h.e.sb [] ds))) := by
  have c1 : SaysD h.fa (h.ds.map Df.dd) K := congrArg (fun z : AlQ => z.1) c
  have c2 : h.e.ins.map (iniW K) = h.e.ins.map IniD.val := congrArg (fun z : AlQ => z.2.1) c
  have c3 : h.e.ok P K = true := congrArg (fun z : AlQ => z.2.2) c
  have fact : ∀ {f : Fa}, f ∈ h.fa → f.ok K = true := fun {f} hf => by
    obtain ⟨i, hi, e⟩ := List.mem_iff_getElem.mp hf
    exact c1.fact i (f := f) (by rw [List.getElem?_eq_getElem hi, e])
  have gD : ∀ d ∈ h.ds, mg d.nm = some (.ref (ga K d.nm)) := fun d hd => glo_ok KX G (fact (List.mem_append_left _ (List.mem_map.mpr ⟨d, hd, rfl⟩)))
  have gX : ∀ x ∈ h.e.xcs, mg x = some (.ref (ga K x)) := fun x hx => glo_ok KX G (fact (List.mem_append_right _ (List.mem_append_left _ (List.mem_map.mpr ⟨x, hx, rfl⟩))))
  have gF : ∀ x ∈ (("super" : Str) :: bnames), mg x = none := fun x hx => free_ok KX G (fact (List.mem_append_right _ (List.mem_append_right _ (List.mem_append_left _ (List.mem_map.mpr ⟨x, hx, rfl⟩)))))
  have gI : ∀ (j : Nat) (x : Str) (i : Int), h.gls[j]? = some x → h.gi[j]? = some i → ∃ t, mg x = some (.int i t) := fun j x i h1 h2 => int_ok KX G (fact (List.mem_append_right _ (List.mem_append_right _ (List.mem_append_right _ (List.mem_map.mpr ⟨(x, i), List.mem_of_getElem? (i := j) (by rw [List.getElem?_zip_eq_some]; exact ⟨h1, h2⟩), rfl⟩)))))
  have fD : ∀ d ∈ h.ds, ∃ fd, d.F K (ga K d.nm) fd := fun d hd => by
    obtain ⟨i, hi, e⟩ := List.mem_iff_getElem.mp hd
    exact c1.def_ i (d := d.dd) (by rw [List.getElem?_map, List.getElem?_eq_getElem hi, e]; rfl)
  have dm : d ∈ h.ds := by rw [hs]; exact List.mem_append_right _ (List.mem_singleton.mpr rfl)
  rw [hs] at hc
  obtain ⟨k1, k2⟩ := chk_app hc
  obtain ⟨fd, F⟩ := fD d dm
  refine ⟨gD d dm, fd, F, fun base => ?_⟩
  have hX : ∀ N fns ars R, R.sub = h.e.sb → Ex R (h.e.ct N fns ars h.gls) P w (gd K) (h.e.Y K) mg base := fun N fns ars R hR => er_ok c3 c2 hi top (gF _ (List.mem_cons_self ..)) gX hR hl
  have E0 : ∀ N, Ef ⟨[], h.gl, fun _ _ => none, h.e.sb⟩ (h.e.ct N [] [] h.gls) 2 P w (gd K) (h.e.Y K) mg base := fun N => by
    refine ⟨fun j x a h1 _ => ?_, fun j x h1 => ?_, fun x hx => gF x (List.mem_cons_of_mem _ hx)⟩
    · have h1 : ([] : List Str)[j]? = some x := h1
      simp at h1
    · have h1 : h.gls[j]? = some x := h1
      have hj := (List.getElem?_eq_some_iff.mp h1).1
      obtain ⟨t, q⟩ := gI j x _ h1 (List.getElem?_eq_getElem (by omega))
      refine ⟨.int (h.gi[j]'(by omega)), .int _, _, ?_, q, ⟨t, rfl⟩, fun C => Rp.int.mpr rfl⟩
      show (h.gi.map D.int)[j]? = _
      rw [List.getElem?_map, List.getElem?_eq_getElem (by omega)]
      rfl
  have EF := build (w := w) (base := base) hX ds [] [] [] 2 (Nat.le_refl _) rfl rfl E0 k1 fun d' hd' => by
    have m : d' ∈ h.ds := by rw [hs]; exact List.mem_append_left _ hd'
    exact ⟨hb d' m, gD d' m, fD d' m⟩
  exact def_fn (by omega) EF hX k2 F
theorem ints_rp {G : Gd} {C : Hp} : ∀ {ns : List Int}, Rps G C (ns.map D.int) (ns.map V.int)
  | [] => Rps.nil.mpr rfl
  | n :: ns => Rps.cons.mpr ⟨_, _, rfl, Rp.int.mpr rfl, ints_rp⟩
/-- the law's promise, from the small def's run -/
theorem sp_law {G : Gd} {Y : Xg} {F : Fn} {H : Hp} {a : Addr} {ns : List Int} (hn : F.np = 1) (hS : SqL G.K H a (ns.map V.int)) (hr : ∃ outs, F.run [.fz (.rol (ns.map D.int))] = .ok (.fz (.bl true)) outs) : spF G Y F [.ref a] H (fun v _ => v = .bl true) fun _ _ _ => False := by
  obtain ⟨outs, hr⟩ := hr
  refine ⟨[.fz (.rol (ns.map D.int))], H, ⟨rfl, L2.Same.refl _, fun i s v h1 h2 => ?_, fun i j x y b ne h1 => ?_⟩, hn.symm, ?_⟩
  · match i, h1, h2 with
    | 0, h1, h2 =>
      cases h1
      cases h2
      exact Rp.rol.mpr ⟨a, _, rfl, hS, ints_rp⟩
    | i + 1, h1, h2 => simp at h1
  · match i, h1 with
    | 0, h1 => cases h1
    | i + 1, h1 => simp at h1
  · rw [hr]
    exact fun v H' C' _ hv => Rp.bl.mp (show Rp G C' (.bl true) v from hv)
/-! ### the end -/
theorem walk_q {l : PySem.W.OpenLaw} {n k : Nat} {q : Program} {loose : List Str} {XP : (Str → Option Value) → Heap → Prop} {YP : World → Heap → Prop} {d : DefRec} {x : Str}
    (hn : l.most = some n) (hn2 : n ≤ sizeLine) (hdf : d.params.defaults = []) (hr : Room k callerA)
    (F : ∀ (w : World) (mg : Str → Option Value) (fa : Addr) (h : Heap), YP w h → h.Ns mainGlobals mg → mg d.name = some (.ref fa) →
      ∃ (K : PySem.W.Frag) (fd : FuncData) (sp : Sp), K.In h ∧ (∀ (s : Shared) (u : Value), BindsTo s fd ⟨[u], []⟩ [(x, u)]) ∧
        (∀ (H : Hp) (a : Addr) (ns : List Int), ns.length ≤ n → SqL K H a (ns.map V.int) → sp [.ref a] H (fun v _ => v = .bl true) fun _ _ _ => False) ∧
        ∀ base : Heap, K.In base → base.Ns mainGlobals mg → FnOk l.prog w K mg base (L2.CX l.prog w) k fa fd [x] sp) :
    PySem.W.WalkO q loose XP YP l.row.toRowW d [] (fun f vs => PySem.call f vs) := by
  refine Att.attach_call hn hdf fun w s₀ s₁ mg mb fa o pm cd doc a vs ns G Y ho hd hcd hmg hobj hints hlen hg => ?_
  obtain ⟨K, fd, sp, KX, hb, hsp, hF⟩ := F w mg fa _ Y G.T.g hmg
  refine law_call KX G.T.g G.T.b G.T.builtins G.T.nolimit hg hobj hints (Nat.le_trans hlen hn2) hr hF hb (fun H hO hS => hsp H a ns hlen hS) fun H er s' z => ?_
  obtain ⟨_, _, _, _, _, _, _, _, _, _, _, _, zz⟩ := z
  exact zz.elim
end QL

end
section
set_option Elab.async false
set_option linter.all false
set_option maxRecDepth 100000
/-! QW: the small syntax walked by its plain meaning: what is wanted ahead of each part. -/
namespace QL
open PySem

def Rs.W {α : Type} (r : Rs α) (Q : α → Env → Prop) (E : Xn → Env → Prop) : Prop := match r with
  | .ok a δ => Q a δ
  | .er x δ => E x δ
  | .no => False
/-- a def's run -/
def Fn.Runs (f : Fn) (as : List Sl) (Q : Rv → List Sl → Prop) (E : Xn → List Sl → Prop) : Prop := match f.run as with
  | .ok r outs => Q r outs
  | .er x outs => E x outs
  | .no => False
/-- nothing leaves -/
abbrev noE : Xn → Env → Prop := fun _ _ => False
section
variable {α β : Type} {Q : α → Env → Prop} {E : Xn → Env → Prop} {δ : Env} {P : Pr}
theorem w_ok {a : α} : (Rs.ok a δ).W Q E ↔ Q a δ := Iff.rfl
theorem w_er {x : Xn} : (Rs.er x δ : Rs α).W Q E ↔ E x δ := Iff.rfl
theorem w_no : (Rs.no : Rs α).W Q E ↔ False := Iff.rfl
theorem w_bind {r : Rs β} {f : β → Env → Rs α} : (r.bind f).W Q E ↔ r.W (fun a δ => (f a δ).W Q E) E := by cases r <;> rfl
theorem w_opt {o : Option α} : (optR o δ).W Q E ↔ ∃ a, o = some a ∧ Q a δ := by
  cases o with
  | none => exact ⟨fun h => h.elim, fun ⟨_, h, _⟩ => by cases h⟩
  | some a => exact ⟨fun h => ⟨a, rfl, h⟩, fun ⟨_, h, q⟩ => by cases h; exact q⟩
theorem w_mono {r : Rs α} {Q' : α → Env → Prop} {E' : Xn → Env → Prop} (h : r.W Q E) (hq : ∀ a δ, Q a δ → Q' a δ) (he : ∀ x δ, E x δ → E' x δ) : r.W Q' E' := by
  cases r with
  | ok a δ => exact hq _ _ h
  | er x δ => exact he _ _ h
  | no => exact h
theorem ite_opt {p : Prop} [Decidable p] {a b : α} : ((if p then some a else none) = some b) ↔ (p ∧ a = b) := by
  by_cases h : p <;> simp [h]
end
section
variable {Q : Rv → Env → Prop} {E : Xn → Env → Prop} {δ : Env} {P : Pr}
theorem _root_.List.set_getElem?_self' {α : Type} {l : List α} {i : Nat} {a : α} (h : l[i]? = some a) : l.set i a = l := by
  obtain ⟨h1, h2⟩ := List.getElem?_eq_some_iff.mp h
  rw [← h2]
  exact List.set_getElem_self h1
/-- a test -/
def tst (c : Env → Rs Rv) (δ : Env) (T F : Env → Prop) (E : Xn → Env → Prop) : Prop := (c δ).W (fun x δ => ∃ t, x = .fz (.bl t) ∧ (t = true → T δ) ∧ (t = false → F δ)) E
theorem w_v {i : Nat} : (ev P (.v i) δ).W Q E ↔ (useSl δ i).W Q E := Iff.rfl
theorem w_c {d : D} : (ev P (.c d) δ).W Q E ↔ Q (.fz d) δ := Iff.rfl
theorem w_g {k : Nat} : (ev P (.g k) δ).W Q E ↔ ∃ a, (P.gl[k]?).map Rv.fz = some a ∧ Q a δ := w_opt
theorem w_neg {a : QL.E} : (ev P (.neg a) δ).W Q E ↔ (ev P a δ).W (fun x δ => ∃ i, x.d = .int i ∧ Q (.fz (.int (-i))) δ) E := by
  show ((ev P a δ).bind _).W Q E ↔ _
  rw [w_bind]
  cases ev P a δ with
  | ok x δ1 =>
    show Rs.W (match x.d with | .int i => .ok (.fz (.int (-i))) δ1 | _ => .no) Q E ↔ ∃ i, x.d = .int i ∧ _
    cases x.d <;> first | exact ⟨fun h => ⟨_, rfl, h⟩, fun ⟨_, h, q⟩ => by cases h; exact q⟩ | exact ⟨fun h => h.elim, fun ⟨_, h, q⟩ => by cases h⟩
  | er x δ1 => exact Iff.rfl
  | no => exact Iff.rfl
theorem w_bin {o : BOp} {a b : QL.E} : (ev P (.bin o a b) δ).W Q E ↔ (ev P a δ).W (fun x δ => (ev P b δ).W (fun y δ => ∃ z, binD o x.d y.d = some z ∧ Q z δ) E) E := by
  show ((ev P a δ).bind fun x δ => (ev P b δ).bind fun y δ => optR (binD o x.d y.d) δ).W Q E ↔ _
  simp only [w_bind, w_opt]
theorem w_cmp {o : COp} {a b : QL.E} : (ev P (.cmp o a b) δ).W Q E ↔ (ev P a δ).W (fun x δ => (ev P b δ).W (fun y δ => ∃ c, cmpD o x.d y.d = some c ∧ Q (.fz (.bl c)) δ) E) E := by
  show ((ev P a δ).bind fun x δ => (ev P b δ).bind fun y δ => optR ((cmpD o x.d y.d).map fun c => .fz (.bl c)) δ).W Q E ↔ _
  simp only [w_bind, w_opt, Option.map_eq_some_iff]
  constructor <;> intro h <;> refine w_mono h (fun x δ h => w_mono h (fun y δ h => ?_) fun _ _ h => h) fun _ _ h => h
  · obtain ⟨_, ⟨c, h1, rfl⟩, h2⟩ := h; exact ⟨c, h1, h2⟩
  · obtain ⟨c, h1, h2⟩ := h; exact ⟨_, ⟨c, h1, rfl⟩, h2⟩
theorem w_boolA {x : Rv} {r : Rs Rv} : Rs.W (match x with | .fz (.bl true) => r | .fz (.bl false) => .ok (.fz (.bl false)) δ | _ => .no) Q E ↔ ∃ t, x = .fz (.bl t) ∧ (t = true → r.W Q E) ∧ (t = false → Q (.fz (.bl false)) δ) := by
  split
  · exact ⟨fun h => ⟨true, rfl, fun _ => h, fun z => by cases z⟩, fun ⟨t, e, h, _⟩ => by cases e; exact h rfl⟩
  · exact ⟨fun h => ⟨false, rfl, (fun z => by cases z), fun _ => h⟩, fun ⟨t, e, _, h⟩ => by cases e; exact h rfl⟩
  · rename_i h1 h2
    exact ⟨fun h => h.elim, fun ⟨t, e, _, _⟩ => by cases t <;> first | exact absurd e h1 | exact absurd e h2⟩
theorem w_and {a b : QL.E} : (ev P (.and_ a b) δ).W Q E ↔ (ev P a δ).W (fun x δ => ∃ t, x = .fz (.bl t) ∧ (t = true → (ev P b δ).W Q E) ∧ (t = false → Q (.fz (.bl false)) δ)) E := by
  show ((ev P a δ).bind _).W Q E ↔ _
  rw [w_bind]
  constructor <;> intro h <;> refine w_mono h (fun x δ h => ?_) fun _ _ h => h
  · exact w_boolA.mp h
  · exact w_boolA.mpr h
theorem w_boolO {x : Rv} {r : Rs Rv} : Rs.W (match x with | .fz (.bl true) => .ok (.fz (.bl true)) δ | .fz (.bl false) => r | _ => .no) Q E ↔ ∃ t, x = .fz (.bl t) ∧ (t = true → Q (.fz (.bl true)) δ) ∧ (t = false → r.W Q E) := by
  split
  · exact ⟨fun h => ⟨true, rfl, fun _ => h, fun z => by cases z⟩, fun ⟨t, e, h, _⟩ => by cases e; exact h rfl⟩
  · exact ⟨fun h => ⟨false, rfl, (fun z => by cases z), fun _ => h⟩, fun ⟨t, e, _, h⟩ => by cases e; exact h rfl⟩
  · rename_i h1 h2
    exact ⟨fun h => h.elim, fun ⟨t, e, _, _⟩ => by cases t <;> first | exact absurd e h1 | exact absurd e h2⟩
theorem w_or {a b : QL.E} : (ev P (.or_ a b) δ).W Q E ↔ (ev P a δ).W (fun x δ => ∃ t, x = .fz (.bl t) ∧ (t = true → Q (.fz (.bl true)) δ) ∧ (t = false → (ev P b δ).W Q E)) E := by
  show ((ev P a δ).bind _).W Q E ↔ _
  rw [w_bind]
  constructor <;> intro h <;> refine w_mono h (fun x δ h => ?_) fun _ _ h => h
  · exact w_boolO.mp h
  · exact w_boolO.mpr h
theorem w_not {a : QL.E} : (ev P (.not_ a) δ).W Q E ↔ (ev P a δ).W (fun x δ => ∃ t, x = .fz (.bl t) ∧ Q (.fz (.bl (!t))) δ) E := by
  show ((ev P a δ).bind _).W Q E ↔ _
  rw [w_bind]
  constructor <;> intro h <;> refine w_mono h (fun x δ h => ?_) fun _ _ h => h
  · split at h
    · exact ⟨_, rfl, h⟩
    · exact h.elim
  · obtain ⟨t, rfl, h⟩ := h
    exact h
theorem w_two {x : Rv} {α : Type} {Q : α → Env → Prop} {r s : Rs α} : Rs.W (match x with | .fz (.bl true) => r | .fz (.bl false) => s | _ => .no) Q E ↔ ∃ t, x = .fz (.bl t) ∧ (t = true → r.W Q E) ∧ (t = false → s.W Q E) := by
  split
  · exact ⟨fun h => ⟨true, rfl, fun _ => h, fun z => by cases z⟩, fun ⟨t, e, h, _⟩ => by cases e; exact h rfl⟩
  · exact ⟨fun h => ⟨false, rfl, (fun z => by cases z), fun _ => h⟩, fun ⟨t, e, _, h⟩ => by cases e; exact h rfl⟩
  · rename_i h1 h2
    exact ⟨fun h => h.elim, fun ⟨t, e, _, _⟩ => by cases t <;> first | exact absurd e h1 | exact absurd e h2⟩
theorem w_ife {c a b : QL.E} : (ev P (.ife c a b) δ).W Q E ↔ (ev P c δ).W (fun x δ => ∃ t, x = .fz (.bl t) ∧ (t = true → (ev P a δ).W Q E) ∧ (t = false → (ev P b δ).W Q E)) E := by
  show ((ev P c δ).bind _).W Q E ↔ _
  rw [w_bind]
  constructor <;> intro h <;> refine w_mono h (fun x δ h => ?_) fun _ _ h => h
  · exact w_two.mp h
  · exact w_two.mpr h
theorem w_tup {es : Es} : (ev P (.tup es) δ).W Q E ↔ (evs P es δ).W (fun xs δ => xs.length ≤ LIM ∧ Q (.fz (.tup xs)) δ) E := by
  show ((evs P es δ).bind fun xs δ => if xs.length ≤ LIM then .ok (.fz (.tup xs)) δ else .no).W Q E ↔ _
  rw [w_bind]
  constructor <;> intro h <;> refine w_mono h (fun x δ h => ?_) fun _ _ h => h
  · split at h
    · exact ⟨by assumption, h⟩
    · exact h.elim
  · rw [if_pos h.1]; exact h.2
theorem w_lst {es : Es} : (ev P (.lst es) δ).W Q E ↔ (evs P es δ).W (fun xs δ => xs.length ≤ LIM ∧ Q (.lv xs) δ) E := by
  show ((evs P es δ).bind fun xs δ => if xs.length ≤ LIM then .ok (.lv xs) δ else .no).W Q E ↔ _
  rw [w_bind]
  constructor <;> intro h <;> refine w_mono h (fun x δ h => ?_) fun _ _ h => h
  · split at h
    · exact ⟨by assumption, h⟩
    · exact h.elim
  · rw [if_pos h.1]; exact h.2
theorem w_nil {Q : List D → Env → Prop} : (evs P .nil δ).W Q E ↔ Q [] δ := Iff.rfl
theorem w_cons {Q : List D → Env → Prop} {e : QL.E} {es : Es} : (evs P (.cons e es) δ).W Q E ↔ (ev P e δ).W (fun x δ => (evs P es δ).W (fun xs δ => Q (x.d :: xs) δ) E) E := by
  show ((ev P e δ).bind fun x δ => (evs P es δ).bind fun xs δ => .ok (x.d :: xs) δ).W Q E ↔ _
  simp only [w_bind, w_ok]
theorem w_ix {a i : QL.E} : (ev P (.ix a i) δ).W Q E ↔ (ev P a δ).W (fun x δ => (ev P i δ).W (fun y δ => ∃ z, ixD x.d y.d = some z ∧ Q (.fz z) δ) E) E := by
  show ((ev P a δ).bind fun x δ => (ev P i δ).bind fun y δ => optR ((ixD x.d y.d).map Rv.fz) δ).W Q E ↔ _
  simp only [w_bind, w_opt, Option.map_eq_some_iff]
  constructor <;> intro h <;> refine w_mono h (fun x δ h => w_mono h (fun y δ h => ?_) fun _ _ h => h) fun _ _ h => h
  · obtain ⟨_, ⟨c, h1, rfl⟩, h2⟩ := h; exact ⟨c, h1, h2⟩
  · obtain ⟨c, h1, h2⟩ := h; exact ⟨_, ⟨c, h1, rfl⟩, h2⟩
theorem w_ixv {s : Nat} {i : QL.E} : (ev P (.ixv s i) δ).W Q E ↔ ∃ a, lookSl δ s = some a ∧ (ev P i δ).W (fun y δ => ∃ x z, lookSl δ s = some x ∧ ixD x y.d = some z ∧ Q (.fz z) δ) E := by
  show ((optR (lookSl δ s) δ).bind fun _ δ => (ev P i δ).bind fun y δ => optR ((lookSl δ s).bind fun x => (ixD x y.d).map Rv.fz) δ).W Q E ↔ _
  simp only [w_bind, w_opt, Option.bind_eq_some_iff, Option.map_eq_some_iff]
  constructor <;> rintro ⟨a, h1, h2⟩ <;> refine ⟨a, h1, w_mono h2 (fun y δ h => ?_) fun _ _ h => h⟩
  · obtain ⟨_, ⟨x, g1, z, g2, rfl⟩, g3⟩ := h; exact ⟨x, z, g1, g2, g3⟩
  · obtain ⟨x, z, g1, g2, g3⟩ := h; exact ⟨_, ⟨x, g1, z, g2, rfl⟩, g3⟩
theorem w_bi {b : Bi} {es : Es} : (ev P (.bi b es) δ).W Q E ↔ (evs P es δ).W (fun xs δ => ∃ z, biD b xs = some z ∧ Q z δ) E := by
  show ((evs P es δ).bind fun xs δ => optR (biD b xs) δ).W Q E ↔ _
  simp only [w_bind, w_opt]
theorem w_lenv {s : Nat} : (ev P (.lenv s) δ).W Q E ↔ ∃ a z, lookSl δ s = some a ∧ biD .len [a] = some z ∧ Q z δ := by
  show (optR ((lookSl δ s).bind fun x => biD .len [x]) δ).W Q E ↔ _
  rw [w_opt]
  constructor
  · rintro ⟨z, h1, h2⟩
    obtain ⟨a, g1, g2⟩ := Option.bind_eq_some_iff.mp h1
    exact ⟨a, z, g1, g2, h2⟩
  · rintro ⟨a, z, g1, g2, h2⟩
    exact ⟨z, Option.bind_eq_some_iff.mpr ⟨a, g1, g2⟩, h2⟩
theorem w_inv {n : Bool} {a : QL.E} {s : Nat} : (ev P (.inv n a s) δ).W Q E ↔ (ev P a δ).W (fun x δ => ∃ y c, lookSl δ s = some y ∧ cmpD (if n then .nin else .isin) x.d y = some c ∧ Q (.fz (.bl c)) δ) E := by
  show ((ev P a δ).bind fun x δ => optR ((lookSl δ s).bind fun y => (cmpD (if n then .nin else .isin) x.d y).map fun c => .fz (.bl c)) δ).W Q E ↔ _
  simp only [w_bind, w_opt, Option.bind_eq_some_iff, Option.map_eq_some_iff]
  constructor <;> intro h <;> refine w_mono h (fun x δ h => ?_) fun _ _ h => h
  · obtain ⟨_, ⟨y, g1, c, g2, rfl⟩, g3⟩ := h; exact ⟨y, c, g1, g2, g3⟩
  · obtain ⟨y, c, g1, g2, g3⟩ := h; exact ⟨_, ⟨y, g1, c, g2, rfl⟩, g3⟩
theorem w_isi {a : QL.E} {ts : List Ty} : (ev P (.isi a ts) δ).W Q E ↔ (ev P a δ).W (fun x δ => ∃ c, isTys x.d ts = some c ∧ Q (.fz (.bl c)) δ) E := by
  show ((ev P a δ).bind fun x δ => optR ((isTys x.d ts).map fun b => .fz (.bl b)) δ).W Q E ↔ _
  simp only [w_bind, w_opt, Option.map_eq_some_iff]
  constructor <;> intro h <;> refine w_mono h (fun x δ h => ?_) fun _ _ h => h
  · obtain ⟨_, ⟨c, h1, rfl⟩, h2⟩ := h; exact ⟨c, h1, h2⟩
  · obtain ⟨c, h1, h2⟩ := h; exact ⟨_, ⟨c, h1, rfl⟩, h2⟩
theorem w_ch2 {o p : COp} {a b c : QL.E} : (ev P (.ch2 o p a b c) δ).W Q E ↔ (ev P a δ).W (fun x δ => (ev P b δ).W (fun y δ => ∃ t, cmpD o x.d y.d = some t ∧ (t = true → (ev P c δ).W (fun z δ => ∃ u, cmpD p y.d z.d = some u ∧ Q (.fz (.bl u)) δ) E) ∧ (t = false → Q (.fz (.bl false)) δ)) E) E := by
  have e : ev P (.ch2 o p a b c) δ = (ev P a δ).bind fun x δ => (ev P b δ).bind fun y δ => match cmpD o x.d y.d with
    | some true => (ev P c δ).bind fun z δ => optR ((cmpD p y.d z.d).map fun c => .fz (.bl c)) δ
    | some false => .ok (.fz (.bl false)) δ
    | none => .no := rfl
  rw [e]
  simp only [w_bind]
  constructor <;> intro h <;> refine w_mono h (fun x δ h => w_mono h (fun y δ h => ?_) fun _ _ h => h) fun _ _ h => h
  · split at h
    · rename_i g
      refine ⟨true, g, fun _ => ?_, fun z => by cases z⟩
      rw [w_bind] at h
      refine w_mono h (fun z δ h => ?_) fun _ _ h => h
      obtain ⟨_, h1, h2⟩ := w_opt.mp h
      obtain ⟨u, h3, rfl⟩ := Option.map_eq_some_iff.mp h1
      exact ⟨u, h3, h2⟩
    · rename_i g
      exact ⟨false, g, (fun z => by cases z), fun _ => h⟩
    · exact h.elim
  · obtain ⟨t, g, h1, h2⟩ := h
    rw [g]
    cases t with
    | true =>
      show Rs.W ((ev P c δ).bind _) Q E
      rw [w_bind]
      refine w_mono (h1 rfl) (fun z δ h => ?_) fun _ _ h => h
      obtain ⟨u, h3, h4⟩ := h
      exact w_opt.mpr ⟨_, Option.map_eq_some_iff.mpr ⟨u, h3, rfl⟩, h4⟩
    | false => exact h2 rfl
theorem w_ch3 {o p q : COp} {a b c d : QL.E} : (ev P (.ch3 o p q a b c d) δ).W Q E ↔ (ev P a δ).W (fun x δ => (ev P b δ).W (fun y δ => ∃ t, cmpD o x.d y.d = some t ∧ (t = true → (ev P c δ).W (fun z δ => ∃ u, cmpD p y.d z.d = some u ∧ (u = true → (ev P d δ).W (fun w δ => ∃ v, cmpD q z.d w.d = some v ∧ Q (.fz (.bl v)) δ) E) ∧ (u = false → Q (.fz (.bl false)) δ)) E) ∧ (t = false → Q (.fz (.bl false)) δ)) E) E := by
  have e : ev P (.ch3 o p q a b c d) δ = (ev P a δ).bind fun x δ => (ev P b δ).bind fun y δ => match cmpD o x.d y.d with
    | some true => (ev P c δ).bind fun z δ => (match cmpD p y.d z.d with
      | some true => (ev P d δ).bind fun w δ => optR ((cmpD q z.d w.d).map fun c => .fz (.bl c)) δ
      | some false => .ok (.fz (.bl false)) δ
      | none => .no)
    | some false => .ok (.fz (.bl false)) δ
    | none => .no := rfl
  rw [e]
  simp only [w_bind]
  constructor <;> intro h <;> refine w_mono h (fun x δ h => w_mono h (fun y δ h => ?_) fun _ _ h => h) fun _ _ h => h
  · split at h
    · rename_i g
      refine ⟨true, g, fun _ => ?_, fun z => by cases z⟩
      rw [w_bind] at h
      refine w_mono h (fun z δ h => ?_) fun _ _ h => h
      split at h
      · rename_i g2
        refine ⟨true, g2, fun _ => ?_, fun z => by cases z⟩
        rw [w_bind] at h
        refine w_mono h (fun z δ h => ?_) fun _ _ h => h
        obtain ⟨_, h1, h2⟩ := w_opt.mp h
        obtain ⟨u, h3, rfl⟩ := Option.map_eq_some_iff.mp h1
        exact ⟨u, h3, h2⟩
      · rename_i g2
        exact ⟨false, g2, (fun z => by cases z), fun _ => h⟩
      · exact h.elim
    · rename_i g
      exact ⟨false, g, (fun z => by cases z), fun _ => h⟩
    · exact h.elim
  · obtain ⟨t, g, h1, h2⟩ := h
    rw [g]
    cases t with
    | true =>
      show Rs.W ((ev P c δ).bind _) Q E
      rw [w_bind]
      refine w_mono (h1 rfl) (fun z δ h => ?_) fun _ _ h => h
      obtain ⟨u, g2, h3, h4⟩ := h
      rw [g2]
      cases u with
      | true =>
        show Rs.W ((ev P d δ).bind _) Q E
        rw [w_bind]
        refine w_mono (h3 rfl) (fun z δ h => ?_) fun _ _ h => h
        obtain ⟨u, h5, h6⟩ := h
        exact w_opt.mpr ⟨_, Option.map_eq_some_iff.mpr ⟨u, h5, rfl⟩, h6⟩
      | false => exact h4 rfl
    | false => exact h2 rfl
/-- a call -/
theorem w_call {k : Nat} {es : Es} {f : Fn} (hf : P.fn[k]? = some f) : (ev P (.call k es) δ).W Q E ↔ (evA P es δ).W (fun as δ => (callF f as δ).W Q E) E := by
  have e : ev P (.call k es) δ = (evA P es δ).bind fun as δ => callF f as δ := by
    show (match P.fn[k]? with
      | some f => (evA P es δ).bind fun as δ => callF f as δ
      | none => .no) = _
    rw [hf]
  rw [e, w_bind]
theorem w_anil {Q : List Ag → Env → Prop} : (evA P .nil δ).W Q E ↔ Q [] δ := Iff.rfl
theorem w_alr {Q : List Ag → Env → Prop} {s : Nat} {es : Es} : (evA P (.cons (.lr s) es) δ).W Q E ↔ ∃ a, lookSl δ s = some a ∧ (evA P es δ).W (fun xs δ => Q (.r s :: xs) δ) E := by
  show ((optR (lookSl δ s) δ).bind fun _ δ => (evA P es δ).bind fun xs δ => .ok (.r s :: xs) δ).W Q E ↔ _
  simp only [w_bind, w_opt, w_ok]
theorem w_acons {Q : List Ag → Env → Prop} {e : QL.E} {es : Es} (he : isLr e = none) : (evA P (.cons e es) δ).W Q E ↔ (ev P e δ).W (fun x δ => (evA P es δ).W (fun xs δ => Q (.d x.d :: xs) δ) E) E := by
  have e : evA P (.cons e es) δ = (ev P e δ).bind fun x δ => (evA P es δ).bind fun xs δ => .ok (.d x.d :: xs) δ := by
    show (match isLr e with
      | some s => (optR (lookSl δ s) δ).bind fun _ δ => (evA P es δ).bind fun xs δ => .ok (Ag.r s :: xs) δ
      | none => (ev P e δ).bind fun x δ => (evA P es δ).bind fun xs δ => .ok (Ag.d x.d :: xs) δ) = _
    rw [he]
  rw [e]
  simp only [w_bind, w_ok]
theorem w_callF {f : Fn} {as : List Ag} {ss : List Sl} (h1 : as.length ≤ f.np ∧ f.np - as.length ≤ f.dfl.length) (h2 : noDup as = true) (h3 : argSls δ as = some ss) : (callF f as δ).W Q E ↔ f.Runs (ss ++ (f.dfl.drop (f.dfl.length - (f.np - as.length))).map Sl.fz) (fun r outs => ∃ δ', putBack δ as outs = some δ' ∧ Q r δ') (fun x outs => ∃ δ', putBack δ as outs = some δ' ∧ E x δ') := by
  have e : callF f as δ = match f.run (ss ++ (f.dfl.drop (f.dfl.length - (f.np - as.length))).map Sl.fz) with
    | .ok r outs => (match putBack δ as outs with | some δ' => .ok r δ' | none => .no)
    | .er x outs => (match putBack δ as outs with | some δ' => .er x δ' | none => .no)
    | .no => .no := by
    unfold callF
    rw [h3, h2, show decide (as.length ≤ f.np ∧ f.np - as.length ≤ f.dfl.length) = true from decide_eq_true h1]
    rfl
  rw [e]
  unfold Fn.Runs
  cases f.run (ss ++ (f.dfl.drop (f.dfl.length - (f.np - as.length))).map Sl.fz) with
  | ok r outs =>
    dsimp only
    cases putBack δ as outs with
    | none => exact ⟨fun h => False.elim h, fun ⟨_, z, _⟩ => by cases z⟩
    | some δ' => exact ⟨fun h => ⟨δ', rfl, h⟩, fun ⟨_, z, h⟩ => by cases z; exact h⟩
  | er x outs =>
    dsimp only
    cases putBack δ as outs with
    | none => exact ⟨fun h => False.elim h, fun ⟨_, z, _⟩ => by cases z⟩
    | some δ' => exact ⟨fun h => ⟨δ', rfl, h⟩, fun ⟨_, z, h⟩ => by cases z; exact h⟩
  | no => exact Iff.rfl
theorem Runs.mono {f : Fn} {as : List Sl} {Q Q' : Rv → List Sl → Prop} {E E' : Xn → List Sl → Prop} (h : f.Runs as Q E) (hq : ∀ r o, Q r o → Q' r o) (he : ∀ x o, E x o → E' x o) : f.Runs as Q' E' := by
  unfold Fn.Runs at h ⊢
  split at h
  · exact hq _ _ h
  · exact he _ _ h
  · exact h

/-! ### statements -/
end
section
variable {Q : Fl → Env → Prop} {E : Xn → Env → Prop} {δ : Env} {P : Pr}
theorem w_snil : (exs P .nil δ).W Q E ↔ Q .nx δ := Iff.rfl
theorem w_scons {s : S} {ss : Ss} : (exs P (.cons s ss) δ).W Q E ↔ (ex P s δ).W (fun f δ => match f with | .nx => (exs P ss δ).W Q E | f => Q f δ) E := by
  show ((ex P s δ).bind fun f δ => match f with | .nx => exs P ss δ | f => .ok f δ).W Q E ↔ _
  rw [w_bind]
  constructor <;> intro h <;> refine w_mono h (fun f δ h => ?_) fun _ _ h => h
  · cases f <;> exact h
  · cases f <;> exact h
theorem w_pass : (ex P .pass δ).W Q E ↔ Q .nx δ := Iff.rfl
theorem w_set {i : Nat} {e : QL.E} : (ex P (.set i e) δ).W Q E ↔ (ev P e δ).W (fun r δ => ∃ δ', putSl δ i r = some δ' ∧ Q .nx δ') E := by
  show ((ev P e δ).bind fun r δ => (optR (putSl δ i r) δ).bind fun δ' _ => .ok .nx δ').W Q E ↔ _
  simp only [w_bind, w_opt, w_ok]
theorem w_tset {is : List Nat} {e : QL.E} : (ex P (.tset is e) δ).W Q E ↔ (ev P e δ).W (fun r δ => ∃ ds δ', r.d = .tup ds ∧ putAll δ is ds = some δ' ∧ Q .nx δ') E := by
  show ((ev P e δ).bind fun r δ => match r.d with
    | .tup ds => (optR (putAll δ is ds) δ).bind fun δ' _ => .ok .nx δ'
    | _ => .no).W Q E ↔ _
  rw [w_bind]
  constructor <;> intro h <;> refine w_mono h (fun r δ h => ?_) fun _ _ h => h
  · split at h
    · rename_i ds g
      obtain ⟨δ', h1, h2⟩ := w_opt.mp (w_bind.mp h)
      exact ⟨ds, δ', g, h1, h2⟩
    · exact h.elim
  · obtain ⟨ds, δ', g, h1, h2⟩ := h
    rw [g]
    exact w_bind.mpr (w_opt.mpr ⟨δ', h1, h2⟩)
theorem w_six {i : Nat} {k e : QL.E} : (ex P (.six i k e) δ).W Q E ↔ (ev P e δ).W (fun y δ => ∃ l, liveSl δ i = some l ∧ (ev P k δ).W (fun x δ => ∃ j δ', x.d = .int j ∧ chgSl δ i (fun ds => (L2.ixN ds.length j).map fun n => ds.set n y.d) = some δ' ∧ Q .nx δ') E) E := by
  show ((ev P e δ).bind fun y δ => (optR (liveSl δ i) δ).bind fun _ δ => (ev P k δ).bind fun x δ => match x.d with
    | .int j => (optR (chgSl δ i fun ds => (L2.ixN ds.length j).map fun n => ds.set n y.d) δ).bind fun δ' _ => .ok .nx δ'
    | _ => .no).W Q E ↔ _
  simp only [w_bind, w_opt]
  constructor <;> intro h <;> refine w_mono h (fun y δ h => ?_) fun _ _ h => h
  · obtain ⟨l, h1, h2⟩ := h
    refine ⟨l, h1, w_mono h2 (fun x δ h => ?_) fun _ _ h => h⟩
    split at h
    · rename_i j g
      obtain ⟨δ', h3, h4⟩ := w_opt.mp (w_bind.mp h)
      exact ⟨j, δ', g, h3, h4⟩
    · exact h.elim
  · obtain ⟨l, h1, h2⟩ := h
    refine ⟨l, h1, w_mono h2 (fun x δ h => ?_) fun _ _ h => h⟩
    obtain ⟨j, δ', g, h3, h4⟩ := h
    rw [g]
    exact w_bind.mpr (w_opt.mpr ⟨δ', h3, h4⟩)
theorem w_app {i : Nat} {e : QL.E} : (ex P (.app i e) δ).W Q E ↔ ∃ l, liveSl δ i = some l ∧ (ev P e δ).W (fun y δ => ∃ δ', chgSl δ i (fun ds => if ds.length < LIM then some (ds ++ [y.d]) else none) = some δ' ∧ Q .nx δ') E := by
  show ((optR (liveSl δ i) δ).bind fun _ δ => (ev P e δ).bind fun y δ => (optR (chgSl δ i fun ds => if ds.length < LIM then some (ds ++ [y.d]) else none) δ).bind fun δ' _ => .ok .nx δ').W Q E ↔ _
  simp only [w_bind, w_opt, w_ok]
theorem w_ex {e : QL.E} : (ex P (.ex e) δ).W Q E ↔ (ev P e δ).W (fun _ δ => Q .nx δ) E := by
  show ((ev P e δ).bind fun _ δ => .ok .nx δ).W Q E ↔ _
  simp only [w_bind, w_ok]
theorem w_retv {i : Nat} : (ex P (.ret (.v i)) δ).W Q E ↔ (moveSl δ i).W (fun r δ => Q (.rt r) δ) E := by
  show ((moveSl δ i).bind fun r δ => .ok (.rt r) δ).W Q E ↔ _
  simp only [w_bind, w_ok]
theorem w_ret {e : QL.E} (h : isV e = none) : (ex P (.ret e) δ).W Q E ↔ (ev P e δ).W (fun r δ => Q (.rt r) δ) E := by
  have z : ex P (.ret e) δ = (ev P e δ).bind fun r δ => .ok (.rt r) δ := by
    cases e <;> first | rfl | cases h
  rw [z]
  simp only [w_bind, w_ok]
theorem w_retN : (ex P .retN δ).W Q E ↔ Q (.rt (.fz .non)) δ := Iff.rfl
theorem w_brk : (ex P .brk δ).W Q E ↔ Q .bk δ := Iff.rfl
theorem w_cnt : (ex P .cnt δ).W Q E ↔ Q .ct δ := Iff.rfl
theorem w_ift {c : QL.E} {a b : Ss} : (ex P (.ift c a b) δ).W Q E ↔ (ev P c δ).W (fun x δ => ∃ t, x = .fz (.bl t) ∧ (t = true → (exs P a δ).W Q E) ∧ (t = false → (exs P b δ).W Q E)) E := by
  have z : ex P (.ift c a b) δ = (ev P c δ).bind fun x δ => match x with
    | .fz (.bl true) => exs P a δ
    | .fz (.bl false) => exs P b δ
    | _ => .no := rfl
  rw [z, w_bind]
  constructor <;> intro h <;> refine w_mono h (fun x δ h => ?_) fun _ _ h => h
  · exact w_two.mp h
  · exact w_two.mpr h
theorem w_for {is : List Nat} {it : I} {b : Ss} : (ex P (.for_ is it b) δ).W Q E ↔ (evI P it δ).W (fun xs δ => (forGo is (exs P b) xs δ).W Q E) E := by
  show ((evI P it δ).bind fun xs δ => forGo is (exs P b) xs δ).W Q E ↔ _
  rw [w_bind]
theorem w_rse {c : Nat} {e : QL.E} : (ex P (.rse c e) δ).W Q E ↔ (ev P e δ).W (fun r δ => E ⟨c, some r.d⟩ δ) E := by
  show ((ev P e δ).bind fun r δ => .er ⟨c, some r.d⟩ δ).W Q E ↔ _
  simp only [w_bind, w_er]
theorem w_try {b : Ss} {ie c i : Nat} {l : Bool} {its : List HI} : (ex P (.try_ b ie c i l its) δ).W Q E ↔ (exs P b δ).W Q (fun x δ => (P.sub x.c c = true → (hand P x ie i l its δ).W Q E) ∧ (P.sub x.c c = false → E x δ)) := by
  have z : ex P (.try_ b ie c i l its) δ = match exs P b δ with
    | .er x δ' => if P.sub x.c c then hand P x ie i l its δ' else .er x δ'
    | r => r := rfl
  rw [z]
  cases exs P b δ with
  | ok f δ' => exact Iff.rfl
  | no => exact Iff.rfl
  | er x δ' =>
    show Rs.W (if P.sub x.c c = true then _ else _) Q E ↔ (P.sub x.c c = true → _) ∧ (P.sub x.c c = false → _)
    cases P.sub x.c c with
    | true => exact ⟨fun h => ⟨fun _ => h, fun z => by cases z⟩, fun h => h.1 rfl⟩
    | false => exact ⟨fun h => ⟨(fun z => by cases z), fun _ => h⟩, fun h => h.2 rfl⟩
/-- a loop by what holds ahead of each turn -/
theorem for_inv {is : List Nat} {body : Env → Rs Fl} (J : List D → Env → Prop) (turn : ∀ x xs δ, J (x :: xs) δ → ∃ δ1, bindT δ is x = some δ1 ∧ (body δ1).W (fun f δ2 => match f with | .nx => J xs δ2 | .ct => J xs δ2 | .bk => Q .nx δ2 | .rt r => Q (.rt r) δ2) E) (done : ∀ δ, J [] δ → Q .nx δ) :
    ∀ (xs : List D) (δ : Env), J xs δ → (forGo is body xs δ).W Q E
  | [], δ, h => done δ h
  | x :: xs, δ, h => by
    obtain ⟨δ1, h1, h2⟩ := turn x xs δ h
    unfold forGo
    rw [h1]
    show Rs.W ((body δ1).bind _) Q E
    rw [w_bind]
    refine w_mono h2 (fun f δ2 h => ?_) fun _ _ h => h
    cases f with
    | nx => exact for_inv J turn done xs δ2 h
    | ct => exact for_inv J turn done xs δ2 h
    | bk => exact h
    | rt r => exact h
end
section
variable {E : Xn → Env → Prop} {δ : Env} {P : Pr}
theorem w_seq {Q : List D → Env → Prop} {e : QL.E} : (evI P (.seq e) δ).W Q E ↔ (ev P e δ).W (fun x δ => ∃ xs, itemsOf x.d = some xs ∧ Q xs δ) E := by
  show ((ev P e δ).bind fun x δ => optR (itemsOf x.d) δ).W Q E ↔ _
  simp only [w_bind, w_opt]
theorem w_rng1 {Q : List D → Env → Prop} {e : QL.E} : (evI P (.rng1 e) δ).W Q E ↔ (ev P e δ).W (fun x δ => ∃ j, x.d = .int j ∧ (-(2 ^ 62) ≤ j ∧ j < 2 ^ 62) ∧ Q (rangeD 0 j.toNat) δ) E := by
  show ((ev P e δ).bind fun x δ => match x.d with
    | .int j => if -(2 ^ 62) ≤ j ∧ j < 2 ^ 62 then .ok (rangeD 0 j.toNat) δ else .no
    | _ => .no).W Q E ↔ _
  rw [w_bind]
  constructor <;> intro h <;> refine w_mono h (fun r δ h => ?_) fun _ _ h => h
  · split at h
    · rename_i j g
      split at h
      · exact ⟨j, g, by assumption, h⟩
      · exact h.elim
    · exact h.elim
  · obtain ⟨j, g, h1, h2⟩ := h
    rw [g]
    show Rs.W (if _ then _ else _) Q E
    rw [if_pos h1]
    exact h2
/-- a comprehension whose parts leave the slots as they are -/
theorem lcGo_map {i : Nat} {tst elt : Env → Rs Rv} {p : D → Bool} {g : D → D} (hi : δ[i]? = some .un) : ∀ (xs acc : List D), acc.length + xs.length ≤ LIM → (∀ x ∈ xs, tst (δ.set i (.fz x)) = .ok (.fz (.bl (p x))) (δ.set i (.fz x)) ∧ (p x = true → ∃ r, elt (δ.set i (.fz x)) = .ok r (δ.set i (.fz x)) ∧ r.d = g x)) → lcGo i tst elt xs acc δ = .ok (acc ++ (xs.filter p).map g) δ
  | [], acc, _, _ => by simp [lcGo]
  | x :: xs, acc, hl, h => by
    obtain ⟨h1, h2⟩ := h x (List.mem_cons_self ..)
    have back : (δ.set i (.fz x)).set i .un = δ := by
      rw [List.set_set]
      exact List.set_getElem?_self' hi
    have hl' : acc.length + xs.length + 1 ≤ LIM := by simpa [Nat.add_assoc] using hl
    unfold lcGo
    rw [h1]
    cases hp : p x with
    | true =>
      obtain ⟨r, h3, h4⟩ := h2 hp
      show ((elt (δ.set i (.fz x))).ne.bind _) = _
      rw [h3]
      show (if acc.length < LIM then lcGo i tst elt xs (acc ++ [r.d]) ((δ.set i (.fz x)).set i .un) else .no) = _
      rw [if_pos (by omega), back, lcGo_map hi xs _ (by simp; omega) fun y hy => h y (List.mem_cons_of_mem _ hy), h4, List.filter_cons_of_pos hp, List.map_cons, List.append_assoc]
      rfl
    | false =>
      show lcGo i tst elt xs acc ((δ.set i (.fz x)).set i .un) = _
      rw [back, lcGo_map hi xs _ (by omega) fun y hy => h y (List.mem_cons_of_mem _ hy), List.filter_cons_of_neg (by rw [hp]; decide)]
theorem w_lc {Q : Rv → Env → Prop} {i : Nat} {it : I} {c e : QL.E} : (ev P (.lc i it c e) δ).W Q E ↔ (evI P it δ).W (fun xs δ => (lcRun i (ev P c) (ev P e) xs δ).W Q E) E := by
  show ((evI P it δ).bind fun xs δ => lcRun i (ev P c) (ev P e) xs δ).W Q E ↔ _
  rw [w_bind]
theorem lc_map {Q : Rv → Env → Prop} {i : Nat} {tst elt : Env → Rs Rv} {p : D → Bool} {g : D → D} {s : Sl} {xs : List D} (hs : lcSl δ i = some s) (hi : δ[i]? = some s) (hl : xs.length ≤ LIM) (h : ∀ x ∈ xs, tst (δ.set i (.fz x)) = .ok (.fz (.bl (p x))) (δ.set i (.fz x)) ∧ (p x = true → ∃ r, elt (δ.set i (.fz x)) = .ok r (δ.set i (.fz x)) ∧ r.d = g x)) (q : Q (.lv ((xs.filter p).map g)) δ) : (lcRun i tst elt xs δ).W Q E := by
  unfold lcRun
  rw [hs]
  have lt := (List.getElem?_eq_some_iff.mp hi).1
  have := lcGo_map (δ := δ.set i .un) (i := i) (tst := tst) (elt := elt) (p := p) (g := g) (by rw [List.getElem?_set_self lt]) xs [] (by simpa using hl) (by simpa [List.set_set] using h)
  show Rs.W ((lcGo i tst elt xs [] (δ.set i .un)).bind _) Q E
  rw [this]
  show Q (.lv ([] ++ (xs.filter p).map g)) ((δ.set i .un).set i s)
  rw [List.nil_append, List.set_set, List.set_getElem?_self' hi]
  exact q
/-- a def's run by its body -/
theorem runs_of {gl : List D} {sb : Nat → Nat → Bool} {acc : List Fn} {d : Df} {as : List Sl} {Q : Rv → List Sl → Prop} {E : Xn → List Sl → Prop} (h : (exs ⟨acc, gl, fun _ _ => none, sb⟩ d.b (as ++ List.replicate (d.N.length - as.length) .un)).W (fun f δ => match f with
    | .nx => lpOk as δ = true ∧ Q (.fz .non) (δ.take as.length)
    | .rt r => lpOk as δ = true ∧ Q r (δ.take as.length)
    | _ => False) (fun x δ => lpOk as δ = true ∧ E x (δ.take as.length))) : (d.fn gl sb acc).Runs as Q E := by
  unfold Fn.Runs
  show match fin as (exs ⟨acc, gl, fun _ _ => none, sb⟩ d.b (as ++ List.replicate (d.N.length - as.length) .un)) with
    | .ok r outs => Q r outs
    | .er x outs => E x outs
    | .no => False
  cases e : exs ⟨acc, gl, fun _ _ => none, sb⟩ d.b (as ++ List.replicate (d.N.length - as.length) .un) with
  | no => rw [e] at h; exact h.elim
  | er x δ =>
    rw [e] at h
    obtain ⟨h1, h2⟩ := h
    unfold fin
    dsimp only
    rw [if_pos h1]
    exact h2
  | ok f δ =>
    rw [e] at h
    cases f with
    | nx =>
      obtain ⟨h1, h2⟩ := h
      unfold fin
      dsimp only
      rw [if_pos h1]
      exact h2
    | rt r =>
      obtain ⟨h1, h2⟩ := h
      unfold fin
      dsimp only
      rw [if_pos h1]
      exact h2
    | bk => exact h.elim
    | ct => exact h.elim
end
end QL

end
section
set_option Elab.async false
set_option linter.all false
set_option maxRecDepth 100000
/-! QV: the plain walk's equations, for simp. -/
namespace QL
open PySem L2
section
variable {δ : Env} {P : Pr} {i j : Int} {d e : D} {ds es : List D}
@[simp] theorem e_bok {α β : Type} {a : α} {f : α → Env → Rs β} : (Rs.ok a δ).bind f = f a δ := rfl
@[simp] theorem e_ber {α β : Type} {x : Xn} {f : α → Env → Rs β} : (Rs.er x δ).bind f = .er x δ := rfl
@[simp] theorem e_opt {α : Type} {a : α} : optR (some a) δ = .ok a δ := rfl
@[simp] theorem e_dfz : (Rv.fz d).d = d := rfl
@[simp] theorem e_dlv : (Rv.lv ds).d = .lst ds := rfl
@[simp] theorem e_sfz : (Rv.fz d).sl = .fz d := rfl
@[simp] theorem e_slv : (Rv.lv ds).sl = .lv ds := rfl
@[simp] theorem e_ex {α : Type} {p : Prop} {a : α} {Q : α → Prop} : (∃ z, (p ∧ a = z) ∧ Q z) ↔ p ∧ Q a := ⟨fun ⟨_, ⟨h1, h2⟩, h3⟩ => ⟨h1, h2 ▸ h3⟩, fun ⟨h1, h2⟩ => ⟨a, ⟨h1, rfl⟩, h2⟩⟩
@[simp] theorem e_bt {p : Prop} {a : Bool} {Q R : Prop} : (∃ t, Rv.fz (D.bl a) = .fz (.bl t) ∧ (t = true → Q) ∧ (t = false → R)) ↔ (a = true → Q) ∧ (a = false → R) := ⟨fun ⟨_, h, q⟩ => by cases h; exact q, fun q => ⟨_, rfl, q⟩⟩
@[simp] theorem e_add : binD .add (.int i) (.int j) = some (.fz (.int (i + j))) := rfl
@[simp] theorem e_sub : binD .sub (.int i) (.int j) = some (.fz (.int (i - j))) := rfl
@[simp] theorem e_mul : binD .mul (.int i) (.int j) = if (-(2 ^ 64) < i ∧ i < 2 ^ 64) ∨ (-(2 ^ 64) < j ∧ j < 2 ^ 64) then some (.fz (.int (i * j))) else none := rfl
@[simp] theorem e_mod : binD .mod (.int i) (.int j) = if 0 < j then some (.fz (.int (i % j))) else none := rfl
@[simp] theorem e_fdv : binD .fdv (.int i) (.int j) = if 0 < j ∧ j < 1073741824 then some (.fz (.int (i / j))) else none := rfl
@[simp] theorem e_pow : binD .pow (.int i) (.int j) = if 0 ≤ j ∧ j ≤ 1000000 ∧ i.natAbs < 2 ^ 64 then some (.fz (.int (i ^ j.toNat))) else none := rfl
@[simp] theorem e_lt : cmpD .lt (.int i) (.int j) = some (decide (i < j)) := rfl
@[simp] theorem e_le : cmpD .le (.int i) (.int j) = some (decide (i ≤ j)) := rfl
@[simp] theorem e_gt : cmpD .gt (.int i) (.int j) = some (decide (j < i)) := rfl
@[simp] theorem e_ge : cmpD .ge (.int i) (.int j) = some (decide (j ≤ i)) := rfl
@[simp] theorem e_eq : cmpD .eq (.int i) (.int j) = some (decide (i = j)) := rfl
@[simp] theorem e_ne : cmpD .ne (.int i) (.int j) = some (!decide (i = j)) := rfl
theorem e_eqg : cmpD .eq d e = if (eqOk 60 d && eqOk 60 e) = true then some (eqD d e) else none := rfl
theorem e_neg : cmpD .ne d e = if (eqOk 60 d && eqOk 60 e) = true then some (!eqD d e) else none := rfl
@[simp] theorem e_isn : cmpD .isn d .non = some (isN d) := rfl
@[simp] theorem e_nisn : cmpD .nisn d .non = some (!isN d) := rfl
theorem e_nin : cmpD .nin d (.lst ds) = if (flatD d && ds.all flatD) = true then some (!inD d ds) else none := rfl
theorem e_isin : cmpD .isin d (.lst ds) = if (flatD d && ds.all flatD) = true then some (inD d ds) else none := rfl
@[simp] theorem e_isb {a b : Bool} : cmpD .isb (.bl a) (.bl b) = some (a == b) := rfl
@[simp] theorem e_nisb {a b : Bool} : cmpD .nisb (.bl a) (.bl b) = some (!(a == b)) := rfl
@[simp] theorem e_ixl : ixD (.lst ds) (.int i) = atI ds i := rfl
@[simp] theorem e_ixt : ixD (.tup ds) (.int i) = atI ds i := rfl
@[simp] theorem e_lenl : biD .len [.lst ds] = some (.fz (.int ds.length)) := rfl
@[simp] theorem e_lent : biD .len [.tup ds] = some (.fz (.int ds.length)) := rfl
@[simp] theorem e_max : biD .max2 [.int i, .int j] = some (.fz (.int (if j > i then j else i))) := rfl
@[simp] theorem e_min : biD .min2 [.int i, .int j] = some (.fz (.int (if j < i then j else i))) := rfl
@[simp] theorem e_abs : biD .abs [.int i] = some (.fz (.int (if i < 0 then -i else i))) := rfl
@[simp] theorem e_int : biD .int1 [.int i] = some (.fz (.int i)) := rfl
theorem q_non : eqD .non .non = true := by simp [eqD]
theorem q_bl {a b : Bool} : eqD (.bl a) (.bl b) = (a == b) := by simp [eqD]
theorem q_int : eqD (.int i) (.int j) = (i == j) := by simp [eqD]
theorem q_str {x y : Str} : eqD (.str x) (.str y) = (x == y) := by simp [eqD]
theorem q_lst : eqD (.lst ds) (.lst es) = eqDs ds es := by simp [eqD]
theorem q_tup : eqD (.tup ds) (.tup es) = eqDs ds es := by simp [eqD]
theorem q_nil : eqDs [] [] = true := by simp [eqDs]
theorem q_cons : eqDs (d :: ds) (e :: es) = (eqD d e && eqDs ds es) := by simp [eqDs]
theorem q_onon {n : Nat} : eqOk n .non = true := by simp [eqOk]
theorem q_obl {n : Nat} {a : Bool} : eqOk n (.bl a) = true := by simp [eqOk]
theorem q_oint {n : Nat} : eqOk n (.int i) = true := by simp [eqOk]
theorem q_olst {n : Nat} : eqOk (n + 1) (.lst ds) = eqOks n ds := by simp [eqOk]
theorem q_otup {n : Nat} : eqOk (n + 1) (.tup ds) = eqOks n ds := by simp [eqOk]
theorem q_olst' : eqOk 60 (.lst ds) = eqOks 59 ds := by simp [eqOk]
theorem q_otup' : eqOk 60 (.tup ds) = eqOks 59 ds := by simp [eqOk]
theorem q_otup9 : eqOk 59 (.tup ds) = eqOks 58 ds := by simp [eqOk]
theorem q_olst9 : eqOk 59 (.lst ds) = eqOks 58 ds := by simp [eqOk]
theorem q_onil {n : Nat} : eqOks n [] = true := by simp [eqOks]
theorem q_ocons {n : Nat} : eqOks n (d :: ds) = (eqOk n d && eqOks n ds) := by simp [eqOks]
@[simp] theorem e_items1 : itemsOf (.lst ds) = some ds := rfl
@[simp] theorem e_items2 : itemsOf (.tup ds) = some ds := rfl
@[simp] theorem e_items3 : itemsOf (.rol ds) = some ds := rfl
@[simp] theorem e_ite {α : Type} {p : Prop} [Decidable p] {a b : α} : ((if p then some a else none) = some b) ↔ (p ∧ a = b) := ite_opt
theorem atI_nat {n : Nat} {x : D} (h : ds[n]? = some x) : atI ds (n : Int) = some x := by
  have hl := (List.getElem?_eq_some_iff.mp h).1
  unfold atI ixN
  rw [if_pos (Int.natCast_nonneg n), if_pos (by omega)]
  show ds[(n : Int).toNat]? = some x
  rw [Int.toNat_natCast]
  exact h
theorem atI_int {k : Int} {x : D} (h0 : 0 ≤ k) (h : ds[k.toNat]? = some x) : atI ds k = some x := by
  have := atI_nat h
  rw [Int.toNat_of_nonneg h0] at this
  exact this
end
end QL

end
section
set_option Elab.async false
set_option linter.all false
set_option maxRecDepth 100000
set_option maxHeartbeats 0
namespace LW
open PySem PySem.Spec PyProof.Rows L2 He QL
def top (i : Nat) : Stmt := PySem.Challenge.pw_leastshelf_k09_stretches.main.body.getD i (.Pass ⟨0, 0, 0, 0⟩)
/-- _law_stream -/
def b0 : Ss := (.cons (.ret (.lst (.cons (.lc 1 (.seq (.sl (.v 0) (.c .non) (.c (.int 63)))) (.c (.bl true)) (.bi .int1 (.cons (.v 1) .nil))) (.cons (.c (.int 0)) (.cons (.c (.int 0)) .nil))))) .nil)
def d0 : Df := ⟨"_law_stream", top 19, ["_law_script", "_law_cell"], ["_law_script"], [], b0⟩
/-- _law_mixed -/
def b1 : Ss := (.cons (.set 2 (.bin .mod (.bi .int1 (.cons (.bin .mul (.v 0) (.bin .add (.c (.int 314159265358979323)) (.bin .mul (.c (.int 271828182845)) (.v 1)))) .nil)) (.c (.int 1000000000000000003)))) (.cons (.ret (.bin .mod (.bi .int1 (.cons (.bin .mul (.v 2) (.bin .add (.v 2) (.bin .mul (.c (.int 57721566490153)) (.v 1)))) .nil)) (.c (.int 1000000000000000009)))) .nil))
def d1 : Df := ⟨"_law_mixed", top 20, ["_law_cell", "_law_place", "_law_one"], ["_law_cell", "_law_place"], [], b1⟩
/-- _law_draw -/
def b2 : Ss := (.cons (.ift (.and_ (.cmp .eq (.ixv 0 (.c (.int 2))) (.c (.int 0))) (.cmp .lt (.ixv 0 (.c (.int 1))) (.bi .len (.cons (.ixv 0 (.c (.int 0))) .nil)))) (.cons (.set 2 (.ix (.ixv 0 (.c (.int 0))) (.ixv 0 (.c (.int 1))))) (.cons (.six 0 (.c (.int 1)) (.bin .add (.ixv 0 (.c (.int 1))) (.c (.int 1)))) (.cons (.six 0 (.c (.int 2)) (.bi .abs (.cons (.v 2) .nil))) (.cons (.ift (.cmp .lt (.ixv 0 (.c (.int 2))) (.bin .pow (.c (.int 10)) (.c (.int 18)))) (.cons (.six 0 (.c (.int 2)) (.call 1 (.cons (.v 2) (.cons (.ixv 0 (.c (.int 1))) .nil)))) .nil) .nil) .nil)))) .nil) (.cons (.set 3 (.bin .mod (.bi .int1 (.cons (.ixv 0 (.c (.int 2))) .nil)) (.v 1))) (.cons (.six 0 (.c (.int 2)) (.bin .fdv (.bi .int1 (.cons (.ixv 0 (.c (.int 2))) .nil)) (.v 1))) (.cons (.ret (.v 3)) .nil))))
def d2 : Df := ⟨"_law_draw", top 21, ["_law_stream_here", "_law_many", "_law_cell", "_law_value"], ["_law_stream_here", "_law_many"], [], b2⟩
/-- _law_pick -/
def b3 : Ss := (.cons (.ret (.bin .mod (.bi .int1 (.cons (.call 2 (.cons (.lr 0) (.cons (.c (.int 10)) .nil))) .nil)) (.v 1))) .nil)
def d3 : Df := ⟨"_law_pick", top 22, ["_law_stream_here", "_law_many"], ["_law_stream_here", "_law_many"], [], b3⟩
/-- _law_grid -/
def b4 : Ss := (.cons (.set 2 (.bin .add (.c (.int 1)) (.call 3 (.cons (.lr 0) (.cons (.v 1) .nil))))) (.cons (.set 3 (.call 3 (.cons (.lr 0) (.cons (.c (.int 10)) .nil)))) (.cons (.set 4 (.call 3 (.cons (.lr 0) (.cons (.c (.int 3)) .nil)))) (.cons (.ift (.cmp .gt (.v 3) (.c (.int 6))) (.cons (.set 4 (.bin .mod (.bi .int1 (.cons (.call 2 (.cons (.lr 0) (.cons (.c (.int 1000000)) .nil))) .nil)) (.c (.int 900000)))) .nil) .nil) (.cons (.set 5 (.lst (.cons (.v 4) .nil))) (.cons (.for_ [6] (.rng1 (.v 2)) (.cons (.ift (.cmp .gt (.v 3) (.c (.int 6))) (.cons (.set 4 (.bin .add (.bin .add (.v 4) (.c (.int 1))) (.call 2 (.cons (.lr 0) (.cons (.c (.int 1000)) .nil))))) .nil) (.cons (.set 4 (.bin .add (.bin .add (.v 4) (.c (.int 1))) (.call 3 (.cons (.lr 0) (.cons (.c (.int 3)) .nil))))) .nil)) (.cons (.app 5 (.v 4)) .nil))) (.cons (.ift (.or_ (.cmp .eq (.v 3) (.c (.int 7))) (.cmp .eq (.v 3) (.c (.int 9)))) (.cons (.six 5 (.c (.int 0)) (.c (.int 0))) .nil) .nil) (.cons (.ift (.cmp .gt (.v 3) (.c (.int 7))) (.cons (.six 5 (.v 2) (.c (.int 1000000))) .nil) .nil) (.cons (.ret (.v 5)) .nil)))))))))
def d4 : Df := ⟨"_law_grid", top 23, ["_law_stream_here", "_law_upper", "_law_many", "_law_wide", "_law_point", "_law_grid_here", "_law_k"], ["_law_stream_here", "_law_upper"], [], b4⟩
/-- _law_stretch -/
def b5 : Ss := (.cons (.set 2 (.call 3 (.cons (.lr 0) (.cons (.bin .sub (.lenv 1) (.c (.int 1))) .nil)))) (.cons (.set 3 (.bin .add (.bin .add (.v 2) (.c (.int 1))) (.call 3 (.cons (.lr 0) (.cons (.bin .sub (.bin .sub (.lenv 1) (.c (.int 1))) (.v 2)) .nil))))) (.cons (.ret (.tup (.cons (.ixv 1 (.v 2)) (.cons (.ixv 1 (.v 3)) .nil)))) .nil)))
def d5 : Df := ⟨"_law_stretch", top 24, ["_law_stream_here", "_law_grid_here", "_law_low", "_law_high"], ["_law_stream_here", "_law_grid_here"], [], b5⟩
/-- _law_look_keys -/
def b6 : Ss := (.cons (.set 1 (.lst (.cons (.c (.int 0)) (.cons (.c (.int 999999)) .nil)))) (.cons (.for_ [2] (.seq (.v 0)) (.cons (.for_ [3] (.seq (.tup (.cons (.bin .sub (.v 2) (.c (.int 1))) (.cons (.v 2) .nil)))) (.cons (.ift (.and_ (.ch2 .le .lt (.c (.int 0)) (.v 3) (.c (.int 1000000))) (.inv true (.v 3) 1)) (.cons (.app 1 (.v 3)) .nil) .nil) .nil)) .nil)) (.cons (.ret (.v 1)) .nil)))
def d6 : Df := ⟨"_law_look_keys", top 26, ["_law_grid_here", "_law_keys", "_law_point", "_law_key"], ["_law_grid_here"], [], b6⟩
/-- common_stretch -/
def b7 : Ss := (.cons (.set 2 (.bi .max2 (.cons (.ixv 0 (.c (.int 0))) (.cons (.ixv 1 (.c (.int 0))) .nil)))) (.cons (.set 3 (.bi .min2 (.cons (.ixv 0 (.c (.int 1))) (.cons (.ixv 1 (.c (.int 1))) .nil)))) (.cons (.ift (.cmp .lt (.v 2) (.v 3)) (.cons (.ret (.tup (.cons (.v 2) (.cons (.v 3) .nil)))) .nil) .nil) (.cons (.ret (.c .non)) .nil))))
def d7 : Df := ⟨"common_stretch", top 15, ["one", "other", "begin", "end"], ["one", "other"], [], b7⟩
/-- lies_within -/
def b8 : Ss := (.cons (.ret (.and_ (.cmp .le (.ixv 1 (.c (.int 0))) (.ixv 0 (.c (.int 0)))) (.cmp .le (.ixv 0 (.c (.int 1))) (.ixv 1 (.c (.int 1)))))) .nil)
def d8 : Df := ⟨"lies_within", top 16, ["one", "other"], ["one", "other"], [], b8⟩
/-- _law_is_number -/
def b9 : Ss := (.cons (.ret (.and_ (.isi (.v 0) [.int]) (.not_ (.isi (.v 0) [.bool])))) .nil)
def d9 : Df := ⟨"_law_is_number", top 25, ["_law_thing"], ["_law_thing"], [], b9⟩
/-- _law_same_stretch -/
def b10 : Ss := (.cons (.ift (.cmp .isn (.v 1) (.c .non)) (.cons (.ret (.cmp .isn (.v 0) (.c .non))) .nil) .nil) (.cons (.ret (.and_ (.isi (.v 0) [.tuple]) (.and_ (.cmp .eq (.v 0) (.v 1)) (.and_ (.call 9 (.cons (.ixv 0 (.c (.int 0))) .nil)) (.call 9 (.cons (.ixv 0 (.c (.int 1))) .nil)))))) .nil))
def d10 : Df := ⟨"_law_same_stretch", top 27, ["_law_told", "_law_due"], ["_law_told", "_law_due"], [], b10⟩
/-- _law_two -/
def b11 : Ss := (.cons (.set 3 (.c .non)) (.cons (.ift (.cmp .lt (.bi .max2 (.cons (.ixv 0 (.c (.int 0))) (.cons (.ixv 1 (.c (.int 0))) .nil))) (.bi .min2 (.cons (.ixv 0 (.c (.int 1))) (.cons (.ixv 1 (.c (.int 1))) .nil)))) (.cons (.set 3 (.tup (.cons (.bi .max2 (.cons (.ixv 0 (.c (.int 0))) (.cons (.ixv 1 (.c (.int 0))) .nil))) (.cons (.bi .min2 (.cons (.ixv 0 (.c (.int 1))) (.cons (.ixv 1 (.c (.int 1))) .nil))) .nil)))) .nil) .nil) (.cons (.set 4 (.call 7 (.cons (.v 0) (.cons (.v 1) .nil)))) (.cons (.ift (.not_ (.call 10 (.cons (.v 4) (.cons (.v 3) .nil)))) (.cons (.ret (.c (.bl false))) .nil) .nil) (.cons (.for_ [5] (.seq (.v 2)) (.cons (.set 6 (.and_ (.ch2 .le .lt (.ixv 0 (.c (.int 0))) (.v 5) (.ixv 0 (.c (.int 1)))) (.ch2 .le .lt (.ixv 1 (.c (.int 0))) (.v 5) (.ixv 1 (.c (.int 1)))))) (.cons (.ift (.cmp .ne (.v 6) (.and_ (.cmp .nisn (.v 4) (.c .non)) (.ch2 .le .lt (.ixv 4 (.c (.int 0))) (.v 5) (.ixv 4 (.c (.int 1)))))) (.cons (.ret (.c (.bl false))) .nil) .nil) .nil))) (.cons (.set 7 (.lc 5 (.seq (.tup (.cons (.ixv 0 (.c (.int 0))) (.cons (.bin .sub (.ixv 0 (.c (.int 1))) (.c (.int 1))) .nil)))) (.ch2 .le .lt (.ixv 1 (.c (.int 0))) (.v 5) (.ixv 1 (.c (.int 1)))) (.v 5))) (.cons (.set 4 (.call 8 (.cons (.v 0) (.cons (.v 1) .nil)))) (.cons (.ret (.and_ (.isi (.v 4) [.bool]) (.cmp .eq (.v 4) (.cmp .eq (.lenv 7) (.c (.int 2)))))) .nil))))))))
def d11 : Df := ⟨"_law_two", top 30, ["_law_one", "_law_other", "_law_keys", "_law_due", "_law_told", "_law_key", "_law_both", "_law_inner"], ["_law_one", "_law_other", "_law_keys"], [], b11⟩
/-- is_integer -/
def b12 : Ss := (.cons (.ret (.and_ (.isi (.v 0) [.int]) (.not_ (.isi (.v 0) [.bool])))) .nil)
def d12 : Df := ⟨"is_integer", top 10, ["thing"], ["thing"], [], b12⟩
/-- is_stretch -/
def b13 : Ss := (.cons (.ift (.or_ (.not_ (.isi (.v 0) [.tuple])) (.cmp .ne (.lenv 0) (.c (.int 2)))) (.cons (.ret (.c (.bl false))) .nil) .nil) (.cons (.tset [1, 2] (.v 0)) (.cons (.ret (.and_ (.call 12 (.cons (.v 1) .nil)) (.and_ (.call 12 (.cons (.v 2) .nil)) (.ch3 .le .lt .le (.c (.int 0)) (.v 1) (.v 2) (.g 0))))) .nil)))
def d13 : Df := ⟨"is_stretch", top 13, ["thing", "a", "b"], ["thing"], [], b13⟩
/-- check_stretch -/
def b14 : Ss := (.cons (.ift (.not_ (.call 13 (.cons (.v 0) .nil))) (.cons (.rse 2 (.v 1)) .nil) .nil) (.cons (.ret (.v 0)) .nil))
def d14 : Df := ⟨"check_stretch", top 14, ["stretch", "place"], ["stretch", "place"], [.int 0], b14⟩
/-- is_key -/
def b15 : Ss := (.cons (.ret (.and_ (.call 12 (.cons (.v 0) .nil)) (.ch2 .le .lt (.c (.int 0)) (.v 0) (.g 0)))) .nil)
def d15 : Df := ⟨"is_key", top 11, ["thing"], ["thing"], [], b15⟩
/-- check_key -/
def b16 : Ss := (.cons (.ift (.not_ (.call 15 (.cons (.v 0) .nil))) (.cons (.rse 1 (.v 0)) .nil) .nil) (.cons (.ret (.v 0)) .nil))
def d16 : Df := ⟨"check_key", top 12, ["key"], ["key"], [], b16⟩
/-- _law_no_key -/
def b17 : Ss := (.cons (.set 1 (.c .non)) (.cons (.try_ (.cons (.ex (.call 16 (.cons (.v 0) .nil))) .nil) 2 1 1 true [.fld, (.is1 0), (.is [4, 3, 2])]) (.cons (.ret (.and_ (.cmp .isb (.call 15 (.cons (.v 0) .nil)) (.c (.bl false))) (.cmp .eq (.v 1) (.lst (.cons (.v 0) (.cons (.c (.bl true)) (.cons (.c (.bl false)) .nil))))))) .nil)))
def d17 : Df := ⟨"_law_no_key", top 28, ["_law_key", "_law_told", "e"], ["_law_key"], [], b17⟩
/-- _law_no_stretch -/
def b18 : Ss := (.cons (.set 2 (.c .non)) (.cons (.try_ (.cons (.ift (.cmp .lt (.v 1) (.c (.int 0))) (.cons (.ex (.call 14 (.cons (.v 0) .nil))) .nil) (.cons (.ex (.call 14 (.cons (.v 0) (.cons (.v 1) .nil)))) .nil)) .nil) 3 2 2 true [.fld, (.is1 0), (.is [4, 3, 1])]) (.cons (.ret (.and_ (.cmp .isb (.call 13 (.cons (.v 0) .nil)) (.c (.bl false))) (.cmp .eq (.v 2) (.lst (.cons (.bi .max2 (.cons (.c (.int 0)) (.cons (.v 1) .nil))) (.cons (.c (.bl true)) (.cons (.c (.bl false)) .nil))))))) .nil)))
def d18 : Df := ⟨"_law_no_stretch", top 29, ["_law_thing", "_law_place", "_law_told", "e"], ["_law_thing", "_law_place"], [], b18⟩
/-- cut_at -/
def b19 : Ss := (.cons (.tset [2, 3] (.v 0)) (.cons (.ift (.ch2 .lt .lt (.v 2) (.v 1) (.v 3)) (.cons (.ret (.lst (.cons (.tup (.cons (.v 2) (.cons (.v 1) .nil))) (.cons (.tup (.cons (.v 1) (.cons (.v 3) .nil))) .nil)))) .nil) .nil) (.cons (.ret (.lst (.cons (.tup (.cons (.v 2) (.cons (.v 3) .nil))) .nil))) .nil)))
def d19 : Df := ⟨"cut_at", top 17, ["stretch", "border", "a", "b"], ["stretch", "border"], [], b19⟩
/-- _law_cut_there -/
def b20 : Ss := (.cons (.set 2 (.lst (.cons (.v 0) .nil))) (.cons (.ift (.and_ (.cmp .lt (.ixv 0 (.c (.int 0))) (.v 1)) (.cmp .lt (.v 1) (.ixv 0 (.c (.int 1))))) (.cons (.set 2 (.lst (.cons (.tup (.cons (.ixv 0 (.c (.int 0))) (.cons (.v 1) .nil))) (.cons (.tup (.cons (.v 1) (.cons (.ixv 0 (.c (.int 1))) .nil))) .nil)))) .nil) .nil) (.cons (.set 3 (.call 19 (.cons (.v 0) (.cons (.v 1) .nil)))) (.cons (.ift (.or_ (.not_ (.isi (.v 3) [.list])) (.cmp .ne (.lenv 3) (.lenv 2))) (.cons (.ret (.c (.bl false))) .nil) .nil) (.cons (.for_ [4] (.rng1 (.lenv 2)) (.cons (.ift (.or_ (.not_ (.call 10 (.cons (.ixv 3 (.v 4)) (.cons (.ixv 2 (.v 4)) .nil)))) (.cmp .nisb (.call 13 (.cons (.ixv 3 (.v 4)) .nil)) (.c (.bl true)))) (.cons (.ret (.c (.bl false))) .nil) .nil) .nil)) (.cons (.ret (.c (.bl true))) .nil))))))
def d20 : Df := ⟨"_law_cut_there", top 31, ["_law_stretch_here", "_law_border", "_law_due", "_law_told", "_law_k"], ["_law_stretch_here", "_law_border"], [], b20⟩
/-- law -/
def b21 : Ss := (.cons (.set 1 (.call 0 (.cons (.v 0) .nil))) (.cons (.set 2 (.call 4 (.cons (.lr 1) (.cons (.c (.int 8)) .nil)))) (.cons (.set 3 (.call 5 (.cons (.lr 1) (.cons (.v 2) .nil)))) (.cons (.set 4 (.call 5 (.cons (.lr 1) (.cons (.v 2) .nil)))) (.cons (.set 5 (.call 3 (.cons (.lr 1) (.cons (.c (.int 10)) .nil)))) (.cons (.set 6 (.bin .sub (.bin .add (.ixv 2 (.call 3 (.cons (.lr 1) (.cons (.lenv 2) .nil)))) (.call 3 (.cons (.lr 1) (.cons (.c (.int 3)) .nil)))) (.c (.int 1)))) (.cons (.ift (.cmp .gt (.v 5) (.c (.int 7))) (.cons (.set 6 (.bin .sub (.bin .mul (.bin .mul (.v 6) (.bin .sub (.v 5) (.c (.int 8)))) (.c (.int 4000))) (.bin .pow (.c (.int 10)) (.c (.int 9))))) .nil) .nil) (.cons (.set 7 (.ix (.tup (.cons (.neg (.c (.int 1))) (.cons (.c (.int 1000000)) (.cons (.c (.bl true)) (.cons (.c (.bl false)) (.cons (.c .non) (.cons (.c (.str "5")) (.cons (.tup (.cons (.c (.int 3)) .nil)) (.cons (.c (.int 1000001)) (.cons (.neg (.c (.int 1000000000000))) (.cons (.lst (.cons (.c (.int 4)) .nil)) .nil))))))))))) (.call 3 (.cons (.lr 1) (.cons (.c (.int 10)) .nil))))) (.cons (.set 8 (.tup (.cons (.tup (.cons (.c (.int 3)) (.cons (.c (.int 3)) .nil))) (.cons (.tup (.cons (.c (.int 5)) (.cons (.c (.int 2)) .nil))) (.cons (.tup (.cons (.neg (.c (.int 1))) (.cons (.c (.int 4)) .nil))) (.cons (.tup (.cons (.c (.int 0)) (.cons (.c (.int 1000001)) .nil))) (.cons (.lst (.cons (.c (.int 0)) (.cons (.c (.int 4)) .nil))) (.cons (.tup (.cons (.c (.int 0)) (.cons (.c (.int 4)) (.cons (.c (.int 5)) .nil)))) (.cons (.tup (.cons (.c (.bl true)) (.cons (.c (.int 4)) .nil))) (.cons (.tup (.cons (.c (.int 0)) (.cons (.c .non) .nil))) (.cons (.c .non) (.cons (.tup (.cons (.c (.int 4)) .nil)) .nil)))))))))))) (.cons (.set 9 (.ixv 8 (.call 3 (.cons (.lr 1) (.cons (.c (.int 10)) .nil))))) (.cons (.set 10 (.call 3 (.cons (.lr 1) (.cons (.c (.int 10)) .nil)))) (.cons (.set 11 (.call 6 (.cons (.v 2) .nil))) (.cons (.for_ [12] (.seq (.v 11)) (.cons (.ift (.or_ (.cmp .nisb (.call 15 (.cons (.v 12) .nil)) (.c (.bl true))) (.or_ (.not_ (.call 9 (.cons (.call 16 (.cons (.v 12) .nil)) .nil))) (.cmp .ne (.call 16 (.cons (.v 12) .nil)) (.v 12)))) (.cons (.ret (.c (.bl false))) .nil) .nil) .nil)) (.cons (.for_ [13] (.seq (.tup (.cons (.v 3) (.cons (.v 4) .nil)))) (.cons (.set 14 (.lst (.cons (.call 14 (.cons (.v 13) .nil)) (.cons (.call 14 (.cons (.v 13) (.cons (.v 10) .nil))) .nil)))) (.cons (.ift (.or_ (.cmp .nisb (.call 13 (.cons (.v 13) .nil)) (.c (.bl true))) (.or_ (.cmp .ne (.v 14) (.lst (.cons (.v 13) (.cons (.v 13) .nil)))) (.not_ (.call 20 (.cons (.v 13) (.cons (.v 6) .nil)))))) (.cons (.ret (.c (.bl false))) .nil) .nil) .nil))) (.cons (.ift (.or_ (.cmp .ne (.g 0) (.c (.int 1000000))) (.or_ (.not_ (.call 17 (.cons (.v 7) .nil))) (.or_ (.not_ (.call 18 (.cons (.v 9) (.cons (.neg (.c (.int 1))) .nil)))) (.not_ (.call 18 (.cons (.v 9) (.cons (.v 10) .nil))))))) (.cons (.ret (.c (.bl false))) .nil) .nil) (.cons (.ret (.and_ (.call 11 (.cons (.v 3) (.cons (.v 4) (.cons (.v 11) .nil)))) (.call 11 (.cons (.v 4) (.cons (.v 3) (.cons (.v 11) .nil)))))) .nil))))))))))))))))
def d21 : Df := ⟨"law", top 32, ["_law_script", "_law_stream_here", "_law_grid_here", "_law_one", "_law_other", "_law_way", "_law_border", "_law_key", "_law_odd", "_law_thing", "_law_place", "_law_keys", "_law_good", "_law_stretch_here", "_law_told"], ["_law_script"], [], b21⟩
def ds : List Df := [d0, d1, d2, d3, d4, d5, d6, d7, d8, d9, d10, d11, d12, d13, d14, d15, d16, d17, d18, d19, d20, d21]
def i0 : IniD := ⟨"PlaceFault", "place", "PlaceFault.__init__", inCls 0 (top 2)⟩
def i1 : IniD := ⟨"KeyFault", "key", "KeyFault.__init__", inCls 0 (top 3)⟩
def sb (i j : Nat) : Bool := (i == 1 && j == 0) || (i == 1 && j == 1) || (i == 2 && j == 0) || (i == 2 && j == 2)
def er : ErD := ⟨["StoreError", "BadKey", "BadStretch", "BadField", "BadBatch"], ["", "key", "place", "place", "place"], [(2, 0), (1, 1)], sb, [i0, i1]⟩
def gls : List Str := ["TOP"]
def hd : Hd := ⟨6, ds, er, gls, [1000000]⟩
theorem chk : chkGo er gls [] [] ds = true := by decide +kernel
theorem bn_0 : d0.Bn := bn0 rfl fun _ _ _ _ _ _ us hl => match us, hl with | [_], _ => rfl
theorem bn_1 : d1.Bn := bn0 rfl fun _ _ _ _ _ _ us hl => match us, hl with | [_, _], _ => rfl
theorem bn_2 : d2.Bn := bn0 rfl fun _ _ _ _ _ _ us hl => match us, hl with | [_, _], _ => rfl
theorem bn_3 : d3.Bn := bn0 rfl fun _ _ _ _ _ _ us hl => match us, hl with | [_, _], _ => rfl
theorem bn_4 : d4.Bn := bn0 rfl fun _ _ _ _ _ _ us hl => match us, hl with | [_, _], _ => rfl
theorem bn_5 : d5.Bn := bn0 rfl fun _ _ _ _ _ _ us hl => match us, hl with | [_, _], _ => rfl
theorem bn_6 : d6.Bn := bn0 rfl fun _ _ _ _ _ _ us hl => match us, hl with | [_], _ => rfl
theorem bn_7 : d7.Bn := bn0 rfl fun _ _ _ _ _ _ us hl => match us, hl with | [_, _], _ => rfl
theorem bn_8 : d8.Bn := bn0 rfl fun _ _ _ _ _ _ us hl => match us, hl with | [_, _], _ => rfl
theorem bn_9 : d9.Bn := bn0 rfl fun _ _ _ _ _ _ us hl => match us, hl with | [_], _ => rfl
theorem bn_10 : d10.Bn := bn0 rfl fun _ _ _ _ _ _ us hl => match us, hl with | [_, _], _ => rfl
theorem bn_11 : d11.Bn := bn0 rfl fun _ _ _ _ _ _ us hl => match us, hl with | [_, _, _], _ => rfl
theorem bn_12 : d12.Bn := bn0 rfl fun _ _ _ _ _ _ us hl => match us, hl with | [_], _ => rfl
theorem bn_13 : d13.Bn := bn0 rfl fun _ _ _ _ _ _ us hl => match us, hl with | [_], _ => rfl
theorem bn_14 : d14.Bn := bn1 (m := 1) rfl rfl (fun _ _ _ _ _ _ _ us its hu hi => match us, hu, its, hi with | [_], _, [_], _ => ⟨_, rfl, rfl⟩) (fun _ _ _ _ _ _ _ us its hu hi => match us, hu, its, hi with | [_, _], _, [_], _ => ⟨_, rfl, rfl⟩)
theorem bn_15 : d15.Bn := bn0 rfl fun _ _ _ _ _ _ us hl => match us, hl with | [_], _ => rfl
theorem bn_16 : d16.Bn := bn0 rfl fun _ _ _ _ _ _ us hl => match us, hl with | [_], _ => rfl
theorem bn_17 : d17.Bn := bn0 rfl fun _ _ _ _ _ _ us hl => match us, hl with | [_], _ => rfl
theorem bn_18 : d18.Bn := bn0 rfl fun _ _ _ _ _ _ us hl => match us, hl with | [_, _], _ => rfl
theorem bn_19 : d19.Bn := bn0 rfl fun _ _ _ _ _ _ us hl => match us, hl with | [_, _], _ => rfl
theorem bn_20 : d20.Bn := bn0 rfl fun _ _ _ _ _ _ us hl => match us, hl with | [_, _], _ => rfl
theorem bn_21 : d21.Bn := bn0 rfl fun _ _ _ _ _ _ us hl => match us, hl with | [_], _ => rfl
theorem bns : ∀ d ∈ ds, d.Bn := by
  intro d hd
  simp only [ds, List.mem_cons, List.not_mem_nil, or_false] at hd
  rcases hd with rfl | rfl | rfl | rfl | rfl | rfl | rfl | rfl | rfl | rfl | rfl | rfl | rfl | rfl | rfl | rfl | rfl | rfl | rfl | rfl | rfl | rfl
  · exact bn_0
  · exact bn_1
  · exact bn_2
  · exact bn_3
  · exact bn_4
  · exact bn_5
  · exact bn_6
  · exact bn_7
  · exact bn_8
  · exact bn_9
  · exact bn_10
  · exact bn_11
  · exact bn_12
  · exact bn_13
  · exact bn_14
  · exact bn_15
  · exact bn_16
  · exact bn_17
  · exact bn_18
  · exact bn_19
  · exact bn_20
  · exact bn_21
theorem is0 : IniS i0 := ⟨⟨_, _, _, _, _, _, _, _, _, _, _, _, rfl, rfl⟩, ⟨_, rfl, rfl⟩, ⟨rfl, rfl, rfl, rfl, rfl, rfl, rfl, by decide +kernel, by decide +kernel⟩, by decide +kernel, by decide +kernel, fun _ _ _ _ _ _ _ us hl => match us, hl with | [_, _], _ => rfl⟩
theorem is1 : IniS i1 := ⟨⟨_, _, _, _, _, _, _, _, _, _, _, _, rfl, rfl⟩, ⟨_, rfl, rfl⟩, ⟨rfl, rfl, rfl, rfl, rfl, rfl, rfl, by decide +kernel, by decide +kernel⟩, by decide +kernel, by decide +kernel, fun _ _ _ _ _ _ _ us hl => match us, hl with | [_, _], _ => rfl⟩
theorem iss : ∀ d ∈ er.ins, IniS d := by
  intro d hd
  simp only [er, List.mem_cons, List.not_mem_nil, or_false] at hd
  rcases hd with rfl | rfl
  · exact is0
  · exact is1
def LAST : Nat := 21
def LAWI : Nat := 32
end LW

end
section
set_option Elab.async false
set_option linter.all false
set_option maxRecDepth 100000
set_option maxHeartbeats 0
namespace LW
open PySem PySem.Spec PyProof.Rows L2 He QL
abbrev R0 : PySem.W.OpenRow := PySem.W.OpenLaw.row PySem.Challenge.rw_leastshelf_k09_stretches
def loose : List Str := ["__name__", "StoreError", "PlaceFault", "KeyFault", "BadKey", "BadStretch", "BadField", "BadBatch", "TOP", "is_integer", "is_key", "check_key", "is_stretch", "check_stretch", "common_stretch", "lies_within", "cut_at", "_law_stream", "_law_mixed", "_law_draw", "_law_pick", "_law_grid", "_law_stretch", "_law_is_number", "_law_look_keys", "_law_same_stretch", "_law_no_key", "_law_no_stretch", "_law_two", "_law_cut_there"]
theorem run (w : World) : HandSHeadRun.RunEq R0 (PySem.W.view R0.prog [LAWI]) (hd.hook R0.prog) (hd.ob R0.prog) 3000 loose w := by
  intro os
  kernel_rfl
end LW

end
section
set_option Elab.async false
set_option linter.all false
set_option maxRecDepth 100000
set_option maxHeartbeats 0
namespace LW
open PySem PySem.Spec PyProof.Rows L2 He QL
abbrev dsI : List Df := ds.take LAST
abbrev dL : Df := d21
def FL : Fn := dL.fn hd.gl hd.e.sb (tabGo hd.gl hd.e.sb [] dsI)
theorem facts {w : World} {K : PySem.W.Frag} {h : Heap} {mg : Str → Option Value} {f : Addr} (X : K.In h) (G : h.Ns mainGlobals mg) (hfa : mg ("law" : Str) = some (.ref f)) (c : hd.obs R0.prog K = hd.val) (hr : ∀ ns : List Int, ns.length ≤ 63 → ∃ outs, FL.run [.fz (.rol (ns.map D.int))] = .ok (.fz (.bl true)) outs) :
    ∃ (fd : FuncData) (sp : Sp), (∀ (s : Shared) (u : Value), BindsTo s fd ⟨[u], []⟩ [("_law_script", u)]) ∧ (∀ (H : Hp) (a : Addr) (ns : List Int), ns.length ≤ 63 → SqL K H a (ns.map V.int) → sp [.ref a] H (fun v _ => v = .bl true) fun _ _ _ => False) ∧
      ∀ base : Heap, FnOk R0.prog w K mg base (L2.CX R0.prog w) (2 + dsI.length + 1) f fd ["_law_script"] sp := by
  obtain ⟨g, fd, F, hF⟩ := law_ok (P := R0.prog) (w := w) (h := hd) (ds := dsI) (d := dL) (base := h) X G c rfl chk bns iss (by decide +kernel) (by decide +kernel) rfl
  have e := hfa.symm.trans g
  cases e
  refine ⟨fd, _, fun s u => ?_, fun H a ns hl hS => sp_law (F := FL) rfl hS (hr ns hl), hF⟩
  exact FunD.bindsA (ps := ["_law_script"]) F (fun _ _ _ _ _ _ us hl => match us, hl with | [_], _ => rfl) s [u] rfl
end LW
open PySem PySem.W PySem.Calls PyProof.Rows
theorem k09_of (hr : ∀ ns : List Int, ns.length ≤ 63 → ∃ outs, LW.FL.run [.fz (.rol (ns.map QL.D.int))] = .ok (.fz (.bl true)) outs) : PySem.Challenge.rw_leastshelf_k09_stretches.Holds := by
  w_on; o_law
  refine HandSHeadRun.head_any (r := LW.R0) (q := view LW.R0.prog [LW.LAWI]) (H := LW.hd.hook LW.R0.prog) (ob := LW.hd.ob LW.R0.prog) (M := 3000) (loose := LW.loose) (d := HandSHeadRun.topDef LW.R0.prog LW.LAWI) (kwd := []) (LW.hd.ob_eq LW.R0.prog)
    (by kernel_rfl) (fun s => by kernel_rfl) LW.run (by kernel_rfl) (by kernel_rfl) (by kernel_rfl) (by rfl) (by first | assumption | decide +kernel) (by decide +kernel) ⟨rfl, rfl, rfl, rfl, rfl, by decide +kernel⟩ ?hw ?hc
  case hw => w_witness2
  case hc =>
    refine QL.walk_q (l := PySem.Challenge.rw_leastshelf_k09_stretches) (n := 63) (k := 2 + LW.dsI.length + 1) (x := "_law_script") rfl (by decide) (by kernel_rfl) ⟨rfl, by decide, by decide⟩ ?F
    intro w mg fa h Y G hmg0
    obtain ⟨K, KX, c⟩ := Y
    have hmg : mg ("law" : PySem.Str) = some (.ref fa) := by
      have e : (HandSHeadRun.topDef LW.R0.prog LW.LAWI).name = ("law" : PySem.Str) := by kernel_rfl
      rw [← e]
      exact hmg0
    obtain ⟨fd, sp, q1, q2, q3⟩ := LW.facts (w := w) KX G hmg c hr
    exact ⟨K, fd, sp, KX, q1, q2, fun base _ _ => q3 base⟩

end
section
set_option Elab.async false
set_option linter.all false
set_option maxRecDepth 100000
set_option maxHeartbeats 2000000
/-! L9m: what the small defs of k09 give. -/
namespace LW
open QL

def A0 : List Fn := []
def F0 : Fn := d0.fn hd.gl sb A0
def A1 : List Fn := A0 ++ [F0]
def F1 : Fn := d1.fn hd.gl sb A1
def A2 : List Fn := A1 ++ [F1]
def F2 : Fn := d2.fn hd.gl sb A2
def A3 : List Fn := A2 ++ [F2]
def F3 : Fn := d3.fn hd.gl sb A3
def A4 : List Fn := A3 ++ [F3]
def F4 : Fn := d4.fn hd.gl sb A4
def A5 : List Fn := A4 ++ [F4]
def F5 : Fn := d5.fn hd.gl sb A5
def A6 : List Fn := A5 ++ [F5]
def F6 : Fn := d6.fn hd.gl sb A6
def A7 : List Fn := A6 ++ [F6]
def F7 : Fn := d7.fn hd.gl sb A7
def A8 : List Fn := A7 ++ [F7]
def F8 : Fn := d8.fn hd.gl sb A8
def A9 : List Fn := A8 ++ [F8]
def F9 : Fn := d9.fn hd.gl sb A9
def A10 : List Fn := A9 ++ [F9]
def F10 : Fn := d10.fn hd.gl sb A10
def A11 : List Fn := A10 ++ [F10]
def F11 : Fn := d11.fn hd.gl sb A11
def A12 : List Fn := A11 ++ [F11]
def F12 : Fn := d12.fn hd.gl sb A12
def A13 : List Fn := A12 ++ [F12]
def F13 : Fn := d13.fn hd.gl sb A13
def A14 : List Fn := A13 ++ [F13]
def F14 : Fn := d14.fn hd.gl sb A14
def A15 : List Fn := A14 ++ [F14]
def F15 : Fn := d15.fn hd.gl sb A15
def A16 : List Fn := A15 ++ [F15]
def F16 : Fn := d16.fn hd.gl sb A16
def A17 : List Fn := A16 ++ [F16]
def F17 : Fn := d17.fn hd.gl sb A17
def A18 : List Fn := A17 ++ [F17]
def F18 : Fn := d18.fn hd.gl sb A18
def A19 : List Fn := A18 ++ [F18]
def F19 : Fn := d19.fn hd.gl sb A19
def A20 : List Fn := A19 ++ [F19]
def F20 : Fn := d20.fn hd.gl sb A20
def A21 : List Fn := A20 ++ [F20]
def F21 : Fn := d21.fn hd.gl sb A21
def A22 : List Fn := A21 ++ [F21]
theorem np0 : F0.np = 1 := rfl
theorem dfl0 : F0.dfl = [] := rfl
theorem np1 : F1.np = 2 := rfl
theorem dfl1 : F1.dfl = [] := rfl
theorem np2 : F2.np = 2 := rfl
theorem dfl2 : F2.dfl = [] := rfl
theorem np3 : F3.np = 2 := rfl
theorem dfl3 : F3.dfl = [] := rfl
theorem np4 : F4.np = 2 := rfl
theorem dfl4 : F4.dfl = [] := rfl
theorem np5 : F5.np = 2 := rfl
theorem dfl5 : F5.dfl = [] := rfl
theorem np6 : F6.np = 1 := rfl
theorem dfl6 : F6.dfl = [] := rfl
theorem np7 : F7.np = 2 := rfl
theorem dfl7 : F7.dfl = [] := rfl
theorem np8 : F8.np = 2 := rfl
theorem dfl8 : F8.dfl = [] := rfl
theorem np9 : F9.np = 1 := rfl
theorem dfl9 : F9.dfl = [] := rfl
theorem np10 : F10.np = 2 := rfl
theorem dfl10 : F10.dfl = [] := rfl
theorem np11 : F11.np = 3 := rfl
theorem dfl11 : F11.dfl = [] := rfl
theorem np12 : F12.np = 1 := rfl
theorem dfl12 : F12.dfl = [] := rfl
theorem np13 : F13.np = 1 := rfl
theorem dfl13 : F13.dfl = [] := rfl
theorem np14 : F14.np = 2 := rfl
theorem dfl14 : F14.dfl = [.int 0] := rfl
theorem np15 : F15.np = 1 := rfl
theorem dfl15 : F15.dfl = [] := rfl
theorem np16 : F16.np = 1 := rfl
theorem dfl16 : F16.dfl = [] := rfl
theorem np17 : F17.np = 1 := rfl
theorem dfl17 : F17.dfl = [] := rfl
theorem np18 : F18.np = 2 := rfl
theorem dfl18 : F18.dfl = [] := rfl
theorem np19 : F19.np = 2 := rfl
theorem dfl19 : F19.dfl = [] := rfl
theorem np20 : F20.np = 2 := rfl
theorem dfl20 : F20.dfl = [] := rfl
theorem np21 : F21.np = 1 := rfl
theorem dfl21 : F21.dfl = [] := rfl
theorem at2_1 : A2[1]? = some F1 := rfl
theorem at3_2 : A3[2]? = some F2 := rfl
theorem at4_2 : A4[2]? = some F2 := rfl
theorem at4_3 : A4[3]? = some F3 := rfl
theorem at5_3 : A5[3]? = some F3 := rfl
theorem at11_7 : A11[7]? = some F7 := rfl
theorem at11_8 : A11[8]? = some F8 := rfl
theorem at11_10 : A11[10]? = some F10 := rfl
theorem at10_9 : A10[9]? = some F9 := rfl
theorem at13_12 : A13[12]? = some F12 := rfl
theorem at14_13 : A14[13]? = some F13 := rfl
theorem at15_12 : A15[12]? = some F12 := rfl
theorem at16_15 : A16[15]? = some F15 := rfl
theorem at17_15 : A17[15]? = some F15 := rfl
theorem at17_16 : A17[16]? = some F16 := rfl
theorem at18_13 : A18[13]? = some F13 := rfl
theorem at18_14 : A18[14]? = some F14 := rfl
theorem at20_10 : A20[10]? = some F10 := rfl
theorem at20_13 : A20[13]? = some F13 := rfl
theorem at20_19 : A20[19]? = some F19 := rfl
theorem at21_0 : A21[0]? = some F0 := rfl
theorem at21_3 : A21[3]? = some F3 := rfl
theorem at21_4 : A21[4]? = some F4 := rfl
theorem at21_5 : A21[5]? = some F5 := rfl
theorem at21_6 : A21[6]? = some F6 := rfl
theorem at21_9 : A21[9]? = some F9 := rfl
theorem at21_11 : A21[11]? = some F11 := rfl
theorem at21_13 : A21[13]? = some F13 := rfl
theorem at21_14 : A21[14]? = some F14 := rfl
theorem at21_15 : A21[15]? = some F15 := rfl
theorem at21_16 : A21[16]? = some F16 := rfl
theorem at21_17 : A21[17]? = some F17 := rfl
theorem at21_18 : A21[18]? = some F18 := rfl
theorem at21_20 : A21[20]? = some F20 := rfl

theorem run1 (c p : Int) (h0 : 0 ≤ p) (h1 : p ≤ 100) : ∃ m, F1.run [.fz (.int c), .fz (.int p)] = .ok (.fz (.int m)) [.fz (.int c), .fz (.int p)] ∧ 0 ≤ m := by
  have k2 : (-18446744073709551616 < 314159265358979323 + 271828182845 * p ∧ 314159265358979323 + 271828182845 * p < 18446744073709551616) := by constructor <;> omega
  have k3 : (-18446744073709551616 < c * (314159265358979323 + 271828182845 * p) % 1000000000000000003 ∧ c * (314159265358979323 + 271828182845 * p) % 1000000000000000003 < 18446744073709551616) := by constructor <;> omega
  simp [F1, d1, b1, Df.fn, QL.mk, exs, ex, ev, evs, evA, evI, isLr, useSl, putSl, moveSl, lookSl, liveSl, chgSl, fin, lpOk, callF, noDup, argSls, argSl, putBack, putAll, bindT, isTys, isTy, isN, L2.atI, L2.ixN, k2, k3]
  omega
def stm (cells : List Int) (i v : Int) : List D := [.lst (cells.map D.int), .int i, .int v]
/-- a stream's state -/
def OkS (s : List D) : Prop := ∃ cells i v, s = stm cells i v ∧ cells.length ≤ 63 ∧ 0 ≤ i ∧ i ≤ cells.length ∧ 0 ≤ v
theorem run2 (s : List D) (m : Int) (hs : OkS s) (h3 : 0 < m) (h4 : m < 1073741824) :
    ∃ x s', F2.run [.lp s, .fz (.int m)] = .ok (.fz (.int x)) [.lp s', .fz (.int m)] ∧ 0 ≤ x ∧ x < m ∧ OkS s' := by
  obtain ⟨cells, i, v, rfl, hl, h0, h1, h2⟩ := hs
  have m0 : m ≠ 0 := by omega
  have go : ∀ (i' v' : Int), 0 ≤ i' → i' ≤ cells.length → 0 ≤ v' → 0 ≤ v' % m ∧ v' % m < m ∧ OkS (stm cells i' (v' / m)) := fun i' v' a b c => ⟨Int.emod_nonneg _ m0, Int.emod_lt_of_pos _ h3, cells, i', v' / m, rfl, hl, a, b, Int.ediv_nonneg c (by omega)⟩
  by_cases hv : v = 0
  · by_cases hi : i < cells.length
    · have hh : i.toNat < cells.length := by omega
      obtain ⟨y, e1, e2⟩ := run1 (cells[i.toNat]'hh) (i + 1) (by omega) (by omega)
      have ea : 0 ≤ (if cells[i.toNat]'hh < 0 then -(cells[i.toNat]'hh) else cells[i.toNat]'hh) := by split <;> omega
      by_cases hc : (if cells[i.toNat]'hh < 0 then -(cells[i.toNat]'hh) else cells[i.toNat]'hh) < 1000000000000000000
      · refine ⟨_, _, ?_, go (i + 1) y (by omega) (by omega) e2⟩
        simp [F2, d2, b2, Df.fn, QL.mk, exs, ex, ev, evs, evA, evI, isLr, useSl, putSl, moveSl, lookSl, liveSl, chgSl, fin, lpOk, callF, noDup, argSls, argSl, putBack, putAll, bindT, isTys, isTy, isN, L2.atI, L2.ixN, np1, dfl1, at2_1, stm, hv, hi, h0, h3, h4, hc, e1]
      · refine ⟨_, _, ?_, go (i + 1) _ (by omega) (by omega) ea⟩
        simp [F2, d2, b2, Df.fn, QL.mk, exs, ex, ev, evs, evA, evI, isLr, useSl, putSl, moveSl, lookSl, liveSl, chgSl, fin, lpOk, callF, noDup, argSls, argSl, putBack, putAll, bindT, isTys, isTy, isN, L2.atI, L2.ixN, np1, dfl1, at2_1, stm, hv, hi, h0, h3, h4, hc, e1]
    · refine ⟨_, _, ?_, go i v h0 h1 h2⟩
      simp [F2, d2, b2, Df.fn, QL.mk, exs, ex, ev, evs, evA, evI, isLr, useSl, putSl, moveSl, lookSl, liveSl, chgSl, fin, lpOk, callF, noDup, argSls, argSl, putBack, putAll, bindT, isTys, isTy, isN, L2.atI, L2.ixN, np1, dfl1, at2_1, stm, hv, hi, h0, h3, h4]
  · refine ⟨_, _, ?_, go i v h0 h1 h2⟩
    simp [F2, d2, b2, Df.fn, QL.mk, exs, ex, ev, evs, evA, evI, isLr, useSl, putSl, moveSl, lookSl, liveSl, chgSl, fin, lpOk, callF, noDup, argSls, argSl, putBack, putAll, bindT, isTys, isTy, isN, L2.atI, L2.ixN, np1, dfl1, at2_1, stm, hv, h0, h3, h4]
theorem run3 (s : List D) (m : Int) (hs : OkS s) (h3 : 0 < m) :
    ∃ x s', F3.run [.lp s, .fz (.int m)] = .ok (.fz (.int x)) [.lp s', .fz (.int m)] ∧ 0 ≤ x ∧ x < m ∧ OkS s' := by
  obtain ⟨x, s', e, _, _, h⟩ := run2 s 10 hs (by decide) (by decide)
  refine ⟨x % m, s', ?_, Int.emod_nonneg _ (by omega), Int.emod_lt_of_pos _ h3, h⟩
  simp [F3, d3, b3, Df.fn, QL.mk, exs, ex, ev, evs, evA, evI, isLr, useSl, putSl, moveSl, lookSl, liveSl, chgSl, fin, lpOk, callF, noDup, argSls, argSl, putBack, putAll, bindT, isTys, isTy, isN, L2.atI, L2.ixN, np2, dfl2, at3_2, h3, e]

end LW

end
section
set_option Elab.async false
set_option linter.all false
set_option maxRecDepth 100000
set_option maxHeartbeats 2000000
namespace LW
open QL


def okT : D → Prop
  | .dic _ _ => False
  | .ob _ _ _ => False
  | .rol _ => False
  | _ => True
def intB : D → Bool
  | .int _ => true
  | _ => false
def keyB : D → Bool
  | .int i => decide (0 ≤ i) && decide (i < 1000000)
  | _ => false
def strB : D → Bool
  | .tup [.int a, .int b] => decide (0 ≤ a) && (decide (a < b) && decide (b ≤ 1000000))
  | _ => false
theorem run12 (d : D) (h : okT d) : F12.run [.fz d] = .ok (.fz (.bl (intB d))) [.fz d] := by
  cases d <;> first | (exact h.elim) | simp [F12, d12, b12, Df.fn, QL.mk, exs, ex, ev, evs, evA, evI, isLr, useSl, putSl, moveSl, lookSl, liveSl, chgSl, fin, lpOk, callF, noDup, argSls, argSl, putBack, putAll, bindT, isTys, isTy, isN, L2.atI, L2.ixN, intB]
theorem run9 (d : D) (h : okT d) : F9.run [.fz d] = .ok (.fz (.bl (intB d))) [.fz d] := by
  cases d <;> first | (exact h.elim) | simp [F9, d9, b9, Df.fn, QL.mk, exs, ex, ev, evs, evA, evI, isLr, useSl, putSl, moveSl, lookSl, liveSl, chgSl, fin, lpOk, callF, noDup, argSls, argSl, putBack, putAll, bindT, isTys, isTy, isN, L2.atI, L2.ixN, intB]
theorem run15 (d : D) (h : okT d) : F15.run [.fz d] = .ok (.fz (.bl (keyB d))) [.fz d] := by
  have e := run12 d h
  cases d with
  | int i =>
    by_cases h1 : 0 ≤ i
    · simp [F15, d15, b15, Df.fn, QL.mk, exs, ex, ev, evs, evA, evI, isLr, useSl, putSl, moveSl, lookSl, liveSl, chgSl, fin, lpOk, callF, noDup, argSls, argSl, putBack, putAll, bindT, isTys, isTy, isN, L2.atI, L2.ixN, np12, dfl12, at15_12, e, intB, keyB, h1, hd, Hd.gl]
    · simp [F15, d15, b15, Df.fn, QL.mk, exs, ex, ev, evs, evA, evI, isLr, useSl, putSl, moveSl, lookSl, liveSl, chgSl, fin, lpOk, callF, noDup, argSls, argSl, putBack, putAll, bindT, isTys, isTy, isN, L2.atI, L2.ixN, np12, dfl12, at15_12, e, intB, keyB, h1, hd, Hd.gl]
  | dic _ _ => exact h.elim
  | ob _ _ _ => exact h.elim
  | rol _ => exact h.elim
  | _ => simp [F15, d15, b15, Df.fn, QL.mk, exs, ex, ev, evs, evA, evI, isLr, useSl, putSl, moveSl, lookSl, liveSl, chgSl, fin, lpOk, callF, noDup, argSls, argSl, putBack, putAll, bindT, isTys, isTy, isN, L2.atI, L2.ixN, np12, dfl12, at15_12, e, intB, keyB]
theorem run16 (d : D) (h : okT d) : F16.run [.fz d] = if keyB d then .ok (.fz d) [.fz d] else .er ⟨1, some d⟩ [.fz d] := by
  have e := run15 d h
  cases hk : keyB d with
  | true => simp [F16, d16, b16, Df.fn, QL.mk, exs, ex, ev, evs, evA, evI, isLr, useSl, putSl, moveSl, lookSl, liveSl, chgSl, fin, lpOk, callF, noDup, argSls, argSl, putBack, putAll, bindT, isTys, isTy, isN, L2.atI, L2.ixN, np15, dfl15, at16_15, e, hk]
  | false => simp [F16, d16, b16, Df.fn, QL.mk, exs, ex, ev, evs, evA, evI, isLr, useSl, putSl, moveSl, lookSl, liveSl, chgSl, fin, lpOk, callF, noDup, argSls, argSl, putBack, putAll, bindT, isTys, isTy, isN, L2.atI, L2.ixN, np15, dfl15, at16_15, e, hk]
def okTs : List D → Prop
  | [] => True
  | d :: ds => okT d ∧ okTs ds
def okI : D → Prop
  | .tup ds => okTs ds
  | _ => True
theorem run13 (d : D) (h : okT d) (h2 : okI d) : F13.run [.fz d] = .ok (.fz (.bl (strB d))) [.fz d] := by
  cases d with
  | dic _ _ => exact h.elim
  | ob _ _ _ => exact h.elim
  | rol _ => exact h.elim
  | tup ds =>
    match ds, h2 with
    | [], _ => simp [F13, d13, b13, Df.fn, QL.mk, exs, ex, ev, evs, evA, evI, isLr, useSl, putSl, moveSl, lookSl, liveSl, chgSl, fin, lpOk, callF, noDup, argSls, argSl, putBack, putAll, bindT, isTys, isTy, isN, L2.atI, L2.ixN, np12, dfl12, at13_12, strB]
    | [x], _ => simp [F13, d13, b13, Df.fn, QL.mk, exs, ex, ev, evs, evA, evI, isLr, useSl, putSl, moveSl, lookSl, liveSl, chgSl, fin, lpOk, callF, noDup, argSls, argSl, putBack, putAll, bindT, isTys, isTy, isN, L2.atI, L2.ixN, np12, dfl12, at13_12, strB]
    | x :: y :: z :: r, _ =>
      have q : ¬ ((r.length : Int) + 1 + 1 + 1 = 2) := by omega
      simp [F13, d13, b13, Df.fn, QL.mk, exs, ex, ev, evs, evA, evI, isLr, useSl, putSl, moveSl, lookSl, liveSl, chgSl, fin, lpOk, callF, noDup, argSls, argSl, putBack, putAll, bindT, isTys, isTy, isN, L2.atI, L2.ixN, np12, dfl12, at13_12, strB, q]
    | [x, y], h2 =>
      have e1 := run12 x h2.1
      have e2 := run12 y h2.2.1
      cases hx : intB x with
      | false =>
        have : strB (.tup [x, y]) = false := by cases x <;> first | rfl | cases hx
        simp [F13, d13, b13, Df.fn, QL.mk, exs, ex, ev, evs, evA, evI, isLr, useSl, putSl, moveSl, lookSl, liveSl, chgSl, fin, lpOk, callF, noDup, argSls, argSl, putBack, putAll, bindT, isTys, isTy, isN, L2.atI, L2.ixN, np12, dfl12, at13_12, e1, e2, hx, this]
      | true =>
        cases hy : intB y with
        | false =>
          have : strB (.tup [x, y]) = false := by cases x <;> cases y <;> first | rfl | cases hy
          simp [F13, d13, b13, Df.fn, QL.mk, exs, ex, ev, evs, evA, evI, isLr, useSl, putSl, moveSl, lookSl, liveSl, chgSl, fin, lpOk, callF, noDup, argSls, argSl, putBack, putAll, bindT, isTys, isTy, isN, L2.atI, L2.ixN, np12, dfl12, at13_12, e1, e2, hx, hy, this]
        | true =>
          cases x <;> first | (cases hx; done) | skip
          cases y <;> first | (cases hy; done) | skip
          rename_i a b
          by_cases c1 : 0 ≤ a
          · by_cases c2 : a < b
            · simp [F13, d13, b13, Df.fn, QL.mk, exs, ex, ev, evs, evA, evI, isLr, useSl, putSl, moveSl, lookSl, liveSl, chgSl, fin, lpOk, callF, noDup, argSls, argSl, putBack, putAll, bindT, isTys, isTy, isN, L2.atI, L2.ixN, np12, dfl12, at13_12, e1, e2, intB, strB, c1, c2, hd, Hd.gl]
            · simp [F13, d13, b13, Df.fn, QL.mk, exs, ex, ev, evs, evA, evI, isLr, useSl, putSl, moveSl, lookSl, liveSl, chgSl, fin, lpOk, callF, noDup, argSls, argSl, putBack, putAll, bindT, isTys, isTy, isN, L2.atI, L2.ixN, np12, dfl12, at13_12, e1, e2, intB, strB, c1, c2, hd, Hd.gl]
          · simp [F13, d13, b13, Df.fn, QL.mk, exs, ex, ev, evs, evA, evI, isLr, useSl, putSl, moveSl, lookSl, liveSl, chgSl, fin, lpOk, callF, noDup, argSls, argSl, putBack, putAll, bindT, isTys, isTy, isN, L2.atI, L2.ixN, np12, dfl12, at13_12, e1, e2, intB, strB, c1, hd, Hd.gl]
  | _ => simp [F13, d13, b13, Df.fn, QL.mk, exs, ex, ev, evs, evA, evI, isLr, useSl, putSl, moveSl, lookSl, liveSl, chgSl, fin, lpOk, callF, noDup, argSls, argSl, putBack, putAll, bindT, isTys, isTy, isN, L2.atI, L2.ixN, np12, dfl12, at13_12, strB]
theorem run14 (d p : D) (h : okT d) (h2 : okI d) : F14.run [.fz d, .fz p] = if strB d then .ok (.fz d) [.fz d, .fz p] else .er ⟨2, some p⟩ [.fz d, .fz p] := by
  have e := run13 d h h2
  cases hk : strB d with
  | true => simp [F14, d14, b14, Df.fn, QL.mk, exs, ex, ev, evs, evA, evI, isLr, useSl, putSl, moveSl, lookSl, liveSl, chgSl, fin, lpOk, callF, noDup, argSls, argSl, putBack, putAll, bindT, isTys, isTy, isN, L2.atI, L2.ixN, np13, dfl13, at14_13, e, hk]
  | false => simp [F14, d14, b14, Df.fn, QL.mk, exs, ex, ev, evs, evA, evI, isLr, useSl, putSl, moveSl, lookSl, liveSl, chgSl, fin, lpOk, callF, noDup, argSls, argSl, putBack, putAll, bindT, isTys, isTy, isN, L2.atI, L2.ixN, np13, dfl13, at14_13, e, hk]
abbrev st (a b : Int) : D := .tup [.int a, .int b]
theorem run7 (a b c d : Int) : F7.run [.fz (st a b), .fz (st c d)] = .ok (.fz (if (if c > a then c else a) < (if d < b then d else b) then st (if c > a then c else a) (if d < b then d else b) else .non)) [.fz (st a b), .fz (st c d)] := by
  by_cases h : (if c > a then c else a) < (if d < b then d else b)
  · simp [F7, d7, b7, Df.fn, QL.mk, exs, ex, ev, evs, evA, evI, isLr, useSl, putSl, moveSl, lookSl, liveSl, chgSl, fin, lpOk, callF, noDup, argSls, argSl, putBack, putAll, bindT, isTys, isTy, isN, L2.atI, L2.ixN, h, LIM]
  · simp [F7, d7, b7, Df.fn, QL.mk, exs, ex, ev, evs, evA, evI, isLr, useSl, putSl, moveSl, lookSl, liveSl, chgSl, fin, lpOk, callF, noDup, argSls, argSl, putBack, putAll, bindT, isTys, isTy, isN, L2.atI, L2.ixN, h, LIM]
theorem run8 (a b c d : Int) : F8.run [.fz (st a b), .fz (st c d)] = .ok (.fz (.bl (decide (c ≤ a) && decide (b ≤ d)))) [.fz (st a b), .fz (st c d)] := by
  by_cases h : c ≤ a
  · simp [F8, d8, b8, Df.fn, QL.mk, exs, ex, ev, evs, evA, evI, isLr, useSl, putSl, moveSl, lookSl, liveSl, chgSl, fin, lpOk, callF, noDup, argSls, argSl, putBack, putAll, bindT, isTys, isTy, isN, L2.atI, L2.ixN, h]
  · simp [F8, d8, b8, Df.fn, QL.mk, exs, ex, ev, evs, evA, evI, isLr, useSl, putSl, moveSl, lookSl, liveSl, chgSl, fin, lpOk, callF, noDup, argSls, argSl, putBack, putAll, bindT, isTys, isTy, isN, L2.atI, L2.ixN, h]
theorem run19 (a b x : Int) : F19.run [.fz (st a b), .fz (.int x)] = .ok (.lv (if a < x ∧ x < b then [st a x, st x b] else [st a b])) [.fz (st a b), .fz (.int x)] := by
  by_cases h : a < x
  · by_cases h2 : x < b
    · simp [F19, d19, b19, Df.fn, QL.mk, exs, ex, ev, evs, evA, evI, isLr, useSl, putSl, moveSl, lookSl, liveSl, chgSl, fin, lpOk, callF, noDup, argSls, argSl, putBack, putAll, bindT, isTys, isTy, isN, L2.atI, L2.ixN, h, h2, LIM]
    · simp [F19, d19, b19, Df.fn, QL.mk, exs, ex, ev, evs, evA, evI, isLr, useSl, putSl, moveSl, lookSl, liveSl, chgSl, fin, lpOk, callF, noDup, argSls, argSl, putBack, putAll, bindT, isTys, isTy, isN, L2.atI, L2.ixN, h, h2, LIM]
  · simp [F19, d19, b19, Df.fn, QL.mk, exs, ex, ev, evs, evA, evI, isLr, useSl, putSl, moveSl, lookSl, liveSl, chgSl, fin, lpOk, callF, noDup, argSls, argSl, putBack, putAll, bindT, isTys, isTy, isN, L2.atI, L2.ixN, h, LIM]

end LW

end
section
set_option Elab.async false
set_option linter.all false
set_option maxRecDepth 100000
set_option maxHeartbeats 2000000
namespace LW
open QL


theorem runs_eq {f : Fn} {as o : List Sl} {r : Rv} (h : f.Runs as (fun r' o' => r' = r ∧ o' = o) (fun _ _ => False)) : f.run as = .ok r o := by
  unfold Fn.Runs at h
  split at h
  · rename_i e
    obtain ⟨rfl, rfl⟩ := h
    exact e
  · exact h.elim
  · exact h.elim
theorem run10n : F10.run [.fz .non, .fz .non] = .ok (.fz (.bl true)) [.fz .non, .fz .non] := by
  simp [F10, d10, b10, Df.fn, QL.mk, exs, ex, ev, evs, evA, evI, isLr, useSl, putSl, moveSl, lookSl, liveSl, chgSl, fin, lpOk, callF, noDup, argSls, argSl, putBack, putAll, bindT, isTys, isTy, isN, L2.atI, L2.ixN, np9, dfl9, at10_9]
theorem run10 (a b : Int) : F10.run [.fz (st a b), .fz (st a b)] = .ok (.fz (.bl true)) [.fz (st a b), .fz (st a b)] := by
  have e1 := run9 (.int a) trivial
  have e2 := run9 (.int b) trivial
  simp [F10, d10, b10, Df.fn, QL.mk, exs, ex, ev, evs, evA, evI, isLr, useSl, putSl, moveSl, lookSl, liveSl, chgSl, fin, lpOk, callF, noDup, argSls, argSl, putBack, putAll, bindT, isTys, isTy, isN, L2.atI, L2.ixN, np9, dfl9, at10_9, e1, e2, intB, e_eqg, e_neg, q_non, q_bl, q_int, q_lst, q_tup, q_nil, q_cons, q_onon, q_obl, q_oint, q_olst', q_otup', q_otup9, q_olst9, q_onil, q_ocons]
theorem run17 (d : D) (h : okT d) (hk : keyB d = false) (h1 : eqOk 59 d = true) (h2 : eqD d d = true) : F17.run [.fz d] = .ok (.fz (.bl true)) [.fz d] := by
  have e1 := run16 d h
  have e2 := run15 d h
  rw [hk] at e1 e2
  simp [F17, d17, b17, Df.fn, QL.mk, exs, ex, ev, evs, evA, evI, isLr, useSl, putSl, moveSl, lookSl, liveSl, chgSl, fin, lpOk, callF, noDup, argSls, argSl, putBack, putAll, bindT, isTys, isTy, isN, L2.atI, L2.ixN, np15, dfl15, at17_15, np16, dfl16, at17_16, e1, e2, hk, hand, hiDs, hiD, lcSl, sb, LIM, h1, h2, e_eqg, e_neg, q_non, q_bl, q_int, q_lst, q_tup, q_nil, q_cons, q_onon, q_obl, q_oint, q_olst', q_otup', q_otup9, q_olst9, q_onil, q_ocons]
theorem run18 (d : D) (p : Int) (h : okT d) (hi : okI d) (hk : strB d = false) : F18.run [.fz d, .fz (.int p)] = .ok (.fz (.bl true)) [.fz d, .fz (.int p)] := by
  have e1 := run14 d (.int p) h hi
  have e3 := run14 d (.int 0) h hi
  have e2 := run13 d h hi
  rw [hk] at e1 e2 e3
  by_cases hp : p < 0
  · have hq : ¬ p > 0 := by omega
    simp [F18, d18, b18, Df.fn, QL.mk, exs, ex, ev, evs, evA, evI, isLr, useSl, putSl, moveSl, lookSl, liveSl, chgSl, fin, lpOk, callF, noDup, argSls, argSl, putBack, putAll, bindT, isTys, isTy, isN, L2.atI, L2.ixN, np13, dfl13, at18_13, np14, dfl14, at18_14, e1, e2, e3, hk, hp, hq, hand, hiDs, hiD, lcSl, sb, LIM, e_eqg, e_neg, q_non, q_bl, q_int, q_lst, q_tup, q_nil, q_cons, q_onon, q_obl, q_oint, q_olst', q_otup', q_otup9, q_olst9, q_onil, q_ocons]
  · by_cases hq : p > 0
    · simp [F18, d18, b18, Df.fn, QL.mk, exs, ex, ev, evs, evA, evI, isLr, useSl, putSl, moveSl, lookSl, liveSl, chgSl, fin, lpOk, callF, noDup, argSls, argSl, putBack, putAll, bindT, isTys, isTy, isN, L2.atI, L2.ixN, np13, dfl13, at18_13, np14, dfl14, at18_14, e1, e2, e3, hk, hp, hq, hand, hiDs, hiD, lcSl, sb, LIM, e_eqg, e_neg, q_non, q_bl, q_int, q_lst, q_tup, q_nil, q_cons, q_onon, q_obl, q_oint, q_olst', q_otup', q_otup9, q_olst9, q_onil, q_ocons]
    · have : p = 0 := by omega
      simp [F18, d18, b18, Df.fn, QL.mk, exs, ex, ev, evs, evA, evI, isLr, useSl, putSl, moveSl, lookSl, liveSl, chgSl, fin, lpOk, callF, noDup, argSls, argSl, putBack, putAll, bindT, isTys, isTy, isN, L2.atI, L2.ixN, np13, dfl13, at18_13, np14, dfl14, at18_14, e1, e2, e3, hk, hp, hq, hand, hiDs, hiD, lcSl, sb, LIM, this, e_eqg, e_neg, q_non, q_bl, q_int, q_lst, q_tup, q_nil, q_cons, q_onon, q_obl, q_oint, q_olst', q_otup', q_otup9, q_olst9, q_onil, q_ocons]
theorem run20 (a b x : Int) (h0 : 0 ≤ a) (h1 : a < b) (h2 : b ≤ 1000000) : F20.run [.fz (st a b), .fz (.int x)] = .ok (.fz (.bl true)) [.fz (st a b), .fz (.int x)] := by
  have e := run19 a b x
  have i1 : ∀ u v : Int, 0 ≤ u → u < v → v ≤ 1000000 → F13.run [.fz (st u v)] = .ok (.fz (.bl true)) [.fz (st u v)] := fun u v p q r => by
    have := run13 (st u v) trivial ⟨trivial, trivial, trivial⟩
    rw [this]
    simp [strB, p, q, r]
  by_cases c1 : a < x
  · by_cases c2 : x < b
    · have s1 := run10 a x
      have s2 := run10 x b
      have t1 := i1 a x h0 c1 (by omega)
      have t2 := i1 x b (by omega) c2 h2
      simp [F20, d20, b20, Df.fn, QL.mk, exs, ex, ev, evs, evA, evI, isLr, useSl, putSl, moveSl, lookSl, liveSl, chgSl, fin, lpOk, callF, noDup, argSls, argSl, putBack, putAll, bindT, isTys, isTy, isN, L2.atI, L2.ixN, np10, dfl10, at20_10, np13, dfl13, at20_13, np19, dfl19, at20_19, e, c1, c2, s1, s2, t1, t2, LIM, rangeD, forGo]
    · have s1 := run10 a b
      have t1 := i1 a b h0 h1 h2
      simp [F20, d20, b20, Df.fn, QL.mk, exs, ex, ev, evs, evA, evI, isLr, useSl, putSl, moveSl, lookSl, liveSl, chgSl, fin, lpOk, callF, noDup, argSls, argSl, putBack, putAll, bindT, isTys, isTy, isN, L2.atI, L2.ixN, np10, dfl10, at20_10, np13, dfl13, at20_13, np19, dfl19, at20_19, e, c1, c2, s1, t1, LIM, rangeD, forGo]
  · have s1 := run10 a b
    have t1 := i1 a b h0 h1 h2
    simp [F20, d20, b20, Df.fn, QL.mk, exs, ex, ev, evs, evA, evI, isLr, useSl, putSl, moveSl, lookSl, liveSl, chgSl, fin, lpOk, callF, noDup, argSls, argSl, putBack, putAll, bindT, isTys, isTy, isN, L2.atI, L2.ixN, np10, dfl10, at20_10, np13, dfl13, at20_13, np19, dfl19, at20_19, e, c1, s1, t1, LIM, rangeD, forGo]
/-- a grid -/
structure OkG (g : List Int) : Prop where
  len : 2 ≤ g.length ∧ g.length ≤ 9
  inc : ∀ (i j : Nat) (x y : Int), i < j → g[i]? = some x → g[j]? = some y → x < y
  rng : ∀ x ∈ g, 0 ≤ x ∧ x ≤ 1000000
theorem atI_map {g : List Int} {k : Int} (h0 : 0 ≤ k) (h1 : k < g.length) : L2.atI (g.map D.int) k = some (.int (g[k.toNat]'(by omega))) := by
  refine atI_int h0 ?_
  rw [List.getElem?_map, List.getElem?_eq_getElem (by omega)]
  rfl
theorem run5 (s : List D) (g : List Int) (hs : OkS s) (hg : OkG g) : ∃ a b s', F5.run [.lp s, .fz (.lst (g.map D.int))] = .ok (.fz (st a b)) [.lp s', .fz (.lst (g.map D.int))] ∧ 0 ≤ a ∧ a < b ∧ b ≤ 1000000 ∧ OkS s' := by
  obtain ⟨x, s1, e1, x0, x1, o1⟩ := run3 s ((g.length : Int) - 1) hs (by have := hg.len; omega)
  obtain ⟨y, s2, e2, y0, y1, o2⟩ := run3 s1 ((g.length : Int) - 1 - x) o1 (by omega)
  have g1 := atI_map (g := g) (k := x) x0 (by omega)
  have g2 := atI_map (g := g) (k := x + 1 + y) (by omega) (by omega)
  have i1 : x.toNat < g.length := by omega
  have i2 : (x + 1 + y).toNat < g.length := by omega
  refine ⟨g[x.toNat]'i1, g[(x + 1 + y).toNat]'i2, s2, ?_, (hg.rng _ (List.getElem_mem i1)).1, hg.inc x.toNat (x + 1 + y).toNat _ _ (by omega) (List.getElem?_eq_getElem i1) (List.getElem?_eq_getElem i2), (hg.rng _ (List.getElem_mem i2)).2, o2⟩
  simp [F5, d5, b5, Df.fn, QL.mk, exs, ex, ev, evs, evA, evI, isLr, useSl, putSl, moveSl, lookSl, liveSl, chgSl, fin, lpOk, callF, noDup, argSls, argSl, putBack, putAll, bindT, isTys, isTy, isN, np3, dfl3, at5_3, e1, e2, LIM, g1, g2]
theorem run0 (ns : List Int) (hl : ns.length ≤ 63) : F0.run [.fz (.rol (ns.map D.int))] = .ok (.lv (stm ns 0 0)) [.fz (.rol (ns.map D.int))] := by
  have e : lcRun 1 (ev ⟨A0, hd.gl, fun _ _ => none, sb⟩ (.c (.bl true))) (ev ⟨A0, hd.gl, fun _ _ => none, sb⟩ (.bi .int1 (.cons (.v 1) .nil))) (ns.map D.int) [.fz (.rol (ns.map D.int)), .un] = .ok (.lv (ns.map D.int)) [.fz (.rol (ns.map D.int)), .un] := by
    have z : (lcRun 1 (ev ⟨A0, hd.gl, fun _ _ => none, sb⟩ (.c (.bl true))) (ev ⟨A0, hd.gl, fun _ _ => none, sb⟩ (.bi .int1 (.cons (.v 1) .nil))) (ns.map D.int) [.fz (.rol (ns.map D.int)), .un]).W (fun r δ => r = .lv (ns.map D.int) ∧ δ = [.fz (.rol (ns.map D.int)), .un]) (fun _ _ => False) := by
      refine lc_map (p := fun _ => true) (g := id) (s := .un) rfl rfl (by rw [List.length_map]; unfold LIM; omega) (fun x hx => ⟨rfl, fun _ => ?_⟩) ⟨by simp, rfl⟩
      obtain ⟨n, _, rfl⟩ := List.mem_map.mp hx
      exact ⟨_, rfl, rfl⟩
    revert z
    generalize lcRun 1 _ _ _ _ = r
    intro z
    cases r with
    | ok a δ => obtain ⟨rfl, rfl⟩ := z; rfl
    | er x δ => exact z.elim
    | no => exact z.elim
  have cut : cutD (ns.map D.int) none (some 63) = ns.map D.int := by
    unfold cutD
    simp [HT.sIx]
    exact List.take_of_length_le (by rw [List.length_map]; omega)
  have e3 : ev ⟨A0, hd.gl, fun _ _ => none, sb⟩ (.lc 1 (.seq (.sl (.v 0) (.c .non) (.c (.int 63)))) (.c (.bl true)) (.bi .int1 (.cons (.v 1) .nil))) [.fz (.rol (ns.map D.int)), .un] = .ok (.lv (ns.map D.int)) [.fz (.rol (ns.map D.int)), .un] := by
    have e4 : evI ⟨A0, hd.gl, fun _ _ => none, sb⟩ (.seq (.sl (.v 0) (.c .non) (.c (.int 63)))) [.fz (.rol (ns.map D.int)), .un] = .ok (ns.map D.int) [.fz (.rol (ns.map D.int)), .un] := by
      simp [evI, ev, useSl, slD, isNonE, intP, cut]
    show ((evI ⟨A0, hd.gl, fun _ _ => none, sb⟩ (.seq (.sl (.v 0) (.c .non) (.c (.int 63)))) [.fz (.rol (ns.map D.int)), .un]).bind fun xs δ => lcRun 1 _ _ xs δ) = _
    rw [e4]
    exact e
  refine runs_eq (f := F0) (runs_of (d := d0) ?_)
  show (exs ⟨A0, hd.gl, fun _ _ => none, sb⟩ b0 [.fz (.rol (ns.map D.int)), .un]).W _ _
  unfold b0
  rw [w_scons, w_ret rfl, w_lst, w_cons, e3]
  exact ⟨Nat.le_of_ble_eq_true rfl, rfl, rfl, rfl⟩

end LW

end
section
set_option Elab.async false
set_option linter.all false
set_option maxRecDepth 100000
set_option maxHeartbeats 2000000
namespace LW
open QL


def okK (ks : List Int) : Prop := ∀ x ∈ ks, 0 ≤ x ∧ x < 1000000
theorem flat_ints (ks : List Int) : (ks.map D.int).all flatD = true := by
  induction ks with
  | nil => rfl
  | cons k ks ih => simpa [flatD] using ih
abbrev P6 : Pr := ⟨A6, hd.gl, fun _ _ => none, sb⟩
abbrev bIn : Ss := (.cons (.ift (.and_ (.ch2 .le .lt (.c (.int 0)) (.v 3) (.c (.int 1000000))) (.inv true (.v 3) 1)) (.cons (.app 1 (.v 3)) .nil) .nil) .nil)
theorem key_step (ks : List Int) (k : Int) (G u : Sl) (hk : okK ks) (hl : ks.length ≤ 1000) : (exs P6 bIn [G, .lv (ks.map D.int), u, .fz (.int k)]).W (fun f δ => f = .nx ∧ ∃ ks', δ = [G, .lv (ks'.map D.int), u, .fz (.int k)] ∧ okK ks' ∧ ks'.length ≤ ks.length + 1) noE := by
  have fl := flat_ints ks
  have fk : flatD (.int k) = true := rfl
  have ec : cmpD .nin (.int k) (.lst (ks.map D.int)) = some (!inD (.int k) (ks.map D.int)) := by
    rw [e_nin, fl, fk]
    rfl
  have same : ∃ ks' : List Int, ks.map D.int = ks'.map D.int ∧ okK ks' ∧ ks'.length ≤ ks.length + 1 := ⟨ks, rfl, hk, by omega⟩
  by_cases h1 : 0 ≤ k
  · by_cases h2 : k < 1000000
    · cases hi : inD (.int k) (ks.map D.int) with
      | true =>
        simp [bIn, exs, ex, ev, evs, evA, evI, isLr, useSl, putSl, moveSl, lookSl, liveSl, chgSl, fin, lpOk, callF, noDup, argSls, argSl, putBack, putAll, bindT, isTys, isTy, isN, L2.atI, L2.ixN, ec, h1, h2, hi, Rs.W]
        exact same
      | false =>
        have hl' : ks.length < LIM := by unfold LIM; omega
        simp [bIn, exs, ex, ev, evs, evA, evI, isLr, useSl, putSl, moveSl, lookSl, liveSl, chgSl, fin, lpOk, callF, noDup, argSls, argSl, putBack, putAll, bindT, isTys, isTy, isN, L2.atI, L2.ixN, ec, h1, h2, hi, hl', Rs.W]
        refine ⟨ks ++ [k], by simp, fun x hx => ?_, by simp⟩
        rcases List.mem_append.mp hx with hx | hx
        · exact hk x hx
        · rw [List.mem_singleton.mp hx]; exact ⟨h1, h2⟩
    · simp [bIn, exs, ex, ev, evs, evA, evI, isLr, useSl, putSl, moveSl, lookSl, liveSl, chgSl, fin, lpOk, callF, noDup, argSls, argSl, putBack, putAll, bindT, isTys, isTy, isN, L2.atI, L2.ixN, h1, h2, Rs.W]
      exact same
  · simp [bIn, exs, ex, ev, evs, evA, evI, isLr, useSl, putSl, moveSl, lookSl, liveSl, chgSl, fin, lpOk, callF, noDup, argSls, argSl, putBack, putAll, bindT, isTys, isTy, isN, L2.atI, L2.ixN, h1, Rs.W]
    exact same
def plainS (s : Sl) : Prop := s = .un ∨ ∃ d, s = .fz d
theorem put_plain {s : Sl} (h : plainS s) (r : Rv) {a b c : Sl} : putSl [a, b, c, s] 3 r = some [a, b, c, r.sl] ∧ (plainS c → putSl [a, b, c, s] 2 r = some [a, b, r.sl, s]) := by
  refine ⟨?_, fun hc => ?_⟩
  · rcases h with rfl | ⟨d, rfl⟩ <;> rfl
  · rcases hc with rfl | ⟨d, rfl⟩ <;> rfl
theorem run6 (g : List Int) (hg : g.length ≤ 9) : ∃ ks, F6.run [.fz (.lst (g.map D.int))] = .ok (.lv (ks.map D.int)) [.fz (.lst (g.map D.int))] ∧ okK ks := by
  have main : F6.Runs [.fz (.lst (g.map D.int))] (fun r o => ∃ ks, r = .lv (ks.map D.int) ∧ okK ks ∧ o = [.fz (.lst (g.map D.int))]) (fun _ _ => False) := by
    refine runs_of (d := d6) ?_
    show (exs P6 b6 [.fz (.lst (g.map D.int)), .un, .un, .un]).W _ _
    unfold b6
    rw [w_scons, w_set, w_lst, w_cons, w_c, w_cons, w_c, w_nil]
    refine ⟨Nat.le_of_ble_eq_true rfl, _, rfl, ?_⟩
    show (exs P6 _ [.fz (.lst (g.map D.int)), .lv ([0, 999999].map D.int), .un, .un]).W _ _
    rw [w_scons, w_for, w_seq, w_v]
    show ∃ xs, some (g.map D.int) = some xs ∧ _
    refine ⟨_, rfl, ?_⟩
    refine for_inv (fun xs δ => ∃ (ps ks : List Int) (u v : Sl), xs = ps.map D.int ∧ δ = [.fz (.lst (g.map D.int)), .lv (ks.map D.int), u, v] ∧ okK ks ∧ ks.length + 2 * ps.length ≤ 100 ∧ plainS u ∧ plainS v) (fun x xs δ hJ => ?_) (fun δ hJ => ?_) _ _ ⟨g, [0, 999999], .un, .un, rfl, rfl, ?_, ?_, .inl rfl, .inl rfl⟩
    · obtain ⟨ps, ks, u, v, e1, rfl, hk, hl, hu, hv⟩ := hJ
      match ps, e1 with
      | p :: ps, e1 =>
        rw [List.map_cons] at e1
        cases e1
        refine ⟨[.fz (.lst (g.map D.int)), .lv (ks.map D.int), .fz (.int p), v], (put_plain (a := _) (b := _) hv _).2 hu, ?_⟩
        rw [w_scons, w_for, w_seq, w_tup, w_cons, w_bin, w_v]
        simp only [useSl, List.getElem?_cons_succ, List.getElem?_cons_zero, w_ok, w_c, w_cons, w_v, w_nil, e_sub, e_dfz, e_items2]
        refine ⟨_, rfl, Nat.le_of_ble_eq_true rfl, _, rfl, ?_⟩
        refine for_inv (fun xs δ => ∃ (qs ks : List Int) (v : Sl), xs = qs.map D.int ∧ δ = [.fz (.lst (g.map D.int)), .lv (ks.map D.int), .fz (.int p), v] ∧ okK ks ∧ ks.length + qs.length + 2 * ps.length ≤ 100 ∧ plainS v) (fun x xs δ hJ => ?_) (fun δ hJ => ?_) _ _ ⟨[p - 1, p], ks, v, rfl, rfl, hk, by simp at hl ⊢; omega, hv⟩
        · obtain ⟨qs, ks, v, e1, rfl, hk, hl, hv⟩ := hJ
          match qs, e1 with
          | q :: qs, e1 =>
            rw [List.map_cons] at e1
            cases e1
            refine ⟨_, (put_plain (a := _) (b := _) (c := _) hv (.fz (.int q))).1, ?_⟩
            refine w_mono (key_step ks q _ _ hk (by omega)) (fun f δ h => ?_) (fun _ _ h => h.elim)
            obtain ⟨rfl, ks', rfl, h1, h2⟩ := h
            exact ⟨qs, ks', _, rfl, rfl, h1, by simp at hl; omega, .inr ⟨_, rfl⟩⟩
        · obtain ⟨qs, ks, v, e1, rfl, hk, hl, hv⟩ := hJ
          rw [w_snil]
          exact ⟨ps, ks, _, v, rfl, rfl, hk, by omega, .inr ⟨_, rfl⟩, hv⟩
    · obtain ⟨ps, ks, u, v, e1, rfl, hk, hl, hu, hv⟩ := hJ
      rw [w_scons, w_retv]
      exact ⟨rfl, ks, rfl, hk, rfl⟩
    · intro x hx
      simp at hx
      rcases hx with rfl | rfl <;> decide
    · simp; omega
  unfold Fn.Runs at main
  split at main
  · rename_i e
    obtain ⟨ks, rfl, h1, rfl⟩ := main
    exact ⟨ks, e, h1⟩
  · exact main.elim
  · exact main.elim

end LW

end
section
set_option Elab.async false
set_option linter.all false
set_option maxRecDepth 100000
set_option maxHeartbeats 2000000
namespace LW
open QL


structure GI (g : List Int) (p : Int) : Prop where
  inc : ∀ (i j : Nat) (x y : Int), i < j → g[i]? = some x → g[j]? = some y → x < y
  rng : ∀ x ∈ g, 0 ≤ x ∧ x ≤ p
theorem GI.app {g : List Int} {p q : Int} (h : GI g p) (h1 : p < q) (h2 : 0 ≤ q) : GI (g ++ [q]) q where
  inc := fun i j x y hij hx hy => by
    by_cases hj : j < g.length
    · rw [List.getElem?_append_left hj] at hy
      rw [List.getElem?_append_left (by omega)] at hx
      exact h.inc i j x y hij hx hy
    · have : j = g.length := by
        have := (List.getElem?_eq_some_iff.mp hy).1
        simp at this
        omega
      subst this
      rw [List.getElem?_append_right (Nat.le_refl _), Nat.sub_self] at hy
      cases hy
      rw [List.getElem?_append_left hij] at hx
      have := (h.rng x (List.mem_of_getElem? hx)).2
      omega
  rng := fun x hx => by
    rcases List.mem_append.mp hx with hx | hx
    · have := h.rng x hx
      omega
    · rw [List.mem_singleton.mp hx]
      omega
abbrev P4 : Pr := ⟨A4, hd.gl, fun _ _ => none, sb⟩
abbrev bL : Ss := (.cons (.ift (.cmp .gt (.v 3) (.c (.int 6))) (.cons (.set 4 (.bin .add (.bin .add (.v 4) (.c (.int 1))) (.call 2 (.cons (.lr 0) (.cons (.c (.int 1000)) .nil))))) .nil) (.cons (.set 4 (.bin .add (.bin .add (.v 4) (.c (.int 1))) (.call 3 (.cons (.lr 0) (.cons (.c (.int 3)) .nil))))) .nil)) (.cons (.app 5 (.v 4)) .nil))
theorem turn4 (s : List D) (a m wd p : Int) (g : List Int) (v : Sl) (hs : OkS s) (hl : g.length ≤ 1000) : (exs P4 bL [.lp s, .fz (.int a), .fz (.int m), .fz (.int wd), .fz (.int p), .lv (g.map D.int), v]).W (fun f δ => f = .nx ∧ ∃ s' q, δ = [.lp s', .fz (.int a), .fz (.int m), .fz (.int wd), .fz (.int q), .lv ((g ++ [q]).map D.int), v] ∧ OkS s' ∧ p < q ∧ q ≤ p + 1000) noE := by
  have hl' : g.length < LIM := by unfold LIM; omega
  by_cases hw : 6 < wd
  · obtain ⟨x, s', e, x0, x1, hs'⟩ := run2 s 1000 hs (by decide) (by decide)
    simp [bL, exs, ex, ev, evs, evA, evI, isLr, useSl, putSl, moveSl, lookSl, liveSl, chgSl, fin, lpOk, callF, noDup, argSls, argSl, putBack, putAll, bindT, isTys, isTy, isN, L2.atI, L2.ixN, np2, dfl2, at4_2, hw, e, hl', Rs.W]
    exact ⟨hs', by omega, by omega⟩
  · obtain ⟨x, s', e, x0, x1, hs'⟩ := run3 s 3 hs (by decide)
    simp [bL, exs, ex, ev, evs, evA, evI, isLr, useSl, putSl, moveSl, lookSl, liveSl, chgSl, fin, lpOk, callF, noDup, argSls, argSl, putBack, putAll, bindT, isTys, isTy, isN, L2.atI, L2.ixN, np3, dfl3, at4_3, hw, e, hl', Rs.W]
    exact ⟨hs', by omega, by omega⟩
theorem loop4 (a m wd : Int) : ∀ (xs : List D) (s : List D) (p : Int) (g : List Int) (v : Sl), plainS v → OkS s → GI g p → 0 ≤ p → g.length + xs.length ≤ 900 → (forGo [6] (exs P4 bL) xs [.lp s, .fz (.int a), .fz (.int m), .fz (.int wd), .fz (.int p), .lv (g.map D.int), v]).W (fun f δ => f = .nx ∧ ∃ s' q g' v', δ = [.lp s', .fz (.int a), .fz (.int m), .fz (.int wd), .fz (.int q), .lv (g'.map D.int), v'] ∧ OkS s' ∧ GI g' q ∧ p ≤ q ∧ q ≤ p + 1000 * xs.length ∧ g'.length = g.length + xs.length) noE
  | [], s, p, g, v, hv, hs, hg, hp, hl => ⟨rfl, s, p, g, v, rfl, hs, hg, by omega, by simp, by simp⟩
  | x :: xs, s, p, g, v, hv, hs, hg, hp, hl => by
    have hb : bindT [Sl.lp s, .fz (.int a), .fz (.int m), .fz (.int wd), .fz (.int p), .lv (g.map D.int), v] [6] x = some [.lp s, .fz (.int a), .fz (.int m), .fz (.int wd), .fz (.int p), .lv (g.map D.int), .fz x] := by
      rcases hv with rfl | ⟨d, rfl⟩ <;> rfl
    unfold forGo
    rw [hb]
    show Rs.W ((exs P4 bL _).bind _) _ _
    rw [w_bind]
    simp only [List.length_cons] at hl
    refine w_mono (turn4 s a m wd p g (.fz x) hs (by omega)) (fun f δ h => ?_) fun _ _ h => h
    obtain ⟨rfl, s', q, rfl, hs', h1, h2⟩ := h
    refine w_mono (loop4 a m wd xs s' q (g ++ [q]) (.fz x) (.inr ⟨_, rfl⟩) hs' (hg.app h1 (by omega)) (by omega) (by simp; omega)) (fun f δ h => ?_) fun _ _ h => h
    obtain ⟨rfl, s2, q2, g2, v2, rfl, k1, k2, k3, k4, k5⟩ := h
    exact ⟨rfl, s2, q2, g2, v2, rfl, k1, k2, by omega, by simp only [List.length_cons]; omega, by simp at k5 ⊢; omega⟩
theorem rangeD_len (a : Int) : ∀ n : Nat, (rangeD a n).length = n
  | 0 => rfl
  | n + 1 => by unfold rangeD; rw [List.length_cons, rangeD_len (a + 1) n]
theorem set_first {g : List Int} {p : Int} (h : GI g p) (hp : 0 ≤ p) : GI (g.set 0 0) p where
  inc := fun i j x y hij hx hy => by
    rw [List.getElem?_set_ne (by omega)] at hy
    by_cases hi : i = 0
    · subst hi
      have l := (List.getElem?_eq_some_iff.mp hx).1
      rw [List.length_set] at l
      rw [List.getElem?_set_self l] at hx
      cases hx
      have := h.inc 0 j _ y hij (List.getElem?_eq_getElem l) hy
      have := (h.rng _ (List.getElem_mem l)).1
      omega
    · rw [List.getElem?_set_ne (by omega)] at hx
      exact h.inc i j x y hij hx hy
  rng := fun x hx => by
    rcases List.mem_or_eq_of_mem_set hx with hx | rfl
    · exact h.rng x hx
    · omega
theorem set_last {g : List Int} {p q : Int} {n : Nat} (h : GI g p) (hn : g.length = n + 1) (hp : p < q) (h0 : 0 ≤ q) : GI (g.set n q) q where
  inc := fun i j x y hij hx hy => by
    have l := (List.getElem?_eq_some_iff.mp hy).1
    rw [List.length_set] at l
    rw [List.getElem?_set_ne (by omega)] at hx
    by_cases hj : j = n
    · subst hj
      rw [List.getElem?_set_self l] at hy
      cases hy
      have := (h.rng x (List.mem_of_getElem? hx)).2
      omega
    · rw [List.getElem?_set_ne (by omega)] at hy
      exact h.inc i j x y hij hx hy
  rng := fun x hx => by
    rcases List.mem_or_eq_of_mem_set hx with hx | rfl
    · have := h.rng x hx
      omega
    · omega
theorem GI.ok {g : List Int} {p : Int} (h : GI g p) (hp : p ≤ 1000000) (hl : 2 ≤ g.length ∧ g.length ≤ 9) : OkG g := ⟨hl, h.inc, fun x hx => ⟨(h.rng x hx).1, by have := (h.rng x hx).2; omega⟩⟩
abbrev bT : Ss := (.cons (.ift (.or_ (.cmp .eq (.v 3) (.c (.int 7))) (.cmp .eq (.v 3) (.c (.int 9)))) (.cons (.six 5 (.c (.int 0)) (.c (.int 0))) .nil) .nil) (.cons (.ift (.cmp .gt (.v 3) (.c (.int 7))) (.cons (.six 5 (.v 2) (.c (.int 1000000))) .nil) .nil) (.cons (.ret (.v 5)) .nil)))
/-- the end of grid -/
theorem tail4 (s : List D) (a wd p : Int) (g : List Int) (v : Sl) (n : Nat) (hn : g.length = n + 1) (hg : GI g p) (hp : 0 ≤ p) (hp2 : p < 1000000) (h8 : 1 ≤ n ∧ n ≤ 8) : (exs P4 bT [.lp s, .fz (.int a), .fz (.int n), .fz (.int wd), .fz (.int p), .lv (g.map D.int), v]).W (fun f δ => ∃ g', f = .rt (.lv (g'.map D.int)) ∧ δ = [.lp s, .fz (.int a), .fz (.int n), .fz (.int wd), .fz (.int p), .un, v] ∧ OkG g') noE := by
  have l0 : 0 < g.length := by omega
  have ln : n < g.length := by omega
  have sl : ∀ (g : List Int) (k : Nat) (x : Int), (g.map D.int).set k (.int x) = (g.set k x).map D.int := fun g k x => by rw [List.map_set]
  by_cases h1 : wd = 7 ∨ wd = 9
  · have c1 : (decide (wd = 7) || decide (wd = 9)) = true := by simpa using h1
    have gi := set_first hg hp
    by_cases h2 : 7 < wd
    · have gk := set_last (n := n) (q := 1000000) gi (by rw [List.length_set]; exact hn) (by omega) (by decide)
      have h9 : wd = 9 := by omega
      subst h9
      simp [bT, exs, ex, ev, evs, evA, evI, isLr, useSl, putSl, moveSl, lookSl, liveSl, chgSl, fin, lpOk, callF, noDup, argSls, argSl, putBack, putAll, bindT, isTys, isTy, isN, L2.atI, L2.ixN, l0, ln, Rs.W]
      exact ⟨_, by rw [← sl, ← sl], gk.ok (by decide) (by simp; omega)⟩
    · have h7 : wd = 7 := by omega
      subst h7
      simp [bT, exs, ex, ev, evs, evA, evI, isLr, useSl, putSl, moveSl, lookSl, liveSl, chgSl, fin, lpOk, callF, noDup, argSls, argSl, putBack, putAll, bindT, isTys, isTy, isN, L2.atI, L2.ixN, l0, ln, Rs.W]
      exact ⟨_, by rw [← sl], gi.ok (by omega) (by simp; omega)⟩
  · have c7 : ¬ wd = 7 := fun z => h1 (.inl z)
    have c9 : ¬ wd = 9 := fun z => h1 (.inr z)
    by_cases h2 : 7 < wd
    · have gk := set_last (n := n) (q := 1000000) hg hn (by omega) (by decide)
      simp [bT, exs, ex, ev, evs, evA, evI, isLr, useSl, putSl, moveSl, lookSl, liveSl, chgSl, fin, lpOk, callF, noDup, argSls, argSl, putBack, putAll, bindT, isTys, isTy, isN, L2.atI, L2.ixN, l0, ln, c7, c9, h2, Rs.W]
      exact ⟨_, by rw [← sl], gk.ok (by decide) (by simp; omega)⟩
    · simp [bT, exs, ex, ev, evs, evA, evI, isLr, useSl, putSl, moveSl, lookSl, liveSl, chgSl, fin, lpOk, callF, noDup, argSls, argSl, putBack, putAll, bindT, isTys, isTy, isN, L2.atI, L2.ixN, l0, ln, c7, c9, h2, Rs.W]
      exact ⟨_, rfl, hg.ok (by omega) (by omega)⟩

end LW

end
section
set_option Elab.async false
set_option linter.all false
set_option maxRecDepth 100000
set_option maxHeartbeats 2000000
namespace LW
open QL


theorem runs_ex {f : Fn} {as : List Sl} {Q : Rv → List Sl → Prop} (h : f.Runs as Q (fun _ _ => False)) : ∃ r o, f.run as = .ok r o ∧ Q r o := by
  unfold Fn.Runs at h
  split at h
  · rename_i r o e
    exact ⟨r, o, e, h⟩
  · exact h.elim
  · exact h.elim
theorem w_go {P : Pr} {s : S} {ss : Ss} {δ δ' : QL.Env} {Q : Fl → QL.Env → Prop} {E : Xn → QL.Env → Prop} (h : ex P s δ = .ok .nx δ') (k : (exs P ss δ').W Q E) : (exs P (.cons s ss) δ).W Q E := by
  rw [w_scons, h]
  exact k
theorem run4 (s : List D) (hs : OkS s) : ∃ g s', F4.run [.lp s, .fz (.int 8)] = .ok (.lv (g.map D.int)) [.lp s', .fz (.int 8)] ∧ OkG g ∧ OkS s' := by
  have main : F4.Runs [.lp s, .fz (.int 8)] (fun r o => ∃ g s', r = .lv (g.map D.int) ∧ o = [.lp s', .fz (.int 8)] ∧ OkG g ∧ OkS s') (fun _ _ => False) := by
    refine runs_of (d := d4) ?_
    show (exs P4 b4 [.lp s, .fz (.int 8), .un, .un, .un, .un, .un]).W _ _
    obtain ⟨x, s1, e1, x0, x1, o1⟩ := run3 s 8 hs (by decide)
    obtain ⟨wd, s2, e2, w0, w1, o2⟩ := run3 s1 10 o1 (by decide)
    obtain ⟨p0, s3, e3, p00, p01, o3⟩ := run3 s2 3 o2 (by decide)
    unfold b4
    refine w_go (δ' := [.lp s1, .fz (.int 8), .fz (.int (1 + x)), .un, .un, .un, .un]) (by simp [exs, ex, ev, evs, evA, evI, isLr, useSl, putSl, moveSl, lookSl, liveSl, chgSl, fin, lpOk, callF, noDup, argSls, argSl, putBack, putAll, bindT, isTys, isTy, isN, L2.atI, L2.ixN, np3, dfl3, at4_3, e1]) ?_
    refine w_go (δ' := [.lp s2, .fz (.int 8), .fz (.int (1 + x)), .fz (.int wd), .un, .un, .un]) (by simp [exs, ex, ev, evs, evA, evI, isLr, useSl, putSl, moveSl, lookSl, liveSl, chgSl, fin, lpOk, callF, noDup, argSls, argSl, putBack, putAll, bindT, isTys, isTy, isN, L2.atI, L2.ixN, np3, dfl3, at4_3, e2]) ?_
    refine w_go (δ' := [.lp s3, .fz (.int 8), .fz (.int (1 + x)), .fz (.int wd), .fz (.int p0), .un, .un]) (by simp [exs, ex, ev, evs, evA, evI, isLr, useSl, putSl, moveSl, lookSl, liveSl, chgSl, fin, lpOk, callF, noDup, argSls, argSl, putBack, putAll, bindT, isTys, isTy, isN, L2.atI, L2.ixN, np3, dfl3, at4_3, e3]) ?_
    have mid : ∃ s4 p, ex P4 (.ift (.cmp .gt (.v 3) (.c (.int 6))) (.cons (.set 4 (.bin .mod (.bi .int1 (.cons (.call 2 (.cons (.lr 0) (.cons (.c (.int 1000000)) .nil))) .nil)) (.c (.int 900000)))) .nil) .nil) [.lp s3, .fz (.int 8), .fz (.int (1 + x)), .fz (.int wd), .fz (.int p0), .un, .un] = .ok .nx [.lp s4, .fz (.int 8), .fz (.int (1 + x)), .fz (.int wd), .fz (.int p), .un, .un] ∧ OkS s4 ∧ 0 ≤ p ∧ p < 900000 := by
      by_cases hw : 6 < wd
      · obtain ⟨y, s4, e4, y0, y1, o4⟩ := run2 s3 1000000 o3 (by decide) (by decide)
        refine ⟨s4, y % 900000, ?_, o4, by omega, by omega⟩
        simp [exs, ex, ev, evs, evA, evI, isLr, useSl, putSl, moveSl, lookSl, liveSl, chgSl, fin, lpOk, callF, noDup, argSls, argSl, putBack, putAll, bindT, isTys, isTy, isN, L2.atI, L2.ixN, np2, dfl2, at4_2, e4, hw]
      · refine ⟨s3, p0, ?_, o3, by omega, by omega⟩
        simp [exs, ex, ev, evs, evA, evI, isLr, useSl, putSl, moveSl, lookSl, liveSl, chgSl, fin, lpOk, callF, noDup, argSls, argSl, putBack, putAll, bindT, isTys, isTy, isN, L2.atI, L2.ixN, hw]
    obtain ⟨s4, p, e4, o4, q0, q1⟩ := mid
    refine w_go e4 ?_
    refine w_go (δ' := [.lp s4, .fz (.int 8), .fz (.int (1 + x)), .fz (.int wd), .fz (.int p), .lv ([p].map D.int), .un]) (by simp [exs, ex, ev, evs, evA, evI, isLr, useSl, putSl, moveSl, lookSl, liveSl, chgSl, fin, lpOk, callF, noDup, argSls, argSl, putBack, putAll, bindT, isTys, isTy, isN, L2.atI, L2.ixN, LIM]) ?_
    rw [w_scons, w_for, w_rng1, w_v]
    simp only [useSl, List.getElem?_cons_succ, List.getElem?_cons_zero, w_ok, e_dfz]
    refine ⟨_, rfl, by constructor <;> omega, ?_⟩
    have len := rangeD_len 0 (1 + x).toNat
    have g0 : GI [p] p := ⟨fun i j a b hij ha hb => by
      have := (List.getElem?_eq_some_iff.mp hb).1
      simp at this
      omega, fun a ha => by
      rw [List.mem_singleton.mp ha]
      omega⟩
    refine w_mono (loop4 8 (1 + x) wd (rangeD 0 (1 + x).toNat) s4 p [p] .un (.inl rfl) o4 g0 q0 (by rw [len]; simp; omega)) (fun f δ h => ?_) fun _ _ h => h.elim
    obtain ⟨rfl, s5, q, g', v', rfl, o5, gi, k1, k2, k3⟩ := h
    rw [len] at k2 k3
    have ex1 : (1 + x) = (((1 + x).toNat : Nat) : Int) := by omega
    have t := tail4 s5 8 wd q g' v' (1 + x).toNat (by simp at k3; omega) gi (by omega) (by omega) (by omega)
    rw [← ex1] at t
    refine w_mono t (fun f δ h => ?_) fun _ _ h => h.elim
    obtain ⟨g2, rfl, rfl, hg⟩ := h
    exact ⟨rfl, g2, s5, rfl, rfl, hg, o5⟩
  obtain ⟨r, o, e, g, s', rfl, rfl, h1, h2⟩ := runs_ex main
  exact ⟨g, s', e, h1, h2⟩
/-! two -/
abbrev P11 : Pr := ⟨A11, hd.gl, fun _ _ => none, sb⟩
abbrev bK : Ss := (.cons (.set 6 (.and_ (.ch2 .le .lt (.ixv 0 (.c (.int 0))) (.v 5) (.ixv 0 (.c (.int 1)))) (.ch2 .le .lt (.ixv 1 (.c (.int 0))) (.v 5) (.ixv 1 (.c (.int 1)))))) (.cons (.ift (.cmp .ne (.v 6) (.and_ (.cmp .nisn (.v 4) (.c .non)) (.ch2 .le .lt (.ixv 4 (.c (.int 0))) (.v 5) (.ixv 4 (.c (.int 1)))))) (.cons (.ret (.c (.bl false))) .nil) .nil) .nil))
def cm (a b c d : Int) : D := if (if c > a then c else a) < (if d < b then d else b) then st (if c > a then c else a) (if d < b then d else b) else .non
theorem e_neb {x y : Bool} : cmpD .ne (.bl x) (.bl y) = some (!(x == y)) := by
  rw [e_neg, q_obl, q_obl, q_bl]
  rfl
theorem e_eqb {x y : Bool} : cmpD .eq (.bl x) (.bl y) = some (x == y) := by
  rw [e_eqg, q_obl, q_obl, q_bl]
  rfl
theorem keyTurn (a b c d k : Int) (L u w z : Sl) (hw : plainS w) : (exs P11 bK [.fz (st a b), .fz (st c d), L, u, .fz (cm a b c d), .fz (.int k), w, z]).W (fun f δ => f = .nx ∧ ∃ w', plainS w' ∧ δ = [.fz (st a b), .fz (st c d), L, u, .fz (cm a b c d), .fz (.int k), w', z]) noE := by
  have pw : ∀ r, putSl [Sl.fz (st a b), .fz (st c d), L, u, .fz (cm a b c d), .fz (.int k), w, z] 6 r = some [.fz (st a b), .fz (st c d), L, u, .fz (cm a b c d), .fz (.int k), r.sl, z] := fun r => by
    rcases hw with rfl | ⟨q, rfl⟩ <;> rfl
  have fin : ∀ v : Bool, (v = (decide (a ≤ k) && decide (k < b) && (decide (c ≤ k) && decide (k < d)))) → ex P11 (.set 6 (.and_ (.ch2 .le .lt (.ixv 0 (.c (.int 0))) (.v 5) (.ixv 0 (.c (.int 1)))) (.ch2 .le .lt (.ixv 1 (.c (.int 0))) (.v 5) (.ixv 1 (.c (.int 1)))))) [.fz (st a b), .fz (st c d), L, u, .fz (cm a b c d), .fz (.int k), w, z] = .ok .nx [.fz (st a b), .fz (st c d), L, u, .fz (cm a b c d), .fz (.int k), .fz (.bl v), z] := fun v hv => by
    subst hv
    by_cases h1 : a ≤ k <;> by_cases h2 : k < b <;> by_cases h3 : c ≤ k <;> simp [exs, ex, ev, evs, evA, evI, isLr, useSl, moveSl, lookSl, liveSl, chgSl, fin, lpOk, callF, noDup, argSls, argSl, putBack, putAll, bindT, isTys, isTy, isN, L2.atI, L2.ixN, pw, h1, h2, h3]
  refine w_go (fin _ rfl) ?_
  have hcm : cm a b c d = .non ∨ ∃ e f : Int, cm a b c d = st e f ∧ e < f ∧ e = (if c > a then c else a) ∧ f = (if d < b then d else b) := by
    by_cases hh : (if c > a then c else a) < (if d < b then d else b)
    · exact .inr ⟨_, _, by unfold cm; rw [if_pos hh], hh, rfl, rfl⟩
    · exact .inl (by unfold cm; rw [if_neg hh])
  rcases hcm with hn | ⟨e, f, hn, hef, he, hf⟩
  · have no : (decide (a ≤ k) && decide (k < b) && (decide (c ≤ k) && decide (k < d))) = false := by
      have : ¬ ((if c > a then c else a) < (if d < b then d else b)) := fun z => by
        unfold cm at hn
        rw [if_pos z] at hn
        cases hn
      simp
      intro h1 h2 h3
      by_cases h4 : k < d
      · exact absurd (by split <;> split <;> omega) this
      · omega
    rw [no, hn]
    simp [exs, ex, ev, evs, evA, evI, isLr, useSl, putSl, moveSl, lookSl, liveSl, chgSl, fin, lpOk, callF, noDup, argSls, argSl, putBack, putAll, bindT, isTys, isTy, isN, L2.atI, L2.ixN, e_neb, Rs.W]
    exact .inr ⟨_, rfl⟩
  · have yes : (decide (a ≤ k) && decide (k < b) && (decide (c ≤ k) && decide (k < d))) = (decide (e ≤ k) && decide (k < f)) := by
      subst he hf
      by_cases h1 : a ≤ k <;> by_cases h2 : k < b <;> by_cases h3 : c ≤ k <;> by_cases h4 : k < d <;> simp [h1, h2, h3, h4] <;> (try (split <;> omega)) <;> (try omega)
    rw [yes, hn]
    by_cases h1 : e ≤ k
    · simp [exs, ex, ev, evs, evA, evI, isLr, useSl, putSl, moveSl, lookSl, liveSl, chgSl, fin, lpOk, callF, noDup, argSls, argSl, putBack, putAll, bindT, isTys, isTy, isN, L2.atI, L2.ixN, e_neb, h1, Rs.W]
      exact .inr ⟨_, rfl⟩
    · simp [exs, ex, ev, evs, evA, evI, isLr, useSl, putSl, moveSl, lookSl, liveSl, chgSl, fin, lpOk, callF, noDup, argSls, argSl, putBack, putAll, bindT, isTys, isTy, isN, L2.atI, L2.ixN, e_neb, h1, Rs.W]
      exact .inr ⟨_, rfl⟩

end LW

end
section
set_option Elab.async false
set_option linter.all false
set_option maxRecDepth 100000
set_option maxHeartbeats 2000000
namespace LW
open QL


theorem run10c (a b c d : Int) : F10.run [.fz (cm a b c d), .fz (cm a b c d)] = .ok (.fz (.bl true)) [.fz (cm a b c d), .fz (cm a b c d)] := by
  by_cases hh : (if c > a then c else a) < (if d < b then d else b)
  · unfold cm
    rw [if_pos hh]
    exact run10 _ _
  · unfold cm
    rw [if_neg hh]
    exact run10n
def inP (c d : Int) : D → Bool
  | .int k => decide (c ≤ k) && decide (k < d)
  | _ => false
theorem lc11 (a b c d : Int) (L u t v5 v6 v7 : Sl) (h5 : plainS v5) (h7 : plainS v7) : ex P11 (.set 7 (.lc 5 (.seq (.tup (.cons (.ixv 0 (.c (.int 0))) (.cons (.bin .sub (.ixv 0 (.c (.int 1))) (.c (.int 1))) .nil)))) (.ch2 .le .lt (.ixv 1 (.c (.int 0))) (.v 5) (.ixv 1 (.c (.int 1)))) (.v 5))) [.fz (st a b), .fz (st c d), L, u, t, v5, v6, v7] = .ok .nx [.fz (st a b), .fz (st c d), L, u, t, v5, v6, .lv ([D.int a, D.int (b - 1)].filter (inP c d))] := by
  have e4 : evI P11 (.seq (.tup (.cons (.ixv 0 (.c (.int 0))) (.cons (.bin .sub (.ixv 0 (.c (.int 1))) (.c (.int 1))) .nil)))) [.fz (st a b), .fz (st c d), L, u, t, v5, v6, v7] = .ok [D.int a, D.int (b - 1)] [.fz (st a b), .fz (st c d), L, u, t, v5, v6, v7] := by
    simp [exs, ex, ev, evs, evA, evI, isLr, useSl, putSl, moveSl, lookSl, liveSl, chgSl, fin, lpOk, callF, noDup, argSls, argSl, putBack, putAll, bindT, isTys, isTy, isN, L2.atI, L2.ixN, LIM]
  have z : (ex P11 (.set 7 (.lc 5 (.seq (.tup (.cons (.ixv 0 (.c (.int 0))) (.cons (.bin .sub (.ixv 0 (.c (.int 1))) (.c (.int 1))) .nil)))) (.ch2 .le .lt (.ixv 1 (.c (.int 0))) (.v 5) (.ixv 1 (.c (.int 1)))) (.v 5))) [.fz (st a b), .fz (st c d), L, u, t, v5, v6, v7]).W (fun f δ => f = .nx ∧ δ = [.fz (st a b), .fz (st c d), L, u, t, v5, v6, .lv ([D.int a, D.int (b - 1)].filter (inP c d))]) (fun _ _ => False) := by
    rw [w_set, w_lc, e4]
    refine lc_map (p := inP c d) (g := id) (s := v5) ?_ rfl (by unfold LIM; simp) (fun x hx => ?_) ?_
    · rcases h5 with rfl | ⟨q, rfl⟩ <;> rfl
    · have hx : ∃ k, x = .int k := by
        simp at hx
        rcases hx with rfl | rfl <;> exact ⟨_, rfl⟩
      obtain ⟨k, rfl⟩ := hx
      refine ⟨?_, fun _ => ⟨_, rfl, rfl⟩⟩
      by_cases h1 : c ≤ k <;> simp [exs, ex, ev, evs, evA, evI, isLr, useSl, putSl, moveSl, lookSl, liveSl, chgSl, fin, lpOk, callF, noDup, argSls, argSl, putBack, putAll, bindT, isTys, isTy, isN, L2.atI, L2.ixN, inP, h1]
    · refine ⟨_, ?_, rfl, rfl⟩
      rw [List.map_id]
      rcases h7 with rfl | ⟨q, rfl⟩ <;> rfl
  revert z
  generalize ex P11 _ _ = r
  intro z
  cases r with
  | ok a δ => obtain ⟨rfl, rfl⟩ := z; rfl
  | er x δ => exact z.elim
  | no => exact z.elim
theorem run11 (a b c d : Int) (ks : List Int) (hab : a < b) : F11.run [.fz (st a b), .fz (st c d), .fz (.lst (ks.map D.int))] = .ok (.fz (.bl true)) [.fz (st a b), .fz (st c d), .fz (.lst (ks.map D.int))] := by
  refine runs_eq (runs_of (d := d11) ?_)
  show (exs P11 b11 [.fz (st a b), .fz (st c d), .fz (.lst (ks.map D.int)), .un, .un, .un, .un, .un]).W _ _
  unfold b11
  refine w_go (δ' := [.fz (st a b), .fz (st c d), .fz (.lst (ks.map D.int)), .fz .non, .un, .un, .un, .un]) rfl ?_
  refine w_go (δ' := [.fz (st a b), .fz (st c d), .fz (.lst (ks.map D.int)), .fz (cm a b c d), .un, .un, .un, .un]) ?_ ?_
  · by_cases hh : (if c > a then c else a) < (if d < b then d else b)
    · simp [exs, ex, ev, evs, evA, evI, isLr, useSl, putSl, moveSl, lookSl, liveSl, chgSl, fin, lpOk, callF, noDup, argSls, argSl, putBack, putAll, bindT, isTys, isTy, isN, L2.atI, L2.ixN, hh, cm, LIM]
    · simp [exs, ex, ev, evs, evA, evI, isLr, useSl, putSl, moveSl, lookSl, liveSl, chgSl, fin, lpOk, callF, noDup, argSls, argSl, putBack, putAll, bindT, isTys, isTy, isN, L2.atI, L2.ixN, hh, cm, LIM]
  have e7 := run7 a b c d
  rw [show (if (if c > a then c else a) < (if d < b then d else b) then st (if c > a then c else a) (if d < b then d else b) else D.non) = cm a b c d from rfl] at e7
  refine w_go (δ' := [.fz (st a b), .fz (st c d), .fz (.lst (ks.map D.int)), .fz (cm a b c d), .fz (cm a b c d), .un, .un, .un]) (by simp [exs, ex, ev, evs, evA, evI, isLr, useSl, putSl, moveSl, lookSl, liveSl, chgSl, fin, lpOk, callF, noDup, argSls, argSl, putBack, putAll, bindT, isTys, isTy, isN, L2.atI, L2.ixN, np7, dfl7, at11_7, e7]) ?_
  have e10 := run10c a b c d
  refine w_go (δ' := [.fz (st a b), .fz (st c d), .fz (.lst (ks.map D.int)), .fz (cm a b c d), .fz (cm a b c d), .un, .un, .un]) (by simp [exs, ex, ev, evs, evA, evI, isLr, useSl, putSl, moveSl, lookSl, liveSl, chgSl, fin, lpOk, callF, noDup, argSls, argSl, putBack, putAll, bindT, isTys, isTy, isN, L2.atI, L2.ixN, np10, dfl10, at11_10, e10]) ?_
  rw [w_scons, w_for, w_seq, w_v]
  simp only [useSl, List.getElem?_cons_succ, List.getElem?_cons_zero, w_ok, e_dfz, e_items1]
  refine ⟨_, rfl, ?_⟩
  refine for_inv (fun xs δ => ∃ (qs : List Int) (v w : Sl), xs = qs.map D.int ∧ plainS v ∧ plainS w ∧ δ = [.fz (st a b), .fz (st c d), .fz (.lst (ks.map D.int)), .fz (cm a b c d), .fz (cm a b c d), v, w, .un]) (fun x xs δ hJ => ?_) (fun δ hJ => ?_) _ _ ⟨ks, .un, .un, rfl, .inl rfl, .inl rfl, rfl⟩
  · obtain ⟨qs, v, w, e1, hv, hw, rfl⟩ := hJ
    match qs, e1 with
    | k :: qs, e1 =>
      rw [List.map_cons] at e1
      cases e1
      refine ⟨[.fz (st a b), .fz (st c d), .fz (.lst (ks.map D.int)), .fz (cm a b c d), .fz (cm a b c d), .fz (.int k), w, .un], by rcases hv with rfl | ⟨q, rfl⟩ <;> rfl, ?_⟩
      refine w_mono (keyTurn a b c d k _ _ w .un hw) (fun f δ h => ?_) fun _ _ h => h.elim
      obtain ⟨rfl, w', hw', rfl⟩ := h
      exact ⟨qs, _, w', rfl, .inr ⟨_, rfl⟩, hw', rfl⟩
  · obtain ⟨qs, v, w, e1, hv, hw, rfl⟩ := hJ
    refine w_go (lc11 a b c d _ _ _ v w .un hv (.inl rfl)) ?_
    have e8 := run8 a b c d
    refine w_go (δ' := [.fz (st a b), .fz (st c d), .fz (.lst (ks.map D.int)), .fz (cm a b c d), .fz (.bl (decide (c ≤ a) && decide (b ≤ d))), v, w, .lv ([D.int a, D.int (b - 1)].filter (inP c d))]) (by simp [exs, ex, ev, evs, evA, evI, isLr, useSl, putSl, moveSl, lookSl, liveSl, chgSl, fin, lpOk, callF, noDup, argSls, argSl, putBack, putAll, bindT, isTys, isTy, isN, L2.atI, L2.ixN, np8, dfl8, at11_8, e8]) ?_
    have cnt : ((([D.int a, D.int (b - 1)].filter (inP c d)).length : Int) = 2) ↔ (c ≤ a ∧ b ≤ d) := by
      by_cases h1 : c ≤ a <;> by_cases h2 : a < d <;> by_cases h3 : c ≤ b - 1 <;> by_cases h4 : b - 1 < d <;> simp [List.filter, inP, h1, h2, h3, h4] <;> omega
    have dc : decide ((([D.int a, D.int (b - 1)].filter (inP c d)).length : Int) = 2) = (decide (c ≤ a) && decide (b ≤ d)) := by
      rw [Bool.eq_iff_iff]
      simp only [decide_eq_true_eq, Bool.and_eq_true]
      exact cnt
    generalize hL : [D.int a, D.int (b - 1)].filter (inP c d) = LL at dc
    generalize (decide (c ≤ a) && decide (b ≤ d)) = bb at dc
    simp [exs, ex, ev, evs, evA, evI, isLr, useSl, putSl, moveSl, lookSl, liveSl, chgSl, fin, lpOk, callF, noDup, argSls, argSl, putBack, putAll, bindT, isTys, isTy, isN, L2.atI, L2.ixN, e_eqb, Rs.W, dc]

end LW

end
section
set_option Elab.async false
set_option linter.all false
set_option maxRecDepth 100000
set_option maxHeartbeats 2000000
namespace LW
open QL

abbrev P21 : Pr := ⟨A21, hd.gl, fun _ _ => none, sb⟩
abbrev s0 : S := (.set 1 (.call 0 (.cons (.v 0) .nil)))
abbrev s1 : S := (.set 2 (.call 4 (.cons (.lr 1) (.cons (.c (.int 8)) .nil))))
abbrev s2 : S := (.set 3 (.call 5 (.cons (.lr 1) (.cons (.v 2) .nil))))
abbrev s3 : S := (.set 4 (.call 5 (.cons (.lr 1) (.cons (.v 2) .nil))))
abbrev s4 : S := (.set 5 (.call 3 (.cons (.lr 1) (.cons (.c (.int 10)) .nil))))
abbrev s5 : S := (.set 6 (.bin .sub (.bin .add (.ixv 2 (.call 3 (.cons (.lr 1) (.cons (.lenv 2) .nil)))) (.call 3 (.cons (.lr 1) (.cons (.c (.int 3)) .nil)))) (.c (.int 1))))
abbrev s6 : S := (.ift (.cmp .gt (.v 5) (.c (.int 7))) (.cons (.set 6 (.bin .sub (.bin .mul (.bin .mul (.v 6) (.bin .sub (.v 5) (.c (.int 8)))) (.c (.int 4000))) (.bin .pow (.c (.int 10)) (.c (.int 9))))) .nil) .nil)
abbrev s7 : S := (.set 7 (.ix (.tup (.cons (.neg (.c (.int 1))) (.cons (.c (.int 1000000)) (.cons (.c (.bl true)) (.cons (.c (.bl false)) (.cons (.c .non) (.cons (.c (.str "5")) (.cons (.tup (.cons (.c (.int 3)) .nil)) (.cons (.c (.int 1000001)) (.cons (.neg (.c (.int 1000000000000))) (.cons (.lst (.cons (.c (.int 4)) .nil)) .nil))))))))))) (.call 3 (.cons (.lr 1) (.cons (.c (.int 10)) .nil)))))
abbrev s8 : S := (.set 8 (.tup (.cons (.tup (.cons (.c (.int 3)) (.cons (.c (.int 3)) .nil))) (.cons (.tup (.cons (.c (.int 5)) (.cons (.c (.int 2)) .nil))) (.cons (.tup (.cons (.neg (.c (.int 1))) (.cons (.c (.int 4)) .nil))) (.cons (.tup (.cons (.c (.int 0)) (.cons (.c (.int 1000001)) .nil))) (.cons (.lst (.cons (.c (.int 0)) (.cons (.c (.int 4)) .nil))) (.cons (.tup (.cons (.c (.int 0)) (.cons (.c (.int 4)) (.cons (.c (.int 5)) .nil)))) (.cons (.tup (.cons (.c (.bl true)) (.cons (.c (.int 4)) .nil))) (.cons (.tup (.cons (.c (.int 0)) (.cons (.c .non) .nil))) (.cons (.c .non) (.cons (.tup (.cons (.c (.int 4)) .nil)) .nil))))))))))))
abbrev s9 : S := (.set 9 (.ixv 8 (.call 3 (.cons (.lr 1) (.cons (.c (.int 10)) .nil)))))
abbrev s10 : S := (.set 10 (.call 3 (.cons (.lr 1) (.cons (.c (.int 10)) .nil))))
abbrev s11 : S := (.set 11 (.call 6 (.cons (.v 2) .nil)))
abbrev s12 : S := (.for_ [12] (.seq (.v 11)) (.cons (.ift (.or_ (.cmp .nisb (.call 15 (.cons (.v 12) .nil)) (.c (.bl true))) (.or_ (.not_ (.call 9 (.cons (.call 16 (.cons (.v 12) .nil)) .nil))) (.cmp .ne (.call 16 (.cons (.v 12) .nil)) (.v 12)))) (.cons (.ret (.c (.bl false))) .nil) .nil) .nil))
abbrev s13 : S := (.for_ [13] (.seq (.tup (.cons (.v 3) (.cons (.v 4) .nil)))) (.cons (.set 14 (.lst (.cons (.call 14 (.cons (.v 13) .nil)) (.cons (.call 14 (.cons (.v 13) (.cons (.v 10) .nil))) .nil)))) (.cons (.ift (.or_ (.cmp .nisb (.call 13 (.cons (.v 13) .nil)) (.c (.bl true))) (.or_ (.cmp .ne (.v 14) (.lst (.cons (.v 13) (.cons (.v 13) .nil)))) (.not_ (.call 20 (.cons (.v 13) (.cons (.v 6) .nil)))))) (.cons (.ret (.c (.bl false))) .nil) .nil) .nil)))
abbrev s14 : S := (.ift (.or_ (.cmp .ne (.g 0) (.c (.int 1000000))) (.or_ (.not_ (.call 17 (.cons (.v 7) .nil))) (.or_ (.not_ (.call 18 (.cons (.v 9) (.cons (.neg (.c (.int 1))) .nil)))) (.not_ (.call 18 (.cons (.v 9) (.cons (.v 10) .nil))))))) (.cons (.ret (.c (.bl false))) .nil) .nil)
abbrev s15 : S := (.ret (.and_ (.call 11 (.cons (.v 3) (.cons (.v 4) (.cons (.v 11) .nil)))) (.call 11 (.cons (.v 4) (.cons (.v 3) (.cons (.v 11) .nil))))))

def badK (d : D) : Prop := okT d ∧ keyB d = false ∧ eqOk 59 d = true ∧ eqD d d = true
def badS (d : D) : Prop := okT d ∧ okI d ∧ strB d = false
theorem ten {x : Int} (h0 : 0 ≤ x) (h1 : x < 10) : x = 0 ∨ x = 1 ∨ x = 2 ∨ x = 3 ∨ x = 4 ∨ x = 5 ∨ x = 6 ∨ x = 7 ∨ x = 8 ∨ x = 9 := by omega
theorem good_turn (k : Int) (h0 : 0 ≤ k) (h1 : k < 1000000) : F15.run [.fz (.int k)] = .ok (.fz (.bl true)) [.fz (.int k)] ∧ F16.run [.fz (.int k)] = .ok (.fz (.int k)) [.fz (.int k)] ∧ F9.run [.fz (.int k)] = .ok (.fz (.bl true)) [.fz (.int k)] := by
  have e1 := run15 (.int k) trivial
  have e2 := run16 (.int k) trivial
  have hk : keyB (.int k) = true := by simp [keyB, h0, h1]
  rw [hk] at e1 e2
  exact ⟨e1, e2, run9 (.int k) trivial⟩
theorem str_turn (a b : Int) (p : D) (h0 : 0 ≤ a) (h1 : a < b) (h2 : b ≤ 1000000) : F13.run [.fz (st a b)] = .ok (.fz (.bl true)) [.fz (st a b)] ∧ F14.run [.fz (st a b), .fz p] = .ok (.fz (st a b)) [.fz (st a b), .fz p] := by
  have e1 := run13 (st a b) trivial ⟨trivial, trivial, trivial⟩
  have e2 := run14 (st a b) p trivial ⟨trivial, trivial, trivial⟩
  have hk : strB (st a b) = true := by simp [strB, h0, h1, h2]
  rw [hk] at e1 e2
  exact ⟨e1, e2⟩

theorem law_run (ns : List Int) (hl : ns.length ≤ 63) : ∃ outs, F21.run [.fz (.rol (ns.map D.int))] = .ok (.fz (.bl true)) outs := by
  have main : F21.Runs [.fz (.rol (ns.map D.int))] (fun r o => r = .fz (.bl true)) (fun _ _ => False) := by
    refine runs_of (d := d21) ?_
    show (exs P21 b21 [.fz (.rol (ns.map D.int)), .un, .un, .un, .un, .un, .un, .un, .un, .un, .un, .un, .un, .un, .un]).W _ _
    unfold b21
    have e0 := run0 ns hl
    have o0 : OkS (stm ns 0 0) := ⟨ns, 0, 0, rfl, hl, by omega, by omega, by omega⟩
    generalize stm ns 0 0 = t0 at e0 o0
    refine w_go (δ' := [.fz (.rol (ns.map D.int)), .lv t0, .un, .un, .un, .un, .un, .un, .un, .un, .un, .un, .un, .un, .un]) (by simp [exs, ex, ev, evs, evA, evI, isLr, useSl, putSl, moveSl, lookSl, liveSl, chgSl, fin, lpOk, callF, noDup, argSls, argSl, putBack, putAll, bindT, isTys, isTy, isN, L2.atI, L2.ixN, np0, dfl0, at21_0, e0]) ?_
    obtain ⟨g, t1, e1, hg, o1⟩ := run4 t0 o0
    refine w_go (δ' := [.fz (.rol (ns.map D.int)), .lv t1, .lv (g.map D.int), .un, .un, .un, .un, .un, .un, .un, .un, .un, .un, .un, .un]) (by simp [exs, ex, ev, evs, evA, evI, isLr, useSl, putSl, moveSl, lookSl, liveSl, chgSl, fin, lpOk, callF, noDup, argSls, argSl, putBack, putAll, bindT, isTys, isTy, isN, L2.atI, L2.ixN, np4, dfl4, at21_4, e1]) ?_
    obtain ⟨a, b, t2, e2, a0, a1, a2, o2⟩ := run5 t1 g o1 hg
    refine w_go (δ' := [.fz (.rol (ns.map D.int)), .lv t2, .fz (.lst (g.map D.int)), .fz (st a b), .un, .un, .un, .un, .un, .un, .un, .un, .un, .un, .un]) (by simp [exs, ex, ev, evs, evA, evI, isLr, useSl, putSl, moveSl, lookSl, liveSl, chgSl, fin, lpOk, callF, noDup, argSls, argSl, putBack, putAll, bindT, isTys, isTy, isN, L2.atI, L2.ixN, np5, dfl5, at21_5, e2]) ?_
    obtain ⟨c, d, t3, e3, c0, c1, c2, o3⟩ := run5 t2 g o2 hg
    refine w_go (δ' := [.fz (.rol (ns.map D.int)), .lv t3, .fz (.lst (g.map D.int)), .fz (st a b), .fz (st c d), .un, .un, .un, .un, .un, .un, .un, .un, .un, .un]) (by simp [exs, ex, ev, evs, evA, evI, isLr, useSl, putSl, moveSl, lookSl, liveSl, chgSl, fin, lpOk, callF, noDup, argSls, argSl, putBack, putAll, bindT, isTys, isTy, isN, L2.atI, L2.ixN, np5, dfl5, at21_5, e3]) ?_
    obtain ⟨wy, t4, e4, w0, w1, o4⟩ := run3 t3 10 o3 (by decide)
    refine w_go (δ' := [.fz (.rol (ns.map D.int)), .lv t4, .fz (.lst (g.map D.int)), .fz (st a b), .fz (st c d), .fz (.int wy), .un, .un, .un, .un, .un, .un, .un, .un, .un]) (by simp [exs, ex, ev, evs, evA, evI, isLr, useSl, putSl, moveSl, lookSl, liveSl, chgSl, fin, lpOk, callF, noDup, argSls, argSl, putBack, putAll, bindT, isTys, isTy, isN, L2.atI, L2.ixN, np3, dfl3, at21_3, e4]) ?_
    obtain ⟨y5, t5, e5, y0, y1, o5⟩ := run3 t4 (g.length : Int) o4 (by have := hg.len; omega)
    have ga := atI_map (g := g) (k := y5) y0 y1
    generalize g[y5.toNat]'(by omega) = gv at ga
    obtain ⟨y6, t6, e6, z0, z1, o6⟩ := run3 t5 3 o5 (by decide)
    refine w_go (δ' := [.fz (.rol (ns.map D.int)), .lv t6, .fz (.lst (g.map D.int)), .fz (st a b), .fz (st c d), .fz (.int wy), .fz (.int (gv + y6 - 1)), .un, .un, .un, .un, .un, .un, .un, .un]) (by simp [exs, ex, ev, evs, evA, evI, isLr, useSl, putSl, moveSl, lookSl, liveSl, chgSl, fin, lpOk, callF, noDup, argSls, argSl, putBack, putAll, bindT, isTys, isTy, isN, np3, dfl3, at21_3, e5, e6, ga]) ?_
    have e7 : ∃ bd, ex P21 s6 [.fz (.rol (ns.map D.int)), .lv t6, .fz (.lst (g.map D.int)), .fz (st a b), .fz (st c d), .fz (.int wy), .fz (.int (gv + y6 - 1)), .un, .un, .un, .un, .un, .un, .un, .un] = .ok .nx [.fz (.rol (ns.map D.int)), .lv t6, .fz (.lst (g.map D.int)), .fz (st a b), .fz (st c d), .fz (.int wy), .fz (.int bd), .un, .un, .un, .un, .un, .un, .un, .un] := by
      by_cases hw : 7 < wy
      · have k1 : -18446744073709551616 < wy - 8 ∧ wy - 8 < 18446744073709551616 := by constructor <;> omega
        exact ⟨_, by simp [s6, exs, ex, ev, evs, evA, evI, isLr, useSl, putSl, moveSl, lookSl, liveSl, chgSl, fin, lpOk, callF, noDup, argSls, argSl, putBack, putAll, bindT, isTys, isTy, isN, L2.atI, L2.ixN, hw, k1]; rfl⟩
      · exact ⟨_, by simp [s6, exs, ex, ev, evs, evA, evI, isLr, useSl, putSl, moveSl, lookSl, liveSl, chgSl, fin, lpOk, callF, noDup, argSls, argSl, putBack, putAll, bindT, isTys, isTy, isN, L2.atI, L2.ixN, hw]; rfl⟩
    obtain ⟨bd, e7⟩ := e7
    refine w_go e7 ?_
    obtain ⟨x7, t7, e8, u0, u1, o7⟩ := run3 t6 10 o6 (by decide)
    have e9 : ∃ kd, ex P21 s7 [.fz (.rol (ns.map D.int)), .lv t6, .fz (.lst (g.map D.int)), .fz (st a b), .fz (st c d), .fz (.int wy), .fz (.int bd), .un, .un, .un, .un, .un, .un, .un, .un] = .ok .nx [.fz (.rol (ns.map D.int)), .lv t7, .fz (.lst (g.map D.int)), .fz (st a b), .fz (st c d), .fz (.int wy), .fz (.int bd), .fz kd, .un, .un, .un, .un, .un, .un, .un] ∧ badK kd := by
      rcases ten u0 u1 with rfl | rfl | rfl | rfl | rfl | rfl | rfl | rfl | rfl | rfl
      · exact ⟨.int (-1), by simp [s7, exs, ex, ev, evs, evA, evI, isLr, useSl, putSl, moveSl, lookSl, liveSl, chgSl, fin, lpOk, callF, noDup, argSls, argSl, putBack, putAll, bindT, isTys, isTy, isN, L2.atI, L2.ixN, np3, dfl3, at21_3, e8, LIM], trivial, by decide +kernel, by decide +kernel, by decide +kernel⟩
      · exact ⟨.int 1000000, by simp [s7, exs, ex, ev, evs, evA, evI, isLr, useSl, putSl, moveSl, lookSl, liveSl, chgSl, fin, lpOk, callF, noDup, argSls, argSl, putBack, putAll, bindT, isTys, isTy, isN, L2.atI, L2.ixN, np3, dfl3, at21_3, e8, LIM], trivial, by decide +kernel, by decide +kernel, by decide +kernel⟩
      · exact ⟨.bl true, by simp [s7, exs, ex, ev, evs, evA, evI, isLr, useSl, putSl, moveSl, lookSl, liveSl, chgSl, fin, lpOk, callF, noDup, argSls, argSl, putBack, putAll, bindT, isTys, isTy, isN, L2.atI, L2.ixN, np3, dfl3, at21_3, e8, LIM], trivial, by decide +kernel, by decide +kernel, by decide +kernel⟩
      · exact ⟨.bl false, by simp [s7, exs, ex, ev, evs, evA, evI, isLr, useSl, putSl, moveSl, lookSl, liveSl, chgSl, fin, lpOk, callF, noDup, argSls, argSl, putBack, putAll, bindT, isTys, isTy, isN, L2.atI, L2.ixN, np3, dfl3, at21_3, e8, LIM], trivial, by decide +kernel, by decide +kernel, by decide +kernel⟩
      · exact ⟨.non, by simp [s7, exs, ex, ev, evs, evA, evI, isLr, useSl, putSl, moveSl, lookSl, liveSl, chgSl, fin, lpOk, callF, noDup, argSls, argSl, putBack, putAll, bindT, isTys, isTy, isN, L2.atI, L2.ixN, np3, dfl3, at21_3, e8, LIM], trivial, by decide +kernel, by decide +kernel, by decide +kernel⟩
      · exact ⟨.str "5", by simp [s7, exs, ex, ev, evs, evA, evI, isLr, useSl, putSl, moveSl, lookSl, liveSl, chgSl, fin, lpOk, callF, noDup, argSls, argSl, putBack, putAll, bindT, isTys, isTy, isN, L2.atI, L2.ixN, np3, dfl3, at21_3, e8, LIM], trivial, by decide +kernel, by decide +kernel, by decide +kernel⟩
      · exact ⟨.tup [.int 3], by simp [s7, exs, ex, ev, evs, evA, evI, isLr, useSl, putSl, moveSl, lookSl, liveSl, chgSl, fin, lpOk, callF, noDup, argSls, argSl, putBack, putAll, bindT, isTys, isTy, isN, L2.atI, L2.ixN, np3, dfl3, at21_3, e8, LIM], trivial, by decide +kernel, by decide +kernel, by decide +kernel⟩
      · exact ⟨.int 1000001, by simp [s7, exs, ex, ev, evs, evA, evI, isLr, useSl, putSl, moveSl, lookSl, liveSl, chgSl, fin, lpOk, callF, noDup, argSls, argSl, putBack, putAll, bindT, isTys, isTy, isN, L2.atI, L2.ixN, np3, dfl3, at21_3, e8, LIM], trivial, by decide +kernel, by decide +kernel, by decide +kernel⟩
      · exact ⟨.int (-1000000000000), by simp [s7, exs, ex, ev, evs, evA, evI, isLr, useSl, putSl, moveSl, lookSl, liveSl, chgSl, fin, lpOk, callF, noDup, argSls, argSl, putBack, putAll, bindT, isTys, isTy, isN, L2.atI, L2.ixN, np3, dfl3, at21_3, e8, LIM], trivial, by decide +kernel, by decide +kernel, by decide +kernel⟩
      · exact ⟨.lst [.int 4], by simp [s7, exs, ex, ev, evs, evA, evI, isLr, useSl, putSl, moveSl, lookSl, liveSl, chgSl, fin, lpOk, callF, noDup, argSls, argSl, putBack, putAll, bindT, isTys, isTy, isN, L2.atI, L2.ixN, np3, dfl3, at21_3, e8, LIM], trivial, by decide +kernel, by decide +kernel, by decide +kernel⟩
    obtain ⟨kd, e9, k1, k2, k3, k4⟩ := e9
    refine w_go e9 ?_
    refine w_go (δ' := [.fz (.rol (ns.map D.int)), .lv t7, .fz (.lst (g.map D.int)), .fz (st a b), .fz (st c d), .fz (.int wy), .fz (.int bd), .fz kd, .fz (.tup [st 3 3, st 5 2, st (-1) 4, st 0 1000001, .lst [.int 0, .int 4], .tup [.int 0, .int 4, .int 5], .tup [.bl true, .int 4], .tup [.int 0, .non], .non, .tup [.int 4]]), .un, .un, .un, .un, .un, .un]) (by simp [exs, ex, ev, evs, evA, evI, isLr, useSl, putSl, moveSl, lookSl, liveSl, chgSl, fin, lpOk, callF, noDup, argSls, argSl, putBack, putAll, bindT, isTys, isTy, isN, L2.atI, L2.ixN, LIM]) ?_
    obtain ⟨x8, t8, e10, u2, u3, o8⟩ := run3 t7 10 o7 (by decide)
    have e11 : ∃ td, ex P21 s9 [.fz (.rol (ns.map D.int)), .lv t7, .fz (.lst (g.map D.int)), .fz (st a b), .fz (st c d), .fz (.int wy), .fz (.int bd), .fz kd, .fz (.tup [st 3 3, st 5 2, st (-1) 4, st 0 1000001, .lst [.int 0, .int 4], .tup [.int 0, .int 4, .int 5], .tup [.bl true, .int 4], .tup [.int 0, .non], .non, .tup [.int 4]]), .un, .un, .un, .un, .un, .un] = .ok .nx [.fz (.rol (ns.map D.int)), .lv t8, .fz (.lst (g.map D.int)), .fz (st a b), .fz (st c d), .fz (.int wy), .fz (.int bd), .fz kd, .fz (.tup [st 3 3, st 5 2, st (-1) 4, st 0 1000001, .lst [.int 0, .int 4], .tup [.int 0, .int 4, .int 5], .tup [.bl true, .int 4], .tup [.int 0, .non], .non, .tup [.int 4]]), .fz td, .un, .un, .un, .un, .un] ∧ badS td := by
      rcases ten u2 u3 with rfl | rfl | rfl | rfl | rfl | rfl | rfl | rfl | rfl | rfl <;> exact ⟨_, by simp [s9, exs, ex, ev, evs, evA, evI, isLr, useSl, putSl, moveSl, lookSl, liveSl, chgSl, fin, lpOk, callF, noDup, argSls, argSl, putBack, putAll, bindT, isTys, isTy, isN, L2.atI, L2.ixN, np3, dfl3, at21_3, e10]; rfl, by trivial, by first | exact ⟨trivial, trivial, trivial⟩ | exact ⟨trivial, trivial, trivial, trivial⟩ | exact ⟨trivial, trivial⟩ | exact trivial, by decide⟩
    obtain ⟨td, e11, m1, m2, m3⟩ := e11
    refine w_go e11 ?_
    obtain ⟨pl, t9, e12, u4, u5, o9⟩ := run3 t8 10 o8 (by decide)
    refine w_go (δ' := [.fz (.rol (ns.map D.int)), .lv t9, .fz (.lst (g.map D.int)), .fz (st a b), .fz (st c d), .fz (.int wy), .fz (.int bd), .fz kd, .fz (.tup [st 3 3, st 5 2, st (-1) 4, st 0 1000001, .lst [.int 0, .int 4], .tup [.int 0, .int 4, .int 5], .tup [.bl true, .int 4], .tup [.int 0, .non], .non, .tup [.int 4]]), .fz td, .fz (.int pl), .un, .un, .un, .un]) (by simp [exs, ex, ev, evs, evA, evI, isLr, useSl, putSl, moveSl, lookSl, liveSl, chgSl, fin, lpOk, callF, noDup, argSls, argSl, putBack, putAll, bindT, isTys, isTy, isN, L2.atI, L2.ixN, np3, dfl3, at21_3, e12]) ?_
    obtain ⟨ks, e13, hk⟩ := run6 g (by have := hg.len; omega)
    refine w_go (δ' := [.fz (.rol (ns.map D.int)), .lv t9, .fz (.lst (g.map D.int)), .fz (st a b), .fz (st c d), .fz (.int wy), .fz (.int bd), .fz kd, .fz (.tup [st 3 3, st 5 2, st (-1) 4, st 0 1000001, .lst [.int 0, .int 4], .tup [.int 0, .int 4, .int 5], .tup [.bl true, .int 4], .tup [.int 0, .non], .non, .tup [.int 4]]), .fz td, .fz (.int pl), .lv (ks.map D.int), .un, .un, .un]) (by simp [exs, ex, ev, evs, evA, evI, isLr, useSl, putSl, moveSl, lookSl, liveSl, chgSl, fin, lpOk, callF, noDup, argSls, argSl, putBack, putAll, bindT, isTys, isTy, isN, L2.atI, L2.ixN, np6, dfl6, at21_6, e13]) ?_
    rw [w_scons, w_for, w_seq, w_v]
    simp only [useSl, List.getElem?_cons_succ, List.getElem?_cons_zero, w_ok, e_dfz, e_items1, List.set_cons_succ, List.set_cons_zero]
    refine ⟨_, rfl, ?_⟩
    refine for_inv (fun xs δ => ∃ (qs : List Int) (v : Sl), xs = qs.map D.int ∧ plainS v ∧ okK qs ∧ δ = [.fz (.rol (ns.map D.int)), .lv t9, .fz (.lst (g.map D.int)), .fz (st a b), .fz (st c d), .fz (.int wy), .fz (.int bd), .fz kd, .fz (.tup [st 3 3, st 5 2, st (-1) 4, st 0 1000001, .lst [.int 0, .int 4], .tup [.int 0, .int 4, .int 5], .tup [.bl true, .int 4], .tup [.int 0, .non], .non, .tup [.int 4]]), .fz td, .fz (.int pl), .fz (.lst (ks.map D.int)), v, .un, .un]) (fun x xs δ hJ => ?_) (fun δ hJ => ?_) _ _ ⟨ks, .un, rfl, .inl rfl, hk, rfl⟩
    · obtain ⟨qs, v, q1, hv, hq, rfl⟩ := hJ
      match qs, q1 with
      | k :: qs, q1 =>
        rw [List.map_cons] at q1
        cases q1
        obtain ⟨h0, h1⟩ := hq k (List.mem_cons_self ..)
        obtain ⟨f1, f2, f3⟩ := good_turn k h0 h1
        refine ⟨[.fz (.rol (ns.map D.int)), .lv t9, .fz (.lst (g.map D.int)), .fz (st a b), .fz (st c d), .fz (.int wy), .fz (.int bd), .fz kd, .fz (.tup [st 3 3, st 5 2, st (-1) 4, st 0 1000001, .lst [.int 0, .int 4], .tup [.int 0, .int 4, .int 5], .tup [.bl true, .int 4], .tup [.int 0, .non], .non, .tup [.int 4]]), .fz td, .fz (.int pl), .fz (.lst (ks.map D.int)), .fz (.int k), .un, .un], by rcases hv with rfl | ⟨q, rfl⟩ <;> rfl, ?_⟩
        simp [exs, ex, ev, evs, evA, evI, isLr, useSl, putSl, moveSl, lookSl, liveSl, chgSl, fin, lpOk, callF, noDup, argSls, argSl, putBack, putAll, bindT, isTys, isTy, isN, L2.atI, L2.ixN, np9, dfl9, at21_9, np15, dfl15, at21_15, np16, dfl16, at21_16, f1, f2, f3, Rs.W]
        exact ⟨qs, rfl, .inr ⟨_, rfl⟩, fun x hx => hq x (List.mem_cons_of_mem _ hx)⟩
    · obtain ⟨qs, v, q1, hv, hq, rfl⟩ := hJ
      have tt : ∀ u z : Int, 0 ≤ u → u < z → z ≤ 1000000 → ∀ (S1 S2 : Sl), plainS S1 → (S2 = .un ∨ ∃ l, S2 = .lv l ∨ S2 = .fz (.lst l)) → True := fun _ _ _ _ _ _ _ _ _ => trivial
      rw [w_scons, w_for, w_seq, w_tup, w_cons, w_v]
      simp only [useSl, List.getElem?_cons_succ, List.getElem?_cons_zero, w_ok, w_cons, w_v, w_nil, e_dfz, e_items2]
      refine ⟨Nat.le_of_ble_eq_true rfl, _, rfl, ?_⟩
      obtain ⟨f1, f2⟩ := str_turn a b (.int 0) a0 a1 a2
      obtain ⟨_, f3⟩ := str_turn a b (.int pl) a0 a1 a2
      obtain ⟨g1, g2⟩ := str_turn c d (.int 0) c0 c1 c2
      obtain ⟨_, g3⟩ := str_turn c d (.int pl) c0 c1 c2
      have f4 := run20 a b bd a0 a1 a2
      have g4 := run20 c d bd c0 c1 c2
      have f5 := run17 kd k1 k2 k3 k4
      have f6 := run18 td (-1) m1 m2 m3
      have f7 := run18 td pl m1 m2 m3
      have f8 := run11 a b c d ks a1
      have f9 := run11 c d a b ks c1
      simp [exs, ex, ev, evs, evA, evI, isLr, useSl, putSl, moveSl, lookSl, liveSl, chgSl, fin, lpOk, callF, noDup, argSls, argSl, putBack, putAll, bindT, isTys, isTy, isN, L2.atI, L2.ixN, forGo, np13, dfl13, at21_13, np14, dfl14, at21_14, np20, dfl20, at21_20, np17, dfl17, at21_17, np18, dfl18, at21_18, np11, dfl11, at21_11, f1, f2, f3, f4, g1, g2, g3, g4, f5, f6, f7, f8, f9, LIM, hd, Hd.gl, e_eqg, e_neg, q_non, q_bl, q_int, q_lst, q_tup, q_nil, q_cons, q_onon, q_obl, q_oint, q_olst', q_otup', q_otup9, q_olst9, q_onil, q_ocons, Rs.W]
  obtain ⟨r, o, e, rfl⟩ := runs_ex main
  exact ⟨o, e⟩
theorem FL_eq : FL = F21 := rfl
end LW

end
theorem PySem.Challenge.cw_leastshelf_k09_stretches_holds : PySem.Challenge.rw_leastshelf_k09_stretches.Holds := by
  exact k09_of LW.law_run
