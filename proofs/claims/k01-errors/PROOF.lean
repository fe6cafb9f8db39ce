import PyProof.Rows.All
import Wide.All
import OpenK.AllK
import Wide.FinOn
import KE.KExcSuper
import HandS.ForExc
import HandS.ExcInit
import HandS.Nested
import HandS.MakeKw
import HandS.HeadHook1
import HandS.ExcValue
import HandS.ExcIs
import HandS.ExcField
import HandS.IsInst
import HandS.ForMost
import HandS.Defaults
import HandS.Head0
import HandS.Head1
import HandS.Head2
import HandS.Head3
import HandS.HeadEnd
import HandS.HeadHook2
import HandS.Exc
import HandS.HotCalls
import HandS.Wide
import HandS.NoneIn
import HandS.Conv
import HandS.TupLe
import PySem.Challenge.RW_thingtongue_k01_errors_each_of_its_own
set_option Elab.async false
set_option linter.all false
set_option maxRecDepth 100000
set_option maxHeartbeats 0
/-! ES: an own exception class whose __init__ says super().__init__(..) and stores its parameters. -/
namespace ES
open PySem PySem.Spec PyProof.Rows L2 NdefX
abbrev exO (C : Addr) (d : Option Addr) (t : Addr) : Obj := { cls := .ref C, dict := d, data := .fields #[.ref t, .none, .none, .none, .bool false, .none] }
section
variable {prog : Program} {w : World} {A : Around} {E : Value → Shared → Prop} {h : Heap} {g : Array GenState} {dr : Drawn} {t : Nat} {os : OsState}
/-- the bound ValueError.__init__ called -/
theorem call_mw {u x C t0 : Addr} {nm qn : Str} {N : Addr} {bs bm : List Value} {hdct : Bool} {sn : List Str} {sub : List Value} {ab : Bool} {col : Option Bool} {dd : Option Addr} {k0 k1 k2 k3 k5 : Option Value} {d : Option Addr} {rest : List Value} {Q : Value → Shared → Prop}
    (hC : h.get? C = some (excClassObj nm qn C N bs bm hdct sn sub ab col dd k0 k1 k2 k3 k5 "ValueError.__new__")) (hu : h.get? u = some (PySem.W.kxs_mw "ValueError.__init__" x)) (he : h.get? x = some (exO C d t0)) (hz : rest.length ≤ sizeLine)
    (hq : ∀ h' t1, (∀ b o, b ≠ x → h.get? b = some o → h'.get? b = some o) → h'.get? x = some (exO C d t1) → Q .none ⟨h', g, dr, t, os⟩) :
    wpAny (model prog w) A (call (.ref u) rest) Q E ⟨h, g, dr, t, os⟩ := by
  refine wpAny_call (codeAny_of_tree ?_)
  show wpAny _ A.in1 (callAny (.ref u) ⟨rest, []⟩) _ _ _
  simp only [callAny]
  refine wpAny_bind (wpAny_load hu ?_)
  simp only [PySem.W.kxs_mw, show (Value.type "method-wrapper" == Value.type "method" || Value.type "method-wrapper" == Value.type "builtin_function_or_method" || Value.type "method-wrapper" == Value.type "method-wrapper") = true by decide, if_true]
  refine PySem.W.KFB.if_so (by decide) ?_
  refine wpAny_bind (PySem.W.check_bound_init F.excBase_ValueError.toExcCallFacts hC he rfl ?_)
  refine wpAny_bind (wpAny_pure (wpAny_pure ?_))
  refine ⟨plainId_quiet F.excBase_ValueError.init.plain _, codeAny_builtin F.excBase_ValueError.initEntry ?_⟩
  exact PySem.W.exc_init_tree (cls := .ref C) (t0 := t0) (dv := d) (c2 := .none) (c3 := .none) (b4 := .bool false) he hz fun h' k e' _ => hq h' _ k e'
end
/-- what the written part says of such a class, beside OexC -/
structure SupC (P : Program) (K : PySem.W.Frag) (mg : Str → Option Value) (C cc cd : Addr) : Prop where
  ex : OexC K C
  cell : ∃ cl cld csl, K.lookup cc = some ⟨cl, cld, .cell (some (.ref C)), csl⟩
  code : ∃ ccl cdd vs ccs file tf, K.lookup cd = some ⟨ccl, cdd, .fields vs, ccs⟩ ∧ vs[2]? = some (.str file tf) ∧ ((P.main.file : Str) == file) = true
  top : (P.main.scope.names.lookup ("super" : Str)).isSome = false
  stat : PySem.W.nsIn K cStatics "thirdparty.any" = some none
  mro : PySem.W.mroIn K C (.ref C) = some true
  sup : PySem.W.ks_superIn K C C "__init__" = some (some (.builtin "ValueError.__init__"))
  sub : PySem.W.subIn K (.ref C) (.type "ValueError") = some true
  gs : mg "super" = none
section
variable {X : Cx} {pins : List (Addr × Obj)} {σ : L2.St} {H : Hp} {s : Shared}
theorem exo_back {a C t1 : Addr} {h' : Heap} {g : Array GenState} {d' : Drawn} {t' : Nat} {os : OsState} {hp : Heap} (I : Inv X pins σ H ⟨hp, g, d', t', os⟩) (e : H a = some (exo a C none))
    (k : ∀ b o, b ≠ a → hp.get? b = some o → h'.get? b = some o) (hx : h'.get? a = some (exO C none t1)) : Inv X pins σ H ⟨h', g, d', t', os⟩ := by
  have J := I.write (t' := t') (x := a) (e := a) (o := exo a C none) (by rw [e]; exact True.intro) (.inl rfl) k ⟨_, hx⟩ (exo_ok hx)
  have eu : upd H a (exo a C none) = H := by
    funext b
    by_cases hb : b = a
    · rw [hb, upd_same, e]
    · rw [upd_ne hb]
  rw [eu] at J
  exact J
/-- super().__init__(e, ..) -/
theorem sup_stmt {F : NF} {fI L C cc : Addr} {body : List Stmt} {e : Expr} {es : List Expr} {ta : TA} {p0 p1 p2 p3 p4 : Pos} {ar : Arg} {a : Addr} {fd : FuncData} {oc : Value} {od : Option Addr} {osl : Array (Option Value)} {Q : Flow → Shared → Prop} {E : Value → Shared → Prop} {pl : Sem Bool} {R : List V → Hp → Prop}
    (hE : X.env = envF F fI L) (hcl : F.cl = [(("__class__" : Str), cc)]) (S : SupC X.prog X.K X.mg C cc F.c) (lk : X.K.lookup fI = some ⟨oc, od, .func fd, osl⟩) (hp : (fd.params.posonlyargs ++ fd.params.args).head? = some ar) (h0 : X.N[0]? = some ar.arg) (hσ : σ[0]? = some (some (.ref a)))
    (hks : F.scope.names.lookup ("super" : Str) = some .globalImplicit) (hkc : F.scope.names.lookup ("__class__" : Str) = some .free) (hka : F.scope.names.lookup ar.arg = some .local)
    (I : Inv X pins σ H s) (ea : H a = some (exo a C none)) (ha : PA X (e :: es) ta)
    (hq0 : ta σ H R) (hR : ∀ vs H1, R vs H1 → vs.length ≤ 1000 ∧ H1 a = some (exo a C none) ∧ ∀ s', L2.Inv X pins σ H1 s' → Q .next s')
    (hEx : ∀ v s, X.xe v s → E v s)
    (hcall : eval (.Call (.Attribute (.Call (.Name "super" p0) [] [] p1) "__init__" p2) (e :: es) [] p3) X.env = (do
      let ov ← attributeBase (.Call (.Name "super" p0) [] [] p1) "__init__" X.env (eval (.Call (.Name "super" p0) [] [] p1) X.env)
      standAt p2.atName
      let (f, first) ← holding [ov] (getMethod ov "__init__" pl)
      callWith p3 f first (backTo p3 (starEach (e :: es) X.env)) []))
    (hsw : swapsWith (.Call (.Attribute (.Call (.Name "super" p0) [] [] p1) "__init__" p2) (e :: es) [] p3) none p4.line X.env = pure false)
    (hst : starEach (e :: es) X.env = (false, eval e X.env) :: starEach es X.env) (hpl : (backTo p3 (starEach es X.env)).any (·.1) = false) :
    PySem.wpAt (model X.prog X.w) X.A (.func body X.env) (exec (.Expr (.Call (.Attribute (.Call (.Name "super" p0) [] [] p1) "__init__" p2) (e :: es) [] p3) p4) X.env) Q E s := by
  obtain ⟨nm, qn, N, bs, bm, sn, sub, ab, col, dd, k0, k1, k2, k3, k5, hC, hbm⟩ := S.ex.cls
  have hcd : PySem.W.clsIn X.K C = some { name := nm, bases := bs, mro := .ref C :: bm, ns := N, qualname := qn, hasDict := true, slotNames := sn, subclasses := sub, abstract := ab, collection := col, hasDel := false } := by unfold PySem.W.clsIn; rw [hC] <;> rfl
  obtain ⟨cl, cld, csl, hcell⟩ := S.cell
  obtain ⟨ccl, cdd, vs, ccs, file, tf, hcode, hvs, hfile⟩ := S.code
  obtain ⟨t1, hx⟩ := exo_at I.hok ea
  have XK := I.kIn
  have hCs : s.heap.get? C = _ := XK _ _ hC
  have hkind : F.scope.kind = .function := by
    have := I.ok.kind
    rw [hE] at this
    exact this
  refine ks_wpAt_Expr_any (ks_wpAt_MethodCall (pl := pl) ?_ hcall) I.quiet hsw
  refine ks_wpAt_super_base (f := fI) (cc := F.c) (ar := ar) (by rw [hE]; exact hks) (by rw [hE]; exact hkc) (by decide) (by rw [hE]) (XK _ _ lk) rfl hp (by rw [hE]) (XK _ _ hcode) rfl hvs hfile S.top ?_
  obtain ⟨mb, hb1, hb2⟩ := I.mod.blt
  refine PySem.W.ks_loadName_global I.ok.kind (by rw [hE]; exact hks) (Calls.loadGlobal_builtin (by rw [I.ok.glob]; exact I.mod.glob.keeps I.bk) S.gs (by rw [I.ok.blt]; exact hb1.keeps I.bk) ((hb2 "super" (by decide)).trans (by decide +kernel)) ⟨rfl, ?_⟩)
  refine wpAny_loadName_free I.ok.kind (by rw [hE]; exact hkc) (c := cc) (by rw [hE]; show F.cl.lookup _ = _; rw [hcl]; rfl) ⟨_, XK _ _ hcell, rfl⟩ ?_
  obtain ⟨m, hm, hl⟩ := I.loc
  obtain ⟨u, hu, lo⟩ := hl 0 ar.arg (.ref a) h0 hσ (.inl (by rw [hE]; exact hka))
  obtain rfl : u = Value.ref a := hu
  have hml : m ar.arg = some (.ref a) := by
    rcases lo with ⟨_, z⟩ | ⟨z, _⟩
    · exact z
    · rw [hE] at z
      have z' : F.scope.names.lookup ar.arg = some .cell ∨ F.scope.names.lookup ar.arg = some .free := z
      rw [hka] at z'
      rcases z' with z' | z' <;> cases z'
  refine wpAny_loadName_local I.ok.kind (by rw [hE]; exact hka) hm hml ?_
  obtain ⟨hh, g, d, t, os⟩ := s
  refine ks_wpAny_isType_cls hCs rfl ⟨rfl, ?_⟩
  refine ks_wpAny_call_super hCs rfl hx rfl (fun c z => nomatch z) (PySem.W.looks_mroIn XK S.mro) (fun h1 e1 kk1 => ?_)
  have I1 : Inv X pins σ H ⟨h1, g, d, t, os⟩ := I.kept kk1
  have XK1 := I1.kIn
  have hx1 := kk1 _ _ hx
  have I0 : PySem.W.InstAt h1 a _ C none := ⟨hx1, rfl, rfl, trivial⟩
  refine PySem.W.kxs_getMethod PySem.W.kxs_ValueError e1 (PySem.W.looks_opaque XK1 S.stat) (l₀ := .ref C :: bm) (l := ((Value.ref C :: bm).dropWhile (· != .ref C)).drop 1) ?_ rfl XK1 ?_ (I0.type.andThen (PySem.W.looks_subIn XK1 S.sub)) (PySem.W.ks_ne XK1 I0 hcd) (by decide) ?_
  · exact fun A Q E s k q => wpAny_bind ((PySem.W.looks_clsIn XK1 hcd) A _ E s k (wpAny_pure q))
  · have z := S.sup
    unfold PySem.W.ks_superIn at z
    rw [hcd] at z
    exact z
  have kk2 : ∀ b o, h1.get? b = some o → (h1.push (PySem.W.kxs_mw "ValueError.__init__" a)).get? b = some o := fun b o z => Heap.get?_push_of_some _ z
  have I2 : Inv X pins σ H ⟨h1.push (PySem.W.kxs_mw "ValueError.__init__" a), g, d, t + 1, os⟩ := I1.kept (t' := t + 1) kk2
  have hu2 : (h1.push (PySem.W.kxs_mw "ValueError.__init__" a)).get? h1.objs.size = some (PySem.W.kxs_mw "ValueError.__init__" a) := Heap.get?_push_at rfl rfl
  have ea2 : H a = some (exo a C none) := ea
  show wpAny _ _ (callWith p3 (.ref h1.objs.size) [] (backTo p3 (starEach (e :: es) X.env)) []) _ _ _
  refine PySem.W.kxs_callWith (i := "ValueError.__init__") (x := a) (by rw [hst]; show (false || (backTo p3 (starEach es X.env)).any (·.1)) = false; rw [hpl]; rfl) ?_
  rw [hst]
  refine Calls.evalArgs_plain ?_
  show wpAny _ _ (spliced (backTo p3 ((false, eval e X.env) :: starEach es X.env))) _ _ _
  rw [← hst]
  have fu : h1.objs.size ∉ X.fs := I1.nofs (Nat.le_refl _)
  have nu : H h1.objs.size = none := I1.hok.fresh (Nat.le_refl _)
  have lu : h1.objs.size ≠ X.env.locals := Nat.ne_of_gt I1.lt
  have I2p : L2.Inv X (pins ++ [(h1.objs.size, PySem.W.kxs_mw "ValueError.__init__" a)]) σ H ⟨h1.push (PySem.W.kxs_mw "ValueError.__init__" a), g, d, t + 1, os⟩ := I2.pins_of fun p hp => by
    rcases List.mem_append.mp hp with hp | hp
    · exact I2.pin p (List.mem_append_right _ hp)
    · obtain rfl := List.mem_singleton.mp hp
      exact ⟨hu2, nu, lu, fu, fun v z => nomatch z⟩
  refine wpAny_mono (ha.run p3 _ _ σ H _ I2p hq0) (fun us s3 h3 => ?_) hEx
  obtain ⟨vs3, H3, I3p, r3, hr3⟩ := h3
  obtain ⟨hz3, ea3, q3⟩ := hR _ _ hr3
  have hu3 := (I3p.pin (h1.objs.size, PySem.W.kxs_mw "ValueError.__init__" a) (List.mem_append_right _ (List.mem_append_right _ (List.mem_singleton.mpr rfl)))).1
  have I3 : L2.Inv X pins σ H3 s3 := I3p.pins_of fun p hp => I3p.pin p (List.mem_append_right _ (List.mem_append_left _ hp))
  obtain ⟨t3, hx3⟩ := exo_at I3.hok ea3
  have hC3 := I3.kIn _ _ hC
  refine ⟨hu3, ?_⟩
  obtain ⟨h4, g4, d4, t4, os4⟩ := s3
  refine call_mw hC3 hu3 hx3 (by show us.length ≤ sizeLine; rw [← Paired.length r3, sizeLine_eq]; omega) fun h' t5 k5 hx5 => ?_
  exact q3 _ (exo_back I3 ea3 k5 hx5)
end
section
variable {P : Program} {w : World} {K : PySem.W.Frag} {mg : Str → Option Value} {base : Heap}
/-- THE RULE for such an __init__ -/
theorem init_ok {F : NF} {fI C cc : Addr} {N ps : List Str} {k : Nat} {sp : Sp} {e : Expr} {es : List Expr} {rest : List Stmt} {p0 p1 p2 p3 p4 : Pos} {ar : Arg} {oc : Value} {od : Option Addr} {osl : Array (Option Value)} {kV doc pm ctv : Value} {an : Option Addr}
    (hcl : F.cl = [(("__class__" : Str), cc)]) (S : SupC P K mg C cc F.c) (lk : K.lookup fI = some ⟨oc, od, .func (PySem.W.fnX F.name F.qual F.params F.body F.scope F.cl .none kV doc pm an (.ref F.c) ctv), osl⟩) (hcd : PySem.W.codeIn K (.ref F.c) F.qual = true)
    (SC : NScope N ps [("__class__" : Str)] F.scope) (hbody : F.body = .Expr (.Call (.Attribute (.Call (.Name "super" p0) [] [] p1) "__init__" p2) (e :: es) [] p3) p4 :: rest) (hp : (F.params.posonlyargs ++ F.params.args).head? = some ar) (h0 : ps[0]? = some ar.arg)
    (hks : F.scope.names.lookup ("super" : Str) = some .globalImplicit)
    (len : ∀ vs H Q E, sp vs H Q E → vs.length = ps.length)
    (hb : ∀ (A : Around) (outer : List Env) (s : Shared) (H : Hp) (vs : List V) (Q : VK) (E : XK), Room k (A.deeper (envF F fI s.heap.objs.size)) → sp vs H Q E →
      ∃ a ta tr, vs[0]? = some (.ref a) ∧ H a = some (exo a C none) ∧ PA (ncx CX0 P w K mg base N F fI A outer s H E) (e :: es) ta ∧ PSs (ncx CX0 P w K mg base N F fI A outer s H E) rest tr ∧
        (starEach (e :: es) (envF F fI s.heap.objs.size) = (false, eval e (envF F fI s.heap.objs.size)) :: starEach es (envF F fI s.heap.objs.size)) ∧ ((backTo p3 (starEach es (envF F fI s.heap.objs.size))).any (·.1) = false) ∧
        (∃ pl : Sem Bool, eval (.Call (.Attribute (.Call (.Name "super" p0) [] [] p1) "__init__" p2) (e :: es) [] p3) (envF F fI s.heap.objs.size) = (do
          let ov ← attributeBase (.Call (.Name "super" p0) [] [] p1) "__init__" (envF F fI s.heap.objs.size) (eval (.Call (.Name "super" p0) [] [] p1) (envF F fI s.heap.objs.size))
          standAt p2.atName
          let (f, first) ← holding [ov] (getMethod ov "__init__" pl)
          callWith p3 f first (backTo p3 (starEach (e :: es) (envF F fI s.heap.objs.size))) [])) ∧
        (swapsWith (.Call (.Attribute (.Call (.Name "super" p0) [] [] p1) "__init__" p2) (e :: es) [] p3) none p4.line (envF F fI s.heap.objs.size) = pure false) ∧
        ta (startF N vs [some (.ref C)]) H fun vs' H1 => vs'.length ≤ 1000 ∧ H1 a = some (exo a C none) ∧ tr { nx := fun _ H' => Q .non H', rt := Q } (startF N vs [some (.ref C)]) H1) :
    FnOk P w K mg base CX0 (k + 1) fI (PySem.W.fnX F.name F.qual F.params F.body F.scope F.cl .none kV doc pm an (.ref F.c) ctv) ps sp := by
  refine ⟨len, fun A outer s H args us vs Q E hr e0 hbd r hsp => ?_⟩
  have hl := len _ _ _ _ hsp
  have lim : s.heap.NoLimit := e0.mod.nolimit.keeps fun b o e => (e0.bs b o e).1
  have bk : ∀ b o, base.get? b = some o → s.heap.get? b = some o := fun b o e => (e0.bs b o e).1
  have KX : K.In s.heap := e0.mod.kin.keeps bk
  refine ks_codeAny_call_defAt (body := F.body) hr.depth (KX _ _ lk) rfl lim (PySem.W.codeRec_of KX hcd) rfl hbd SC.nocell (fun ⟨n, _⟩ hy => SC.par n (List.of_mem_zip hy).1) (fun h₁ hns kp => ?_) SC.co SC.gen SC.kind
  obtain ⟨cl, cld, csl, hcell⟩ := S.cell
  have hcB : base.get? cc = some ⟨cl, cld, .cell (some (.ref C)), csl⟩ := e0.mod.kin _ _ hcell
  have hcC : s.heap.IsCell cc (some (.ref C)) := ⟨_, bk _ _ hcB, rfl⟩
  have CA : CellsAt F.cl [("__class__" : Str)] [some (V.ref C)] s.heap H := by
    rw [hcl]
    refine ⟨rfl, fun y c hy => ?_, fun x y c hx hy => ?_, fun i y hi => ?_⟩
    · obtain ⟨rfl, rfl⟩ : y = ("__class__" : Str) ∧ c = cc := by
        have z := mem_of_lookup hy
        have z2 := List.mem_singleton.mp z
        exact Prod.mk.inj z2
      exact ⟨(e0.bs _ _ hcB).2, _, hcC⟩
    · have z1 := (Prod.mk.inj (List.mem_singleton.mp (mem_of_lookup hx))).1
      have z2 := (Prod.mk.inj (List.mem_singleton.mp (mem_of_lookup hy))).1
      rw [z1, z2]
    · cases i with
      | zero =>
        have z : ("__class__" : Str) = y := Option.some.inj hi
        subst z
        refine ⟨cc, rfl, fun v hv => ?_⟩
        have z : V.ref C = v := Option.some.inj (Option.some.inj hv)
        subst z
        exact ⟨_, rfl, hcC⟩
      | succ n => simp at hi
  have I : L2.Inv (ncx CX0 P w K mg base N F fI A outer s H E) [] (startF N vs [some (.ref C)]) H { s with heap := h₁, toks := s.toks + (ps.zip us).length } := inv_startN SC hr.hd e0 hl r CA hns kp
  obtain ⟨a, ta, tr, hva, ea, pa, ps', hst, hpl, ⟨pl, hcall⟩, hsw, hq⟩ := hb A outer s H vs Q E (hr.deeper _) hsp
  have fin : ∀ {σ' : L2.St} {H' : Hp} {v : V} {u : Value} {s' : Shared}, L2.Inv (ncx CX0 P w K mg base N F fI A outer s H E) [] σ' H' s' → L2.RelV v u → Q v H' → CE outer P w H s Q u s' :=
    fun {σ' H' v u s'} J rv q => ⟨v, H', J.os, J.bare, J.base, J.hok, rv, q⟩
  have hN0 : N[0]? = some ar.arg := by
    have z : (N.take (ps.length + 1))[0]? = (ps ++ [("__class__" : Str)])[0]? := congrArg (·[0]?) SC.pre
    rw [List.getElem?_take_of_lt (by omega)] at z
    rw [z]
    cases ps with
    | nil => cases h0
    | cons x r => exact h0
  have hs0 : (startF N vs [some (.ref C)])[0]? = some (some (V.ref a)) := by
    unfold startF
    cases vs with
    | nil => cases hva
    | cons x r =>
      have z : x = V.ref a := Option.some.inj hva
      rw [z] <;> rfl
  have e_ : execs F.body (envF F fI s.heap.objs.size) = execs (.Expr (.Call (.Attribute (.Call (.Name "super" p0) [] [] p1) "__init__" p2) (e :: es) [] p3) p4 :: rest) (envF F fI s.heap.objs.size) := by rw [hbody]
  show PySem.wpAt _ (A.deeper (envF F fI s.heap.objs.size)) (.func F.body (envF F fI s.heap.objs.size)) (execs F.body (envF F fI s.heap.objs.size)) _ _ _
  rw [e_]
  refine ks_wpAt_execs_cons ?_
  have har : F.scope.names.lookup ar.arg = some .local := SC.par _ (List.mem_of_getElem? h0)
  refine sup_stmt (X := ncx CX0 P w K mg base N F fI A outer s H E) (F := F) (L := s.heap.objs.size) (a := a) (ar := ar) (pl := pl) rfl hcl S lk hp hN0 hs0 hks (SC.frk _ (List.mem_singleton.mpr rfl)) har I ea pa hq (fun vs' H1 hr1 => ⟨hr1.1, hr1.2.1, fun s' J => ?_⟩) (fun v s z => z) hcall hsw hst hpl
  refine wpAt_of_wpAny (wpAny_mono (ps'.run [] s' _ H1 _ J hr1.2.2) (fun fl s'' hs => ?_) fun e s'' z => z)
  cases fl with
  | ret u =>
    obtain ⟨v, σ', H', J, rv, q⟩ := hs
    exact fin J rv q
  | next =>
    obtain ⟨σ', H', J, q⟩ := hs
    exact fin (v := V.non) (u := Value.none) J rfl q
  | brk =>
    obtain ⟨_, _, _, q⟩ := hs
    exact False.elim q
  | cont =>
    obtain ⟨_, _, _, q⟩ := hs
    exact False.elim q
end
end ES
namespace ES
open PySem PySem.Spec PyProof.Rows L2 NdefX
theorem meth_eq {env : Env} {o : Expr} {nm : Str} {es : List Expr} {ap pos : Pos} (hln : (ap.endLine == pos.line) = true) (hf : methodCallForm es.length (backTo pos (starEach es env)) (backToKw pos (keywordEach [] env)) = true) : ∃ pl, eval (.Call (.Attribute o nm ap) es [] pos) env = (do
      let ov ← attributeBase o nm env (eval o env)
      standAt ap.atName
      let (f, first) ← holding [ov] (getMethod ov nm pl)
      callWith pos f first (backTo pos (starEach es env)) []) := by
  refine ⟨(do return (← importBound o env).getD true), ?_⟩
  show (do
    let ov ← attributeBase o nm env (eval o env)
    standAt ap.atName
    methodCall o nm ap pos env ov (es.length + 0) (backTo pos (starEach es env)) (backToKw pos (keywordEach [] env))) = _
  unfold methodCall calleeOf methodCallPos
  rw [Nat.add_zero, hf, hln]
  rfl
section
variable {P : Program} {w : World} {K : PySem.W.Frag} {mg : Str → Option Value} {base : Heap}
/-- the promise of __init__(self, p): the fields, in the order of the last store first -/
def spE1 (C : Addr) (p : Str) : Sp := fun vs H Q _ => ∃ (a : Addr) (v : V), vs = [.ref a, v] ∧ H a = some (exo a C none) ∧ ∀ d, H d = none → d ≠ a → Q .non (upd (upd H d (exd d [(p, v)])) a (exo a C (some d)))
def spE2 (C : Addr) (p q : Str) : Sp := fun vs H Q _ => ∃ (a : Addr) (v u : V), vs = [.ref a, v, u] ∧ H a = some (exo a C none) ∧ ∀ d, H d = none → d ≠ a → Q .non (upd (upd (upd H d (exd d [(p, v)])) a (exo a C (some d))) d (exd d [(q, u), (p, v)]))
theorem init1 {F : NF} {fI C cc : Addr} {p : Str} {p0 p1 p2 p3 p4 q0 q1 q2 q3 q4 : Pos} {r0 r1 : Arg} {oc : Value} {od : Option Addr} {osl : Array (Option Value)} {kV doc pm ctv : Value} {an : Option Addr}
    (hcl : F.cl = [(("__class__" : Str), cc)]) (S : SupC P K mg C cc F.c) (lk : K.lookup fI = some ⟨oc, od, .func (PySem.W.fnX F.name F.qual F.params F.body F.scope F.cl .none kV doc pm an (.ref F.c) ctv), osl⟩) (hcd : PySem.W.codeIn K (.ref F.c) F.qual = true)
    (SC : NScope ["self", p, "__class__"] ["self", p] [("__class__" : Str)] F.scope)
    (hbody : F.body = [.Expr (.Call (.Attribute (.Call (.Name "super" p0) [] [] p1) "__init__" p2) [.Name p q0] [] p3) p4, .Assign [.Attribute (.Name "self" q1) p q2] (.Name p q3) q4])
    (hpar : F.params.posonlyargs ++ F.params.args = [r0, r1]) (h0 : r0.arg = "self") (hks : F.scope.names.lookup ("super" : Str) = some .globalImplicit) (hno : PySem.W.findIn K (.ref C) p = some none)
    (hln : (p2.endLine == p3.line) = true) (hd : (p == ("__debug__" : Str)) = false) (hd2 : (p == ("__classdict__" : Str)) = false) :
    FnOk P w K mg base CX0 1 fI (PySem.W.fnX F.name F.qual F.params F.body F.scope F.cl .none kV doc pm an (.ref F.c) ctv) ["self", p] (spE1 C p) := by
  refine init_ok hcl S lk hcd SC hbody (by rw [hpar]; rfl) (by rw [h0]; rfl) hks (fun vs H Q E h => ?_) (fun A outer s H vs Q E hr h => ?_)
  · obtain ⟨a, v, rfl, _⟩ := h
    rfl
  · obtain ⟨a, v, rfl, ea, q⟩ := h
    have vS : Vis (ncx CX0 P w K mg base ["self", p, "__class__"] F fI A outer s H E).env.scope "self" := .inl (SC.par _ (by simp))
    have vP : Vis (ncx CX0 P w K mg base ["self", p, "__class__"] F fI A outer s H E).env.scope p := .inl (SC.par _ (by simp))
    refine ⟨a, _, _, rfl, ea, pa_cons (pv 1 rfl vP hd hd2) pa_nil, pss_one (ps_ost (pv 0 rfl vS) (pv 1 rfl vP hd hd2)), rfl, rfl, meth_eq hln rfl, by rfl, ?_⟩
    refine ⟨v, rfl, (by show 1 ≤ 1000; decide), ea, v, rfl, .ref a, rfl, a, C, rfl, S.ex, hno, .inl ⟨ea, fun d hd hda => ?_⟩⟩
    exact q d hd hda
theorem init2 {F : NF} {fI C cc : Addr} {p x : Str} {p0 p1 p2 p3 p4 q0 q0' q1 q2 q3 q4 q5 q6 q7 q8 : Pos} {r0 r1 r2 : Arg} {oc : Value} {od : Option Addr} {osl : Array (Option Value)} {kV doc pm ctv : Value} {an : Option Addr}
    (hcl : F.cl = [(("__class__" : Str), cc)]) (S : SupC P K mg C cc F.c) (lk : K.lookup fI = some ⟨oc, od, .func (PySem.W.fnX F.name F.qual F.params F.body F.scope F.cl .none kV doc pm an (.ref F.c) ctv), osl⟩) (hcd : PySem.W.codeIn K (.ref F.c) F.qual = true)
    (SC : NScope ["self", p, x, "__class__"] ["self", p, x] [("__class__" : Str)] F.scope)
    (hbody : F.body = [.Expr (.Call (.Attribute (.Call (.Name "super" p0) [] [] p1) "__init__" p2) [.Name p q0, .Name x q0'] [] p3) p4, .Assign [.Attribute (.Name "self" q1) p q2] (.Name p q3) q4, .Assign [.Attribute (.Name "self" q5) x q6] (.Name x q7) q8])
    (hpar : F.params.posonlyargs ++ F.params.args = [r0, r1, r2]) (h0 : r0.arg = "self") (hks : F.scope.names.lookup ("super" : Str) = some .globalImplicit) (hno : PySem.W.findIn K (.ref C) p = some none) (hno2 : PySem.W.findIn K (.ref C) x = some none)
    (hln : (p2.endLine == p3.line) = true) (hd : (p == ("__debug__" : Str)) = false) (hd2 : (p == ("__classdict__" : Str)) = false) (hdx : (x == ("__debug__" : Str)) = false) (hdx2 : (x == ("__classdict__" : Str)) = false) :
    FnOk P w K mg base CX0 1 fI (PySem.W.fnX F.name F.qual F.params F.body F.scope F.cl .none kV doc pm an (.ref F.c) ctv) ["self", p, x] (spE2 C p x) := by
  refine init_ok hcl S lk hcd SC hbody (by rw [hpar]; rfl) (by rw [h0]; rfl) hks (fun vs H Q E h => ?_) (fun A outer s H vs Q E hr h => ?_)
  · obtain ⟨a, v, u, rfl, _⟩ := h
    rfl
  · obtain ⟨a, v, u, rfl, ea, q⟩ := h
    have vS : Vis (ncx CX0 P w K mg base ["self", p, x, "__class__"] F fI A outer s H E).env.scope "self" := .inl (SC.par _ (by simp))
    have vP : Vis (ncx CX0 P w K mg base ["self", p, x, "__class__"] F fI A outer s H E).env.scope p := .inl (SC.par _ (by simp))
    have vX : Vis (ncx CX0 P w K mg base ["self", p, x, "__class__"] F fI A outer s H E).env.scope x := .inl (SC.par _ (by simp))
    refine ⟨a, _, _, rfl, ea, pa_cons (pv 1 rfl vP hd hd2) (pa_cons (pv 2 rfl vX hdx hdx2) pa_nil), pss_cons (ps_ost (pv 0 rfl vS) (pv 1 rfl vP hd hd2)) (pss_one (ps_ost (pv 0 rfl vS) (pv 2 rfl vX hdx hdx2))), rfl, rfl, meth_eq hln rfl, by rfl, ?_⟩
    refine ⟨v, rfl, u, rfl, (by show 2 ≤ 1000; decide), ea, v, rfl, .ref a, rfl, a, C, rfl, S.ex, hno, .inl ⟨ea, fun d hd hda => ?_⟩⟩
    refine ⟨u, rfl, .ref a, rfl, a, C, rfl, S.ex, hno2, .inr ⟨d, [(p, v)], upd_same, ?_, (by show 1 ≤ 900; decide), ?_⟩⟩
    · rw [upd_ne hda, upd_same]
    · exact q d hd hda
end
end ES
namespace ES
open PySem PySem.Spec PyProof.Rows L2 NdefX PySem.HandSPX
/-! a call of such a class, keywords too -/
section
variable {M : Model} {prog : Program} {w : World} {A : Around} {E : Value → Shared → Prop} {R : Result → Shared → Prop} {h : Heap} {g : Array GenState} {d : Drawn} {t : Nat} {os : OsState}
variable {nm q : Str} {C N : Addr} {bs bm bmB : List Value} {hdct : Bool} {sn : List Str} {sub : List Value} {ab : Bool} {col : Option Bool} {dd : Option Addr} {k0 k1 k2 k3 k5 : Option Value} {B newId initId : String} {kw : List (Str × Value)}
theorem check_new_kw (F : ExcBaseFacts B newId initId bmB) (hT : ∀ X : String, bm.contains (.type X) = bmB.contains (.type X)) {rest : List Value} {Q : Unit → Shared → Prop}
    (hC : h.get? C = some (excClassObj nm q C N bs bm hdct sn sub ab col dd k0 k1 k2 k3 k5 newId)) (hq : Q () ⟨h, g, d, t, os⟩) : wpAny M A (checkBuiltinCall newId ⟨.ref C :: rest, kw⟩) Q E ⟨h, g, d, t, os⟩ := by
  have hcont : (Value.ref C :: bm).contains (.type B) = true := by rw [List.contains_cons, hT, F.hasB, Bool.or_true]
  have hstar := F.noStar
  simp only [checkBuiltinCall, F.newKind, F.newSplit, F.newRow]
  repeat (first | refine wpAny_loadPart_at hC ?_ | (refine wpAny_isSubtype_exc hC ?_; rw [hcont]) | refine wpAny_staticBase_exc hC ?_ | refine wpAny_madeBy_exc hC ?_ | simp only [bne_self_eq_false, Bool.false_eq_true, if_false] | wp_step)
  exact hq
theorem new_kw (F : ExcBaseFacts B newId initId bmB) (hT : ∀ X : String, bm.contains (.type X) = bmB.contains (.type X)) {rest : List Value}
    (hC : h.get? C = some (excClassObj nm q C N bs bm hdct sn sub ab col dd k0 k1 k2 k3 k5 newId))
    (hq : R (.ok (.ret (.ref (h.objs.size + 1)))) ⟨(h.push { cls := .type "tuple", data := .seq rest.toArray }).push
      { cls := .ref C, data := .fields #[.ref h.objs.size, .none, .none, .none, .bool false, .none] }, g, d, t, os⟩) (hrest : rest.length ≤ sizeLine) :
    codeAny (model prog w) A (.builtin newId ⟨.ref C :: rest, kw⟩) R ⟨h, g, d, t, os⟩ := by
  have hends := F.ends
  have hcB : (Value.ref C :: bm).contains (.type B) = true := by rw [List.contains_cons, hT, F.hasB, Bool.or_true]
  have hcA : (Value.ref C :: bm).contains (.type "AttributeError") = false := by rw [List.contains_cons, hT, F.noAttr]; rfl
  have hcN : (Value.ref C :: bm).contains (.type "NameError") = false := by rw [List.contains_cons, hT, F.noName]; rfl
  refine codeAny_builtinAt F.entry ?_
  unfold Builtin.«BaseException.__new__»
  refine PyProof.Rows.wpAt_bind ?_
  show PyProof.Rows.wpAt _ _ _ (stack >>= _) _ _ _
  refine PyProof.Rows.wpAt_bind (PyProof.Rows.wpAt_stack fun p below => PyProof.Rows.wpAt_of_any ?_)
  wp_walk
  refine PyProof.Rows.wpAt_of_any ?_
  rw [F.owner]
  repeat (first | with_reducible refine wpAny_madeHere_exc F.canon hC ?_ | with_reducible refine wpAny_loadPart_at hC ?_ | (with_reducible refine wpAny_isSubtype_exc hC ?_; first | rw [hcB] | rw [hcA] | rw [hcN]) | wp_step)
  show R _ _
  rw [Heap.size_push]
  exact hq
theorem type_call_kw (F : ExcBaseFacts B newId initId bmB) (hT : ∀ X : String, bm.contains (.type X) = bmB.contains (.type X)) {rest : List Value} {fI : Addr} {Q : Fin → Shared → Prop}
    (hC : h.get? C = some (excClassObj nm q C N bs bm hdct sn sub ab col dd k0 k1 k2 k3 k5 newId))
    (hi : W.Looks (model prog w) h (typeLookup (.ref C) "__init__") (some (.ref fI))) (hb : ∀ self, W.Looks (model prog w) h (bindSpecial (.ref fI) self) (.ref fI, [self])) (hrest : rest.length ≤ sizeLine)
    (hq : codeAny (model prog w) A (.call (.ref fI) ⟨.ref (h.objs.size + 1) :: rest, kw⟩)
      (fun r s' => match r with | .ok (.ret v) => v = .none ∧ Q (.done (.ret (.ref (h.objs.size + 1)))) s' | .ok _ => False | .error e => E e s')
      ⟨(h.push (W.kdv_tup rest)).push (excO C h.objs.size), g, d, t, os⟩) :
    wpAny (model prog w) A (Builtin.«type.__call__» ⟨.ref C :: rest, kw⟩) Q E ⟨h, g, d, t, os⟩ := by
  repeat (first | with_reducible refine wpAny_loadPart_at hC ?_ | with_reducible refine wpAny_madeBy_exc hC ?_ | wp_step)
  refine codeAny_call_builtin_code (Code.quiet_builtin _ F.quiet) (check_new_kw F hT hC ?_)
  refine new_kw F hT hC ?_ hrest
  show wpAny _ _ _ _ _ _
  have k : ∀ b o, h.get? b = some o → ((h.push (W.kdv_tup rest)).push (excO C h.objs.size)).get? b = some o := fun b o e => Heap.get?_push_of_some _ (Heap.get?_push_of_some _ e)
  have hC1 := k _ _ hC
  have hget : ((h.push (W.kdv_tup rest)).push (excO C h.objs.size)).get? (h.objs.size + 1) = some (excO C h.objs.size) := by heap_get
  have hcC : (Value.ref C :: bm).contains (.ref C) = true := by simp
  have i1 := hi.keeps k
  have b1 := (hb (.ref (h.objs.size + 1))).keeps k
  unfold isInstance
  repeat (first | with_reducible refine wpAny_loadPart_at hget ?_ | (with_reducible refine wpAny_isSubtype_exc hC1 ?_; rw [hcC]) | wp_step)
  show wpAny _ _ (typeLookup (.ref C) _) _ _ _
  refine i1.at ?_
  refine wpAny_holding (wpAny_bind (b1.at ?_))
  refine wpAny_bind (wpAny_call (codeAny_mono hq fun r s' z => ?_))
  rcases r with e | (v | _ | _ | _) <;> first | exact z | exact z.elim | skip
  obtain ⟨rfl, z⟩ := z
  first
    | exact wpAny_pure (wpAny_pure z)
    | (wp_walk; exact z)
theorem check_tc_kw {rest : List Value} {Q : Unit → Shared → Prop} (hC : h.get? C = some (excClassObj nm q C N bs bm hdct sn sub ab col dd k0 k1 k2 k3 k5 newId))
    (hq : Q () ⟨h, g, d, t, os⟩) : wpAny M A (checkBuiltinCall "type.__call__" ⟨.ref C :: rest, kw⟩) Q E ⟨h, g, d, t, os⟩ := by
  have f3 := tc_sub
  have hTt : (⟨h, g, d, t, os⟩ : Shared).TypeIs (.ref C) "type" := ⟨_, hC, rfl⟩
  simp only [checkBuiltinCall, tc_kind, tc_split]
  repeat (any_goals (first | assumption | with_reducible refine wpAny_loadPart_at hC ?_ | with_reducible refine wpAny_onRaise ?_ | with_reducible refine wpAny_map ?_ | wp_step))
theorem call_kw (F : ExcBaseFacts B newId initId bmB) (hT : ∀ X : String, bm.contains (.type X) = bmB.contains (.type X)) {rest : List Value} {fI : Addr}
    (hC : h.get? C = some (excClassObj nm q C N bs bm hdct sn sub ab col dd k0 k1 k2 k3 k5 newId))
    (hi : W.Looks (model prog w) h (typeLookup (.ref C) "__init__") (some (.ref fI))) (hb : ∀ self, W.Looks (model prog w) h (bindSpecial (.ref fI) self) (.ref fI, [self])) (hrest : rest.length ≤ sizeLine)
    (hq : codeAny (model prog w) (A.under (.builtin "type.__call__" ⟨.ref C :: rest, kw⟩)) (.call (.ref fI) ⟨.ref (h.objs.size + 1) :: rest, kw⟩) (W.InitBack (h.objs.size + 1) R)
      ⟨(h.push (W.kdv_tup rest)).push (excO C h.objs.size), g, d, t, os⟩) :
    codeAny (model prog w) A (.call (.ref C) ⟨rest, kw⟩) R ⟨h, g, d, t, os⟩ := by
  have f1 := tc_lookup
  have f2 := tc_bind (.ref C)
  have hTy : (⟨h, g, d, t, os⟩ : Shared).TypeIs (.ref C) "type" := ⟨_, hC, rfl⟩
  refine codeAny_of_tree ?_
  show wpAny _ _ (callAny (.ref C) _) _ _ _
  repeat (any_goals (first | assumption | with_reducible refine wpAny_loadPart_at hC ?_ | wp_step))
  refine ⟨rfl, ?_⟩
  refine codeAny_call_builtin_at (Code.quiet_builtin _ (by decide +kernel)) entry_typeCall (check_tc_kw hC (type_call_kw F hT hC hi hb hrest ?_))
  refine codeAny_mono hq fun r s' z => ?_
  rcases r with e | (v | _ | _ | _) <;> exact z
end
end ES
namespace ES
open PySem PySem.Spec PyProof.Rows L2 NdefX
/-! such an exception as a value -/
section
variable {X : Cx} {C fI : Addr} {k : Nat} {fd : FuncData} {ps : List Str} {sp : Sp} {x : Str} {p pos : Pos} {e : Expr} {es : List Expr} {kws : List Keyword} {t : TA}
theorem run_newX {pins : List (Addr × Obj)} {σ : L2.St} {H : Hp} {s : Shared} {Q : VK} {us : List Value} {vs : List V} {kw : List (Str × Value)} (T : OexC X.K C) (iC : PySem.W.findIn X.K (.ref C) "__init__" = some (some (.ref fI))) (tI : PySem.W.typeIn X.K (.ref fI) = some (.type "function"))
    (F1 : FnOk X.prog X.w X.K X.mg X.base CX0 k fI fd ps sp) (hr : Room (k + 1) X.A) (hbd : ∀ (s : Shared) (self : Value), X.K.In s.heap → BindsTo s fd ⟨self :: us, kw⟩ (ps.zip (self :: (us ++ kw.map (·.2)))))
    (I : L2.Inv X pins σ H s) (r : Vals vs (us ++ kw.map (·.2))) (hz : vs.length ≤ 1000)
    (h : ∀ a, H a = none → sp (.ref a :: vs) (upd H a (exo a C none)) (fun v H2 => v = .non ∧ Q (.ref a) H2) E0) : wpAny (model X.prog X.w) X.A (call (.ref C) us kw) (EP X pins σ Q) X.xe s := by
  obtain ⟨nm, q, N, bs, bm, sn, sub, ab, col, dd, k0, k1, k2, k3, k5, hC, hbm⟩ := T.cls
  obtain ⟨hp, g, dr, tk, os⟩ := s
  have hsz : hp.objs.size ≤ hp.objs.size + 1 := Nat.le_succ _
  have hn : H (hp.objs.size + 1) = none := I.hok.fresh hsz
  have hq := h (hp.objs.size + 1) hn
  have kk : ∀ b o, hp.get? b = some o → ((hp.push (PySem.W.kdv_tup us)).push (PySem.HandSPX.excO C hp.objs.size)).get? b = some o := fun b o e => Heap.get?_push_of_some _ (Heap.get?_push_of_some _ e)
  have hget : ((hp.push (PySem.W.kdv_tup us)).push (PySem.HandSPX.excO C hp.objs.size)).get? (hp.objs.size + 1) = some (PySem.HandSPX.excO C hp.objs.size) := by heap_get
  have I2 : L2.Inv X pins σ (upd H (hp.objs.size + 1) (exo (hp.objs.size + 1) C none)) ⟨(hp.push (PySem.W.kdv_tup us)).push (PySem.HandSPX.excO C hp.objs.size), g, dr, tk, os⟩ :=
    I.laid (t' := tk) (a := hp.objs.size + 1) (o := exo (hp.objs.size + 1) C none) (h' := (hp.push (PySem.W.kdv_tup us)).push (PySem.HandSPX.excO C hp.objs.size)) kk hsz (exo_ok hget)
  have r2 : Vals (V.ref (hp.objs.size + 1) :: vs) (Value.ref (hp.objs.size + 1) :: (us ++ kw.map (·.2))) := .cons rfl r
  have hus : us.length ≤ sizeLine := by
    have z := Paired.length r
    rw [List.length_append] at z
    rw [sizeLine_eq]
    omega
  refine wpAny_call (call_kw F.excBase_ValueError (fun Y => PySem.HandSPX.refsVE_contains Y bm hbm) (I.kIn _ _ hC) (PySem.W.looks_findIn I.kIn iC) (fun self => PySem.W.bind_fn I.kIn self tI) hus
    (codeAny_mono (F1.run _ X.stack _ _ ⟨Value.ref (hp.objs.size + 1) :: us, kw⟩ (Value.ref (hp.objs.size + 1) :: (us ++ kw.map (·.2))) _ _ E0 (hr.make C us kw) (I2.env0.make C us kw) (hbd _ _ I2.kIn) r2 hq) fun r s' hq' => ?_))
  cases r with
  | error er => exact pass0 pins σ _ _ er s' I2 hq'
  | ok fl =>
    cases fl with
    | ret u =>
      obtain ⟨v, H', I3, rv, ev, q3⟩ := I2.after hq'
      subst ev
      exact ⟨rv, V.ref (hp.objs.size + 1), H', I3, rfl, q3⟩
    | next => exact False.elim hq'
    | brk => exact False.elim hq'
    | cont => exact False.elim hq'
def tNewX (C : Addr) (sp : Sp) (t : TA) : TE := fun σ H Q => t σ H fun vs H1 => vs.length ≤ 1000 ∧ ∀ a, H1 a = none → sp (.ref a :: vs) (upd H1 a (exo a C none)) (fun v H2 => v = .non ∧ Q (.ref a) H2) E0
theorem pe_newX (T : OexC X.K C) (iC : PySem.W.findIn X.K (.ref C) "__init__" = some (some (.ref fI))) (tI : PySem.W.typeIn X.K (.ref fI) = some (.type "function")) (F1 : FnOk X.prog X.w X.K X.mg X.base CX0 k fI fd ps sp) (hr : Room (k + 1) X.A)
    (hb : Binds X.K fd ps []) (hg : Gl X x) (hm : X.mg x = some (.ref C)) (ha : PA X (e :: es) t)
    (hdb : (x == ("__debug__" : Str)) = false := by decide) (he : starEach (e :: es) X.env = (false, eval e X.env) :: starEach es X.env := by rfl) (hpl : (backTo pos (starEach es X.env)).any (·.1) = false := by rfl) :
    PE X (.Call (.Name x p) (e :: es) [] pos) (tNewX C sp t) := by
  refine ⟨fun pins s σ H Q I h => ?_⟩
  refine wpAny_Call_Name_kw (ld_glob I hg hm ?_ hdb)
  refine PySem.W.callWith_K (h₀ := X.base) I.ok.mod.kin T.kC (thn (ha.run pos pins s σ H _ I h) fun us s1 ⟨vs, H1, I1, r1, hz, q1⟩ => ⟨I1.kIn, ?_⟩) he hpl
  show wpAny _ _ (call (.ref C) us) _ _ _
  refine run_newX (kw := []) T iC tI F1 hr (fun s self X1 => ?_) I1 (by rw [List.map_nil, List.append_nil]; exact r1) hz q1
  have hl : (self :: us).length = ps.length := by
    have z := F1.len _ _ _ _ (q1 (s1.heap.objs.size) (I1.hok.fresh (Nat.le_refl _)))
    rw [List.length_cons, Paired.length r1] at z
    exact z
  have z := hb s (self :: us) X1 (by rw [List.append_nil]; exact hl)
  rw [List.append_nil] at z
  rw [List.map_nil, List.append_nil]
  exact z
/-- C(k = v, ..), all by keywords, in the parameters' order -/
theorem pe_newXK {ks : List Str} (T : OexC X.K C) (iC : PySem.W.findIn X.K (.ref C) "__init__" = some (some (.ref fI))) (tI : PySem.W.typeIn X.K (.ref fI) = some (.type "function")) (F1 : FnOk X.prog X.w X.K X.mg X.base CX0 k fI fd ps sp) (hr : Room (k + 1) X.A)
    (hb : ∀ (s : Shared) (self : Value) (ws : List Value), ws.length = ks.length → BindsTo s fd ⟨[self], ks.zip ws⟩ (ps.zip (self :: ws))) (hg : Gl X x) (hm : X.mg x = some (.ref C)) (hkw : PK X kws t) (hlen : kws.length = ks.length)
    (hall : (backToKw pos (keywordEach kws X.env)).all (·.1.isSome) = true := by rfl) (hks : (backToKw pos (keywordEach kws X.env)).filterMap (·.1) = ks := by rfl)
    (hdb : (x == ("__debug__" : Str)) = false := by decide) (hpl : ((backTo pos (starEach [] X.env)).any (·.1) || (backToKw pos (keywordEach kws X.env)).any (·.1.isNone)) = false := by rfl) :
    PE X (.Call (.Name x p) [] kws pos) (fun σ H Q => t σ H fun vs H1 => vs.length = ks.length ∧ vs.length ≤ 1000 ∧ ∀ a, H1 a = none → sp (.ref a :: vs) (upd H1 a (exo a C none)) (fun v H2 => v = .non ∧ Q (.ref a) H2) E0) := by
  refine ⟨fun pins s σ H Q I h => ?_⟩
  refine wpAny_Call_Name_kw (ld_glob I hg hm ?_ hdb)
  refine PySem.W.callWith_KW0 (h₀ := X.base) I.ok.mod.kin T.kC hall (thn (hkw.run pos pins s σ H _ I h) fun ws s1 ⟨zs, H1, I1, rz, hl, hz, q1⟩ => ⟨I1.kIn, ?_⟩) hpl
  rw [hks]
  have lw : ws.length = ks.length := by rw [← Paired.length rz]; exact hl
  have em : (ks.zip ws).map (·.2) = ws := by
    rw [List.map_snd_zip]
    omega
  refine run_newX (us := []) (kw := ks.zip ws) T iC tI F1 hr (fun s self _ => ?_) I1 (by rw [em, List.nil_append]; exact rz) hz q1
  rw [em]
  exact hb s self ws lw
/-- C(), C without an own __init__ -/
theorem pe_newX0 (q : PySem.W.excIn X.K C He.veBase "ValueError.__new__" = true) (kC : PySem.W.keepIn X.K (.ref C) = true) (hg : Gl X x) (hm : X.mg x = some (.ref C)) (hdb : (x == ("__debug__" : Str)) = false := by decide) :
    PE X (.Call (.Name x p) [] [] pos) (fun σ H Q => ∀ a, H a = none → Q (.ref a) (upd H a (exo a C none))) := by
  refine ⟨fun pins s σ H Q I h => ?_⟩
  refine wpAny_Call_Name_kw (ld_glob I hg hm ?_ hdb)
  refine PySem.W.callWith_K0 I.kIn kC ?_
  show wpAny _ _ (call (.ref C) []) _ _ _
  obtain ⟨bm, N, nm, qn, bs, hdct, sn, sub, ab, col, dd, k0, k1, k2, k3, k5, mN, hC, hN, hni, T⟩ := exc_obj I.kIn q
  obtain ⟨hp, g, dr, tk, os⟩ := s
  refine wpAny_call_exc_subT F.excBase_ValueError T hC hN hni (fun h' e hm => ?_) (by show 0 ≤ sizeLine; exact Nat.zero_le _)
  obtain ⟨t, e1, e2, e3⟩ := hm.there
  have hn : H e = none := I.hok.gone hm.new
  exact ⟨.ref e, _, Inv.laidN I hm.keeps hm.new hn (exo_ok e1), rfl, h e hn⟩
end
end ES
namespace PySem.W
open PySem PySem.Spec PySem.Calls PyProof.Rows
section
variable {prog : Program} {w : World} {A : Around} {E : Value → Shared → Prop} {s : Shared} {K : Frag} {x D : Addr} {ox : Obj} {od : Option Obj}
theorem es_findD {C : Addr} {name : Str} {a g : Value} (hc : (clsIn K C).isSome = true) (ha : findIn K (.ref C) name = some (some a)) (hg : specialIn K a "__get__" = some (some g)) (ht : takesIn K a = some true) : findObj K C od name = some (.bind g a) := by
  obtain ⟨cd, hc⟩ := Option.isSome_iff_exists.mp hc
  unfold findObj
  rw [hc, Option.bind_some, ha, Option.bind_some]
  simp [hg, ht]
theorem es_class {Q : Option Value → Shared → Prop} (C : L2.ExcC K D) (X : K.In s.heap) (I : InstAt s.heap x ox D od) (h : Q (some (.ref D)) { s with toks := s.toks + 1 }) : wpAny (model prog w) A (getAttr? (.ref x) "__class__") Q E s := by
  have hf : findObj K D od "__class__" = some (.bind (.builtin "getset_descriptor.__get__") (.builtin "object.__class__")) := es_findD (by obtain ⟨cd, hc, _⟩ := any_some C.hd; rw [hc]; rfl) C.ha C.hn C.ht
  obtain ⟨hp, g, d, t, os⟩ := s
  have L0 := I.type (M := model prog w)
  have L1 := looks_findIn (M := model prog w) X C.hg
  have L2 := looks_findIn (M := model prog w) X C.hk
  have L3 := looks_find (M := model prog w) X I hf
  have sub : Looks (model prog w) hp (isInstance (.ref x) (.type "BaseException")) true := L0.andThen (looks_subIn X C.hs)
  have hx0 : (false && onTheHeap (Value.builtin "BaseException.__getattribute__")) = false := rfl
  have hx2 : (Value.builtin "BaseException.__getattribute__" == Value.builtin "object.__getattribute__") = false := by decide +kernel
  have hx1 : (onTheHeap (Value.ref D) && Value.builtin "BaseException.__getattribute__" == Value.builtin "object.__getattribute__") = false := by rw [hx2]; rfl
  unfold getAttr? getAttrBy? getAttrBy
  refine wpAny_bind (wpAny_mkText (wpAny_bind (wpAny_attempt (wpAny_holding (wpAny_bind (L0.at (wpAny_bind (L1.at ?_))))))))
  show wpAny _ _ (if (onTheHeap (Value.ref D) && Value.builtin "BaseException.__getattribute__" == Value.builtin "object.__getattribute__") = true then _ else _) _ _ _
  rw [hx1, if_neg Bool.false_ne_true]
  unfold getAttrByItsOwn hookBefore
  refine wpAny_bind ?_
  rw [if_pos (show onTheHeap (Value.ref D) = true from rfl)]
  refine L2.at ?_
  refine wpAny_bind (wpAny_attempt (wpAny_holding ?_))
  unfold callGetattribute
  rw [hx0, if_neg Bool.false_ne_true]
  unfold boundAndCalled
  rw [PySem.F.excAttr_ValueError.ga.bind (.ref x)]
  refine wpAny_bind (wpAny_pure ?_)
  show wpAny _ _ (call (.builtin "BaseException.__getattribute__") [.ref x, .str "__class__" t]) _ _ _
  refine wpAny_call (codeAny_call_builtin PySem.F.excAttr_ValueError.ga.plain PySem.F.entry_bexc_ga ?_)
  refine @check_slot (model prog w) _ _ ⟨hp, g, d, t + 1, os⟩ "BaseException.__getattribute__" "BaseException" "__getattribute__" (.ref x) [.str "__class__" t] [] _ (by decide +kernel) (by decide +kernel) sub (PySem.F.args_bexc_ga (.ref x) (.str "__class__" t)) ?_
  unfold Builtin.«object.__getattribute__»
  refine wpAny_bind (wpAny_of_eq (a := ((Value.ref x : Value), [Value.str "__class__" t])) (by first | rfl | (simp only [slotArgs]; rfl)) ?_)
  refine wpAny_bind (wpAny_pure (wpAny_bind (L0.at (wpAny_bind (L3.at ?_)))))
  show wpAny _ _ (holding [Value.builtin "object.__class__"] (call (.builtin "getset_descriptor.__get__") [.builtin "object.__class__", .ref x, .ref D]) >>= ret) _ _ _
  refine wpAny_bind (wpAny_holding (wpAny_call (class_get (s := ⟨hp, g, d, t + 1, os⟩) (ox := ox) (od := od) X I C.hm ?_)))
  refine wpAny_pure ?_
  show wpAny _ _ (handedOut (.ref D)) _ _ _
  rw [handedOut_of (v := .ref D) rfl]
  first
    | exact wpAny_pure (wpAny_pure h)
    | exact wpAny_pure h
    | exact wpAny_pure (wpAny_bind (wpAny_pure (wpAny_pure h)))
theorem es_kitx (C : L2.ExcC K D) : KitX K (.ref x) (.ref D) (fun h => InstAt h x ox D od) where
  ty := fun _ _ _ I => I.type
  it := fun _ _ X _ => by
    obtain ⟨cdD, hcD, _⟩ := any_some C.hd
    unfold clsIn at hcD
    split at hcD
    · rename_i c' d' cd' sl' ho
      intro A' Q' E' s' k q
      unfold isType loadHead
      exact wpAny_bind (wpAny_loadPart (k _ _ (X _ _ ho)) (wpAny_pure q))
    · cases hcD
  ne := fun h tp dd its n sl X htp => by
    obtain ⟨cdD, hcD, _⟩ := any_some C.hd
    refine Bool.eq_false_iff.mpr fun q => ?_
    have e : D = tp := Value.ref.inj (beq_iff_eq.mp q)
    subst e
    unfold clsIn at hcD
    split at hcD
    · rename_i c' d' cd' sl' ho
      have z := (X _ _ ho).symm.trans htp
      cases z
    · cases hcD
  ca := fun X I k => es_class C X I k
end
end PySem.W
namespace ES
open PySem PySem.Spec PyProof.Rows L2 NdefX
/-- at a: an exception of the class at C, its dict d -/
def ExAt (H : Hp) (a C : Addr) (d : Option Addr) : Prop :=
  (∃ φ : Heap → Prop, H a = some (.ext φ) ∧ ∀ h, φ h → ∃ oe vs, h.get? a = some oe ∧ oe.cls = .ref C ∧ oe.dict = d ∧ oe.data = .fields vs) ∧ ∀ dd, d = some dd → ∃ o, H dd = some o
theorem exAt_new {H : Hp} {a C : Addr} (e : H a = some (exo a C none)) : ExAt H a C none := ⟨⟨_, e, fun h ⟨t1, z⟩ => ⟨_, _, z, rfl, rfl, rfl⟩⟩, fun dd z => nomatch z⟩
theorem exAt_of {H : Hp} {a C d : Addr} {o : HO} (e : H a = some (exo a C (some d))) (ed : H d = some o) : ExAt H a C (some d) := ⟨⟨_, e, fun h ⟨t1, z⟩ => ⟨_, _, z, rfl, rfl, rfl⟩⟩, fun dd z => ⟨o, by cases z; exact ed⟩⟩
theorem ExAt.mono {H H' : Hp} {a C : Addr} {d : Option Addr} (x : ExAt H a C d) (e : ∀ b o, H b = some o → H' b = some o) : ExAt H' a C d := by
  obtain ⟨⟨φ, h1, h2⟩, h3⟩ := x
  exact ⟨⟨φ, e _ _ h1, h2⟩, fun dd z => let ⟨o, q⟩ := h3 dd z; ⟨o, e _ _ q⟩⟩
section
variable {X : Cx} {pins : List (Addr × Obj)} {σ : L2.St} {H : Hp} {s : Shared}
theorem ExAt.inst {a C : Addr} {d : Option Addr} (x : ExAt H a C d) (I : L2.Inv X pins σ H s) : ∃ ox od, PySem.W.InstAt s.heap a ox C od := by
  obtain ⟨⟨φ, h1, h2⟩, h3⟩ := x
  have q : ObjOk X.prog X.w H s.heap a (.ext φ) := I.hok a _ h1
  obtain ⟨oe, vs, e1, e2, e3, e4⟩ := h2 _ q.1
  cases d with
  | none =>
    refine ⟨oe, none, e1, e2, by unfold PySem.W.notCls; rw [e4] <;> rfl, ?_⟩
    rw [e3]
    trivial
  | some dd =>
    obtain ⟨o, ho⟩ := h3 dd rfl
    obtain ⟨u, hu⟩ := objOk_get (I.hok dd _ ho)
    refine ⟨oe, some u, e1, e2, by unfold PySem.W.notCls; rw [e4] <;> rfl, ?_⟩
    rw [e3]
    exact hu
def rIsX (K : PySem.W.Frag) : List V → Hp → VK → Prop := fun xs H Q => ∃ (a C : Addr) (d : Option Addr) (c : V) (cv : Value) (b : Bool), xs = [.ref a, c] ∧ ExAt H a C d ∧ ExcC K C ∧ (∀ u, RelV c u → u = cv) ∧ PySem.W.kitOne K (.ref C) cv = some b ∧ Q (.bl b) H
theorem call_isX : CallR X (.builtin "isinstance") (rIsX X.K) := by
  intro pins s σ H xs us Q I r h
  obtain ⟨a, C, d, c, cv, b, rfl, ea, EC, hcv, e, q⟩ := h
  cases r with
  | cons rx rr =>
    cases rr with
    | cons rt rr =>
      cases rr
      cases rx
      have ec := hcv _ rt
      subst ec
      obtain ⟨ox, od, J⟩ := ea.inst I
      exact PySem.W.kia_one (PySem.W.es_kitx EC) I.kIn J e (fun z => nomatch z) fun tk => ⟨.bl b, H, I.kept (t' := tk) fun _ _ z => z, rfl, q⟩
/-- isinstance(e, (T1, T2, ..)) -/
def rIsXT (K : PySem.W.Frag) : List V → Hp → VK → Prop := fun xs H Q => ∃ (a C : Addr) (d : Option Addr) (t : Addr) (cs : List V) (cvs : List Value) (b : Bool), xs = [.ref a, .ref t] ∧ ExAt H a C d ∧ ExcC K C ∧ H t = some (.tup cs) ∧ (∀ us, Vals cs us → us = cvs) ∧ PySem.W.kitAny K (.ref C) cvs = some b ∧ Q (.bl b) H
theorem call_isXT : CallR X (.builtin "isinstance") (rIsXT X.K) := by
  intro pins s σ H xs us Q I r h
  obtain ⟨a, C, d, t, cs, cvs, b, rfl, ea, EC, ht, hcv, e, q⟩ := h
  cases r with
  | cons rx rr =>
    cases rr with
    | cons rt rr =>
      cases rr
      cases rx
      cases rt
      obtain ⟨ox, od, J⟩ := ea.inst I
      obtain ⟨hl, its, r2, it⟩ := (I.hok t _ ht : ObjOk X.prog X.w H s.heap t (.tup cs))
      have ei := hcv _ r2
      subst ei
      obtain ⟨ot, h1, h2, n, h3⟩ := it
      obtain ⟨oc, odt, oda, osl⟩ := ot
      dsimp only at h2 h3
      subst h2 h3
      exact PySem.W.kia_tup (PySem.W.es_kitx EC) I.kIn J h1 e (fun z => nomatch z) fun tk => ⟨.bl b, H, I.kept (t' := tk) fun _ _ z => z, rfl, q⟩
/-- e.f of such a value -/
def tXv (K : PySem.W.Frag) (f : Str) (te : TE) : TE := fun σ H Q => te σ H fun x H1 => ∃ (a C d : Addr) (fs : List (Str × V)) (v : V), x = .ref a ∧ H1 a = some (exo a C (some d)) ∧ H1 d = some (exd d fs) ∧ XfC K C ∧ PySem.W.findIn K (.ref C) f = some none ∧ fs.lookup f = some v ∧ Q v H1
theorem pe_xv {e : Expr} {te : TE} {pos : Pos} {n : Str} (he : PE X e te) (hb : attributeBase e n X.env (eval e X.env) = eval e X.env := by rfl) : PE X (.Attribute e n pos) (tXv X.K n te) := by
  refine ⟨fun pins s σ H Q I h => ?_⟩
  refine attr_of hb (thn (he.run pins s σ H _ I h) fun u s1 hh => ?_)
  obtain ⟨x, H1, I1, rx, a, C, d, fs, v, ex, ea, ed, T, hno, l, q⟩ := hh
  subst ex
  obtain rfl : u = Value.ref a := rx
  obtain ⟨t1, ha⟩ := exo_at I1.hok ea
  obtain ⟨mA, hns, hr⟩ := exd_at I1.hok ed
  obtain ⟨od, ho, hl⟩ := lookIn_ns hns
  obtain ⟨u, hu, ru⟩ := RelO.some_of (v := v) (o := mA n) (by rw [← l]; exact hr n)
  have J : PySem.W.InstAt s1.heap a (exO C (some d) t1) C (some od) := ⟨ha, rfl, rfl, ho⟩
  exact HandSPX.exc_get I1.kIn J T.ga T.gg T.exC (PySem.W.findObj_own T.hdC hno rfl (by rw [hl, hu])) (handed_of ru) ⟨v, H1, I1.tok _, ru, q⟩
end
end ES
/-! G1: defs that are called where no repr is under way; repr of data. -/
namespace GG
open PySem PySem.Spec PyProof.Rows L2
/-! ### a def's promise, under no guard -/
structure FnG (P : Program) (w : World) (K : PySem.W.Frag) (mg : Str → Option Value) (base : Heap) (k : Nat) (f : Addr) (fd : FuncData) (ps : List Str) (sp : Sp) : Prop where
  len : ∀ vs H Q E, sp vs H Q E → vs.length = ps.length
  run : ∀ (A : Around) (outer : List Env) (s : Shared) (H : Hp) (args : Args) (us : List Value) (vs : List V) (Q : VK) (E : XK), Room k A → A.guards = some [] → Env0 P w K mg base A outer s H → BindsTo s fd args (ps.zip us) → Vals vs us → sp vs H Q E →
    codeAny (model P w) A (.call (.ref f) args) (CR CX0 outer P w H s Q E) s
section
variable {P : Program} {w : World} {K : PySem.W.Frag} {mg : Str → Option Value} {base : Heap}
theorem FnG.of {k : Nat} {f : Addr} {fd : FuncData} {ps : List Str} {sp : Sp} (F : FnOk P w K mg base CX0 k f fd ps sp) : FnG P w K mg base k f fd ps sp := ⟨F.len, fun A outer s H args us vs Q E hr _ => F.run A outer s H args us vs Q E hr⟩
theorem FnG.mono {j k : Nat} {f : Addr} {fd : FuncData} {ps : List Str} {sp : Sp} (F : FnG P w K mg base j f fd ps sp) (h : j ≤ k) : FnG P w K mg base k f fd ps sp := ⟨F.len, fun A outer s H args us vs Q E hr => F.run A outer s H args us vs Q E (hr.mono h)⟩
/-- the rule for a def -/
theorem okG {x qual : Str} {st : Stmt} {f : Addr} {fd : FuncData} {N ps : List Str} {k : Nat} {sp : Sp} (F : Fun K x qual st f fd) (S : FnScope N ps (defScope st)) (len : ∀ vs H Q E, sp vs H Q E → vs.length = ps.length)
    (hbody : ∀ (cdv : Value) (A : Around) (outer : List Env) (s : Shared) (H : Hp) (vs : List V) (Q : VK) (E : XK), Room k (A.deeper (envOfC qual (defScope st) s.heap.objs.size f cdv)) → A.guards = some [] → sp vs H Q E →
      ∃ t, PSs (cxOf CX0 P w K mg base N qual (defScope st) f cdv A outer s H E).nox (defBody st) t ∧ t { nx := fun _ H' => Q .non H', rt := Q } (start N vs) H) : FnG P w K mg base (k + 1) f fd ps sp := by
  obtain ⟨oc, od, kV, doc, pm, an, cdv, ct, osl, rfl, lk, hcd⟩ := F.ex
  refine ⟨len, fun A outer s H args us vs Q E hr hgu e0 hb r hsp => ?_⟩
  have hl := len _ _ _ _ hsp
  have KX : K.In s.heap := e0.mod.kin.keeps fun b o e => (e0.bs b o e).1
  have lim : s.heap.NoLimit := e0.mod.nolimit.keeps fun b o e => (e0.bs b o e).1
  have hkind : ∀ y ∈ ps.zip us, (defScope st).names.lookup y.1 = some .local ∨ ((defScope st).names.lookup y.1 = some .cell ∧ ((cellsFrom (s.heap.objs.size + 1) (defScope st).names []).lookup y.1).isSome = true) := fun ⟨n, v⟩ hy => by
    rcases S.par n (List.of_mem_zip hy).1 with q | q
    · exact .inl q
    · exact .inr ⟨q, PySem.W.cellsFrom_some _ _ _ (.inl q)⟩
  refine codeAny_call_function hr.depth (KX _ _ lk) rfl S.co S.gen rfl (PySem.W.codeRec_of KX hcd) (hb _ _ _ _ ?_)
  refine wpAny_newFunctionEnv_cells S.kind hkind fun env he s1 x => ?_
  subst he
  refine ⟨lim.keeps x.toInCall.keep, codeAny_func ?_⟩
  obtain ⟨t, ht, hq⟩ := hbody cdv A outer s H vs Q E (hr.deeper _) hgu hsp
  have I : L2.Inv (cxOf CX0 P w K mg base N qual (defScope st) f cdv A outer s H E) [] (start N vs) H s1 := inv_start S hr.hd e0 hl r x
  refine wpAny_mono ((ht.nox).run [] s1 (start N vs) H _ I hq) (fun fl s' hs => ?_) fun e s' hs => hs
  have fin : ∀ {σ' : L2.St} {H' : Hp} {v : V} {u : Value}, L2.Inv (cxOf CX0 P w K mg base N qual (defScope st) f cdv A outer s H E) [] σ' H' s' → RelV v u → Q v H' → CE outer P w H s Q u s' :=
    fun {σ' H' v u} J rv q => ⟨v, H', J.os, J.bare, J.base, J.hok, rv, q⟩
  cases fl with
  | ret u =>
    obtain ⟨v, σ', H', J, rv, q⟩ := hs
    exact fin J rv q
  | next =>
    obtain ⟨σ', H', J, q⟩ := hs
    exact fin (v := V.non) (u := Value.none) J rfl q
  | brk =>
    obtain ⟨_, _, _, q⟩ := hs
    exact False.elim q
  | cont =>
    obtain ⟨_, _, _, q⟩ := hs
    exact False.elim q
end
section
variable {X : Cx} {k : Nat} {f C : Addr} {fd : FuncData} {ps : List Str} {sp : Sp} {dvs : List V} {ds : List Value} {E : XK} {x : Str} {p pos : Pos} {e : Expr} {es : List Expr} {t : TA}
theorem run_fnG {pins : List (Addr × Obj)} {σ : L2.St} {H : Hp} {s : Shared} {Q : VK} {us : List Value} {vs : List V} (hgu : X.A.guards = some []) (F : FnG X.prog X.w X.K X.mg X.base k f fd ps sp) (hr : Room k X.A) (hb : Binds X.K fd ps ds) (hd : Vals dvs ds)
    (I : L2.Inv X pins σ H s) (r : Vals vs us) (h : sp (vs ++ dvs) H Q E0) : wpAny (model X.prog X.w) X.A (call (.ref f) us) (EP X pins σ Q) X.xe s := by
  have r2 : Vals (vs ++ dvs) (us ++ ds) := r.append hd
  have hl : (us ++ ds).length = ps.length := by rw [← r2.length]; exact F.len _ _ _ _ h
  refine wpAny_call (codeAny_mono (F.run X.A X.stack s H ⟨us, []⟩ (us ++ ds) (vs ++ dvs) Q E0 hr hgu I.env0 (hb s us I.kIn hl) r2 h) fun r s' hq => ?_)
  cases r with
  | error e => exact pass0 pins σ H s e s' I hq
  | ok fl =>
    cases fl with
    | ret u => exact I.after hq
    | next => exact False.elim hq
    | brk => exact False.elim hq
    | cont => exact False.elim hq
theorem pe_callG (hgu : X.A.guards = some []) (F : FnG X.prog X.w X.K X.mg X.base k f fd ps sp) (hr : Room k X.A) (hg : Gl X x) (hm : X.mg x = some (.ref f)) (hk : PySem.W.keepIn X.K (.ref f) = true) (hb : Binds X.K fd ps ds) (hd : Vals dvs ds)
    (ha : PA X (e :: es) t) (hdb : (x == ("__debug__" : Str)) = false := by decide) (he : starEach (e :: es) X.env = (false, eval e X.env) :: starEach es X.env := by rfl) (hpl : (backTo pos (starEach es X.env)).any (·.1) = false := by rfl) :
    PE X (.Call (.Name x p) (e :: es) [] pos) (tCall sp dvs E0 t) := by
  refine ⟨fun pins s σ H Q I h => ?_⟩
  refine wpAny_Call_Name_kw (ld_glob I hg hm ?_ hdb)
  refine PySem.W.callWith_K (h₀ := X.base) I.ok.mod.kin hk (thn (ha.run pos pins s σ H _ I h) fun us s1 ⟨vs, H1, I1, r, q⟩ => ⟨I1.kIn, ?_⟩) he hpl
  exact run_fnG hgu F hr hb hd I1 r q
theorem pe_call0G (hgu : X.A.guards = some []) (F : FnG X.prog X.w X.K X.mg X.base k f fd ps sp) (hr : Room k X.A) (hg : Gl X x) (hm : X.mg x = some (.ref f)) (hk : PySem.W.keepIn X.K (.ref f) = true) (hb : Binds X.K fd ps ds) (hd : Vals dvs ds)
    (hdb : (x == ("__debug__" : Str)) = false := by decide) : PE X (.Call (.Name x p) [] [] pos) (tCall sp dvs E0 tNil) := by
  refine ⟨fun pins s σ H Q I h => ?_⟩
  refine wpAny_Call_Name_kw (ld_glob I hg hm ?_ hdb)
  exact PySem.W.callWith_K0 I.kIn hk (run_fnG (us := []) hgu F hr hb hd I .nil h)
end
/-! ### data, an empty dict too -/
mutual
inductive Dq (K : PySem.W.Frag) (H : Hp) : V → PyData → Prop
  | non : Dq K H .non .none
  | bl (b : Bool) : Dq K H (.bl b) (.bool b)
  | int (i : Int) : Dq K H (.int i) (.int i)
  | str (x : Str) : Dq K H (.str x) (.str x)
  | lst {a : Addr} {xs : List V} {ds : List PyData} : H a = some (.lst xs) → DqAll K H xs ds → Dq K H (.ref a) (.list ds)
  | tup {a : Addr} {xs : List V} {ds : List PyData} : SqT K H a xs → DqAll K H xs ds → Dq K H (.ref a) (.tuple ds)
  | dct {a : Addr} : H a = some (.dK []) → Dq K H (.ref a) (.dict [])
inductive DqAll (K : PySem.W.Frag) (H : Hp) : List V → List PyData → Prop
  | nil : DqAll K H [] []
  | cons {v : V} {vs : List V} {d : PyData} {ds : List PyData} : Dq K H v d → DqAll K H vs ds → DqAll K H (v :: vs) (d :: ds)
end
theorem sqT_same {K : PySem.W.Frag} {H H' : Hp} {a : Addr} {xs : List V} (e : Same H H') (h : SqT K H a xs) : SqT K H' a xs := by
  rcases h with (h | ⟨o, h⟩) | h
  · exact .inl (.inl (e _ _ h))
  · exact .inl (.inr ⟨o, e _ _ h⟩)
  · exact .inr h
mutual
theorem Dq.mono {K : PySem.W.Frag} {H H' : Hp} (e : Same H H') : ∀ (d : PyData) (v : V), Dq K H v d → Dq K H' v d
  | .none, _, h => by cases h; exact .non
  | .bool b, _, h => by cases h; exact .bl b
  | .int i, _, h => by cases h; exact .int i
  | .str x, _, h => by cases h; exact .str x
  | .list ds, _, h => by
    cases h with
    | lst hs ha => exact .lst (e _ _ hs) (DqAll.mono e ds _ ha)
  | .tuple ds, _, h => by
    cases h with
    | tup hs ha => exact .tup (sqT_same e hs) (DqAll.mono e ds _ ha)
  | .dict _, _, h => by
    cases h with
    | dct hd => exact .dct (e _ _ hd)
theorem DqAll.mono {K : PySem.W.Frag} {H H' : Hp} (e : Same H H') : ∀ (ds : List PyData) (vs : List V), DqAll K H vs ds → DqAll K H' vs ds
  | [], _, h => by cases h; exact .nil
  | d :: ds, _, h => by
    cases h with
    | cons h1 h2 => exact .cons (Dq.mono e d _ h1) (DqAll.mono e ds _ h2)
end
section
variable {X : Cx} {pins : List (Addr × Obj)} {σ : L2.St} {H : Hp} {s : Shared}
theorem no_sys (I : L2.Inv X pins σ H s) (hs : (X.K.lookup sysModules).isSome = true) {a : Addr} {o : HO} (e : H a = some o) : sysModules ≠ a := fun z => by
  obtain ⟨u, hu⟩ := Option.isSome_iff_exists.mp hs
  have q := (I.bs _ _ (I.mod.kin _ _ hu)).2
  rw [z, e] at q
  cases q
mutual
theorem Dq.reads (I : L2.Inv X pins σ H s) (hsy : (X.K.lookup sysModules).isSome = true) : ∀ (d : PyData) (v : V) (u : Value), Dq X.K H v d → RelV v u → ∃ as, Reads s.heap u d as ∧ sysModules ∉ as
  | .none, _, _, h, r => by
    cases h
    cases r
    exact ⟨_, Reads.none, by simp⟩
  | .bool b, _, _, h, r => by
    cases h
    cases r
    exact ⟨_, Reads.bool b, by simp⟩
  | .int i, _, _, h, r => by
    cases h
    obtain ⟨t, rfl⟩ := r
    exact ⟨_, Reads.int i t, by simp⟩
  | .str x, _, _, h, r => by
    cases h
    obtain ⟨t, rfl⟩ := r
    exact ⟨_, Reads.str x t, by simp⟩
  | .list ds, _, _, h, r => by
    cases h with
    | lst hs ha =>
      cases r
      obtain ⟨its, rv, ⟨o, n, ho, hc, _, hd⟩, _⟩ := I.list (.inl (.inl hs))
      obtain ⟨as, hr, hn⟩ := Dq.readsAll I hsy ds _ its ha rv
      exact ⟨_, Reads.list ho hc hd hr, fun z => (List.mem_cons.mp z).elim (fun z => no_sys I hsy hs z) hn⟩
  | .tuple ds, _, _, h, r => by
    cases h with
    | tup hs ha =>
      cases r
      obtain ⟨its, rv, ⟨o, ho, hc, n, hd⟩, _⟩ := I.tuple hs
      obtain ⟨as, hr, hn⟩ := Dq.readsAll I hsy ds _ its ha rv
      exact ⟨_, Reads.tuple ho hc hd hr, hn⟩
  | .dict _, _, _, h, r => by
    cases h with
    | dct hd =>
      cases r
      have q : ObjOk X.prog X.w H s.heap _ (.dK []) := I.hok _ _ hd
      obtain ⟨_, _, vs, rv, dd⟩ := q
      cases rv
      obtain ⟨o, es, ep, ho, hc, hdd, _, hp, _⟩ := dd
      have e0 : es.toList = [] := by
        cases hq : es.toList with
        | nil => rfl
        | cons x r =>
          rw [hq] at hp
          cases hp
      refine ⟨_, Reads.dict (kvs := []) (as := []) (bs := []) ho hc.1 hdd (by rw [e0]; exact .nil) (by rw [e0]; exact .nil), fun z => ?_⟩
      rcases List.mem_cons.mp z with z | z
      · exact no_sys I hsy hd z
      · cases z
theorem Dq.readsAll (I : L2.Inv X pins σ H s) (hsy : (X.K.lookup sysModules).isSome = true) : ∀ (ds : List PyData) (vs : List V) (us : List Value), DqAll X.K H vs ds → Vals vs us → ∃ as, ReadsAll s.heap us ds as ∧ sysModules ∉ as
  | [], _, _, h, r => by
    cases h
    cases r
    exact ⟨_, ReadsAll.nil, by simp⟩
  | d :: ds, _, _, h, r => by
    cases h with
    | cons h1 h2 =>
      cases r with
      | cons r1 r2 =>
        obtain ⟨as, q1, n1⟩ := Dq.reads I hsy d _ _ h1 r1
        obtain ⟨bs, q2, n2⟩ := Dq.readsAll I hsy ds _ _ h2 r2
        exact ⟨_, ReadsAll.cons q1 q2, fun z => (List.mem_append.mp z).elim n1 n2⟩
end
def rRepr (K : PySem.W.Frag) : List V → Hp → VK → Prop := fun xs H Q => ∃ (x : V) (d : PyData), xs = [x] ∧ Dq K H x d ∧ d.showable = true ∧ d.depth ≤ 60 ∧ d.shown.length ≤ sizeLine ∧ Q (.str d.shown) H
theorem call_repr (hgu : X.A.guards = some []) (hu : X.A.units + 64 < cLine) (hsy : (X.K.lookup sysModules).isSome = true) : CallR X (.builtin "repr") (rRepr X.K) := by
  intro pins s σ H xs us Q I r h
  obtain ⟨x, d, rfl, hd, h1, h2, h3, q⟩ := h
  cases r with
  | cons rx rr =>
    cases rr
    obtain ⟨as, rd, hn⟩ := Dq.reads I hsy d x _ hd rx
    cases hd with
    | non =>
      cases rx
      exact PySem.P.repr_of_none ⟨.str "None", H, I.tok _, ⟨_, rfl⟩, q⟩
    | bl b =>
      cases rx
      refine PySem.P.repr_of_bool ⟨.str (if b then "True" else "False"), H, I.tok _, ⟨s.toks, ?_⟩, ?_⟩
      · cases b <;> rfl
      · cases b <;> exact q
    | int i =>
      obtain ⟨t, rfl⟩ := rx
      exact PySem.P.repr_of_int (by simpa [PyData.showable] using h1) ⟨.str _, H, I.tok _, ⟨_, rfl⟩, q⟩
    | str z =>
      obtain ⟨t, rfl⟩ := rx
      exact PySem.P.repr_of_str ⟨.str _, H, I.tok _, ⟨_, rfl⟩, q⟩ (by simpa only [PyData.shown] using h3)
    | lst hl ha =>
      cases rx
      exact repr_of_reads' rd h1 (fun _ => hn) hgu (by omega) (fun _ _ e => e) (fun h' u tk hk => ⟨.str _, H, I.kept (t' := tk) hk, ⟨u, rfl⟩, q⟩) h3
    | tup hl ha =>
      cases rx
      exact repr_of_reads' rd h1 (fun _ => hn) hgu (by omega) (fun _ _ e => e) (fun h' u tk hk => ⟨.str _, H, I.kept (t' := tk) hk, ⟨u, rfl⟩, q⟩) h3
    | dct hl =>
      cases rx
      exact repr_of_reads' rd h1 (fun _ => hn) hgu (by omega) (fun _ _ e => e) (fun h' u tk hk => ⟨.str _, H, I.kept (t' := tk) hk, ⟨u, rfl⟩, q⟩) h3
end
/-! ### the law's end -/
theorem law_callG {P : Program} {w : World} {K : PySem.W.Frag} {mg mb : Str → Option Value} {k : Nat} {fa a : Addr} {fd : FuncData} {x : Str} {sp : Sp} {s1 : Shared} {vs : List Value} {ns : List Int}
    (KX : K.In s1.heap) (hns : s1.heap.Ns mainGlobals mg) (hb : s1.heap.Ns builtinsNs mb) (hbb : ∀ x : Str, x ≠ "__name__" → mb x = bootBuiltins x) (hlim : s1.heap.NoLimit) (hg : s1.gens = #[])
    (ha : s1.heap.get? a = some { cls := .type "list", data := .seq vs.toArray }) (hi : IntsAre vs ns) (hl : ns.length ≤ sizeLine) (hr : Room k callerA)
    (F : ∀ base : Heap, K.In base → base.Ns mainGlobals mg → FnG P w K mg base k fa fd [x] sp) (hbind : ∀ (s : Shared) (u : Value), BindsTo s fd ⟨[u], []⟩ [(x, u)])
    (hsp : ∀ H : Hp, Only H → SqL K H a (ns.map V.int) → sp [.ref a] H (fun v _ => v = .bl true) fun _ _ _ => False) :
    codeAny (model P w) callerA (.call (.ref fa) ⟨[.ref a], []⟩) (fun r s' => r = .ok (.ret (.bool true)) ∧ OldK s1.heap s'.heap ∧ s'.os = s1.os ∧ AllBare s'.gens) s1 := by
  have rv := vals_ints hi
  have lenV := hi.length
  -- from an abstract heap in which nothing but the script may be tracked
  have core : ∀ H : Hp, Only H → SqL K H a (ns.map V.int) → HOk P w H s1.heap → (∀ b, H b ≠ none → b = a) → (H a ≠ none → K.lookup a = none) →
      codeAny (model P w) callerA (.call (.ref fa) ⟨[.ref a], []⟩) (fun r s' => r = .ok (.ret (.bool true)) ∧ OldK s1.heap s'.heap ∧ s'.os = s1.os ∧ AllBare s'.gens) s1 := by
    intro H hO hS hok hA hK
    have base_of : ∀ {b : Addr} {o : Obj}, s1.heap.get? b = some o → H b = none → (hidT s1.heap H).get? b = some o := fun e n => hidT_get e n
    have noA : ∀ {b : Addr} {o : Obj} {es : Array DictEntry} {ep : Nat}, s1.heap.get? b = some o → o.data = .dict es ep → H b = none := fun {b o es ep} e d => by
      cases q : H b with
      | none => rfl
      | some u =>
        have e' : b = a := hA b (by rw [q]; simp)
        subst e'
        rw [ha] at e; cases e
        have d' : Data.seq vs.toArray _ = Data.dict es ep := d
        cases d'
    have nsK : ∀ {b : Addr} {m : Str → Option Value}, s1.heap.Ns b m → (hidT s1.heap H).Ns b m := fun {b m} ⟨o, es, ep, e, d, r⟩ => ⟨o, es, ep, base_of e (noA e d), d, r⟩
    have hKb : K.In (hidT s1.heap H) := fun b o e => base_of (KX b o e) (by
      cases q : H b with
      | none => rfl
      | some u =>
        have e' : b = a := hA b (by rw [q]; simp)
        subst e'
        rw [hK (by rw [q]; simp)] at e; cases e)
    have hM : Mod K mg (hidT s1.heap H) := ⟨hKb, nsK hns, ⟨mb, nsK hb, hbb⟩, let ⟨mc, h1, h2⟩ := hlim; ⟨mc, nsK h1, h2⟩⟩
    have e0 : Env0 P w K mg (hidT s1.heap H) callerA [] s1 H := ⟨rfl, hM, fun b o e => of_hidT e, Nat.le_of_eq (hidT_size _ _), trivial, fun b hb => absurd (show b ∈ ([] : List Addr) from hb) (by simp), hok, .of_eq hg⟩
    refine codeAny_mono ((F _ hKb (nsK hns)).run callerA [] s1 H ⟨[.ref a], []⟩ [.ref a] [.ref a] _ _ hr rfl e0 (hbind s1 (.ref a)) (.cons rfl .nil) (hsp H hO hS)) fun r s' h => ?_
    cases r with
    | error e => exact False.elim h
    | ok fl =>
      cases fl with
      | next => exact False.elim h
      | brk => exact False.elim h
      | cont => exact False.elim h
      | ret u =>
        obtain ⟨v, H', os, bare, un, hok', r', q⟩ := h
        have q' : v = .bl true := q
        subst q'
        obtain rfl : u = Value.bool true := r'
        refine ⟨rfl, OldK.of_keep fun b o e => ?_, os, bare⟩
        cases q : H b with
        | none => exact un.keep b o e q (by intro z; exact absurd (show b ∈ ([] : List Addr) from z) (by simp)) (by simp)
        | some u =>
          rcases hO b with z | ⟨ob, xs, z⟩
          · rw [q] at z; cases z
          · have z2 := un.frzs b ob _ z
            obtain ⟨e1, _⟩ := hok b _ z
            obtain ⟨e2, _⟩ := hok' b _ z2
            rw [e] at e1; cases e1
            exact e2
  cases hk : K.lookup a with
  | some o =>
    -- the script is one of the module's own objects
    have e := KX a o hk
    rw [ha] at e
    cases e
    refine core (fun _ => none) (fun _ => .inl rfl) (.inr ⟨_, vs.toArray, _, hk, rfl, rfl, rfl, by rw [List.size_toArray, lenV]; exact hl, by simpa using rv⟩) (fun b u z => by have z' : (none : Option HO) = some u := z; cases z') (fun b z => absurd rfl z) fun z => absurd rfl z
  | none =>
    refine core (fun b => if b = a then some (.frz { cls := .type "list", data := .seq vs.toArray } (.lst (ns.map V.int))) else none) (fun b => ?_) (.inl (.inr ⟨{ cls := .type "list", data := .seq vs.toArray }, if_pos rfl⟩)) (fun b u z => ?_) (fun b z => ?_) fun _ => hk
    · by_cases hb : b = a
      · exact .inr ⟨_, _, if_pos hb⟩
      · exact .inl (if_neg hb)
    · by_cases hb : b = a
      · have z' := (if_pos hb).symm.trans z
        cases z'
        subst hb
        exact ⟨ha, by rw [List.length_map]; exact hl, vs, _, rv, ha⟩
      · have z' := (if_neg hb).symm.trans z
        cases z'
    · by_cases hb : b = a
      · exact hb
      · exact absurd (if_neg hb) z
theorem walk_ofG {l : PySem.W.OpenLaw} {n k : Nat} {q : Program} {loose : List Str} {XP : (Str → Option Value) → Heap → Prop} {YP : World → Heap → Prop} {d : DefRec} {x : Str}
    (hn : l.most = some n) (hn2 : n ≤ sizeLine) (hdf : d.params.defaults = []) (hr : Room k callerA)
    (F : ∀ (w : World) (mg : Str → Option Value) (fa : Addr) (h : Heap), YP w h → h.Ns mainGlobals mg → mg d.name = some (.ref fa) →
      ∃ (K : PySem.W.Frag) (fd : FuncData) (sp : Sp), K.In h ∧ (∀ (s : Shared) (u : Value), BindsTo s fd ⟨[u], []⟩ [(x, u)]) ∧
        (∀ (H : Hp) (a : Addr) (ns : List Int), ns.length ≤ n → Only H → SqL K H a (ns.map V.int) → sp [.ref a] H (fun v _ => v = .bl true) fun _ _ _ => False) ∧
        ∀ base : Heap, K.In base → base.Ns mainGlobals mg → FnG l.prog w K mg base k fa fd [x] sp) :
    PySem.W.WalkO q loose XP YP l.row.toRowW d [] (fun f vs => PySem.call f vs) := by
  refine Att.attach_call hn hdf fun w s0 s1 mg mb fa o pm cd doc a vs ns G Y ho hd hcd hmg hobj hints hlen hg => ?_
  obtain ⟨K, fd, sp, KX, hb, hsp, hF⟩ := F w mg fa _ Y G.T.g hmg
  exact law_callG KX G.T.g G.T.b G.T.builtins G.T.nolimit hg hobj hints (Nat.le_trans hlen hn2) hr hF hb (fun H hO hS => hsp H a ns hlen hO hS)
end GG
/-! HK: what the top has left, looked at by names: the module's names, what they name, and so on three steps. -/
namespace HK
open PySem PySem.Spec PyProof.Rows L2 NdefX ES
def refsH (o : Obj) : List Addr := match o.data with
  | .seq its _ => its.toList.flatMap He.refV
  | .dict es _ => es.toList.flatMap fun e => He.refV e.val
  | .func fd => He.refV fd.code ++ (He.refV fd.defaults ++ (He.refV fd.kwdefaults ++ fd.closure.map (·.2)))
  | .cls cd => [cd.ns]
  | _ => []
def stepG (g : Addr → Option Obj) (as : List Addr) : List Addr := as.flatMap fun a => match g a with
  | some o => refsH o
  | none => []
def gat (g : Addr → Option Obj) (gs : List Str) : List Addr :=
  let a0 := gs.map (He.ga (He.frG g [mainGlobals]))
  let a1 := stepG g a0
  let a2 := stepG g a1
  let a3 := stepG g a2
  mainGlobals :: cStatics :: sysModules :: (a0 ++ (a1 ++ (a2 ++ a3)))
/-! ### the __init__ of an exception class -/
abbrev FnJ : Type := Option (Str × Str × Arguments × FuncBody × Scope × Addr × Addr)
def initA (K : PySem.W.Frag) (x : Str) : Addr := He.ma K (He.ga K x) "__init__"
def fnJ (K : PySem.W.Frag) (x : Str) : FnJ := match K.lookup (initA K x) with
  | some ⟨_, _, .func fd, _⟩ => some (fd.name, fd.qualname, fd.params, fd.body, fd.scope, fd.globals, fd.builtins)
  | _ => none
structure InD where
  x : Str
  qual : Str
  st : Stmt
  ps : List Str
def InD.val (d : InD) : FnJ := some (("__init__" : Str), d.qual, defArgs d.st, .stmts (defBody d.st), defScope d.st, mainGlobals, builtinsNs)
def fcode (K : PySem.W.Frag) (f : Addr) : Value := match K.lookup f with
  | some ⟨_, _, .func fd, _⟩ => fd.code
  | _ => .none
def fcell (K : PySem.W.Frag) (f : Addr) : Addr := match K.lookup f with
  | some ⟨_, _, .func fd, _⟩ => (match fd.closure with
    | [(_, c)] => c
    | _ => 0)
  | _ => 0
def initB (K : PySem.W.Frag) (C f : Addr) (q : Str) : Bool := match K.lookup f with
  | some ⟨_, _, .func fd, _⟩ => decide (fd.closure = [(("__class__" : Str), fcell K f)]) && (decide (fd.defaults = .none) && (PySem.W.codeIn K fd.code q && (match fd.code with
    | .ref _ => true
    | _ => false)))
  | _ => false
def codeO (fd : Value) : Addr := match fd with
  | .ref c => c
  | _ => 0
theorem init_lk {K : PySem.W.Frag} {d : InD} {C : Addr} (e : fnJ K d.x = d.val) (b : initB K C (initA K d.x) d.qual = true) :
    ∃ oc od osl kV doc pm an ct, K.lookup (initA K d.x) = some ⟨oc, od, .func (PySem.W.fnX "__init__" d.qual (defArgs d.st) (defBody d.st) (defScope d.st) [(("__class__" : Str), fcell K (initA K d.x))] .none kV doc pm an (.ref (codeO (fcode K (initA K d.x)))) ct), osl⟩ ∧
      PySem.W.codeIn K (.ref (codeO (fcode K (initA K d.x)))) d.qual = true := by
  unfold fnJ at e
  unfold initB at b
  cases q : K.lookup (initA K d.x) with
  | none =>
    rw [q] at b
    cases b
  | some o =>
    obtain ⟨oc, od, dt, osl⟩ := o
    rw [q] at b e
    cases dt with
    | func fd =>
      have hc : fcode K (initA K d.x) = fd.code := by
        unfold fcode
        rw [q]
      obtain ⟨n1, n2, n3, n4, n5, n6, n7, n8, n9, n10, n11, n12, n13, n14, n15⟩ := fd
      have e2 : (some (n1, n2, n3, n4, n5, n6, n15) : FnJ) = some (("__init__" : Str), d.qual, defArgs d.st, .stmts (defBody d.st), defScope d.st, mainGlobals, builtinsNs) := e
      simp only [Option.some.injEq, Prod.mk.injEq] at e2
      obtain ⟨h1, h2, h3, h4, h5, h6, h7⟩ := e2
      dsimp only at b
      obtain ⟨b3, b4⟩ := He.ba b
      obtain ⟨b5, b6⟩ := He.ba b4
      obtain ⟨b7, b8⟩ := He.ba b6
      have c7 := of_decide_eq_true b3
      have c8 := of_decide_eq_true b5
      cases n13 with
      | ref c =>
        have hc2 : codeO (fcode K (initA K d.x)) = c := by
          rw [hc] <;> rfl
        rw [hc2]
        refine ⟨oc, od, osl, n9, n10, n11, n12, n14, ?_, b7⟩
        rw [h1, h2, h3, h4, h5, h6, h7, c7, c8]
      | _ => cases b8
    | _ => cases b
/-! ### an exception class -/
def oexB (K : PySem.W.Frag) (C : Addr) : Bool := (match K.lookup C with
  | some ⟨.type t, _, .cls cd, sl⟩ => (match cd.mro, sl.toList with
    | .ref C' :: bm, [_, _, _, _, some (.builtin n), _] => decide (t = "type") && (decide (C' = C) && (decide (n = "ValueError.__new__") && (decide (cd.hasDel = false) && (decide (cd.hasDict = true) && PySem.HandSPX.refsVE bm))))
    | _, _ => false)
  | _ => false) && (decide (PySem.W.findIn K (.ref C) "__setattr__" = some (some (.builtin "object.__setattr__"))) && (decide (PySem.W.subIn K (.ref C) (.type "BaseException") = some true) && (decide (PySem.W.typeIn K (.ref C) = some (.type "type")) && PySem.W.keepIn K (.ref C))))
theorem oexB_ok {K : PySem.W.Frag} {C : Addr} (h : oexB K C = true) : OexC K C := by
  obtain ⟨h1, h⟩ := He.ba h
  obtain ⟨h2, h⟩ := He.ba h
  obtain ⟨h3, h⟩ := He.ba h
  obtain ⟨h4, h5⟩ := He.ba h
  refine ⟨?_, of_decide_eq_true h2, of_decide_eq_true h3, of_decide_eq_true h4, h5⟩
  cases q : K.lookup C with
  | none =>
    rw [q] at h1
    cases h1
  | some o =>
    obtain ⟨oc, od, dt, osl⟩ := o
    rw [q] at h1
    cases oc with
    | type t =>
      cases dt with
      | cls cd =>
        obtain ⟨nm, bs, mro, ns, qn, hd, sn, sb, ab, col, del⟩ := cd
        obtain ⟨sl⟩ := osl
        dsimp only at h1
        split at h1
        · rename_i C' bm k0 k1 k2 k3 n k5
          obtain ⟨a1, a⟩ := He.ba h1
          obtain ⟨a2, a⟩ := He.ba a
          obtain ⟨a3, a⟩ := He.ba a
          obtain ⟨a4, a⟩ := He.ba a
          obtain ⟨a5, a6⟩ := He.ba a
          have e1 := of_decide_eq_true a1
          have e2 := of_decide_eq_true a2
          have e3 := of_decide_eq_true a3
          have e4 := of_decide_eq_true a4
          have e5 := of_decide_eq_true a5
          subst e1 e2 e3 e4 e5
          exact ⟨nm, qn, ns, bs, bm, sn, sb, ab, col, od, k0, k1, k2, k3, k5, rfl, a6⟩
        · cases h1
      | _ => cases h1
    | _ => cases dt <;> cases h1
def supB (P : Program) (K : PySem.W.Frag) (C cc cd : Addr) : Bool :=
  (match K.lookup cc with
    | some ⟨_, _, .cell (some (.ref D)), _⟩ => decide (D = C)
    | _ => false) && ((match K.lookup cd with
    | some ⟨_, _, .fields vs, _⟩ => (match (vs[2]? : Option Value) with
      | some (.str file _) => ((P.main.file : Str) == file)
      | _ => false)
    | _ => false) && (decide (PySem.W.mroIn K C (.ref C) = some true) && (decide (PySem.W.ks_superIn K C C "__init__" = some (some (.builtin "ValueError.__init__"))) && decide (PySem.W.subIn K (.ref C) (.type "ValueError") = some true))))
theorem supB_ok {P : Program} {K : PySem.W.Frag} {mg : Str → Option Value} {C cc cd : Addr} (ho : OexC K C) (h : supB P K C cc cd = true) (top : (P.main.scope.names.lookup ("super" : Str)).isSome = false) (stat : PySem.W.nsIn K cStatics "thirdparty.any" = some none) (gs : mg "super" = none) : SupC P K mg C cc cd := by
  obtain ⟨h1, h⟩ := He.ba h
  obtain ⟨h2, h⟩ := He.ba h
  obtain ⟨h3, h⟩ := He.ba h
  obtain ⟨h4, h5⟩ := He.ba h
  refine ⟨ho, ?_, ?_, top, stat, of_decide_eq_true h3, of_decide_eq_true h4, of_decide_eq_true h5, gs⟩
  · split at h1
    · rename_i a b D c e
      rw [of_decide_eq_true h1] at e
      exact ⟨_, _, _, e⟩
    · cases h1
  · split at h2
    · rename_i a b vs c e
      split at h2
      · rename_i file t e2
        exact ⟨_, _, vs, _, file, t, e, e2, h2⟩
      · cases h2
    · cases h2
def excB (K : PySem.W.Frag) (C : Addr) : Bool := decide (PySem.W.findIn K (.ref C) "__getattribute__" = some (some (.builtin "BaseException.__getattribute__"))) && (decide (PySem.W.findIn K (.ref C) "__getattr__" = some none) &&
  (decide (PySem.W.subIn K (.ref C) (.type "BaseException") = some true) && (PySem.W.hasDictIn K C && (decide (PySem.W.findIn K (.ref C) "__class__" = some (some (.builtin "object.__class__"))) &&
  (decide (PySem.W.specialIn K (.builtin "object.__class__") "__get__" = some (some (.builtin "getset_descriptor.__get__"))) && (decide (PySem.W.takesIn K (.builtin "object.__class__") = some true) && decide (PySem.W.mroIn K C (.type "object") = some true)))))))
theorem excB_ok {K : PySem.W.Frag} {C : Addr} (h : excB K C = true) : ExcC K C ∧ XfC K C := by
  obtain ⟨h1, h⟩ := He.ba h
  obtain ⟨h2, h⟩ := He.ba h
  obtain ⟨h3, h⟩ := He.ba h
  obtain ⟨h4, h⟩ := He.ba h
  obtain ⟨h5, h⟩ := He.ba h
  obtain ⟨h6, h⟩ := He.ba h
  obtain ⟨h7, h8⟩ := He.ba h
  exact ⟨⟨of_decide_eq_true h1, of_decide_eq_true h2, of_decide_eq_true h3, h4, of_decide_eq_true h5, of_decide_eq_true h6, of_decide_eq_true h7, of_decide_eq_true h8⟩, ⟨of_decide_eq_true h1, of_decide_eq_true h2, of_decide_eq_true h3, h4⟩⟩
/-! ### the Hook -/
abbrev AlH : Type := He.AlD × Bool × List FnJ
def obsH (fa : List He.Fa) (fn : List He.DefD) (ex : PySem.W.Frag → Bool) (js : List InD) (K : PySem.W.Frag) : AlH := (He.obsD fa fn K, ex K, js.map fun d => fnJ K d.x)
def valH (fn : List He.DefD) (js : List InD) : AlH := (He.valD fn, true, js.map InD.val)
structure Says (fa : List He.Fa) (fn : List He.DefD) (ex : PySem.W.Frag → Bool) (js : List InD) (K : PySem.W.Frag) : Prop where
  d : He.SaysD fa fn K
  ex : ex K = true
  js : ∀ d ∈ js, fnJ K d.x = d.val
theorem says_of {fa : List He.Fa} {fn : List He.DefD} {ex : PySem.W.Frag → Bool} {js : List InD} {K : PySem.W.Frag} (e : obsH fa fn ex js K = valH fn js) : Says fa fn ex js K := by
  have e1 : He.obsD fa fn K = He.valD fn := congrArg (fun z : AlH => z.1) e
  have e2 : ex K = true := congrArg (fun z : AlH => z.2.1) e
  have e3 : (js.map fun d => fnJ K d.x) = js.map InD.val := congrArg (fun z : AlH => z.2.2) e
  exact ⟨e1, e2, fun d hd => List.map_inj_left.mp e3 d hd⟩
def obsG (gs : List Str) (fa : List He.Fa) (fn : List He.DefD) (ex : PySem.W.Frag → Bool) (js : List InD) (g : Addr → Option Obj) : AlH := obsH fa fn ex js (He.frG g (gat g gs))
def hookH (gs : List Str) (fa : List He.Fa) (fn : List He.DefD) (ex : PySem.W.Frag → Bool) (js : List InD) : PySem.W.Hook where
  α := AlH
  obs := fun s => obsG gs fa fn ex js s.heap.get?
  val := fun _ => valH fn js
  says := fun _ h => ∃ K : PySem.W.Frag, K.In h ∧ Says fa fn ex js K
  of := fun _ _ e => ⟨_, He.frG_in, says_of e⟩
  keeps := fun _ _ _ ⟨K, hK, c⟩ k => ⟨K, PySem.W.Frag.In.keeps hK k, c⟩
theorem obsG_eq {gs : List Str} {fa : List He.Fa} {fn : List He.DefD} {ex : PySem.W.Frag → Bool} {js : List InD} {g : Addr → Option Obj} {s : Shared} (h : ∀ a, g a = s.heap.get? a) : obsG gs fa fn ex js g = (hookH gs fa fn ex js).obs s := by
  have e : g = s.heap.get? := funext h
  rw [e] <;> rfl
end HK
/-! CA: defs that may be called where an exception is handled; a caught exception handed to such a def. -/
namespace CA
open PySem PySem.Spec PyProof.Rows L2 L2H ES
/-! ### the base without one address -/
def cut (h : Heap) (a : Addr) : Heap := h.update a fun o => { o with data := .freed }
theorem cut_self {h : Heap} {a : Addr} : (cut h a).get? a = none := by
  obtain ⟨objs, l⟩ := h
  unfold cut Heap.update Heap.get?
  dsimp only
  rw [Array.getElem?_modify]
  cases e : objs[a]? with
  | none => simp [e]
  | some o =>
    obtain ⟨c, d, dt, sl⟩ := o
    simp [e]
theorem cut_ne {h : Heap} {a b : Addr} (n : a ≠ b) : (cut h a).get? b = h.get? b := Heap.get?_update_other _ _ n
theorem cut_sub {h : Heap} {a b : Addr} {o : Obj} (e : (cut h a).get? b = some o) : h.get? b = some o := by
  by_cases n : a = b
  · subst n
    rw [cut_self] at e
    cases e
  · rw [cut_ne n] at e
    exact e
theorem cut_size {h : Heap} {a : Addr} : (cut h a).objs.size = h.objs.size := by
  unfold cut Heap.update
  simp
theorem cut_ns {h : Heap} {a b : Addr} {m : Str → Option Value} (x : h.Ns b m) (n : a ≠ b) : (cut h a).Ns b m := by
  obtain ⟨o, es, ep, e, r⟩ := x
  exact ⟨o, es, ep, by rw [cut_ne n]; exact e, r⟩
theorem cut_mod {K : PySem.W.Frag} {mg : Str → Option Value} {base : Heap} {a : Addr} (x : Mod K mg base) (nk : K.lookup a = none) (nf : ∀ o, base.get? a = some o → ∃ vs, o.data = .fields vs) : Mod K mg (cut base a) := by
  have nd : ∀ {b : Addr} {m : Str → Option Value}, base.Ns b m → a ≠ b := fun {b m} h z => by
    obtain ⟨o, es, ep, e, d, _⟩ := h
    obtain ⟨vs, dv⟩ := nf o (by rw [z]; exact e)
    rw [d] at dv
    cases dv
  obtain ⟨mb, hb, q⟩ := x.blt
  obtain ⟨mc, hc, q2⟩ := x.nolimit
  refine ⟨fun b o e => ?_, cut_ns x.glob (nd x.glob), ⟨mb, cut_ns hb (nd hb), q⟩, ⟨mc, cut_ns hc (nd hc), q2⟩⟩
  have n : a ≠ b := fun z => by
    rw [← z, nk] at e
    cases e
  rw [cut_ne n]
  exact x.kin b o e
theorem cut_funs {h base : Heap} {a : Addr} : ∀ {l : List Env}, h.FunFrames base l → h.FunFrames (cut base a) l
  | [], _ => trivial
  | env :: rest, ⟨hk, ⟨L, o, hf, hn, ho, hd⟩, hr⟩ => by
    refine ⟨hk, ⟨L, o, hf, ?_, ho, hd⟩, cut_funs hr⟩
    cases e : (cut base a).get? L with
    | none => rfl
    | some u =>
      rw [cut_sub e] at hn
      cases hn
/-! ### the heap without one address -/
abbrev pinE (a : Addr) (oe : Obj) : HO := .ext fun h => h.get? a = some oe
def hid (a : Addr) (H : Hp) : Hp := fun b => if b = a then none else H b
theorem hid_same {a : Addr} {H : Hp} : hid a H a = none := by
  unfold hid
  rw [if_pos rfl]
theorem hid_ne {a b : Addr} {H : Hp} (n : b ≠ a) : hid a H b = H b := by
  unfold hid
  rw [if_neg n]
theorem hid_some {a b : Addr} {H : Hp} {φ : Heap → Prop} {u : HO} (e : H a = some (.ext φ)) (h : H b = some u) (n : ∀ ψ, u ≠ .ext ψ) : hid a H b = some u := by
  rw [hid_ne]
  · exact h
  · intro z
    rw [z, e] at h
    exact n _ (Option.some.inj h).symm
theorem put_some {a b : Addr} {H : Hp} {o u : HO} (e : H a = none) (h : H b = some u) : upd H a o b = some u := by
  rw [upd_ne]
  · exact h
  · intro z
    rw [z, e] at h
    cases h
theorem objOk_hid {P : Program} {w : World} {H : Hp} {h : Heap} {a : Addr} {φ : Heap → Prop} (e : H a = some (.ext φ)) : ∀ {o : HO} {b : Addr}, ObjOk P w H h b o → ObjOk P w (hid a H) h b o
  | .lst _, _, x => x
  | .tup _, _, x => x
  | .dK _, _, x => x
  | .dT _, _, ⟨h1, h2, xs, h3, h4⟩ => ⟨h1, h2, xs, L2.Paired.mapP h3 fun p q ⟨r1, r2, r3⟩ => ⟨r1, hid_some e r2 (fun _ z => nomatch z), r3⟩, h4⟩
  | .set _ _, _, x => x
  | .ins C dx fs, _, ⟨h1, r⟩ => ⟨hid_some e h1 (fun _ z => nomatch z), r⟩
  | .own _, _, x => x
  | .xd _, _, x => x
  | .rng _ _, _, x => x
  | .frz _ _, _, ⟨h1, h2⟩ => ⟨h1, objOk_hid e h2⟩
  | .tbl _, _, x => x
  | .met _ _, _, x => x
  | .ext _, _, x => x
theorem objOk_put {P : Program} {w : World} {H : Hp} {h : Heap} {a : Addr} {u : HO} (e : H a = none) : ∀ {o : HO} {b : Addr}, ObjOk P w H h b o → ObjOk P w (upd H a u) h b o
  | .lst _, _, x => x
  | .tup _, _, x => x
  | .dK _, _, x => x
  | .dT _, _, ⟨h1, h2, xs, h3, h4⟩ => ⟨h1, h2, xs, L2.Paired.mapP h3 fun p q ⟨r1, r2, r3⟩ => ⟨r1, put_some e r2, r3⟩, h4⟩
  | .set _ _, _, x => x
  | .ins C dx fs, _, ⟨h1, r⟩ => ⟨put_some e h1, r⟩
  | .own _, _, x => x
  | .xd _, _, x => x
  | .rng _ _, _, x => x
  | .frz _ _, _, ⟨h1, h2⟩ => ⟨h1, objOk_put e h2⟩
  | .tbl _, _, x => x
  | .met _ _, _, x => x
  | .ext _, _, x => x
/-! ### a def's promise, whatever is handled -/
structure FnS (P : Program) (w : World) (K : PySem.W.Frag) (mg : Str → Option Value) (base : Heap) (k : Nat) (f : Addr) (fd : FuncData) (ps : List Str) (sp : Sp) : Prop where
  len : ∀ vs H Q E, sp vs H Q E → vs.length = ps.length
  run : ∀ (A : Around) (outer : List Env) (s : Shared) (H : Hp) (args : Args) (us : List Value) (vs : List V) (Q : VK) (E : XK), RoomH k A → Env0 P w K mg base A outer s H → BindsTo s fd args (ps.zip us) → Vals vs us → sp vs H Q E →
    codeAny (model P w) A (.call (.ref f) args) (CR CX0 outer P w H s Q E) s
section
variable {P : Program} {w : World} {K : PySem.W.Frag} {mg : Str → Option Value} {base : Heap}
theorem FnS.ok {k : Nat} {f : Addr} {fd : FuncData} {ps : List Str} {sp : Sp} (F : FnS P w K mg base k f fd ps sp) : FnOk P w K mg base CX0 k f fd ps sp := ⟨F.len, fun A outer s H args us vs Q E hr => F.run A outer s H args us vs Q E (roomH_of hr)⟩
theorem okS {x qual : Str} {params : Arguments} {body : List Stmt} {scope : Scope} {f : Addr} {fd : FuncData} {N ps : List Str} {k : Nat} {sp : Sp} (F : FunD K x qual params body scope [] [] f fd) (S : FnScope N ps scope) (len : ∀ vs H Q E, sp vs H Q E → vs.length = ps.length)
    (hbody : ∀ (cdv : Value) (A : Around) (outer : List Env) (s : Shared) (H : Hp) (vs : List V) (Q : VK) (E : XK) (p : Addr × Obj), RoomH k (A.deeper (envOfC qual scope s.heap.objs.size f cdv)) → sp vs H Q E →
      ∃ t, PSs (cxH CX0 P w K mg base N qual scope f cdv A outer s H E p).nox body t ∧ t { nx := fun _ H' => Q .non H', rt := Q } (start N vs) H) : FnS P w K mg base (k + 1) f fd ps sp := by
  obtain ⟨oc, od, dV, kV, doc, pm, an, cdv, ct, osl, rfl, lk, hcd, _, _⟩ := F.ex
  refine ⟨len, fun A outer s H args us vs Q E hr e0 hb r hsp => ?_⟩
  have hl := len _ _ _ _ hsp
  have KX : K.In s.heap := e0.mod.kin.keeps fun b o e => (e0.bs b o e).1
  have lim : s.heap.NoLimit := e0.mod.nolimit.keeps fun b o e => (e0.bs b o e).1
  have hkind : ∀ y ∈ ps.zip us, scope.names.lookup y.1 = some .local ∨ (scope.names.lookup y.1 = some .cell ∧ ((cellsFrom (s.heap.objs.size + 1) scope.names []).lookup y.1).isSome = true) := fun ⟨n, v⟩ hy => by
    rcases S.par n (List.of_mem_zip hy).1 with q | q
    · exact .inl q
    · exact .inr ⟨q, PySem.W.cellsFrom_some _ _ _ (.inl q)⟩
  obtain ⟨om, es, ep, hom, hdm, _⟩ := e0.mod.glob
  have h1 : mainGlobals ∉ frs outer := fun hm => by
    have z := (e0.funs.mem hm).1
    rw [hom] at z
    cases z
  have h2 : ∀ v, om.data ≠ .cell v := fun v z => by
    rw [hdm] at z
    cases z
  have hpin : PinOk outer H s (mainGlobals, om) := ⟨(e0.bs _ _ hom).1, (e0.bs _ _ hom).2, h1, h2⟩
  refine codeAny_call_function hr.depth (KX _ _ lk) rfl S.co S.gen rfl (PySem.W.codeRec_of KX hcd) (hb _ _ _ _ ?_)
  refine wpAny_newFunctionEnv_cells S.kind hkind fun env he s1 x => ?_
  subst he
  refine ⟨lim.keeps x.toInCall.keep, codeAny_func ?_⟩
  obtain ⟨t, ht, hq⟩ := hbody cdv A outer s H vs Q E (mainGlobals, om) (hr.deeper _) hsp
  have I : L2.Inv (cxH CX0 P w K mg base N qual scope f cdv A outer s H E (mainGlobals, om)) [] (start N vs) H s1 := inv_startH S hpin e0 hl r x
  refine wpAny_mono ((ht.nox).run [] s1 (start N vs) H _ I hq) (fun fl s' hs => ?_) fun e s' hs => hs
  have fin : ∀ {σ' : L2.St} {H' : Hp} {v : V} {u : Value}, L2.Inv (cxH CX0 P w K mg base N qual scope f cdv A outer s H E (mainGlobals, om)) [] σ' H' s' → RelV v u → Q v H' → CE outer P w H s Q u s' :=
    fun {σ' H' v u} J rv q => ⟨v, H', J.os, J.bare, J.base, J.hok, rv, q⟩
  cases fl with
  | ret u =>
    obtain ⟨v, σ', H', J, rv, q⟩ := hs
    exact fin J rv q
  | next =>
    obtain ⟨σ', H', J, q⟩ := hs
    exact fin (v := V.non) (u := Value.none) J rfl q
  | brk =>
    obtain ⟨_, _, _, q⟩ := hs
    exact False.elim q
  | cont =>
    obtain ⟨_, _, _, q⟩ := hs
    exact False.elim q
/-- the same rule for a def under no guard -/
theorem okGD {x qual : Str} {params : Arguments} {body : List Stmt} {scope : Scope} {f : Addr} {fd : FuncData} {N ps : List Str} {k : Nat} {sp : Sp} (F : FunD K x qual params body scope [] [] f fd) (S : FnScope N ps scope) (len : ∀ vs H Q E, sp vs H Q E → vs.length = ps.length)
    (hbody : ∀ (cdv : Value) (A : Around) (outer : List Env) (s : Shared) (H : Hp) (vs : List V) (Q : VK) (E : XK), Room k (A.deeper (envOfC qual scope s.heap.objs.size f cdv)) → A.guards = some [] → sp vs H Q E →
      ∃ t, PSs (cxOf CX0 P w K mg base N qual scope f cdv A outer s H E).nox body t ∧ t { nx := fun _ H' => Q .non H', rt := Q } (start N vs) H) : GG.FnG P w K mg base (k + 1) f fd ps sp := by
  obtain ⟨oc, od, dV, kV, doc, pm, an, cdv, ct, osl, rfl, lk, hcd, _, _⟩ := F.ex
  refine ⟨len, fun A outer s H args us vs Q E hr hgu e0 hb r hsp => ?_⟩
  have hl := len _ _ _ _ hsp
  have KX : K.In s.heap := e0.mod.kin.keeps fun b o e => (e0.bs b o e).1
  have lim : s.heap.NoLimit := e0.mod.nolimit.keeps fun b o e => (e0.bs b o e).1
  have hkind : ∀ y ∈ ps.zip us, scope.names.lookup y.1 = some .local ∨ (scope.names.lookup y.1 = some .cell ∧ ((cellsFrom (s.heap.objs.size + 1) scope.names []).lookup y.1).isSome = true) := fun ⟨n, v⟩ hy => by
    rcases S.par n (List.of_mem_zip hy).1 with q | q
    · exact .inl q
    · exact .inr ⟨q, PySem.W.cellsFrom_some _ _ _ (.inl q)⟩
  refine codeAny_call_function hr.depth (KX _ _ lk) rfl S.co S.gen rfl (PySem.W.codeRec_of KX hcd) (hb _ _ _ _ ?_)
  refine wpAny_newFunctionEnv_cells S.kind hkind fun env he s1 x => ?_
  subst he
  refine ⟨lim.keeps x.toInCall.keep, codeAny_func ?_⟩
  obtain ⟨t, ht, hq⟩ := hbody cdv A outer s H vs Q E (hr.deeper _) hgu hsp
  have I : L2.Inv (cxOf CX0 P w K mg base N qual scope f cdv A outer s H E) [] (start N vs) H s1 := inv_start S hr.hd e0 hl r x
  refine wpAny_mono ((ht.nox).run [] s1 (start N vs) H _ I hq) (fun fl s' hs => ?_) fun e s' hs => hs
  have fin : ∀ {σ' : L2.St} {H' : Hp} {v : V} {u : Value}, L2.Inv (cxOf CX0 P w K mg base N qual scope f cdv A outer s H E) [] σ' H' s' → RelV v u → Q v H' → CE outer P w H s Q u s' :=
    fun {σ' H' v u} J rv q => ⟨v, H', J.os, J.bare, J.base, J.hok, rv, q⟩
  cases fl with
  | ret u =>
    obtain ⟨v, σ', H', J, rv, q⟩ := hs
    exact fin J rv q
  | next =>
    obtain ⟨σ', H', J, q⟩ := hs
    exact fin (v := V.non) (u := Value.none) J rfl q
  | brk =>
    obtain ⟨_, _, _, q⟩ := hs
    exact False.elim q
  | cont =>
    obtain ⟨_, _, _, q⟩ := hs
    exact False.elim q
end
/-! ### the caught exception, handed to such a def -/
section
variable {X : Cx} {k : Nat} {f a : Addr} {oe : Obj} {pn : List (Addr × Obj)} {fd : FuncData} {ps : List Str} {sp : Sp} {x : Str} {p pos : Pos} {e : Expr} {es : List Expr} {t : TA}
theorem run_fnX {pins : List (Addr × Obj)} {σ : L2.St} {H : Hp} {s : Shared} {Q : VK} {us : List Value} {vs : List V} {vz : Array Value} (hp : (a, oe) ∈ X.pn) (hd : oe.data = .fields vz) (nk0 : ∀ o, X.K.lookup a = some o → o ≠ oe)
    (F : ∀ base, FnS X.prog X.w X.K X.mg base k f fd ps sp) (hr : RoomH k X.A) (hb : Binds X.K fd ps [])
    (I : L2.Inv X pins σ H s) (r : Vals vs us) (h : sp vs (upd H a (pinE a oe)) (fun v H2 => H2 a = some (pinE a oe) ∧ Q v (hid a H2)) E0) : wpAny (model X.prog X.w) X.A (call (.ref f) us) (EP X pins σ Q) X.xe s := by
  have F0 := F (cut X.base a)
  have hl : us.length = ps.length := by rw [← r.length]; exact F0.len _ _ _ _ h
  have b := hb s us I.kIn (by rw [List.append_nil]; exact hl)
  rw [List.append_nil] at b
  have P1 := I.pin (a, oe) (List.mem_append_left _ hp)
  have nk : X.K.lookup a = none := by
    cases q : X.K.lookup a with
    | none => rfl
    | some o =>
      have z := I.kIn _ _ q
      rw [P1.1] at z
      cases z
      exact absurd rfl (nk0 _ q)
  have hfs : a ∉ frs X.stack := fun hm => (List.mem_cons.mp (I.stkSub a hm)).elim P1.2.2.1 P1.2.2.2.1
  have e0 := I.env0
  have nb : ∀ {b : Addr} {o : Obj}, (cut X.base a).get? b = some o → b ≠ a := fun {b o} e z => by
    rw [z, cut_self] at e
    cases e
  have nf : ∀ o, X.base.get? a = some o → ∃ vs, o.data = .fields vs := fun o z => by
    have q := (e0.bs _ _ z).1
    rw [P1.1] at q
    cases q
    exact ⟨_, hd⟩
  have okA : ObjOk X.prog X.w (upd H a (pinE a oe)) s.heap a (pinE a oe) := ⟨P1.1, ⟨_, P1.1⟩, fun h1 h2 q z => z _ q⟩
  have e1 : Env0 X.prog X.w X.K X.mg (cut X.base a) X.A X.stack s (upd H a (pinE a oe)) := by
    refine ⟨e0.frames, cut_mod e0.mod nk nf, fun b o z => ⟨(e0.bs b o (cut_sub z)).1, by rw [upd_ne (nb z)]; exact (e0.bs b o (cut_sub z)).2⟩, by rw [cut_size]; exact e0.bsz, cut_funs e0.funs,
      fun b hm => by
        have hba : b ≠ a := fun y => by
          rw [y] at hm
          exact hfs hm
        rw [upd_ne hba]
        exact e0.frf b hm, fun b o z => ?_, e0.bare⟩
    by_cases hba : b = a
    · subst hba
      rw [upd_same] at z
      cases z
      exact okA
    · rw [upd_ne hba] at z
      exact objOk_put P1.2.1 (e0.hok b o z)
  refine wpAny_call (codeAny_mono (F0.run X.A X.stack s _ ⟨us, []⟩ us vs _ E0 hr e1 b r h) fun r s' hq => ?_)
  cases r with
  | error e => exact False.elim hq
  | ok fl =>
    cases fl with
    | ret u =>
      obtain ⟨v, H', os, bare, un, hok, rv, ea, q⟩ := hq
      have ga : s'.heap.get? a = some oe := (hok a _ ea).1
      refine I.after ⟨v, hid a H', os, bare, ⟨fun b o z n m x => ?_, fun b o z n m x => ?_, fun b o z n x => ?_, un.there, fun b xs z => ?_, fun b o u z => ?_, fun b pz z => ?_⟩, fun b o z => ?_, rv, q⟩
      · by_cases hba : b = a
        · subst hba
          rw [P1.1] at z
          cases z
          exact ga
        · exact un.keep b o z (by rw [upd_ne hba]; exact n) m x
      · have hba : b ≠ a := fun y => hfs (y ▸ m)
        exact un.slot b o z (by rw [upd_ne hba]; exact n) m x
      · by_cases hba : b = a
        · subst hba
          exact hid_same
        · rw [hid_ne hba]
          exact un.free b o z (by rw [upd_ne hba]; exact n) x
      · have hba : b ≠ a := fun y => by
          have y2 := P1.2.1
          rw [← y] at y2
          rw [show H b = none from y2] at z
          cases z
        rw [hid_ne hba]
        exact un.tups b xs (by rw [upd_ne hba]; exact z)
      · have hba : b ≠ a := fun y => by
          have y2 := P1.2.1
          rw [← y] at y2
          rw [show H b = none from y2] at z
          cases z
        rw [hid_ne hba]
        exact un.frzs b o u (by rw [upd_ne hba]; exact z)
      · have hba : b ≠ a := fun y => by
          have y2 := P1.2.1
          rw [← y] at y2
          rw [show H b = none from y2] at z
          cases z
        rw [hid_ne hba]
        exact un.tbls b pz (by rw [upd_ne hba]; exact z)
      · have hba : b ≠ a := fun y => by
          rw [y, hid_same] at z
          cases z
        rw [hid_ne hba] at z
        exact objOk_hid ea (hok b o z)
    | next => exact False.elim hq
    | brk => exact False.elim hq
    | cont => exact False.elim hq
def tCallX (K : PySem.W.Frag) (a : Addr) (cls : Value) (d : Option Addr) (sp : Sp) (t : TA) : TE := fun σ H Q => t σ H fun vs H1 => ∀ oe : Obj, Zc cls d oe → (∃ vz, oe.data = .fields vz) → (∀ o, K.lookup a = some o → o ≠ oe) ∧ sp vs (upd H1 a (pinE a oe)) (fun v H2 => H2 a = some (pinE a oe) ∧ Q v (hid a H2)) E0
theorem pe_callX {cls : Value} {d : Option Addr} (hp : (a, oe) ∈ X.pn) (hz : Zc cls d oe) (hd : ∃ vz, oe.data = .fields vz) (F : ∀ base, FnS X.prog X.w X.K X.mg base k f fd ps sp) (hr : RoomH k X.A) (hg : Gl X x) (hm : X.mg x = some (.ref f)) (hk : PySem.W.keepIn X.K (.ref f) = true) (hb : Binds X.K fd ps [])
    (ha : PA X (e :: es) t) (hdb : (x == ("__debug__" : Str)) = false := by decide) (he : starEach (e :: es) X.env = (false, eval e X.env) :: starEach es X.env := by rfl) (hpl : (backTo pos (starEach es X.env)).any (·.1) = false := by rfl) :
    PE X (.Call (.Name x p) (e :: es) [] pos) (tCallX X.K a cls d sp t) := by
  refine ⟨fun pins s σ H Q I h => ?_⟩
  refine wpAny_Call_Name_kw (ld_glob I hg hm ?_ hdb)
  refine PySem.W.callWith_K (h₀ := X.base) I.ok.mod.kin hk (thn (ha.run pos pins s σ H _ I h) fun us s1 ⟨vs, H1, I1, r, q⟩ => ⟨I1.kIn, ?_⟩) he hpl
  obtain ⟨vz, hd'⟩ := hd
  obtain ⟨nk, q'⟩ := q oe hz ⟨vz, hd'⟩
  exact run_fnX hp hd' nk F hr hb I1 r q'
end
end CA
/-! RX: raise C(k = v, ..), raise C(). -/
namespace ES
open PySem PySem.Spec PyProof.Rows L2 NdefX
section
variable {X : Cx} {C fI : Addr} {k : Nat} {fd : FuncData} {ps : List Str} {sp : Sp} {x : Str} {p pos : Pos} {kws : List Keyword} {t : TA}
theorem pmk_oexK {ks : List Str} (T : OexC X.K C) (iC : PySem.W.findIn X.K (.ref C) "__init__" = some (some (.ref fI))) (tI : PySem.W.typeIn X.K (.ref fI) = some (.type "function"))
    (F1 : FnOk X.prog X.w X.K X.mg X.base CX0 k fI fd ps sp) (hr : Room (k + 1) X.A)
    (hbd : ∀ (s : Shared) (self : Value) (ws : List Value), ws.length = ks.length → BindsTo s fd ⟨[self], ks.zip ws⟩ (ps.zip (self :: ws))) (hg : Gl X x) (hm : X.mg x = some (.ref C)) (hkw : PK X kws t) (hlen : kws.length = ks.length)
    (hall : (backToKw pos (keywordEach kws X.env)).all (·.1.isSome) = true := by rfl) (hks : (backToKw pos (keywordEach kws X.env)).filterMap (·.1) = ks := by rfl)
    (hdb : (x == ("__debug__" : Str)) = false := by decide) (hpl : ((backTo pos (starEach [] X.env)).any (·.1) || (backToKw pos (keywordEach kws X.env)).any (·.1.isNone)) = false := by rfl) :
    PMk X (.Call (.Name x p) [] kws pos) (fun σ H Q => t σ H fun vs H1 => vs.length = ks.length ∧ vs.length ≤ 1000 ∧ ∀ a, H1 a = none → sp (.ref a :: vs) (upd H1 a (exo a C none)) (fun v H2 => v = .non ∧ ∃ d fs, H2 a = some (exo a C (some d)) ∧ H2 d = some (exd d fs) ∧ H1 d = none ∧ Q (.ref C) (some d) (upd (del H2 a) d (.xd fs))) E0) := by
  intro pins s σ H Q I h
  obtain ⟨nm, q, N, bs, bm, sn, sub, ab, col, dd, k0, k1, k2, k3, k5, hC, hbm⟩ := T.cls
  refine wpAny_Call_Name_kw (ld_glob I hg hm ?_ hdb)
  refine PySem.W.callWith_KW0 (h₀ := X.base) I.ok.mod.kin T.kC hall (thn (hkw.run pos pins s σ H _ I h) fun ws s1 ⟨vs, H1, I1, r1, hl, hz, q1⟩ => ⟨I1.kIn, ?_⟩) hpl
  rw [hks]
  have lw : ws.length = ks.length := by rw [← Paired.length r1]; exact hl
  have em : (ks.zip ws).map (·.2) = ws := by
    rw [List.map_snd_zip]
    omega
  obtain ⟨hp, g, dr, tk, os⟩ := s1
  have hsz : hp.objs.size ≤ hp.objs.size + 1 := Nat.le_succ _
  have hn : H1 (hp.objs.size + 1) = none := I1.hok.fresh hsz
  have hq := q1 (hp.objs.size + 1) hn
  have kk : ∀ b o, hp.get? b = some o → ((hp.push (PySem.W.kdv_tup [])).push (PySem.HandSPX.excO C hp.objs.size)).get? b = some o := fun b o e => Heap.get?_push_of_some _ (Heap.get?_push_of_some _ e)
  have hget : ((hp.push (PySem.W.kdv_tup [])).push (PySem.HandSPX.excO C hp.objs.size)).get? (hp.objs.size + 1) = some (PySem.HandSPX.excO C hp.objs.size) := by heap_get
  have I2 : L2.Inv X pins σ (upd H1 (hp.objs.size + 1) (exo (hp.objs.size + 1) C none)) ⟨(hp.push (PySem.W.kdv_tup [])).push (PySem.HandSPX.excO C hp.objs.size), g, dr, tk, os⟩ :=
    I1.laid (t' := tk) (a := hp.objs.size + 1) (o := exo (hp.objs.size + 1) C none) (h' := (hp.push (PySem.W.kdv_tup [])).push (PySem.HandSPX.excO C hp.objs.size)) kk hsz (exo_ok hget)
  have r2 : Vals (V.ref (hp.objs.size + 1) :: vs) (Value.ref (hp.objs.size + 1) :: ws) := .cons rfl r1
  refine wpAny_call (call_kw F.excBase_ValueError (fun Y => PySem.HandSPX.refsVE_contains Y bm hbm) (I1.kIn _ _ hC) (PySem.W.looks_findIn I1.kIn iC) (fun self => PySem.W.bind_fn I1.kIn self tI) (by show 0 ≤ sizeLine; exact Nat.zero_le _)
    (codeAny_mono (F1.run _ X.stack _ _ ⟨[Value.ref (hp.objs.size + 1)], ks.zip ws⟩ (Value.ref (hp.objs.size + 1) :: ws) _ _ E0 (hr.make C [] (ks.zip ws)) (I2.env0.make C [] (ks.zip ws)) (hbd _ _ _ lw) r2 hq) fun r s' hq' => ?_))
  cases r with
  | error er => exact pass0 pins σ _ _ er s' I2 hq'
  | ok fl =>
    cases fl with
    | ret u =>
      obtain ⟨v, H2, os2, bare2, un2, hok2, rv, ev, d, fs, ea, ed, hd1, q2⟩ := hq'
      subst ev
      obtain ⟨h2, g2, d2, t2, os'⟩ := s'
      exact ⟨rv, mk_end (raises_own T.exC T.tyC) I1 hsz kk un2 hok2 os2 bare2 ea ed hd1 q2⟩
    | next => exact False.elim hq'
    | brk => exact False.elim hq'
    | cont => exact False.elim hq'
/-- raise C(), C without an own __init__ -/
theorem pmk_own0 (q : PySem.W.excIn X.K C He.veBase "ValueError.__new__" = true) (kC : PySem.W.keepIn X.K (.ref C) = true) (r : Raises X (.ref C)) (hg : Gl X x) (hm : X.mg x = some (.ref C)) (hdb : (x == ("__debug__" : Str)) = false := by decide) :
    PMk X (.Call (.Name x p) [] [] pos) (fun _ H Q => Q (.ref C) none H) := by
  intro pins s σ H Q I h
  refine wpAny_Call_Name_kw (ld_glob I hg hm ?_ hdb)
  refine PySem.W.callWith_K0 I.kIn kC ?_
  show wpAny _ _ (call (.ref C) []) _ _ _
  obtain ⟨bm, N, nm, qn, bs, hdct, sn, sub, ab, col, dd, k0, k1, k2, k3, k5, mN, hC, hN, hni, T⟩ := exc_obj I.kIn q
  refine wpAny_call_exc_subT F.excBase_ValueError T hC hN hni (fun h' e hm => ?_) (by show 0 ≤ sizeLine; exact Nat.zero_le _)
  exact mk_of I hm r h (I.hok.gone hm.new)
end
end ES
namespace K01
open PySem PySem.Spec PyProof.Rows L2 HK ES
def top (i : Nat) : Stmt := PySem.Challenge.pw_thingtongue_k01_errors_each_of_its_own.main.body.getD i (.Pass ⟨0, 0, 0, 0⟩)
abbrev s_law_purse : Stmt := top 25
abbrev s_law_take : Stmt := top 26
abbrev s_law_pick : Stmt := top 27
abbrev s_law_given_ones : Stmt := top 28
abbrev s_law_index_ones : Stmt := top 29
abbrev s_law_kinds : Stmt := top 30
abbrev s_law_kept : Stmt := top 31
abbrev s_law_is_plain : Stmt := top 32
abbrev s_law_is_caught : Stmt := top 33
abbrev s_law_right : Stmt := top 34
abbrev slaw : Stmt := top 35
def d_law_purse : He.DefD := ⟨("_law_purse", none), "_law_purse", "_law_purse", defArgs s_law_purse, defBody s_law_purse, defScope s_law_purse, [], []⟩
def d_law_take : He.DefD := ⟨("_law_take", none), "_law_take", "_law_take", defArgs s_law_take, defBody s_law_take, defScope s_law_take, [], []⟩
def d_law_pick : He.DefD := ⟨("_law_pick", none), "_law_pick", "_law_pick", defArgs s_law_pick, defBody s_law_pick, defScope s_law_pick, [], []⟩
def d_law_given_ones : He.DefD := ⟨("_law_given_ones", none), "_law_given_ones", "_law_given_ones", defArgs s_law_given_ones, defBody s_law_given_ones, defScope s_law_given_ones, [], []⟩
def d_law_index_ones : He.DefD := ⟨("_law_index_ones", none), "_law_index_ones", "_law_index_ones", defArgs s_law_index_ones, defBody s_law_index_ones, defScope s_law_index_ones, [], []⟩
def d_law_kinds : He.DefD := ⟨("_law_kinds", none), "_law_kinds", "_law_kinds", defArgs s_law_kinds, defBody s_law_kinds, defScope s_law_kinds, [], []⟩
def d_law_kept : He.DefD := ⟨("_law_kept", none), "_law_kept", "_law_kept", defArgs s_law_kept, defBody s_law_kept, defScope s_law_kept, [], []⟩
def d_law_is_plain : He.DefD := ⟨("_law_is_plain", none), "_law_is_plain", "_law_is_plain", defArgs s_law_is_plain, defBody s_law_is_plain, defScope s_law_is_plain, [], []⟩
def d_law_is_caught : He.DefD := ⟨("_law_is_caught", none), "_law_is_caught", "_law_is_caught", defArgs s_law_is_caught, defBody s_law_is_caught, defScope s_law_is_caught, [], []⟩
def d_law_right : He.DefD := ⟨("_law_right", none), "_law_right", "_law_right", defArgs s_law_right, defBody s_law_right, defScope s_law_right, [], []⟩
def dlaw : He.DefD := ⟨("law", none), "law", "law", defArgs slaw, defBody slaw, defScope slaw, [], []⟩
def fn : List He.DefD := [d_law_purse, d_law_take, d_law_pick, d_law_given_ones, d_law_index_ones, d_law_kinds, d_law_kept, d_law_is_plain, d_law_is_caught, d_law_right, dlaw]
def iCls : List Str := ["InvalidText", "InvalidProgram", "InvalidTree", "InvalidNumber", "InvalidName", "InvalidNumbering", "InvalidGivens", "InvalidSum", "InvalidPattern", "InvalidCode", "InvalidCensus", "InvalidLot", "InvalidLine", "NotADesk", "NotWellRead", "InvalidRows", "InvalidDeed", "Barred"]
def bCls : List Str := ["NothingToUndo", "NotFree", "NoForm", "TooGreat"]
def neB : List Str := ["NumberError", "NothingToUndo", "NotFree", "NoForm", "TooGreat"]
def neC : List Str := ["NumberError", "InvalidText", "InvalidProgram", "InvalidTree", "InvalidNumber", "InvalidName", "InvalidNumbering", "InvalidGivens", "InvalidSum", "InvalidPattern", "InvalidCode", "InvalidCensus", "InvalidLot", "InvalidLine", "NotADesk", "NotWellRead", "InvalidRows", "InvalidDeed", "Barred", "NothingToUndo", "NotFree", "NoForm", "TooGreat"]
def cls : List Str := ["InvalidText", "InvalidProgram", "InvalidTree", "InvalidNumber", "InvalidName", "InvalidNumbering", "InvalidGivens", "InvalidSum", "InvalidPattern", "InvalidCode", "InvalidCensus", "InvalidLot", "InvalidLine", "NotADesk", "NotWellRead", "InvalidRows", "InvalidDeed", "Barred", "NothingToUndo", "NotFree", "NoForm", "TooGreat"]
def js : List InD := [⟨"InvalidText", "InvalidText.__init__", inClass (top 2) 0, ["self", "given"]⟩, ⟨"InvalidProgram", "InvalidProgram.__init__", inClass (top 3) 0, ["self", "given"]⟩, ⟨"InvalidTree", "InvalidTree.__init__", inClass (top 4) 0, ["self", "given"]⟩, ⟨"InvalidNumber", "InvalidNumber.__init__", inClass (top 5) 0, ["self", "given"]⟩, ⟨"InvalidName", "InvalidName.__init__", inClass (top 6) 0, ["self", "given"]⟩, ⟨"InvalidNumbering", "InvalidNumbering.__init__", inClass (top 7) 0, ["self", "given"]⟩, ⟨"InvalidGivens", "InvalidGivens.__init__", inClass (top 8) 0, ["self", "given"]⟩, ⟨"InvalidSum", "InvalidSum.__init__", inClass (top 9) 0, ["self", "given"]⟩, ⟨"InvalidPattern", "InvalidPattern.__init__", inClass (top 10) 0, ["self", "given"]⟩, ⟨"InvalidCode", "InvalidCode.__init__", inClass (top 11) 0, ["self", "given"]⟩, ⟨"InvalidCensus", "InvalidCensus.__init__", inClass (top 12) 0, ["self", "given"]⟩, ⟨"InvalidLot", "InvalidLot.__init__", inClass (top 13) 0, ["self", "given"]⟩, ⟨"InvalidLine", "InvalidLine.__init__", inClass (top 14) 0, ["self", "given"]⟩, ⟨"NotADesk", "NotADesk.__init__", inClass (top 15) 0, ["self", "given"]⟩, ⟨"NotWellRead", "NotWellRead.__init__", inClass (top 16) 0, ["self", "row", "word"]⟩, ⟨"InvalidRows", "InvalidRows.__init__", inClass (top 17) 0, ["self", "index"]⟩, ⟨"InvalidDeed", "InvalidDeed.__init__", inClass (top 18) 0, ["self", "index"]⟩, ⟨"Barred", "Barred.__init__", inClass (top 19) 0, ["self", "reason"]⟩]
def flds : List (Str × Str) := [("InvalidText", "given"), ("InvalidProgram", "given"), ("InvalidTree", "given"), ("InvalidNumber", "given"), ("InvalidName", "given"), ("InvalidNumbering", "given"), ("InvalidGivens", "given"), ("InvalidSum", "given"), ("InvalidPattern", "given"), ("InvalidCode", "given"), ("InvalidCensus", "given"), ("InvalidLot", "given"), ("InvalidLine", "given"), ("NotADesk", "given"), ("NotWellRead", "row"), ("NotWellRead", "word"), ("InvalidRows", "index"), ("InvalidDeed", "index"), ("Barred", "reason")]
def dfs : List Str := ["_law_purse", "_law_take", "_law_pick", "_law_given_ones", "_law_index_ones", "_law_kinds", "_law_kept", "_law_is_plain", "_law_is_caught", "_law_right", "law"]
def frs : List Str := ["super", "len", "int", "abs", "isinstance", "repr", "all", "range", "max", "min", "ValueError", "LookupError", "ArithmeticError", "TypeError", "AttributeError", "RuntimeError"]
def gs : List Str := (["NumberError", "InvalidText", "InvalidProgram", "InvalidTree", "InvalidNumber", "InvalidName", "InvalidNumbering", "InvalidGivens", "InvalidSum", "InvalidPattern", "InvalidCode", "InvalidCensus", "InvalidLot", "InvalidLine", "NotADesk", "NotWellRead", "InvalidRows", "InvalidDeed", "Barred", "NothingToUndo", "NotFree", "NoForm", "TooGreat", "_law_purse"] : List Str) ++ (["_law_take", "_law_pick", "_law_given_ones", "_law_index_ones", "_law_kinds", "_law_kept", "_law_is_plain", "_law_is_caught", "_law_right", "law"] : List Str)
def fa : List He.Fa := gs.map He.Fa.glo ++ frs.map He.Fa.free
def initB1 (K : PySem.W.Frag) (x : Str) : Bool := oexB K (He.ga K x) && (supB PySem.Challenge.pw_thingtongue_k01_errors_each_of_its_own K (He.ga K x) (fcell K (initA K x)) (codeO (fcode K (initA K x))) &&
  (initB K (He.ga K x) (initA K x) (x ++ ".__init__") && (decide (PySem.W.findIn K (.ref (He.ga K x)) "__init__" = some (some (.ref (initA K x)))) && decide (PySem.W.typeIn K (.ref (initA K x)) = some (.type "function")))))
def bareB (K : PySem.W.Frag) (x : Str) : Bool := PySem.W.excIn K (He.ga K x) He.veBase "ValueError.__new__" && (PySem.W.keepIn K (.ref (He.ga K x)) && decide (PySem.W.typeIn K (.ref (He.ga K x)) = some (.type "type")))
def kitB (K : PySem.W.Frag) (x : Str) : Bool := cls.all (fun y => decide (PySem.W.kitOne K (.ref (He.ga K x)) (.ref (He.ga K y)) = some (decide (x = y)))) && (decide (PySem.W.kitOne K (.ref (He.ga K x)) (.ref (He.ga K "NumberError")) = some true) &&
  (decide (PySem.W.kitOne K (.ref (He.ga K x)) (.type "ValueError") = some true) && decide (PySem.W.kitAny K (.ref (He.ga K x)) [.type "LookupError", .type "ArithmeticError", .type "TypeError", .type "AttributeError", .type "RuntimeError"] = some false)))
def noX (K : PySem.W.Frag) : Bool := K.all (fun p => match p.2.cls, p.2.data with
  | .ref _, .fields _ => false
  | _, _ => true)
def ex (K : PySem.W.Frag) : Bool := noX K && ((K.lookup sysModules).isSome && (decide (PySem.W.nsIn K cStatics "thirdparty.any" = some none) && (iCls.all (initB1 K) && (neB.all (bareB K) &&
  (flds.all (fun q => decide (PySem.W.findIn K (.ref (He.ga K q.1)) q.2 = some none)) && (neC.all (fun x => excB K (He.ga K x)) && (neC.all (kitB K) && cls.all (fun x => decide (PySem.W.exmOne K (.ref (He.ga K x)) (.ref (He.ga K "NumberError")) = some true)))))))))
abbrev R : PySem.W.OpenRow := PySem.W.OpenLaw.row PySem.Challenge.rw_thingtongue_k01_errors_each_of_its_own
abbrev hk : PySem.W.Hook := hookH gs fa fn ex js
def ob (s : PySem.W.SharedT) : AlH := obsG gs fa fn ex js (HandSHeadRun.getT s)
theorem ob_eq (s : PySem.W.SharedT) : ob s = hk.obs s.abs := obsG_eq (HandSHeadRun.getT_eq s)
def loose : List Str := (["NumberError", "InvalidText", "InvalidProgram", "InvalidTree", "InvalidNumber", "InvalidName", "InvalidNumbering", "InvalidGivens", "InvalidSum", "InvalidPattern", "InvalidCode", "InvalidCensus", "InvalidLot", "InvalidLine", "NotADesk", "NotWellRead", "InvalidRows", "InvalidDeed", "Barred", "NothingToUndo", "NotFree", "NoForm", "TooGreat", "_law_purse"] : List Str) ++ (["_law_take", "_law_pick", "_law_given_ones", "_law_index_ones", "_law_kinds", "_law_kept", "_law_is_plain", "_law_is_caught", "_law_right"] : List Str)
theorem run (w : World) : HandSHeadRun.RunEq R (PySem.W.view R.prog [35]) hk ob 8000 loose w := by
  intro os
  kernel_rfl
end K01
namespace K01
open PySem PySem.Spec PyProof.Rows L2 HK ES NdefX
abbrev Pw : Program := PySem.Challenge.pw_thingtongue_k01_errors_each_of_its_own
/-- what the head tells -/
structure TT (K : PySem.W.Frag) (mg : Str → Option Value) : Prop where
  gl : ∀ x ∈ gs, mg x = some (.ref (He.ga K x))
  fr : ∀ x ∈ frs, mg x = none
  df : ∀ d ∈ fn, ∃ fd, FunD K d.name d.qual d.params d.body d.scope [] [] (He.ga K d.name) fd
  nx : noX K = true
  sy : (K.lookup sysModules).isSome = true
  st : PySem.W.nsIn K cStatics "thirdparty.any" = some none
  ib : ∀ x ∈ iCls, initB1 K x = true
  bb : ∀ x ∈ neB, bareB K x = true
  fl : ∀ q ∈ flds, PySem.W.findIn K (.ref (He.ga K q.1)) q.2 = some none
  xc : ∀ x ∈ neC, ExcC K (He.ga K x) ∧ XfC K (He.ga K x)
  kb : ∀ x ∈ neC, kitB K x = true
  xm : ∀ x ∈ cls, PySem.W.exmOne K (.ref (He.ga K x)) (.ref (He.ga K "NumberError")) = some true
  js : ∀ d ∈ js, fnJ K d.x = d.val
theorem fact_of {K : PySem.W.Frag} (c : He.SaysD fa fn K) {f : He.Fa} (m : f ∈ fa) : f.ok K = true := by
  obtain ⟨i, h⟩ := List.mem_iff_getElem?.mp m
  exact c.fact i h
theorem tt_of {K : PySem.W.Frag} {h : Heap} {mg : Str → Option Value} (X : K.In h) (G : h.Ns mainGlobals mg) (c : Says fa fn ex js K) : TT K mg := by
  have e := c.ex
  obtain ⟨a1, e⟩ := He.ba e
  obtain ⟨a2, e⟩ := He.ba e
  obtain ⟨a3, e⟩ := He.ba e
  obtain ⟨a4, e⟩ := He.ba e
  obtain ⟨a5, e⟩ := He.ba e
  obtain ⟨a6, e⟩ := He.ba e
  obtain ⟨a7, e⟩ := He.ba e
  obtain ⟨a8, a9⟩ := He.ba e
  have hg : ∀ x ∈ gs, He.Fa.glo x ∈ fa := fun x m => List.mem_append_left _ (List.mem_map_of_mem m)
  have hf : ∀ x ∈ frs, He.Fa.free x ∈ fa := fun x m => List.mem_append_right _ (List.mem_map_of_mem m)
  refine ⟨fun x m => He.glo_ok X G (fact_of c.d (hg x m)), fun x m => He.free_ok X G (fact_of c.d (hf x m)), fun d m => ?_, a1, a2, of_decide_eq_true a3, List.all_eq_true.mp a4, List.all_eq_true.mp a5, fun q m => of_decide_eq_true (List.all_eq_true.mp a6 q m),
    fun x m => excB_ok (List.all_eq_true.mp a7 x m), List.all_eq_true.mp a8, fun x m => of_decide_eq_true (List.all_eq_true.mp a9 x m), c.js⟩
  obtain ⟨i, hi⟩ := List.mem_iff_getElem?.mp m
  obtain ⟨fd, F⟩ := c.d.def_ i hi
  have hn : ∀ d ∈ fn, d.at_ = (d.name, none) ∧ (d.dvs K = [] ∧ d.kws K = []) := fun d m => by
    simp only [fn, List.mem_cons, List.not_mem_nil, or_false] at m
    rcases m with rfl | rfl | rfl | rfl | rfl | rfl | rfl | rfl | rfl | rfl | rfl <;> exact ⟨rfl, rfl, rfl⟩
  obtain ⟨n1, n2, n3⟩ := hn d m
  rw [n1, n2, n3] at F
  exact ⟨fd, F⟩
section
variable {w : World} {K : PySem.W.Frag} {mg : Str → Option Value} {base : Heap}
/-- an error class with one field told in __init__: its __init__ at any base -/
structure Ini (K : PySem.W.Frag) (mg : Str → Option Value) (x : Str) (ps : List Str) (sp : Addr → Sp) : Prop where
  ex : OexC K (He.ga K x)
  iC : PySem.W.findIn K (.ref (He.ga K x)) "__init__" = some (some (.ref (initA K x)))
  tI : PySem.W.typeIn K (.ref (initA K x)) = some (.type "function")
  fn : ∃ fd, (∀ w base, FnOk Pw w K mg base CX0 1 (initA K x) fd (("self" : Str) :: ps) (sp (He.ga K x))) ∧ Binds K fd (("self" : Str) :: ps) [] ∧
    ∀ (s : Shared) (self : Value) (ws : List Value), ws.length = ps.length → BindsTo s fd ⟨[self], ps.zip ws⟩ ((("self" : Str) :: ps).zip (self :: ws))
theorem ini_parts (T : TT K mg) {x : Str} (m : x ∈ iCls) (d : InD) (md : d ∈ js) (hx : d.x = x) (hq : d.qual = x ++ ".__init__") : OexC K (He.ga K x) ∧ SupC Pw K mg (He.ga K x) (fcell K (initA K x)) (codeO (fcode K (initA K x))) ∧
    (PySem.W.findIn K (.ref (He.ga K x)) "__init__" = some (some (.ref (initA K x))) ∧ PySem.W.typeIn K (.ref (initA K x)) = some (.type "function")) ∧
    ∃ oc od osl kV doc pm an ct, K.lookup (initA K d.x) = some ⟨oc, od, .func (PySem.W.fnX "__init__" d.qual (defArgs d.st) (defBody d.st) (defScope d.st) [(("__class__" : Str), fcell K (initA K d.x))] .none kV doc pm an (.ref (codeO (fcode K (initA K d.x)))) ct), osl⟩ ∧
      PySem.W.codeIn K (.ref (codeO (fcode K (initA K d.x)))) d.qual = true := by
  obtain ⟨b1, e⟩ := He.ba (T.ib x m)
  obtain ⟨b2, e⟩ := He.ba e
  obtain ⟨b3, e⟩ := He.ba e
  obtain ⟨b4, b5⟩ := He.ba e
  have ho := oexB_ok b1
  subst hx
  rw [← hq] at b3
  exact ⟨ho, supB_ok ho b2 (by decide +kernel) T.st (T.fr _ (by decide +kernel)), ⟨of_decide_eq_true b4, of_decide_eq_true b5⟩, init_lk (T.js d md) b3⟩
theorem mk1 (T : TT K mg) {x p : Str} (m : x ∈ iCls) (mf : (x, p) ∈ flds) (d : InD) (md : d ∈ js) (hx : d.x = x) (hq : d.qual = x ++ ".__init__") {p0 p1 p2 p3 p4 q0 q1 q2 q3 q4 : Pos} {r0 r1 : Arg} (SC : nscB ["self", p, "__class__"] ["self", p] [("__class__" : Str)] (defScope d.st) = true)
    (hbody : defBody d.st = [.Expr (.Call (.Attribute (.Call (.Name "super" p0) [] [] p1) "__init__" p2) [.Name p q0] [] p3) p4, .Assign [.Attribute (.Name "self" q1) p q2] (.Name p q3) q4])
    (hpar : (defArgs d.st).posonlyargs ++ (defArgs d.st).args = [r0, r1]) (h0 : r0.arg = "self") (hks : (defScope d.st).names.lookup ("super" : Str) = some .globalImplicit)
    (hln : (p2.endLine == p3.line) = true) (hd : (p == ("__debug__" : Str)) = false) (hd2 : (p == ("__classdict__" : Str)) = false)
    (hb : ∀ (clo : List (Str × Addr)) (kV doc pm : Value) (an : Option Addr) (cdv ct : Value) (us : List Value), us.length = 2 → bindArgs (PySem.W.fnX "__init__" d.qual (defArgs d.st) (defBody d.st) (defScope d.st) clo .none kV doc pm an cdv ct) ⟨us, []⟩ = pure ((["self", p] : List Str).zip us))
    (hbk : ∀ (clo : List (Str × Addr)) (kV doc pm : Value) (an : Option Addr) (cdv ct : Value) (u v : Value), bindArgs (PySem.W.fnX "__init__" d.qual (defArgs d.st) (defBody d.st) (defScope d.st) clo .none kV doc pm an cdv ct) ⟨[u], [(p, v)]⟩ = pure ((["self", p] : List Str).zip [u, v])) : Ini K mg x [p] fun C => spE1 C p := by
  obtain ⟨ho, hs, ⟨i1, i2⟩, oc, od, osl, kV, doc, pm, an, ct, lk, cd⟩ := ini_parts T m d md hx hq
  subst hx
  refine ⟨ho, i1, i2, _, fun w base => init1 (P := Pw) (w := w) (base := base) (mg := mg) (F := ⟨"__init__", d.qual, defArgs d.st, defBody d.st, defScope d.st, [(("__class__" : Str), fcell K (initA K d.x))], codeO (fcode K (initA K d.x))⟩) (C := He.ga K d.x) (p := p) rfl hs lk cd (nscope_by SC) hbody hpar h0 hks (T.fl _ mf) hln hd hd2,
    .all (hb _ kV doc pm an _ ct), fun s self ws hl => ?_⟩
  obtain ⟨v, rfl⟩ : ∃ v, ws = [v] := by
    match ws, hl with
    | [v], _ => exact ⟨v, rfl⟩
  exact .of_eq (hbk _ _ _ _ _ _ _ self v)
theorem i_InvalidText (T : TT K mg) : Ini K mg "InvalidText" ["given"] fun C => spE1 C "given" :=
  mk1 T (by decide +kernel) (by decide +kernel) ⟨"InvalidText", "InvalidText.__init__", inClass (top 2) 0, ["self", "given"]⟩ (by unfold js; simp) rfl rfl (by decide +kernel) rfl rfl rfl (by decide +kernel) (by decide +kernel) rfl rfl
    (fun _ _ _ _ _ _ _ us hl => match us, hl with | [_, _], _ => rfl) (fun _ _ _ _ _ _ _ _ _ => rfl)
theorem i_InvalidProgram (T : TT K mg) : Ini K mg "InvalidProgram" ["given"] fun C => spE1 C "given" :=
  mk1 T (by decide +kernel) (by decide +kernel) ⟨"InvalidProgram", "InvalidProgram.__init__", inClass (top 3) 0, ["self", "given"]⟩ (by unfold js; simp) rfl rfl (by decide +kernel) rfl rfl rfl (by decide +kernel) (by decide +kernel) rfl rfl
    (fun _ _ _ _ _ _ _ us hl => match us, hl with | [_, _], _ => rfl) (fun _ _ _ _ _ _ _ _ _ => rfl)
theorem i_InvalidTree (T : TT K mg) : Ini K mg "InvalidTree" ["given"] fun C => spE1 C "given" :=
  mk1 T (by decide +kernel) (by decide +kernel) ⟨"InvalidTree", "InvalidTree.__init__", inClass (top 4) 0, ["self", "given"]⟩ (by unfold js; simp) rfl rfl (by decide +kernel) rfl rfl rfl (by decide +kernel) (by decide +kernel) rfl rfl
    (fun _ _ _ _ _ _ _ us hl => match us, hl with | [_, _], _ => rfl) (fun _ _ _ _ _ _ _ _ _ => rfl)
theorem i_InvalidNumber (T : TT K mg) : Ini K mg "InvalidNumber" ["given"] fun C => spE1 C "given" :=
  mk1 T (by decide +kernel) (by decide +kernel) ⟨"InvalidNumber", "InvalidNumber.__init__", inClass (top 5) 0, ["self", "given"]⟩ (by unfold js; simp) rfl rfl (by decide +kernel) rfl rfl rfl (by decide +kernel) (by decide +kernel) rfl rfl
    (fun _ _ _ _ _ _ _ us hl => match us, hl with | [_, _], _ => rfl) (fun _ _ _ _ _ _ _ _ _ => rfl)
theorem i_InvalidName (T : TT K mg) : Ini K mg "InvalidName" ["given"] fun C => spE1 C "given" :=
  mk1 T (by decide +kernel) (by decide +kernel) ⟨"InvalidName", "InvalidName.__init__", inClass (top 6) 0, ["self", "given"]⟩ (by unfold js; simp) rfl rfl (by decide +kernel) rfl rfl rfl (by decide +kernel) (by decide +kernel) rfl rfl
    (fun _ _ _ _ _ _ _ us hl => match us, hl with | [_, _], _ => rfl) (fun _ _ _ _ _ _ _ _ _ => rfl)
theorem i_InvalidNumbering (T : TT K mg) : Ini K mg "InvalidNumbering" ["given"] fun C => spE1 C "given" :=
  mk1 T (by decide +kernel) (by decide +kernel) ⟨"InvalidNumbering", "InvalidNumbering.__init__", inClass (top 7) 0, ["self", "given"]⟩ (by unfold js; simp) rfl rfl (by decide +kernel) rfl rfl rfl (by decide +kernel) (by decide +kernel) rfl rfl
    (fun _ _ _ _ _ _ _ us hl => match us, hl with | [_, _], _ => rfl) (fun _ _ _ _ _ _ _ _ _ => rfl)
theorem i_InvalidGivens (T : TT K mg) : Ini K mg "InvalidGivens" ["given"] fun C => spE1 C "given" :=
  mk1 T (by decide +kernel) (by decide +kernel) ⟨"InvalidGivens", "InvalidGivens.__init__", inClass (top 8) 0, ["self", "given"]⟩ (by unfold js; simp) rfl rfl (by decide +kernel) rfl rfl rfl (by decide +kernel) (by decide +kernel) rfl rfl
    (fun _ _ _ _ _ _ _ us hl => match us, hl with | [_, _], _ => rfl) (fun _ _ _ _ _ _ _ _ _ => rfl)
theorem i_InvalidSum (T : TT K mg) : Ini K mg "InvalidSum" ["given"] fun C => spE1 C "given" :=
  mk1 T (by decide +kernel) (by decide +kernel) ⟨"InvalidSum", "InvalidSum.__init__", inClass (top 9) 0, ["self", "given"]⟩ (by unfold js; simp) rfl rfl (by decide +kernel) rfl rfl rfl (by decide +kernel) (by decide +kernel) rfl rfl
    (fun _ _ _ _ _ _ _ us hl => match us, hl with | [_, _], _ => rfl) (fun _ _ _ _ _ _ _ _ _ => rfl)
theorem i_InvalidPattern (T : TT K mg) : Ini K mg "InvalidPattern" ["given"] fun C => spE1 C "given" :=
  mk1 T (by decide +kernel) (by decide +kernel) ⟨"InvalidPattern", "InvalidPattern.__init__", inClass (top 10) 0, ["self", "given"]⟩ (by unfold js; simp) rfl rfl (by decide +kernel) rfl rfl rfl (by decide +kernel) (by decide +kernel) rfl rfl
    (fun _ _ _ _ _ _ _ us hl => match us, hl with | [_, _], _ => rfl) (fun _ _ _ _ _ _ _ _ _ => rfl)
theorem i_InvalidCode (T : TT K mg) : Ini K mg "InvalidCode" ["given"] fun C => spE1 C "given" :=
  mk1 T (by decide +kernel) (by decide +kernel) ⟨"InvalidCode", "InvalidCode.__init__", inClass (top 11) 0, ["self", "given"]⟩ (by unfold js; simp) rfl rfl (by decide +kernel) rfl rfl rfl (by decide +kernel) (by decide +kernel) rfl rfl
    (fun _ _ _ _ _ _ _ us hl => match us, hl with | [_, _], _ => rfl) (fun _ _ _ _ _ _ _ _ _ => rfl)
theorem i_InvalidCensus (T : TT K mg) : Ini K mg "InvalidCensus" ["given"] fun C => spE1 C "given" :=
  mk1 T (by decide +kernel) (by decide +kernel) ⟨"InvalidCensus", "InvalidCensus.__init__", inClass (top 12) 0, ["self", "given"]⟩ (by unfold js; simp) rfl rfl (by decide +kernel) rfl rfl rfl (by decide +kernel) (by decide +kernel) rfl rfl
    (fun _ _ _ _ _ _ _ us hl => match us, hl with | [_, _], _ => rfl) (fun _ _ _ _ _ _ _ _ _ => rfl)
theorem i_InvalidLot (T : TT K mg) : Ini K mg "InvalidLot" ["given"] fun C => spE1 C "given" :=
  mk1 T (by decide +kernel) (by decide +kernel) ⟨"InvalidLot", "InvalidLot.__init__", inClass (top 13) 0, ["self", "given"]⟩ (by unfold js; simp) rfl rfl (by decide +kernel) rfl rfl rfl (by decide +kernel) (by decide +kernel) rfl rfl
    (fun _ _ _ _ _ _ _ us hl => match us, hl with | [_, _], _ => rfl) (fun _ _ _ _ _ _ _ _ _ => rfl)
theorem i_InvalidLine (T : TT K mg) : Ini K mg "InvalidLine" ["given"] fun C => spE1 C "given" :=
  mk1 T (by decide +kernel) (by decide +kernel) ⟨"InvalidLine", "InvalidLine.__init__", inClass (top 14) 0, ["self", "given"]⟩ (by unfold js; simp) rfl rfl (by decide +kernel) rfl rfl rfl (by decide +kernel) (by decide +kernel) rfl rfl
    (fun _ _ _ _ _ _ _ us hl => match us, hl with | [_, _], _ => rfl) (fun _ _ _ _ _ _ _ _ _ => rfl)
theorem i_NotADesk (T : TT K mg) : Ini K mg "NotADesk" ["given"] fun C => spE1 C "given" :=
  mk1 T (by decide +kernel) (by decide +kernel) ⟨"NotADesk", "NotADesk.__init__", inClass (top 15) 0, ["self", "given"]⟩ (by unfold js; simp) rfl rfl (by decide +kernel) rfl rfl rfl (by decide +kernel) (by decide +kernel) rfl rfl
    (fun _ _ _ _ _ _ _ us hl => match us, hl with | [_, _], _ => rfl) (fun _ _ _ _ _ _ _ _ _ => rfl)
theorem i_InvalidRows (T : TT K mg) : Ini K mg "InvalidRows" ["index"] fun C => spE1 C "index" :=
  mk1 T (by decide +kernel) (by decide +kernel) ⟨"InvalidRows", "InvalidRows.__init__", inClass (top 17) 0, ["self", "index"]⟩ (by unfold js; simp) rfl rfl (by decide +kernel) rfl rfl rfl (by decide +kernel) (by decide +kernel) rfl rfl
    (fun _ _ _ _ _ _ _ us hl => match us, hl with | [_, _], _ => rfl) (fun _ _ _ _ _ _ _ _ _ => rfl)
theorem i_InvalidDeed (T : TT K mg) : Ini K mg "InvalidDeed" ["index"] fun C => spE1 C "index" :=
  mk1 T (by decide +kernel) (by decide +kernel) ⟨"InvalidDeed", "InvalidDeed.__init__", inClass (top 18) 0, ["self", "index"]⟩ (by unfold js; simp) rfl rfl (by decide +kernel) rfl rfl rfl (by decide +kernel) (by decide +kernel) rfl rfl
    (fun _ _ _ _ _ _ _ us hl => match us, hl with | [_, _], _ => rfl) (fun _ _ _ _ _ _ _ _ _ => rfl)
theorem i_Barred (T : TT K mg) : Ini K mg "Barred" ["reason"] fun C => spE1 C "reason" :=
  mk1 T (by decide +kernel) (by decide +kernel) ⟨"Barred", "Barred.__init__", inClass (top 19) 0, ["self", "reason"]⟩ (by unfold js; simp) rfl rfl (by decide +kernel) rfl rfl rfl (by decide +kernel) (by decide +kernel) rfl rfl
    (fun _ _ _ _ _ _ _ us hl => match us, hl with | [_, _], _ => rfl) (fun _ _ _ _ _ _ _ _ _ => rfl)
end
end K01
namespace K01
open PySem PySem.Spec PyProof.Rows L2 HK ES NdefX CA
/-! ### purse and take -/
/-- a purse: figures and seed, neither below 0; the turn -/
def Purse (H : Hp) (p : Addr) : Prop := ∃ f s t : Int, H p = some (.lst [.int f, .int s, .int t]) ∧ 0 ≤ f ∧ (0 ≤ s ∧ s < 2147483549) ∧ 0 ≤ t
def spPurse (K : PySem.W.Frag) : Sp := fun vs H Q _ => ∃ (c : Addr) (ns : List Int) (i : Nat), vs = [.ref c, .int (i : Int)] ∧ SqL K H c (ns.map V.int) ∧ ns.length ≤ sizeLine ∧ i ≤ 1000 ∧ ∀ p H', H p = none → Same H H' → Purse H' p → Q (.ref p) H'
def spTake (K : PySem.W.Frag) : Sp := fun vs H Q _ => ∃ (p : Addr) (m : Nat), vs = [.ref p, .int (m : Int)] ∧ Purse H p ∧ 0 < m ∧ m ≤ 100 ∧ ∀ (r : Nat) (o : HO), r < m → Purse (upd H p o) p → Q (.int (r : Int)) (upd H p o)
section
variable {w : World} {K : PySem.W.Frag} {mg : Str → Option Value} {base : Heap}
theorem sc_purse : FnScope (["cells", "at", "cell", "seed", "other"] : List Str) (["cells", "at"] : List Str) (defScope s_law_purse) := ⟨rfl, rfl, rfl, by decide +kernel, rfl, by decide +kernel, by decide +kernel⟩
theorem sc_take : FnScope (["draws", "many", "figures", "seed", "turn"] : List Str) (["draws", "many"] : List Str) (defScope s_law_take) := ⟨rfl, rfl, rfl, by decide +kernel, rfl, by decide +kernel, by decide +kernel⟩
theorem ok_take (T : TT K mg) {fd : FuncData} (F : FunD K "_law_take" "_law_take" (defArgs s_law_take) (defBody s_law_take) (defScope s_law_take) [] [] (He.ga K "_law_take") fd) : FnOk Pw w K mg base CX0 1 (He.ga K "_law_take") fd (["draws", "many"] : List Str) (spTake K) := by
  have SC := sc_take
  refine F.ok SC (fun vs H Q E h => ?_) (fun cdv A outer s H vs Q E hr h => ⟨_, PSs.nox (pss_cons (ps_asg (pv 0) (pg_unl rfl (pgs_cons (pg_name (i := 2) SC.nd rfl (Or.inl rfl)) (pgs_cons (pg_name (i := 3) SC.nd rfl (Or.inl rfl)) (pgs_cons (pg_name (i := 4) SC.nd rfl (Or.inl rfl)) pgs_nil)))))
      (pss_cons (ps_asg (pe_op op_modN (pe_callTy call_int1 (by rfl) (T.fr _ (by decide +kernel)) (by decide +kernel) (pa_cons (pe_op op_add (pe_op op_add (pe_op op_mul (pv 3) (pe_op op_add pe_int (pe_op op_mul pe_int (pv 4)))) (pe_op op_mul pe_int (pv 4))) pe_int) pa_nil)) pe_int) (pg_sub (pv 0) pe_int set_list))
      (pss_cons (ps_asg (pe_op op_add (pv 4) pe_int) (pg_sub (pv 0) pe_int set_list))
      (pss_cons (ps_if (pt_cmpR op_gt (pv 2) pe_int (nomark _)) (pss_cons (ps_asg (pe_op op_fdivN (pe_callTy call_int1 (by rfl) (T.fr _ (by decide +kernel)) (by decide +kernel) (pa_cons (pv 2) pa_nil)) (pv 1)) (pg_sub (pv 0) pe_int set_list))
      (pss_one (ps_ret (pe_op op_modN (pe_callTy call_int1 (by rfl) (T.fr _ (by decide +kernel)) (by decide +kernel) (pa_cons (pv 2) pa_nil)) (pv 1))))) pss_nil)
      (pss_one (ps_ret (pe_op op_modN (pe_callTy call_int1 (by rfl) (T.fr _ (by decide +kernel)) (by decide +kernel) (pa_cons (pe_op op_fdivN (pe_ix ix_list (pv 0) pe_int (fun _ _ => rfl)) pe_int) pa_nil)) (pv 1)))))))), ?_⟩)
  · obtain ⟨p, m, rfl, _⟩ := h
    rfl
  obtain ⟨p, m, rfl, ⟨f, s, t, hp, hf, ⟨hs, hs2⟩, ht⟩, hm, hm2, q⟩ := h
  refine ⟨_, rfl, p, _, rfl, SqL.of hp, rfl, ?_⟩
  refine ⟨_, _, rfl, _, _, rfl, _, _, rfl, rfl, ?_⟩
  repeat (first | refine ⟨_, rfl, ?_⟩ | refine ⟨_, _, rfl, rfl, ?_⟩ | refine ⟨(by decide), ?_⟩ | refine ⟨(by show (_ : Int) ≠ _; decide), ?_⟩ | refine ⟨.inr ⟨by decide, by decide⟩, ?_⟩ | refine ⟨.inl ⟨by decide, by decide⟩, ?_⟩ | refine .inl ⟨_, rfl, ?_⟩ | refine ⟨⟨by decide, by decide⟩, ?_⟩)
  refine ⟨.inl ⟨by omega, by omega⟩, ?_⟩
  repeat (first | refine ⟨_, rfl, ?_⟩ | refine ⟨_, _, rfl, rfl, ?_⟩ | refine ⟨(by decide), ?_⟩ | refine ⟨(by show (_ : Int) ≠ _; decide), ?_⟩ | refine ⟨.inr ⟨by decide, by decide⟩, ?_⟩ | refine ⟨.inl ⟨by decide, by decide⟩, ?_⟩ | refine .inl ⟨_, rfl, ?_⟩ | refine ⟨⟨by decide, by decide⟩, ?_⟩)
  refine ⟨_, _, _, _, rfl, rfl, hp, rfl, ?_⟩
  repeat (first | refine ⟨_, rfl, ?_⟩ | refine ⟨_, _, rfl, rfl, ?_⟩ | refine ⟨(by decide), ?_⟩ | refine ⟨(by show (_ : Int) ≠ _; decide), ?_⟩ | refine ⟨.inr ⟨by decide, by decide⟩, ?_⟩ | refine ⟨.inl ⟨by decide, by decide⟩, ?_⟩ | refine .inl ⟨_, rfl, ?_⟩ | refine ⟨⟨by decide, by decide⟩, ?_⟩)
  refine ⟨_, _, _, _, rfl, rfl, upd_same, rfl, ?_⟩
  repeat (first | refine ⟨_, rfl, ?_⟩ | refine ⟨_, _, rfl, rfl, ?_⟩ | refine ⟨(by decide), ?_⟩ | refine ⟨(by show (_ : Int) ≠ _; decide), ?_⟩ | refine ⟨.inr ⟨by decide, by decide⟩, ?_⟩ | refine ⟨.inl ⟨by decide, by decide⟩, ?_⟩ | refine .inl ⟨_, rfl, ?_⟩ | refine ⟨⟨by decide, by decide⟩, ?_⟩)
  have r0 : ∀ x : Int, 0 ≤ x.fmod 2147483549 ∧ x.fmod 2147483549 < 2147483549 := fun x => ⟨Int.fmod_nonneg_of_pos x (by decide), Int.fmod_lt_of_pos x (by decide)⟩
  have rm : ∀ x : Int, 0 ≤ x.fmod (m : Int) ∧ x.fmod (m : Int) < (m : Int) := fun x => ⟨Int.fmod_nonneg_of_pos x (by omega), Int.fmod_lt_of_pos x (by omega)⟩
  have fin : ∀ (x : Int) (o : HO), Purse (upd H p o) p → Q (.int (x.fmod (m : Int))) (upd H p o) := fun x o hP => by
    have e : x.fmod (m : Int) = (((x.fmod (m : Int)).toNat : Nat) : Int) := (Int.toNat_of_nonneg (rm x).1).symm
    rw [e]
    have h2 := (rm x).2
    have h1 := (rm x).1
    exact q _ _ (by omega) hP
  refine ite2 (fun hc => ?_) (fun hc => ?_)
  · repeat (first | refine ⟨_, rfl, ?_⟩ | refine ⟨_, _, rfl, rfl, ?_⟩ | refine ⟨(by decide), ?_⟩ | refine ⟨(by show (_ : Int) ≠ _; decide), ?_⟩ | refine ⟨.inr ⟨by decide, by decide⟩, ?_⟩ | refine ⟨.inl ⟨by decide, by decide⟩, ?_⟩ | refine .inl ⟨_, rfl, ?_⟩ | refine ⟨⟨by decide, by decide⟩, ?_⟩)
    refine ⟨⟨by omega, by omega⟩, ?_⟩
    repeat (first | refine ⟨_, rfl, ?_⟩ | refine ⟨_, _, rfl, rfl, ?_⟩ | refine ⟨(by decide), ?_⟩ | refine ⟨(by show (_ : Int) ≠ _; decide), ?_⟩ | refine ⟨.inr ⟨by decide, by decide⟩, ?_⟩ | refine ⟨.inl ⟨by decide, by decide⟩, ?_⟩ | refine .inl ⟨_, rfl, ?_⟩ | refine ⟨⟨by decide, by decide⟩, ?_⟩)
    refine ⟨_, _, _, _, rfl, rfl, upd_same, rfl, ?_⟩
    repeat (first | refine ⟨_, rfl, ?_⟩ | refine ⟨_, _, rfl, rfl, ?_⟩ | refine ⟨(by decide), ?_⟩ | refine ⟨(by show (_ : Int) ≠ _; decide), ?_⟩ | refine ⟨.inr ⟨by decide, by decide⟩, ?_⟩ | refine ⟨.inl ⟨by decide, by decide⟩, ?_⟩ | refine .inl ⟨_, rfl, ?_⟩ | refine ⟨⟨by decide, by decide⟩, ?_⟩)
    refine ⟨(by show (m : Int) ≠ 0; omega), ?_⟩
    show Q (.int (f.fmod (m : Int))) _
    rw [upd_upd, upd_upd]
    refine fin _ _ ⟨_, _, _, upd_same, ?_, r0 _, by omega⟩
    exact Int.fdiv_nonneg hf (by omega)
  · repeat (first | refine ⟨_, rfl, ?_⟩ | refine ⟨_, _, rfl, rfl, ?_⟩ | refine ⟨(by decide), ?_⟩ | refine ⟨(by show (_ : Int) ≠ _; decide), ?_⟩ | refine ⟨.inr ⟨by decide, by decide⟩, ?_⟩ | refine ⟨.inl ⟨by decide, by decide⟩, ?_⟩ | refine .inl ⟨_, rfl, ?_⟩ | refine ⟨⟨by decide, by decide⟩, ?_⟩)
    refine ⟨p, _, _, _, rfl, rfl, SqL.of upd_same, rfl, ?_⟩
    repeat (first | refine ⟨_, rfl, ?_⟩ | refine ⟨_, _, rfl, rfl, ?_⟩ | refine ⟨(by decide), ?_⟩ | refine ⟨(by show (_ : Int) ≠ _; decide), ?_⟩ | refine ⟨.inr ⟨by decide, by decide⟩, ?_⟩ | refine ⟨.inl ⟨by decide, by decide⟩, ?_⟩ | refine .inl ⟨_, rfl, ?_⟩ | refine ⟨⟨by decide, by decide⟩, ?_⟩)
    refine ⟨(by show (m : Int) ≠ 0; omega), ?_⟩
    show Q (.int (Int.fmod _ (m : Int))) _
    rw [upd_upd]
    exact fin _ _ ⟨_, _, _, upd_same, hf, r0 _, by omega⟩
theorem pe_wk {X : Cx} {e : Expr} {t t' : TE} (h : PE X e t) (i : ∀ σ H Q, t' σ H Q → t σ H Q) : PE X e t' := ⟨fun pins s σ H Q I q => h.run pins s σ H Q I (i _ _ _ q)⟩
/-- cells[at], or 0 -/
def tCellP (K : PySem.W.Frag) : TE := fun σ H Q => ∃ (c : Addr) (ns : List Int) (i : Nat), σ[0]? = some (some (.ref c)) ∧ σ[1]? = some (some (.int (i : Int))) ∧ SqL K H c (ns.map V.int) ∧ ∀ x : Int, Q (.int x) H
def cutI (ns : List Int) : List Int := (ns.drop (HT.sIx ns.length 0 none)).take (HT.sIx ns.length ns.length (some 4) - HT.sIx ns.length 0 none)
/-- the first cells behind the end, or none -/
def tFour (K : PySem.W.Frag) : TE := fun σ H Q => ∃ (c : Addr) (ns : List Int) (i : Nat), σ[0]? = some (some (.ref c)) ∧ σ[1]? = some (some (.int (i : Int))) ∧ SqL K H c (ns.map V.int) ∧ ∀ (p : Addr) (zs : List Int), H p = none → Q (.ref p) (upd H p (.lst (zs.map V.int)))
/-- the figures -/
def tFig : TE := fun σ H Q => ∃ x : Int, σ[2]? = some (some (.int x)) ∧ ∀ f : Int, 0 ≤ f → Q (.int f) H
theorem ok_purse (T : TT K mg) {fd : FuncData} (F : FunD K "_law_purse" "_law_purse" (defArgs s_law_purse) (defBody s_law_purse) (defScope s_law_purse) [] [] (He.ga K "_law_purse") fd) : FnOk Pw w K mg base CX0 1 (He.ga K "_law_purse") fd (["cells", "at"] : List Str) (spPurse K) := by
  have SC := sc_purse
  refine F.ok SC (fun vs H Q E h => ?_) (fun cdv A outer s H vs Q E hr h => ⟨_, PSs.nox (pss_cons (ps_set (i := 2) SC.nd rfl (Or.inl rfl) (pe_wk (t' := tCellP K) (pe_ifExp (pt_cmpR op_lt (pv 1) (pe_callB call_len_seq (by rfl) (T.fr _ (by decide +kernel)) PySem.boot_len (pa_cons (pv 0) pa_nil)) (nomark _)) (pe_ix ix_list (pv 0) (pv 1) (fun _ _ => rfl)) pe_int) (by
      rintro σ H Q ⟨c, ns, i, h0, h1, hS, q⟩
      refine ⟨_, h1, _, h0, c, _, rfl, .inl hS, _, _, rfl, rfl, _, rfl, ?_⟩
      refine ite2 (fun hc => ?_) (fun hc => q 0)
      have hi : i < ns.length := by simpa using hc
      exact ⟨_, h0, _, h1, c, _, _, .int ns[i], rfl, rfl, hS, atI_nat (by rw [List.getElem?_map, List.getElem?_eq_getElem hi] <;> rfl), q _⟩)))
      (pss_cons (ps_set (i := 3) SC.nd rfl (Or.inl rfl) (pe_op op_modN (pe_callTy call_int1 (by rfl) (T.fr _ (by decide +kernel)) (by decide +kernel) (pa_cons (pe_op op_add (pe_op op_add (pe_op op_mul (pv 2) pe_int) (pe_op op_mul (pv 1) pe_int)) pe_int) pa_nil)) pe_int))
      (pss_cons (ps_for PassesOwn.never rfl (pi_list (pe_wk (t' := tFour K) (pe_ifExp (pt_cmpR op_ge (pv 1) (pe_callB call_len_seq (by rfl) (T.fr _ (by decide +kernel)) PySem.boot_len (pa_cons (pv 0) pa_nil)) (nomark _)) (pe_slice sl_list (pv 0) po_none (po_some pe_int)) (pe_lst pa_nil)) (by
      rintro σ H Q ⟨c, ns, i, h0, h1, hS, q⟩
      refine ⟨_, h1, _, h0, c, _, rfl, .inl hS, _, _, rfl, rfl, _, rfl, ?_⟩
      refine ite2 (fun hc => ?_) (fun hc => ?_)
      · refine ⟨_, h0, 4, rfl, c, _, rfl, hS, fun p hp => ?_⟩
        have e : cutV (ns.map V.int) none (some 4) = (cutI ns).map V.int := by
          unfold cutV cutI
          rw [← List.map_drop, ← List.map_take, List.length_map]
        rw [e]
        exact q p _ hp
      · exact ⟨(by show 0 ≤ sizeLine; exact Nat.zero_le _), fun p hp => q p [] hp⟩))) (pg_name (i := 4) SC.nd rfl (Or.inl rfl)) (pss_one (ps_set (i := 3) SC.nd rfl (Or.inl rfl) (pe_op op_modN (pe_callTy call_int1 (by rfl) (T.fr _ (by decide +kernel)) (by decide +kernel) (pa_cons (pe_op op_add (pe_op op_mul (pv 3) pe_int) (pv 4)) pa_nil)) pe_int))))
      (pss_one (ps_ret (pe_lst (pa_cons (pe_wk (t' := tFig) (pe_ifExp (pt_cmpR op_ge (pe_callB call_abs (by rfl) (T.fr _ (by decide +kernel)) (by decide +kernel) (pa_cons (pv 2) pa_nil)) (pe_op op_pow pe_int pe_int) (nomark _)) (pe_op op_modN (pe_callTy call_int1 (by rfl) (T.fr _ (by decide +kernel)) (by decide +kernel) (pa_cons (pe_callB call_abs (by rfl) (T.fr _ (by decide +kernel)) (by decide +kernel) (pa_cons (pv 2) pa_nil)) pa_nil)) (pe_op op_mulW (pe_op op_mulW (pe_op op_pow pe_int pe_int) (pe_op op_pow pe_int pe_int)) (pe_op op_pow pe_int pe_int))) pe_int) (by
      rintro σ H Q ⟨x, h, q⟩
      refine ⟨_, h, _, rfl, _, _, rfl, rfl, ⟨by decide, by decide, by decide⟩, _, _, rfl, rfl, _, rfl, ?_⟩
      refine ite2 (fun hc => ?_) (fun hc => q 0 (by decide))
      refine ⟨_, h, _, rfl, .inl ⟨_, rfl, ?_⟩⟩
      refine ⟨_, _, rfl, rfl, ⟨by decide, by decide, by decide⟩, _, _, rfl, rfl, ⟨by decide, by decide, by decide⟩, _, _, rfl, rfl, ?_, _, _, rfl, rfl, ⟨by decide, by decide, by decide⟩, _, _, rfl, rfl, ?_, _, _, rfl, rfl, ?_, ?_⟩
      · exact wide_mul (a := 300) (b := 300) (by decide +kernel) (by decide +kernel) (by decide) (by decide) (by decide)
      · exact wide_mul (a := 600) (b := 300) (by decide +kernel) (by decide +kernel) (by decide) (by decide) (by decide)
      · show (_ : Int) ≠ 0
        decide +kernel
      · exact q _ (Int.fmod_nonneg_of_pos _ (by decide +kernel)))) (pa_cons (pv 3) (pa_cons pe_int pa_nil))))))))), ?_⟩)
  · obtain ⟨c, ns, i, rfl, _⟩ := h
    rfl
  obtain ⟨c, ns, i, rfl, hS, hz, hi, q⟩ := h
  have r0 : ∀ x : Int, 0 ≤ x.fmod 2147483549 ∧ x.fmod 2147483549 < 2147483549 := fun x => ⟨Int.fmod_nonneg_of_pos x (by decide), Int.fmod_lt_of_pos x (by decide)⟩
  repeat (first | refine ⟨_, rfl, ?_⟩ | refine ⟨_, _, rfl, rfl, ?_⟩ | refine ⟨(by decide), ?_⟩ | refine ⟨(by show (_ : Int) ≠ _; decide), ?_⟩ | refine ⟨.inr ⟨by decide, by decide⟩, ?_⟩ | refine ⟨.inl ⟨by decide, by decide⟩, ?_⟩ | refine .inl ⟨_, rfl, ?_⟩ | refine ⟨⟨by decide, by decide⟩, ?_⟩)
  refine ⟨c, ns, i, rfl, rfl, hS, fun x => ?_⟩
  repeat (first | refine ⟨_, rfl, ?_⟩ | refine ⟨_, _, rfl, rfl, ?_⟩ | refine ⟨(by decide), ?_⟩ | refine ⟨(by show (_ : Int) ≠ _; decide), ?_⟩ | refine ⟨.inr ⟨by decide, by decide⟩, ?_⟩ | refine ⟨.inl ⟨by decide, by decide⟩, ?_⟩ | refine .inl ⟨_, rfl, ?_⟩ | refine ⟨⟨by decide, by decide⟩, ?_⟩)
  refine ⟨c, ns, i, rfl, rfl, hS, fun p zs hp => ?_⟩
  have hne : ∀ {l : List V}, SqL K H c l → SqL K (upd H p (.lst (zs.map V.int))) c l := fun {l} hl => Same.seq (fun b o e => by rw [upd_ne (ne_of_none e hp)]; exact e) hl
  refine ⟨p, rfl, ⟨_, SqL.of upd_same⟩, ?_⟩
  refine for_list (xs := zs.map V.int) (fun _ σ H' => H' = upd H p (.lst (zs.map V.int)) ∧ ∃ (s : Int) (y : Option V), σ = [some (.ref c), some (.int (i : Int)), some (.int x), some (.int s), y] ∧ 0 ≤ s ∧ s < 2147483549) ?_ ?_ ?_ ?_
  · exact ⟨rfl, _, _, rfl, (r0 _).1, (r0 _).2⟩
  · rintro _ σ H' _ ⟨rfl, _⟩
    exact SqL.of upd_same
  · rintro j z σ H' hj ⟨rfl, s, y, rfl, h1, h2⟩
    obtain ⟨zi, _, rfl⟩ : ∃ zi : Int, zi ∈ zs ∧ V.int zi = z := List.mem_map.mp (List.mem_of_getElem? hj)
    repeat (first | refine ⟨_, rfl, ?_⟩ | refine ⟨_, _, rfl, rfl, ?_⟩ | refine ⟨(by decide), ?_⟩ | refine ⟨(by show (_ : Int) ≠ _; decide), ?_⟩ | refine ⟨.inr ⟨by decide, by decide⟩, ?_⟩ | refine ⟨.inl ⟨by decide, by decide⟩, ?_⟩ | refine .inl ⟨_, rfl, ?_⟩ | refine ⟨⟨by decide, by decide⟩, ?_⟩)
    exact ⟨rfl, _, _, rfl, (r0 _).1, (r0 _).2⟩
  · rintro σ H' ⟨rfl, s, y, rfl, h1, h2⟩
    refine ⟨x, rfl, fun f hf => ?_⟩
    repeat (first | refine ⟨_, rfl, ?_⟩ | refine ⟨_, _, rfl, rfl, ?_⟩ | refine ⟨(by decide), ?_⟩ | refine ⟨(by show (_ : Int) ≠ _; decide), ?_⟩ | refine ⟨.inr ⟨by decide, by decide⟩, ?_⟩ | refine ⟨.inl ⟨by decide, by decide⟩, ?_⟩ | refine .inl ⟨_, rfl, ?_⟩ | refine ⟨⟨by decide, by decide⟩, ?_⟩)
    refine ⟨(by show 3 ≤ sizeLine; decide), fun u hu => ?_⟩
    have hpu : upd H p (.lst (zs.map V.int)) u = none := hu
    have hu0 : H u = none := by
      by_cases e : u = p
      · rw [e]
        exact hp
      · rw [upd_ne e] at hpu
        exact hpu
    refine q u _ hu0 (fun b o e => ?_) ⟨f, s, 0, upd_same, hf, ⟨h1, h2⟩, by decide⟩
    rw [upd_ne (ne_of_none e hu0), upd_ne (ne_of_none e hp)]
    exact e
end
end K01
namespace K01
open PySem PySem.Spec PyProof.Rows L2 HK ES NdefX CA
/-! ### what is new, told by a heap of its own -/
def Ext (H H' G : Hp) : Prop := Same H H' ∧ ∀ b o, G b = some o → H b = none ∧ H' b = some o
def E_ : Hp := fun _ => none
theorem Ext.zero {H : Hp} : Ext H H E_ := ⟨Same.refl _, fun _ _ z => nomatch z⟩
def join (G1 G2 : Hp) : Hp := fun b => match G2 b with
  | some o => some o
  | none => G1 b
theorem join_r {G1 G2 : Hp} : Same G2 (join G1 G2) := fun b o e => by
  unfold join
  rw [e]
theorem Ext.join {H H1 H2 G1 G2 : Hp} (a : Ext H H1 G1) (b : Ext H1 H2 G2) : Ext H H2 (join G1 G2) ∧ Same G1 (join G1 G2) := by
  have k : Same G1 (K01.join G1 G2) := fun c o e => by
    unfold K01.join
    cases q : G2 c with
    | none => exact e
    | some u =>
      have z := (b.2 c u q).1
      rw [(a.2 c o e).2] at z
      cases z
  refine ⟨⟨a.1.trans b.1, fun c o e => ?_⟩, k⟩
  unfold K01.join at e
  cases q : G2 c with
  | none =>
    rw [q] at e
    exact ⟨(a.2 c o e).1, b.1 _ _ (a.2 c o e).2⟩
  | some u =>
    rw [q] at e
    cases e
    exact ⟨a.1.free (b.2 c o q).1, (b.2 c o q).2⟩
theorem Ext.one {H : Hp} {a : Addr} {o : HO} (n : H a = none) : Ext H (upd H a o) (upd E_ a o) := by
  refine ⟨fun b u e => ?_, fun b u e => ?_⟩
  · rw [upd_ne (ne_of_none e n)]
    exact e
  · by_cases z : b = a
    · subst z
      rw [upd_same] at e
      exact ⟨n, by rw [upd_same]; exact e⟩
    · rw [upd_ne z] at e
      cases e
theorem Ext.in_ {H H' G : Hp} (e : Ext H H' G) : Same G H' := fun b o z => (e.2 b o z).2
/-! ### the errors of one value -/
/-- e: an error of the class x, its fields those of the word w, all of the value v -/
def Err (K : PySem.W.Frag) (G : Hp) (x w : Str) (v : V) (e : Addr) : Prop :=
  (w = "" ∧ G e = some (exo e (He.ga K x) none)) ∨
  (w = "row" ∧ ∃ d l, G e = some (exo e (He.ga K x) (some d)) ∧ G d = some (exd d [(("word" : Str), .ref l), (("row" : Str), v)]) ∧ G l = some (.lst [v])) ∨
  (w ≠ "" ∧ w ≠ "row" ∧ ∃ d, G e = some (exo e (He.ga K x) (some d)) ∧ G d = some (exd d [(w, v)]))
theorem Err.mono {K : PySem.W.Frag} {G G' : Hp} {x w : Str} {v : V} {e : Addr} (h : Err K G x w v e) (s : Same G G') : Err K G' x w v e := by
  rcases h with ⟨h, a⟩ | ⟨h, d, l, a, b, c⟩ | ⟨h, h', d, a, b⟩
  · exact .inl ⟨h, s _ _ a⟩
  · exact .inr (.inl ⟨h, d, l, s _ _ a, s _ _ b, s _ _ c⟩)
  · exact .inr (.inr ⟨h, h', d, s _ _ a, s _ _ b⟩)
/-- one row: the word and two errors -/
def RowV (K : PySem.W.Frag) (G : Hp) (xw : Str × Str) (v : V) (r : V) : Prop := ∃ a e1 e2, r = .ref a ∧ G a = some (.lst [.str xw.2, .ref e1, .ref e2]) ∧ Err K G xw.1 xw.2 v e1 ∧ Err K G xw.1 xw.2 v e2
theorem RowV.mono {K : PySem.W.Frag} {G G' : Hp} {xw : Str × Str} {v r : V} (h : RowV K G xw v r) (s : Same G G') : RowV K G' xw v r := by
  obtain ⟨a, e1, e2, h1, h2, h3, h4⟩ := h
  exact ⟨a, e1, e2, h1, s _ _ h2, h3.mono s, h4.mono s⟩
def RowsV (K : PySem.W.Frag) (G : Hp) (v : V) : List (Str × Str) → List V → Prop
  | [], rs => rs = []
  | xw :: l, rs => ∃ r rs', rs = r :: rs' ∧ RowV K G xw v r ∧ RowsV K G v l rs'
theorem RowsV.mono {K : PySem.W.Frag} {G G' : Hp} {v : V} (s : Same G G') : ∀ {l : List (Str × Str)} {rs : List V}, RowsV K G v l rs → RowsV K G' v l rs
  | [], _, h => h
  | _ :: _, _, ⟨r, rs', e, h, t⟩ => ⟨r, rs', e, h.mono s, RowsV.mono s t⟩
theorem RowsV.len {K : PySem.W.Frag} {G : Hp} {v : V} : ∀ {l : List (Str × Str)} {rs : List V}, RowsV K G v l rs → rs.length = l.length
  | [], _, h => by
    rw [show _ = _ from h] <;> rfl
  | _ :: _, _, ⟨r, rs', e, _, t⟩ => by
    rw [e, List.length_cons, RowsV.len t, List.length_cons]
theorem RowsV.app {K : PySem.W.Frag} {G : Hp} {v : V} : ∀ {l m : List (Str × Str)} {rs ss : List V}, RowsV K G v l rs → RowsV K G v m ss → RowsV K G v (l ++ m) (rs ++ ss)
  | [], _, _, _, h, h2 => by
    rw [show _ = [] from h]
    exact h2
  | _ :: _, _, _, _, ⟨r, rs', e, h, t⟩, h2 => ⟨r, _, by rw [e]; rfl, h, RowsV.app t h2⟩
/-! ### readings -/
/-- an error made -/
def tErr (K : PySem.W.Frag) (x w : Str) : TE := fun σ H Q => ∃ v, σ[0]? = some (some v) ∧ ∀ e H' G, Ext H H' G → Err K G x w v e → Q (.ref e) H'
def tRow (K : PySem.W.Frag) (xw : Str × Str) : TE := fun σ H Q => ∃ v, σ[0]? = some (some v) ∧ ∀ r H' G, Ext H H' G → RowV K G xw v r → Q r H'
def tRows (K : PySem.W.Frag) (l : List (Str × Str)) : TA := fun σ H Q => ∃ v, σ[0]? = some (some v) ∧ ∀ rs H' G, Ext H H' G → RowsV K G v l rs → Q rs H'
theorem imp_e1 {K : PySem.W.Frag} {x p : Str} (h1 : p ≠ "" := by decide +kernel) (h2 : p ≠ "row" := by decide +kernel) : ∀ σ H Q, tErr K x p σ H Q → tNewX (He.ga K x) (spE1 (He.ga K x) p) (tCons (tVar 0) tNil) σ H Q := by
  rintro σ H Q ⟨v, e, q⟩
  refine ⟨v, e, (by show 1 ≤ 1000; decide), fun a ha => ⟨a, v, rfl, upd_same, fun d hd hda => ⟨rfl, ?_⟩⟩⟩
  rw [upd_ne hda] at hd
  have A := Ext.one (H := H) (o := exd d [(p, v)]) hd
  have B := Ext.one (H := upd H d (exd d [(p, v)])) (a := a) (o := exo a (He.ga K x) (some d)) (by rw [upd_ne (Ne.symm hda)]; exact ha)
  have ee : upd (upd (upd H a (exo a (He.ga K x) none)) d (exd d [(p, v)])) a (exo a (He.ga K x) (some d)) = upd (upd H d (exd d [(p, v)])) a (exo a (He.ga K x) (some d)) := by
    funext b
    unfold upd
    split
    · rfl
    · rfl
  rw [ee]
  obtain ⟨J, k⟩ := A.join B
  exact q a _ _ J (.inr (.inr ⟨h1, h2, d, join_r _ _ upd_same, k _ _ upd_same⟩))
theorem imp_k1 {K : PySem.W.Frag} {x p : Str} (h1 : p ≠ "" := by decide +kernel) (h2 : p ≠ "row" := by decide +kernel) : ∀ σ H Q, tErr K x p σ H Q → (tCons (tVar 0) tNil) σ H fun vs H1 => vs.length = ([p] : List Str).length ∧ vs.length ≤ 1000 ∧ ∀ a, H1 a = none → spE1 (He.ga K x) p (.ref a :: vs) (upd H1 a (exo a (He.ga K x) none)) (fun v H2 => v = .non ∧ Q (.ref a) H2) E0 := by
  intro σ H Q h
  obtain ⟨v, e, hz, q⟩ := imp_e1 h1 h2 σ H Q h
  exact ⟨v, e, rfl, hz, q⟩
theorem imp_e2 {K : PySem.W.Frag} {x : Str} : ∀ σ H Q, tErr K x "row" σ H Q → tNewX (He.ga K x) (spE2 (He.ga K x) "row" "word") (tCons (tVar 0) (tCons (tLst (tCons (tVar 0) tNil)) tNil)) σ H Q := by
  rintro σ H Q ⟨v, e, q⟩
  refine ⟨v, e, v, e, (by show 1 ≤ sizeLine; decide), fun l hl => ⟨(by show 2 ≤ 1000; decide), fun a ha => ⟨a, v, .ref l, rfl, upd_same, fun d hd hda => ⟨rfl, ?_⟩⟩⟩⟩
  rw [upd_ne hda] at hd
  have L0 := Ext.one (H := H) (o := .lst [v]) hl
  have A := Ext.one (H := upd H l (.lst [v])) (o := exd d [(("word" : Str), .ref l), (("row" : Str), v)]) hd
  have B := Ext.one (H := upd (upd H l (.lst [v])) d (exd d [(("word" : Str), .ref l), (("row" : Str), v)])) (a := a) (o := exo a (He.ga K x) (some d)) (by rw [upd_ne (Ne.symm hda)]; exact ha)
  have ee : upd (upd (upd (upd (upd H l (.lst [v])) a (exo a (He.ga K x) none)) d (exd d [(("row" : Str), v)])) a (exo a (He.ga K x) (some d))) d (exd d [(("word" : Str), .ref l), (("row" : Str), v)]) = upd (upd (upd H l (.lst [v])) d (exd d [(("word" : Str), .ref l), (("row" : Str), v)])) a (exo a (He.ga K x) (some d)) := by
    funext b
    unfold upd
    by_cases z1 : b = d
    · by_cases z2 : b = a
      · exact absurd (z1.symm.trans z2) hda
      · simp [z1, hda]
    · by_cases z2 : b = a
      · subst z2
        simp [z1]
      · simp [z1, z2]
  rw [ee]
  obtain ⟨J, k⟩ := (L0.join A).1.join B
  exact q a _ _ J (.inr (.inl ⟨rfl, d, l, join_r _ _ upd_same, k _ _ (join_r _ _ upd_same), k _ _ ((L0.join A).2 _ _ upd_same)⟩))
theorem imp_k2 {K : PySem.W.Frag} {x : Str} : ∀ σ H Q, tErr K x "row" σ H Q → (tCons (tVar 0) (tCons (tLst (tCons (tVar 0) tNil)) tNil)) σ H fun vs H1 => vs.length = (["row", "word"] : List Str).length ∧ vs.length ≤ 1000 ∧ ∀ a, H1 a = none → spE2 (He.ga K x) "row" "word" (.ref a :: vs) (upd H1 a (exo a (He.ga K x) none)) (fun v H2 => v = .non ∧ Q (.ref a) H2) E0 := by
  intro σ H Q h
  obtain ⟨v, e, v', e', hs, q⟩ := imp_e2 σ H Q h
  exact ⟨v, e, v', e', hs, fun l hl => ⟨rfl, (q l hl).1, (q l hl).2⟩⟩
theorem imp_0 {K : PySem.W.Frag} {x : Str} : ∀ σ H Q, tErr K x "" σ H Q → ∀ a, H a = none → Q (.ref a) (upd H a (exo a (He.ga K x) none)) := by
  rintro σ H Q ⟨v, e, q⟩ a ha
  exact q a _ _ (Ext.one ha) (.inl ⟨rfl, upd_same⟩)
section
variable {X : Cx} {K : PySem.W.Frag} {x w : Str} {e1 e2 ec e : Expr} {es : List Expr} {pos : Pos} {l : List (Str × Str)} {k : Nat} {p : Pos}
theorem pe_row (hK : X.K = K) (h1 : PE X e1 (tErr K x w)) (h2 : PE X e2 (tErr K x w)) (s1 : starEach [e1, e2] X.env = (false, eval e1 X.env) :: starEach [e2] X.env := by rfl) (s2 : starEach [e2] X.env = (false, eval e2 X.env) :: starEach [] X.env := by rfl) : PE X (.List [.Constant (.str w) k p, e1, e2] pos) (tRow K (x, w)) := by
  refine pe_wk (pe_lst (pa_cons pe_str (pa_cons h1 (pa_cons h2 pa_nil s2) s1))) ?_
  rintro σ H Q ⟨v, hv, q⟩
  refine ⟨v, hv, fun a1 H1 G1 E1 r1 => ⟨v, hv, fun a2 H2 G2 E2 r2 => ⟨(by show 3 ≤ sizeLine; decide), fun r hr => ?_⟩⟩⟩
  obtain ⟨J1, k1⟩ := E1.join E2
  obtain ⟨J2, k2⟩ := J1.join (Ext.one (o := .lst [.str w, .ref a1, .ref a2]) hr)
  exact q _ _ _ J2 ⟨r, a1, a2, rfl, join_r _ _ upd_same, r1.mono (k1.trans k2), r2.mono (join_r.trans k2)⟩
theorem pa_wk {t t' : TA} (h : PA X es t) (i : ∀ σ H Q, t' σ H Q → t σ H Q) : PA X es t' := ⟨fun pos pins s σ H Q I q => h.run pos pins s σ H Q I (i _ _ _ q)⟩
theorem pa_rows_nil : PA X [] (tRows K []) := pa_wk pa_nil fun σ H Q ⟨v, e, q⟩ => q [] H E_ Ext.zero rfl
theorem pa_rows_cons (h : PE X e (tRow K (x, w))) (hr : PA X es (tRows K l)) (hs : starEach (e :: es) X.env = (false, eval e X.env) :: starEach es X.env := by rfl) : PA X (e :: es) (tRows K ((x, w) :: l)) := by
  refine pa_wk (pa_cons h hr hs) ?_
  rintro σ H Q ⟨v, hv, q⟩
  refine ⟨v, hv, fun r H1 G1 E1 r1 => ⟨v, hv, fun rs H2 G2 E2 r2 => ?_⟩⟩
  obtain ⟨J1, k1⟩ := E1.join E2
  exact q _ _ _ J1 ⟨r, rs, rfl, r1.mono k1, RowsV.mono join_r r2⟩
end
/-- thing: the rows of it, all new -/
def spRows (K : PySem.W.Frag) (l : List (Str × Str)) : Sp := fun vs H Q _ => ∃ v, vs = [v] ∧ ∀ a rs H' G, Ext H H' G → G a = some (.lst rs) → RowsV K G v l rs → Q (.ref a) H'
def xw1 : List (Str × Str) := [("InvalidText", "given"), ("InvalidProgram", "given"), ("InvalidTree", "given"), ("InvalidNumber", "given"), ("InvalidName", "given"), ("InvalidNumbering", "given"), ("InvalidGivens", "given"), ("InvalidSum", "given"), ("InvalidPattern", "given"), ("InvalidCode", "given"), ("InvalidCensus", "given"), ("InvalidLot", "given"), ("InvalidLine", "given"), ("NotADesk", "given")]
def xw2 : List (Str × Str) := [("NotWellRead", "row"), ("InvalidRows", "index"), ("InvalidDeed", "index"), ("Barred", "reason"), ("NothingToUndo", ""), ("NotFree", ""), ("NoForm", ""), ("TooGreat", "")]
section
variable {w : World} {K : PySem.W.Frag} {mg : Str → Option Value} {base : Heap}
theorem i_NotWellRead (T : TT K mg) : Ini K mg "NotWellRead" ["row", "word"] fun C => spE2 C "row" "word" := by
  obtain ⟨ho, hs, ⟨i1, i2⟩, oc, od, osl, kV, doc, pm, an, ct, lk, cd⟩ := ini_parts T (x := "NotWellRead") (by decide +kernel) ⟨"NotWellRead", "NotWellRead.__init__", inClass (top 16) 0, ["self", "row", "word"]⟩ (by unfold js; simp) rfl rfl
  refine ⟨ho, i1, i2, _, fun w base => init2 (P := Pw) (w := w) (base := base) (mg := mg) (F := ⟨"__init__", "NotWellRead.__init__", defArgs (inClass (top 16) 0), defBody (inClass (top 16) 0), defScope (inClass (top 16) 0), [(("__class__" : Str), fcell K (initA K "NotWellRead"))], codeO (fcode K (initA K "NotWellRead"))⟩) (C := He.ga K "NotWellRead") (p := "row") (x := "word") rfl hs lk cd
    (nscope_by (by show nscB (["self", "row", "word", "__class__"] : List Str) (["self", "row", "word"] : List Str) [("__class__" : Str)] (defScope (inClass (top 16) 0)) = true; decide +kernel)) rfl rfl rfl (by show (defScope (inClass (top 16) 0)).names.lookup ("super" : Str) = some .globalImplicit; decide +kernel) (T.fl ("NotWellRead", "row") (by decide +kernel)) (T.fl ("NotWellRead", "word") (by decide +kernel)) (by decide +kernel) rfl rfl rfl rfl,
    .all (fun us hl => match us, hl with | [_, _, _], _ => rfl), fun s self ws hl => ?_⟩
  obtain ⟨v, u, rfl⟩ : ∃ v u, ws = [v, u] := by
    match ws, hl with
    | [v, u], _ => exact ⟨v, u, rfl⟩
  exact .of_eq rfl
theorem bare_of (T : TT K mg) {x : Str} (m : x ∈ neB) : PySem.W.excIn K (He.ga K x) He.veBase "ValueError.__new__" = true ∧ PySem.W.keepIn K (.ref (He.ga K x)) = true := ⟨(He.ba (T.bb x m)).1, (He.ba (He.ba (T.bb x m)).2).1⟩
theorem sc_given : FnScope (["thing"] : List Str) (["thing"] : List Str) (defScope s_law_given_ones) := ⟨rfl, rfl, rfl, by decide +kernel, rfl, by decide +kernel, by decide +kernel⟩
theorem sc_index : FnScope (["thing"] : List Str) (["thing"] : List Str) (defScope s_law_index_ones) := ⟨rfl, rfl, rfl, by decide +kernel, rfl, by decide +kernel, by decide +kernel⟩
theorem fin_rows {l : List (Str × Str)} {v : V} {H : Hp} {Q : VK} {D : Ends} {σ : L2.St} (hl : l.length ≤ sizeLine) (h : σ[0]? = some (some v)) (hQ : D.rt = Q) (q : ∀ a rs H' G, Ext H H' G → G a = some (.lst rs) → RowsV K G v l rs → Q (.ref a) H') : tRet (tLst (tRows K l)) D σ H := by
  refine ⟨v, h, fun rs H1 G1 E1 r1 => ⟨by rw [r1.len]; exact hl, fun a ha => ?_⟩⟩
  obtain ⟨J, k⟩ := E1.join (Ext.one (o := .lst rs) ha)
  rw [hQ]
  exact q a rs _ _ J (join_r _ _ upd_same) (RowsV.mono k r1)
theorem ok_given (T : TT K mg) {fd : FuncData} (F : FunD K "_law_given_ones" "_law_given_ones" (defArgs s_law_given_ones) (defBody s_law_given_ones) (defScope s_law_given_ones) [] [] (He.ga K "_law_given_ones") fd) : FnOk Pw w K mg base CX0 3 (He.ga K "_law_given_ones") fd ["thing"] (spRows K xw1) := by
  obtain ⟨fd_InvalidText, F_InvalidText, b_InvalidText, k_InvalidText⟩ := (i_InvalidText T).fn
  obtain ⟨fd_InvalidProgram, F_InvalidProgram, b_InvalidProgram, k_InvalidProgram⟩ := (i_InvalidProgram T).fn
  obtain ⟨fd_InvalidTree, F_InvalidTree, b_InvalidTree, k_InvalidTree⟩ := (i_InvalidTree T).fn
  obtain ⟨fd_InvalidNumber, F_InvalidNumber, b_InvalidNumber, k_InvalidNumber⟩ := (i_InvalidNumber T).fn
  obtain ⟨fd_InvalidName, F_InvalidName, b_InvalidName, k_InvalidName⟩ := (i_InvalidName T).fn
  obtain ⟨fd_InvalidNumbering, F_InvalidNumbering, b_InvalidNumbering, k_InvalidNumbering⟩ := (i_InvalidNumbering T).fn
  obtain ⟨fd_InvalidGivens, F_InvalidGivens, b_InvalidGivens, k_InvalidGivens⟩ := (i_InvalidGivens T).fn
  obtain ⟨fd_InvalidSum, F_InvalidSum, b_InvalidSum, k_InvalidSum⟩ := (i_InvalidSum T).fn
  obtain ⟨fd_InvalidPattern, F_InvalidPattern, b_InvalidPattern, k_InvalidPattern⟩ := (i_InvalidPattern T).fn
  obtain ⟨fd_InvalidCode, F_InvalidCode, b_InvalidCode, k_InvalidCode⟩ := (i_InvalidCode T).fn
  obtain ⟨fd_InvalidCensus, F_InvalidCensus, b_InvalidCensus, k_InvalidCensus⟩ := (i_InvalidCensus T).fn
  obtain ⟨fd_InvalidLot, F_InvalidLot, b_InvalidLot, k_InvalidLot⟩ := (i_InvalidLot T).fn
  obtain ⟨fd_InvalidLine, F_InvalidLine, b_InvalidLine, k_InvalidLine⟩ := (i_InvalidLine T).fn
  obtain ⟨fd_NotADesk, F_NotADesk, b_NotADesk, k_NotADesk⟩ := (i_NotADesk T).fn
  refine F.ok sc_given (fun vs H Q E h => ?_) (fun cdv A outer s H vs Q E hr h => ⟨tRet (tLst (tRows K xw1)), PSs.nox (pss_one (ps_ret (pe_lst
    (pa_rows_cons (pe_row rfl (pe_wk (pe_newX (i_InvalidText T).ex (i_InvalidText T).iC (i_InvalidText T).tI (F_InvalidText w base) (hr.mono (by decide)) b_InvalidText rfl (T.gl _ (by decide +kernel)) (pa_cons (pv 0) pa_nil)) imp_e1) (pe_wk (pe_newXK (ks := (["given"] : List Str)) (i_InvalidText T).ex (i_InvalidText T).iC (i_InvalidText T).tI (F_InvalidText w base) (hr.mono (by decide)) k_InvalidText rfl (T.gl _ (by decide +kernel)) (pk_cons (pv 0) pk_nil) rfl) imp_k1))
      (pa_rows_cons (pe_row rfl (pe_wk (pe_newX (i_InvalidProgram T).ex (i_InvalidProgram T).iC (i_InvalidProgram T).tI (F_InvalidProgram w base) (hr.mono (by decide)) b_InvalidProgram rfl (T.gl _ (by decide +kernel)) (pa_cons (pv 0) pa_nil)) imp_e1) (pe_wk (pe_newXK (ks := (["given"] : List Str)) (i_InvalidProgram T).ex (i_InvalidProgram T).iC (i_InvalidProgram T).tI (F_InvalidProgram w base) (hr.mono (by decide)) k_InvalidProgram rfl (T.gl _ (by decide +kernel)) (pk_cons (pv 0) pk_nil) rfl) imp_k1))
      (pa_rows_cons (pe_row rfl (pe_wk (pe_newX (i_InvalidTree T).ex (i_InvalidTree T).iC (i_InvalidTree T).tI (F_InvalidTree w base) (hr.mono (by decide)) b_InvalidTree rfl (T.gl _ (by decide +kernel)) (pa_cons (pv 0) pa_nil)) imp_e1) (pe_wk (pe_newXK (ks := (["given"] : List Str)) (i_InvalidTree T).ex (i_InvalidTree T).iC (i_InvalidTree T).tI (F_InvalidTree w base) (hr.mono (by decide)) k_InvalidTree rfl (T.gl _ (by decide +kernel)) (pk_cons (pv 0) pk_nil) rfl) imp_k1))
      (pa_rows_cons (pe_row rfl (pe_wk (pe_newX (i_InvalidNumber T).ex (i_InvalidNumber T).iC (i_InvalidNumber T).tI (F_InvalidNumber w base) (hr.mono (by decide)) b_InvalidNumber rfl (T.gl _ (by decide +kernel)) (pa_cons (pv 0) pa_nil)) imp_e1) (pe_wk (pe_newXK (ks := (["given"] : List Str)) (i_InvalidNumber T).ex (i_InvalidNumber T).iC (i_InvalidNumber T).tI (F_InvalidNumber w base) (hr.mono (by decide)) k_InvalidNumber rfl (T.gl _ (by decide +kernel)) (pk_cons (pv 0) pk_nil) rfl) imp_k1))
      (pa_rows_cons (pe_row rfl (pe_wk (pe_newX (i_InvalidName T).ex (i_InvalidName T).iC (i_InvalidName T).tI (F_InvalidName w base) (hr.mono (by decide)) b_InvalidName rfl (T.gl _ (by decide +kernel)) (pa_cons (pv 0) pa_nil)) imp_e1) (pe_wk (pe_newXK (ks := (["given"] : List Str)) (i_InvalidName T).ex (i_InvalidName T).iC (i_InvalidName T).tI (F_InvalidName w base) (hr.mono (by decide)) k_InvalidName rfl (T.gl _ (by decide +kernel)) (pk_cons (pv 0) pk_nil) rfl) imp_k1))
      (pa_rows_cons (pe_row rfl (pe_wk (pe_newX (i_InvalidNumbering T).ex (i_InvalidNumbering T).iC (i_InvalidNumbering T).tI (F_InvalidNumbering w base) (hr.mono (by decide)) b_InvalidNumbering rfl (T.gl _ (by decide +kernel)) (pa_cons (pv 0) pa_nil)) imp_e1) (pe_wk (pe_newXK (ks := (["given"] : List Str)) (i_InvalidNumbering T).ex (i_InvalidNumbering T).iC (i_InvalidNumbering T).tI (F_InvalidNumbering w base) (hr.mono (by decide)) k_InvalidNumbering rfl (T.gl _ (by decide +kernel)) (pk_cons (pv 0) pk_nil) rfl) imp_k1))
      (pa_rows_cons (pe_row rfl (pe_wk (pe_newX (i_InvalidGivens T).ex (i_InvalidGivens T).iC (i_InvalidGivens T).tI (F_InvalidGivens w base) (hr.mono (by decide)) b_InvalidGivens rfl (T.gl _ (by decide +kernel)) (pa_cons (pv 0) pa_nil)) imp_e1) (pe_wk (pe_newXK (ks := (["given"] : List Str)) (i_InvalidGivens T).ex (i_InvalidGivens T).iC (i_InvalidGivens T).tI (F_InvalidGivens w base) (hr.mono (by decide)) k_InvalidGivens rfl (T.gl _ (by decide +kernel)) (pk_cons (pv 0) pk_nil) rfl) imp_k1))
      (pa_rows_cons (pe_row rfl (pe_wk (pe_newX (i_InvalidSum T).ex (i_InvalidSum T).iC (i_InvalidSum T).tI (F_InvalidSum w base) (hr.mono (by decide)) b_InvalidSum rfl (T.gl _ (by decide +kernel)) (pa_cons (pv 0) pa_nil)) imp_e1) (pe_wk (pe_newXK (ks := (["given"] : List Str)) (i_InvalidSum T).ex (i_InvalidSum T).iC (i_InvalidSum T).tI (F_InvalidSum w base) (hr.mono (by decide)) k_InvalidSum rfl (T.gl _ (by decide +kernel)) (pk_cons (pv 0) pk_nil) rfl) imp_k1))
      (pa_rows_cons (pe_row rfl (pe_wk (pe_newX (i_InvalidPattern T).ex (i_InvalidPattern T).iC (i_InvalidPattern T).tI (F_InvalidPattern w base) (hr.mono (by decide)) b_InvalidPattern rfl (T.gl _ (by decide +kernel)) (pa_cons (pv 0) pa_nil)) imp_e1) (pe_wk (pe_newXK (ks := (["given"] : List Str)) (i_InvalidPattern T).ex (i_InvalidPattern T).iC (i_InvalidPattern T).tI (F_InvalidPattern w base) (hr.mono (by decide)) k_InvalidPattern rfl (T.gl _ (by decide +kernel)) (pk_cons (pv 0) pk_nil) rfl) imp_k1))
      (pa_rows_cons (pe_row rfl (pe_wk (pe_newX (i_InvalidCode T).ex (i_InvalidCode T).iC (i_InvalidCode T).tI (F_InvalidCode w base) (hr.mono (by decide)) b_InvalidCode rfl (T.gl _ (by decide +kernel)) (pa_cons (pv 0) pa_nil)) imp_e1) (pe_wk (pe_newXK (ks := (["given"] : List Str)) (i_InvalidCode T).ex (i_InvalidCode T).iC (i_InvalidCode T).tI (F_InvalidCode w base) (hr.mono (by decide)) k_InvalidCode rfl (T.gl _ (by decide +kernel)) (pk_cons (pv 0) pk_nil) rfl) imp_k1))
      (pa_rows_cons (pe_row rfl (pe_wk (pe_newX (i_InvalidCensus T).ex (i_InvalidCensus T).iC (i_InvalidCensus T).tI (F_InvalidCensus w base) (hr.mono (by decide)) b_InvalidCensus rfl (T.gl _ (by decide +kernel)) (pa_cons (pv 0) pa_nil)) imp_e1) (pe_wk (pe_newXK (ks := (["given"] : List Str)) (i_InvalidCensus T).ex (i_InvalidCensus T).iC (i_InvalidCensus T).tI (F_InvalidCensus w base) (hr.mono (by decide)) k_InvalidCensus rfl (T.gl _ (by decide +kernel)) (pk_cons (pv 0) pk_nil) rfl) imp_k1))
      (pa_rows_cons (pe_row rfl (pe_wk (pe_newX (i_InvalidLot T).ex (i_InvalidLot T).iC (i_InvalidLot T).tI (F_InvalidLot w base) (hr.mono (by decide)) b_InvalidLot rfl (T.gl _ (by decide +kernel)) (pa_cons (pv 0) pa_nil)) imp_e1) (pe_wk (pe_newXK (ks := (["given"] : List Str)) (i_InvalidLot T).ex (i_InvalidLot T).iC (i_InvalidLot T).tI (F_InvalidLot w base) (hr.mono (by decide)) k_InvalidLot rfl (T.gl _ (by decide +kernel)) (pk_cons (pv 0) pk_nil) rfl) imp_k1))
      (pa_rows_cons (pe_row rfl (pe_wk (pe_newX (i_InvalidLine T).ex (i_InvalidLine T).iC (i_InvalidLine T).tI (F_InvalidLine w base) (hr.mono (by decide)) b_InvalidLine rfl (T.gl _ (by decide +kernel)) (pa_cons (pv 0) pa_nil)) imp_e1) (pe_wk (pe_newXK (ks := (["given"] : List Str)) (i_InvalidLine T).ex (i_InvalidLine T).iC (i_InvalidLine T).tI (F_InvalidLine w base) (hr.mono (by decide)) k_InvalidLine rfl (T.gl _ (by decide +kernel)) (pk_cons (pv 0) pk_nil) rfl) imp_k1))
      (pa_rows_cons (pe_row rfl (pe_wk (pe_newX (i_NotADesk T).ex (i_NotADesk T).iC (i_NotADesk T).tI (F_NotADesk w base) (hr.mono (by decide)) b_NotADesk rfl (T.gl _ (by decide +kernel)) (pa_cons (pv 0) pa_nil)) imp_e1) (pe_wk (pe_newXK (ks := (["given"] : List Str)) (i_NotADesk T).ex (i_NotADesk T).iC (i_NotADesk T).tI (F_NotADesk w base) (hr.mono (by decide)) k_NotADesk rfl (T.gl _ (by decide +kernel)) (pk_cons (pv 0) pk_nil) rfl) imp_k1))
      pa_rows_nil))))))))))))))))), ?_⟩)
  · obtain ⟨v, rfl, _⟩ := h
    rfl
  obtain ⟨v, rfl, q⟩ := h
  exact fin_rows (by show 14 ≤ sizeLine; decide) rfl rfl q
theorem ok_index (T : TT K mg) {fd : FuncData} (F : FunD K "_law_index_ones" "_law_index_ones" (defArgs s_law_index_ones) (defBody s_law_index_ones) (defScope s_law_index_ones) [] [] (He.ga K "_law_index_ones") fd) : FnOk Pw w K mg base CX0 3 (He.ga K "_law_index_ones") fd ["thing"] (spRows K xw2) := by
  obtain ⟨fd_NotWellRead, F_NotWellRead, b_NotWellRead, k_NotWellRead⟩ := (i_NotWellRead T).fn
  obtain ⟨fd_InvalidRows, F_InvalidRows, b_InvalidRows, k_InvalidRows⟩ := (i_InvalidRows T).fn
  obtain ⟨fd_InvalidDeed, F_InvalidDeed, b_InvalidDeed, k_InvalidDeed⟩ := (i_InvalidDeed T).fn
  obtain ⟨fd_Barred, F_Barred, b_Barred, k_Barred⟩ := (i_Barred T).fn
  refine F.ok sc_index (fun vs H Q E h => ?_) (fun cdv A outer s H vs Q E hr h => ⟨tRet (tLst (tRows K xw2)), PSs.nox (pss_one (ps_ret (pe_lst
    (pa_rows_cons (pe_row rfl (pe_wk (pe_newX (i_NotWellRead T).ex (i_NotWellRead T).iC (i_NotWellRead T).tI (F_NotWellRead w base) (hr.mono (by decide)) b_NotWellRead rfl (T.gl _ (by decide +kernel)) (pa_cons (pv 0) (pa_cons (pe_lst (pa_cons (pv 0) pa_nil)) pa_nil))) imp_e2) (pe_wk (pe_newXK (ks := (["row", "word"] : List Str)) (i_NotWellRead T).ex (i_NotWellRead T).iC (i_NotWellRead T).tI (F_NotWellRead w base) (hr.mono (by decide)) k_NotWellRead rfl (T.gl _ (by decide +kernel)) (pk_cons (pv 0) (pk_cons (pe_lst (pa_cons (pv 0) pa_nil)) pk_nil)) rfl) imp_k2))
      (pa_rows_cons (pe_row rfl (pe_wk (pe_newX (i_InvalidRows T).ex (i_InvalidRows T).iC (i_InvalidRows T).tI (F_InvalidRows w base) (hr.mono (by decide)) b_InvalidRows rfl (T.gl _ (by decide +kernel)) (pa_cons (pv 0) pa_nil)) imp_e1) (pe_wk (pe_newXK (ks := (["index"] : List Str)) (i_InvalidRows T).ex (i_InvalidRows T).iC (i_InvalidRows T).tI (F_InvalidRows w base) (hr.mono (by decide)) k_InvalidRows rfl (T.gl _ (by decide +kernel)) (pk_cons (pv 0) pk_nil) rfl) imp_k1))
      (pa_rows_cons (pe_row rfl (pe_wk (pe_newX (i_InvalidDeed T).ex (i_InvalidDeed T).iC (i_InvalidDeed T).tI (F_InvalidDeed w base) (hr.mono (by decide)) b_InvalidDeed rfl (T.gl _ (by decide +kernel)) (pa_cons (pv 0) pa_nil)) imp_e1) (pe_wk (pe_newXK (ks := (["index"] : List Str)) (i_InvalidDeed T).ex (i_InvalidDeed T).iC (i_InvalidDeed T).tI (F_InvalidDeed w base) (hr.mono (by decide)) k_InvalidDeed rfl (T.gl _ (by decide +kernel)) (pk_cons (pv 0) pk_nil) rfl) imp_k1))
      (pa_rows_cons (pe_row rfl (pe_wk (pe_newX (i_Barred T).ex (i_Barred T).iC (i_Barred T).tI (F_Barred w base) (hr.mono (by decide)) b_Barred rfl (T.gl _ (by decide +kernel)) (pa_cons (pv 0) pa_nil)) imp_e1) (pe_wk (pe_newXK (ks := (["reason"] : List Str)) (i_Barred T).ex (i_Barred T).iC (i_Barred T).tI (F_Barred w base) (hr.mono (by decide)) k_Barred rfl (T.gl _ (by decide +kernel)) (pk_cons (pv 0) pk_nil) rfl) imp_k1))
      (pa_rows_cons (pe_row rfl (pe_wk (pe_newX0 (bare_of T (x := "NothingToUndo") (by decide +kernel)).1 (bare_of T (x := "NothingToUndo") (by decide +kernel)).2 rfl (T.gl _ (by decide +kernel))) imp_0) (pe_wk (pe_newX0 (bare_of T (x := "NothingToUndo") (by decide +kernel)).1 (bare_of T (x := "NothingToUndo") (by decide +kernel)).2 rfl (T.gl _ (by decide +kernel))) imp_0))
      (pa_rows_cons (pe_row rfl (pe_wk (pe_newX0 (bare_of T (x := "NotFree") (by decide +kernel)).1 (bare_of T (x := "NotFree") (by decide +kernel)).2 rfl (T.gl _ (by decide +kernel))) imp_0) (pe_wk (pe_newX0 (bare_of T (x := "NotFree") (by decide +kernel)).1 (bare_of T (x := "NotFree") (by decide +kernel)).2 rfl (T.gl _ (by decide +kernel))) imp_0))
      (pa_rows_cons (pe_row rfl (pe_wk (pe_newX0 (bare_of T (x := "NoForm") (by decide +kernel)).1 (bare_of T (x := "NoForm") (by decide +kernel)).2 rfl (T.gl _ (by decide +kernel))) imp_0) (pe_wk (pe_newX0 (bare_of T (x := "NoForm") (by decide +kernel)).1 (bare_of T (x := "NoForm") (by decide +kernel)).2 rfl (T.gl _ (by decide +kernel))) imp_0))
      (pa_rows_cons (pe_row rfl (pe_wk (pe_newX0 (bare_of T (x := "TooGreat") (by decide +kernel)).1 (bare_of T (x := "TooGreat") (by decide +kernel)).2 rfl (T.gl _ (by decide +kernel))) imp_0) (pe_wk (pe_newX0 (bare_of T (x := "TooGreat") (by decide +kernel)).1 (bare_of T (x := "TooGreat") (by decide +kernel)).2 rfl (T.gl _ (by decide +kernel))) imp_0))
      pa_rows_nil))))))))))), ?_⟩)
  · obtain ⟨v, rfl, _⟩ := h
    rfl
  obtain ⟨v, rfl, q⟩ := h
  exact fin_rows (by show 8 ≤ sizeLine; decide) rfl rfl q
end
end K01
namespace K01
open PySem PySem.Spec PyProof.Rows L2 HK ES NdefX CA
/-! ### kinds -/
/-- e: an error of the class x -/
def IsE (K : PySem.W.Frag) (H : Hp) (x : Str) (a : Addr) : Prop := x ∈ neC ∧ ∃ d, ExAt H a (He.ga K x) d
theorem IsE.mono {K : PySem.W.Frag} {H H' : Hp} {x : Str} {a : Addr} (h : IsE K H x a) (s : Same H H') : IsE K H' x a := ⟨h.1, let ⟨d, z⟩ := h.2; ⟨d, z.mono s⟩⟩
theorem Err.isE {K : PySem.W.Frag} {G : Hp} {x w : Str} {v : V} {e : Addr} (h : Err K G x w v e) (m : x ∈ neC) : IsE K G x e := by
  rcases h with ⟨_, a⟩ | ⟨_, d, l, a, b, _⟩ | ⟨_, _, d, a, b⟩
  · exact ⟨m, none, exAt_new a⟩
  · exact ⟨m, some d, exAt_of a b⟩
  · exact ⟨m, some d, exAt_of a b⟩
def tIsI (K : PySem.W.Frag) (y : Str) : TE := fun σ H Q => ∃ a x, σ[0]? = some (some (.ref a)) ∧ IsE K H x a ∧ Q (.bl (decide (x = y))) H
def tKinds (K : PySem.W.Frag) (ys : List Str) : TA := fun σ H Q => ∃ a x, σ[0]? = some (some (.ref a)) ∧ IsE K H x a ∧ Q (ys.map fun y => .bl (decide (x = y))) H
section
variable {K : PySem.W.Frag} {mg : Str → Option Value}
theorem kit_of (T : TT K mg) {x : Str} (m : x ∈ neC) : (∀ y ∈ cls, PySem.W.kitOne K (.ref (He.ga K x)) (.ref (He.ga K y)) = some (decide (x = y))) ∧ PySem.W.kitOne K (.ref (He.ga K x)) (.ref (He.ga K "NumberError")) = some true ∧
    PySem.W.kitOne K (.ref (He.ga K x)) (.type "ValueError") = some true ∧ PySem.W.kitAny K (.ref (He.ga K x)) [.type "LookupError", .type "ArithmeticError", .type "TypeError", .type "AttributeError", .type "RuntimeError"] = some false := by
  obtain ⟨a1, e⟩ := He.ba (T.kb x m)
  obtain ⟨a2, e⟩ := He.ba e
  obtain ⟨a3, a4⟩ := He.ba e
  exact ⟨fun y my => of_decide_eq_true (List.all_eq_true.mp a1 y my), of_decide_eq_true a2, of_decide_eq_true a3, of_decide_eq_true a4⟩
theorem imp_is (T : TT K mg) {y : Str} (m : y ∈ cls) : ∀ σ H Q, tIsI K y σ H Q → tCB (rIsX K) (tCons (tVar 0) (tCons (tC (.ref (He.ga K y))) tNil)) σ H Q := by
  rintro σ H Q ⟨a, x, h, ⟨mx, d, hx⟩, q⟩
  exact ⟨_, h, a, _, d, _, _, _, rfl, hx, (T.xc x mx).1, fun u r => r, (kit_of T mx).1 y m, q⟩
theorem pa_kinds_nil {X : Cx} : PA X [] (tKinds K []) := pa_wk pa_nil fun σ H Q ⟨_, _, _, _, q⟩ => q
theorem pa_kinds_cons {X : Cx} {e : Expr} {es : List Expr} {y : Str} {ys : List Str} (h : PE X e (tIsI K y)) (hr : PA X es (tKinds K ys)) (hs : starEach (e :: es) X.env = (false, eval e X.env) :: starEach es X.env := by rfl) : PA X (e :: es) (tKinds K (y :: ys)) := by
  refine pa_wk (pa_cons h hr hs) ?_
  rintro σ H Q ⟨a, x, h, hx, q⟩
  exact ⟨a, x, h, hx, a, x, h, hx, q⟩
end
def spKinds (K : PySem.W.Frag) : Sp := fun vs H Q _ => ∃ a x, vs = [.ref a] ∧ IsE K H x a ∧ ∀ l H' G, Ext H H' G → G l = some (.lst (cls.map fun y => .bl (decide (x = y)))) → Q (.ref l) H'
def spPlain (K : PySem.W.Frag) : Sp := fun vs H Q _ => ∃ a x, vs = [.ref a] ∧ IsE K H x a ∧ ∀ H' G, Ext H H' G → Q (.bl true) H'
section
variable {w : World} {K : PySem.W.Frag} {mg : Str → Option Value} {base : Heap}
theorem sc_kinds : FnScope (["e", "found"] : List Str) (["e"] : List Str) (defScope s_law_kinds) := ⟨rfl, rfl, rfl, by decide +kernel, rfl, by decide +kernel, by decide +kernel⟩
theorem sc_plain : FnScope (["e"] : List Str) (["e"] : List Str) (defScope s_law_is_plain) := ⟨rfl, rfl, rfl, by decide +kernel, rfl, by decide +kernel, by decide +kernel⟩
theorem sc_kept : FnScope (["word", "e"] : List Str) (["word", "e"] : List Str) (defScope s_law_kept) := ⟨rfl, rfl, rfl, by decide +kernel, rfl, by decide +kernel, by decide +kernel⟩
theorem sc_pick : FnScope (["draws", "some"] : List Str) (["draws", "some"] : List Str) (defScope s_law_pick) := ⟨rfl, rfl, rfl, by decide +kernel, rfl, by decide +kernel, by decide +kernel⟩
theorem ok_kinds (T : TT K mg) {fd : FuncData} (F : FunD K "_law_kinds" "_law_kinds" (defArgs s_law_kinds) (defBody s_law_kinds) (defScope s_law_kinds) [] [] (He.ga K "_law_kinds") fd) : FnS Pw w K mg base 1 (He.ga K "_law_kinds") fd (["e"] : List Str) (spKinds K) := by
  have SC := sc_kinds
  refine okS F SC (fun vs H Q E h => ?_) (fun cdv A outer s H vs Q E p hr h => ⟨_, (pss_cons (ps_set (i := 1) SC.nd rfl (Or.inl rfl) (pe_lst (pa_kinds_cons (pe_wk (pe_callB ES.call_isX (by rfl) (T.fr _ (by decide +kernel)) (by decide +kernel) (pa_cons (pv 0) (pa_cons (pe_glob (v := .ref (He.ga K "InvalidText")) rfl (T.gl _ (by decide +kernel)) rfl) pa_nil))) (imp_is T (y := "InvalidText") (by decide +kernel)))
      (pa_kinds_cons (pe_wk (pe_callB ES.call_isX (by rfl) (T.fr _ (by decide +kernel)) (by decide +kernel) (pa_cons (pv 0) (pa_cons (pe_glob (v := .ref (He.ga K "InvalidProgram")) rfl (T.gl _ (by decide +kernel)) rfl) pa_nil))) (imp_is T (y := "InvalidProgram") (by decide +kernel)))
      (pa_kinds_cons (pe_wk (pe_callB ES.call_isX (by rfl) (T.fr _ (by decide +kernel)) (by decide +kernel) (pa_cons (pv 0) (pa_cons (pe_glob (v := .ref (He.ga K "InvalidTree")) rfl (T.gl _ (by decide +kernel)) rfl) pa_nil))) (imp_is T (y := "InvalidTree") (by decide +kernel)))
      (pa_kinds_cons (pe_wk (pe_callB ES.call_isX (by rfl) (T.fr _ (by decide +kernel)) (by decide +kernel) (pa_cons (pv 0) (pa_cons (pe_glob (v := .ref (He.ga K "InvalidNumber")) rfl (T.gl _ (by decide +kernel)) rfl) pa_nil))) (imp_is T (y := "InvalidNumber") (by decide +kernel)))
      (pa_kinds_cons (pe_wk (pe_callB ES.call_isX (by rfl) (T.fr _ (by decide +kernel)) (by decide +kernel) (pa_cons (pv 0) (pa_cons (pe_glob (v := .ref (He.ga K "InvalidName")) rfl (T.gl _ (by decide +kernel)) rfl) pa_nil))) (imp_is T (y := "InvalidName") (by decide +kernel)))
      (pa_kinds_cons (pe_wk (pe_callB ES.call_isX (by rfl) (T.fr _ (by decide +kernel)) (by decide +kernel) (pa_cons (pv 0) (pa_cons (pe_glob (v := .ref (He.ga K "InvalidNumbering")) rfl (T.gl _ (by decide +kernel)) rfl) pa_nil))) (imp_is T (y := "InvalidNumbering") (by decide +kernel)))
      (pa_kinds_cons (pe_wk (pe_callB ES.call_isX (by rfl) (T.fr _ (by decide +kernel)) (by decide +kernel) (pa_cons (pv 0) (pa_cons (pe_glob (v := .ref (He.ga K "InvalidGivens")) rfl (T.gl _ (by decide +kernel)) rfl) pa_nil))) (imp_is T (y := "InvalidGivens") (by decide +kernel)))
      (pa_kinds_cons (pe_wk (pe_callB ES.call_isX (by rfl) (T.fr _ (by decide +kernel)) (by decide +kernel) (pa_cons (pv 0) (pa_cons (pe_glob (v := .ref (He.ga K "InvalidSum")) rfl (T.gl _ (by decide +kernel)) rfl) pa_nil))) (imp_is T (y := "InvalidSum") (by decide +kernel)))
      (pa_kinds_cons (pe_wk (pe_callB ES.call_isX (by rfl) (T.fr _ (by decide +kernel)) (by decide +kernel) (pa_cons (pv 0) (pa_cons (pe_glob (v := .ref (He.ga K "InvalidPattern")) rfl (T.gl _ (by decide +kernel)) rfl) pa_nil))) (imp_is T (y := "InvalidPattern") (by decide +kernel)))
      (pa_kinds_cons (pe_wk (pe_callB ES.call_isX (by rfl) (T.fr _ (by decide +kernel)) (by decide +kernel) (pa_cons (pv 0) (pa_cons (pe_glob (v := .ref (He.ga K "InvalidCode")) rfl (T.gl _ (by decide +kernel)) rfl) pa_nil))) (imp_is T (y := "InvalidCode") (by decide +kernel)))
      (pa_kinds_cons (pe_wk (pe_callB ES.call_isX (by rfl) (T.fr _ (by decide +kernel)) (by decide +kernel) (pa_cons (pv 0) (pa_cons (pe_glob (v := .ref (He.ga K "InvalidCensus")) rfl (T.gl _ (by decide +kernel)) rfl) pa_nil))) (imp_is T (y := "InvalidCensus") (by decide +kernel)))
      (pa_kinds_cons (pe_wk (pe_callB ES.call_isX (by rfl) (T.fr _ (by decide +kernel)) (by decide +kernel) (pa_cons (pv 0) (pa_cons (pe_glob (v := .ref (He.ga K "InvalidLot")) rfl (T.gl _ (by decide +kernel)) rfl) pa_nil))) (imp_is T (y := "InvalidLot") (by decide +kernel)))
      pa_kinds_nil))))))))))))))
      (pss_one (ps_ret (pe_op op_cat (pv 1) (pe_lst (pa_kinds_cons (pe_wk (pe_callB ES.call_isX (by rfl) (T.fr _ (by decide +kernel)) (by decide +kernel) (pa_cons (pv 0) (pa_cons (pe_glob (v := .ref (He.ga K "InvalidLine")) rfl (T.gl _ (by decide +kernel)) rfl) pa_nil))) (imp_is T (y := "InvalidLine") (by decide +kernel)))
      (pa_kinds_cons (pe_wk (pe_callB ES.call_isX (by rfl) (T.fr _ (by decide +kernel)) (by decide +kernel) (pa_cons (pv 0) (pa_cons (pe_glob (v := .ref (He.ga K "NotADesk")) rfl (T.gl _ (by decide +kernel)) rfl) pa_nil))) (imp_is T (y := "NotADesk") (by decide +kernel)))
      (pa_kinds_cons (pe_wk (pe_callB ES.call_isX (by rfl) (T.fr _ (by decide +kernel)) (by decide +kernel) (pa_cons (pv 0) (pa_cons (pe_glob (v := .ref (He.ga K "NotWellRead")) rfl (T.gl _ (by decide +kernel)) rfl) pa_nil))) (imp_is T (y := "NotWellRead") (by decide +kernel)))
      (pa_kinds_cons (pe_wk (pe_callB ES.call_isX (by rfl) (T.fr _ (by decide +kernel)) (by decide +kernel) (pa_cons (pv 0) (pa_cons (pe_glob (v := .ref (He.ga K "InvalidRows")) rfl (T.gl _ (by decide +kernel)) rfl) pa_nil))) (imp_is T (y := "InvalidRows") (by decide +kernel)))
      (pa_kinds_cons (pe_wk (pe_callB ES.call_isX (by rfl) (T.fr _ (by decide +kernel)) (by decide +kernel) (pa_cons (pv 0) (pa_cons (pe_glob (v := .ref (He.ga K "InvalidDeed")) rfl (T.gl _ (by decide +kernel)) rfl) pa_nil))) (imp_is T (y := "InvalidDeed") (by decide +kernel)))
      (pa_kinds_cons (pe_wk (pe_callB ES.call_isX (by rfl) (T.fr _ (by decide +kernel)) (by decide +kernel) (pa_cons (pv 0) (pa_cons (pe_glob (v := .ref (He.ga K "Barred")) rfl (T.gl _ (by decide +kernel)) rfl) pa_nil))) (imp_is T (y := "Barred") (by decide +kernel)))
      (pa_kinds_cons (pe_wk (pe_callB ES.call_isX (by rfl) (T.fr _ (by decide +kernel)) (by decide +kernel) (pa_cons (pv 0) (pa_cons (pe_glob (v := .ref (He.ga K "NothingToUndo")) rfl (T.gl _ (by decide +kernel)) rfl) pa_nil))) (imp_is T (y := "NothingToUndo") (by decide +kernel)))
      (pa_kinds_cons (pe_wk (pe_callB ES.call_isX (by rfl) (T.fr _ (by decide +kernel)) (by decide +kernel) (pa_cons (pv 0) (pa_cons (pe_glob (v := .ref (He.ga K "NotFree")) rfl (T.gl _ (by decide +kernel)) rfl) pa_nil))) (imp_is T (y := "NotFree") (by decide +kernel)))
      (pa_kinds_cons (pe_wk (pe_callB ES.call_isX (by rfl) (T.fr _ (by decide +kernel)) (by decide +kernel) (pa_cons (pv 0) (pa_cons (pe_glob (v := .ref (He.ga K "NoForm")) rfl (T.gl _ (by decide +kernel)) rfl) pa_nil))) (imp_is T (y := "NoForm") (by decide +kernel)))
      (pa_kinds_cons (pe_wk (pe_callB ES.call_isX (by rfl) (T.fr _ (by decide +kernel)) (by decide +kernel) (pa_cons (pv 0) (pa_cons (pe_glob (v := .ref (He.ga K "TooGreat")) rfl (T.gl _ (by decide +kernel)) rfl) pa_nil))) (imp_is T (y := "TooGreat") (by decide +kernel)))
      pa_kinds_nil))))))))))))))), ?_⟩)
  · obtain ⟨a, x, rfl, _⟩ := h
    rfl
  obtain ⟨a, x, rfl, hx, q⟩ := h
  refine ⟨a, x, rfl, hx, (by show 12 ≤ sizeLine; decide), fun l1 n1 => ?_⟩
  have E1 := Ext.one (H := H) (o := .lst ((cls.take 12).map fun y => .bl (decide (x = y)))) n1
  refine ⟨_, rfl, a, x, rfl, hx.mono E1.1, (by show 10 ≤ sizeLine; decide), fun l2 n2 => ?_⟩
  have E2 := Ext.one (o := .lst ((cls.drop 12).map fun y => .bl (decide (x = y)))) n2
  refine ⟨l1, l2, _, _, rfl, rfl, E2.1 _ _ upd_same, upd_same, (by show 22 ≤ sizeLine; decide), fun l3 n3 => ?_⟩
  have E3 := Ext.one (o := .lst (((cls.take 12).map fun y => V.bl (decide (x = y))) ++ ((cls.drop 12).map fun y => V.bl (decide (x = y))))) n3
  refine q l3 _ _ ((E1.join E2).1.join E3).1 (join_r _ _ ?_)
  rw [upd_same, ← List.map_append, List.take_append_drop]
theorem ok_plain (T : TT K mg) {fd : FuncData} (F : FunD K "_law_is_plain" "_law_is_plain" (defArgs s_law_is_plain) (defBody s_law_is_plain) (defScope s_law_is_plain) [] [] (He.ga K "_law_is_plain") fd) : FnS Pw w K mg base 1 (He.ga K "_law_is_plain") fd (["e"] : List Str) (spPlain K) := by
  have SC := sc_plain
  refine okS F SC (fun vs H Q E h => ?_) (fun cdv A outer s H vs Q E p hr h => ⟨_, (pss_cons (ps_if (PW.pt (pw_or (pt_not (pt_val (pe_callB ES.call_isX (by rfl) (T.fr _ (by decide +kernel)) (by decide +kernel) (pa_cons (pv 0) (pa_cons (pe_glob (v := .ref (He.ga K "NumberError")) rfl (T.gl _ (by decide +kernel)) rfl) pa_nil))))) (pw_or1 (pt_not (pt_val (pe_callB ES.call_isX (by rfl) (T.fr _ (by decide +kernel)) (by decide +kernel) (pa_cons (pv 0) (pa_cons (pe_bltn (by rfl) (T.fr _ (by decide +kernel)) (by decide +kernel) (v := .ty "ValueError") rfl) pa_nil)))))))) (pss_one (ps_ret pe_bl)) pss_nil)
      (pss_one (ps_ret (pe_not (pe_callB ES.call_isXT (by rfl) (T.fr _ (by decide +kernel)) (by decide +kernel) (pa_cons (pv 0) (pa_cons (pe_tup (pa_cons (pe_bltn (by rfl) (T.fr _ (by decide +kernel)) (by decide +kernel) (v := .ty "LookupError") rfl) (pa_cons (pe_bltn (by rfl) (T.fr _ (by decide +kernel)) (by decide +kernel) (v := .ty "ArithmeticError") rfl) (pa_cons (pe_bltn (by rfl) (T.fr _ (by decide +kernel)) (by decide +kernel) (v := .ty "TypeError") rfl) (pa_cons (pe_bltn (by rfl) (T.fr _ (by decide +kernel)) (by decide +kernel) (v := .ty "AttributeError") rfl) (pa_cons (pe_bltn (by rfl) (T.fr _ (by decide +kernel)) (by decide +kernel) (v := .ty "RuntimeError") rfl) pa_nil)))))) pa_nil))))))), ?_⟩)
  · obtain ⟨a, x, rfl, _⟩ := h
    rfl
  obtain ⟨a, x, rfl, ⟨mx, d, hx⟩, q⟩ := h
  have kt := kit_of T mx
  refine ⟨_, rfl, a, _, d, _, _, _, rfl, hx, (T.xc x mx).1, fun u r => r, kt.2.1, _, rfl, ?_⟩
  refine iteF ⟨_, rfl, a, _, d, _, _, _, rfl, hx, (T.xc x mx).1, fun u r => r, kt.2.2.1, _, rfl, ?_⟩
  refine iteF ⟨_, rfl, (by show 5 ≤ sizeLine; decide), fun t nt => ?_⟩
  have E1 := Ext.one (o := .tup [V.ty "LookupError", .ty "ArithmeticError", .ty "TypeError", .ty "AttributeError", .ty "RuntimeError"]) nt
  refine ⟨a, _, d, t, _, _, _, rfl, hx.mono E1.1, (T.xc x mx).1, upd_same, fun us r => ?_, kt.2.2.2, _, rfl, q _ _ E1⟩
  cases r with
  | cons r1 r =>
    cases r with
    | cons r2 r =>
      cases r with
      | cons r3 r =>
        cases r with
        | cons r4 r =>
          cases r with
          | cons r5 r =>
            cases r
            cases r1; cases r2; cases r3; cases r4; cases r5
            rfl
end
end K01
namespace K01
open PySem PySem.Spec PyProof.Rows L2 HK ES NdefX CA
theorem iteP {c : Bool} {A B : Prop} (h : c = true) (a : A) : if c = true then A else B := by
  rw [if_pos h]
  exact a
theorem iteN {c : Bool} {A B : Prop} (h : c = false) (b : B) : if c = true then A else B := by
  rw [if_neg (by rw [h]; decide)]
  exact b
/-! ### pick -/
def spPick : Sp := fun vs H Q _ => ∃ (p t : Addr) (xs : List V), vs = [.ref p, .ref t] ∧ H t = some (.tup xs) ∧ 0 < xs.length ∧ xs.length ≤ 100 ∧ Purse H p ∧ ∀ x ∈ xs, ∀ o, Purse (upd H p o) p → Q x (upd H p o)
/-! ### the data that are given -/
def big29 : Int := 10 ^ 29
def d0s : List PyData := [.none, .bool true, .bool false, .int 0, .int 1, .int (-1), .int big29, .str "", .str "a", .tuple [], .tuple [.int 1, .str "good"], .list [], .dict [], .tuple [.tuple [.int 1, .str "a"]], .tuple [.bool true, .int 0]]
def two (d : PyData) : List PyData := [d, .tuple [d, d], .list [d], .str "a text", .int (-7), .tuple [.tuple [], .tuple [d]]]
def d2s : List PyData := .none :: d0s.flatMap two
def okD (d : PyData) : Bool := d.showable && (decide (d.depth ≤ 20) && decide (d.shown.length ≤ 1000))
theorem d2s_ok : ∀ d ∈ d2s, okD d = true ∧ okD (.list [d]) = true := by
  have h : (d2s.all fun d => okD d && okD (.list [d])) = true := by decide +kernel
  intro d m
  exact He.ba (List.all_eq_true.mp h d m)
def Good (K : PySem.W.Frag) (H : Hp) (v : V) : Prop := ∃ d, d ∈ d2s ∧ GG.Dq K H v d
theorem Good.mono {K : PySem.W.Frag} {H H' : Hp} {v : V} (h : Good K H v) (s : Same H H') : Good K H' v := let ⟨d, m, q⟩ := h; ⟨d, m, GG.Dq.mono s _ _ q⟩
/-! ### kept -/
def xws : List (Str × Str) := xw1 ++ xw2
def words : List Str := ["given", "index", "row", "reason", ""]
def spKept (K : PySem.W.Frag) : Sp := fun vs H Q _ => ∃ (x w : Str) (e : Addr) (v : V), vs = [.str w, .ref e] ∧ (x, w) ∈ xws ∧ Err K H x w v e ∧ (w = "row" → Good K H v) ∧ ∀ H' G, Ext H H' G → Q (if w = "" then .non else v) H'
theorem xw_facts : ∀ xw ∈ xws, xw.2 ∈ words ∧ (xw.2 ≠ "" → xw ∈ flds) ∧ (xw.2 = "row" → xw.1 = "NotWellRead") ∧ xw.1 ∈ cls ∧ xw.1 ∈ neC := by decide +kernel
section
variable {w : World} {K : PySem.W.Frag} {mg : Str → Option Value} {base : Heap}
theorem ok_pick (T : TT K mg) {fd fT : FuncData} (F : FunD K "_law_pick" "_law_pick" (defArgs s_law_pick) (defBody s_law_pick) (defScope s_law_pick) [] [] (He.ga K "_law_pick") fd) (FT : FunD K "_law_take" "_law_take" (defArgs s_law_take) (defBody s_law_take) (defScope s_law_take) [] [] (He.ga K "_law_take") fT) :
    FnOk Pw w K mg base CX0 2 (He.ga K "_law_pick") fd (["draws", "some"] : List Str) spPick := by
  have SC := sc_pick
  have G : FnOk Pw w K mg base CX0 1 (He.ga K "_law_take") fT (["draws", "many"] : List Str) (spTake K) := ok_take T FT
  have bT : Binds K fT (["draws", "many"] : List Str) [] := FT.bindsN fun _ _ _ _ _ _ us hl => match us, hl with | [_, _], _ => rfl
  refine F.ok SC (fun vs H Q E h => ?_) (fun cdv A outer s H vs Q E hr h => ⟨_, PSs.nox (pss_one (ps_ret (pe_ix ix_tup (pv 1) (pe_call G hr rfl (T.gl _ (by decide +kernel)) FT.kp bT .nil pass0 (pa_cons (pv 0) (pa_cons (pe_callB call_len_seq (by rfl) (T.fr _ (by decide +kernel)) PySem.boot_len (pa_cons (pv 1) pa_nil)) pa_nil))) (fun _ _ => rfl)))), ?_⟩)
  · obtain ⟨p, t, xs, rfl, _⟩ := h
    rfl
  obtain ⟨p, t, xs, rfl, ht, h0, hz, hP, q⟩ := h
  refine ⟨_, rfl, _, rfl, _, rfl, t, xs, rfl, .inr (SqT.of ht), p, xs.length, rfl, hP, h0, hz, fun r o hr ho => ?_⟩
  have hp0 : ∃ l, H p = some (.lst l) := let ⟨f, s, t, e, _⟩ := hP; ⟨_, e⟩
  obtain ⟨l, hp0⟩ := hp0
  have ht2 : upd H p o t = some (.tup xs) := by
    rw [upd_ne (ne_of ht hp0 (by intro z; cases z))]
    exact ht
  exact ⟨t, xs, _, xs[r], rfl, rfl, SqT.of ht2, atI_nat (List.getElem?_eq_getElem hr), q _ (List.getElem_mem _) o ho⟩
theorem ok_kept (T : TT K mg) {fd : FuncData} (F : FunD K "_law_kept" "_law_kept" (defArgs s_law_kept) (defBody s_law_kept) (defScope s_law_kept) [] [] (He.ga K "_law_kept") fd) : GG.FnG Pw w K mg base 1 (He.ga K "_law_kept") fd (["word", "e"] : List Str) (spKept K) := by
  have SC := sc_kept
  refine okGD F SC (fun vs H Q E h => ?_) (fun cdv A outer s H vs Q E hr hgu h => ⟨_, PSs.nox (pss_cons (ps_if (pt_cmpR op_eq (pv 0) pe_str (nomark _)) (pss_one (ps_ret (pe_xv (pv 1)))) pss_nil)
      (pss_cons (ps_if (pt_cmpR op_eq (pv 0) pe_str (nomark _)) (pss_one (ps_ret (pe_xv (pv 1)))) pss_nil)
      (pss_cons (ps_if (pt_cmpR op_eq (pv 0) pe_str (nomark _)) (pss_one (ps_ret (pe_ifExp (pt_cmpR op_eq (pe_callB (GG.call_repr hgu hr.units T.sy) (by rfl) (T.fr _ (by decide +kernel)) (by decide +kernel) (pa_cons (pe_xv (pv 1)) pa_nil)) (pe_callB (GG.call_repr hgu hr.units T.sy) (by rfl) (T.fr _ (by decide +kernel)) (by decide +kernel) (pa_cons (pe_lst (pa_cons (pe_xv (pv 1)) pa_nil)) pa_nil)) (nomark _)) (pe_xv (pv 1)) pe_str))) pss_nil)
      (pss_one (ps_ret (pe_ifExp (pt_cmpR op_eq (pv 0) pe_str (nomark _)) (pe_xv (pv 1)) pe_non)))))), ?_⟩)
  · obtain ⟨x, w, e, v, rfl, _⟩ := h
    rfl
  obtain ⟨x, w, e, v, rfl, m, he, hg, q⟩ := h
  obtain ⟨m1, m2, m3, m4, m5⟩ := xw_facts (x, w) m
  have fl : w ≠ "" → PySem.W.findIn K (.ref (He.ga K x)) w = some none := fun h => T.fl (x, w) (m2 h)
  have X1 := (T.xc x m5).2
  have plain : w ≠ "" → w ≠ "row" → ∃ d, H e = some (exo e (He.ga K x) (some d)) ∧ H d = some (exd d [(w, v)]) := fun h1 h2 => by
    rcases he with ⟨h, _⟩ | ⟨h, _⟩ | ⟨_, _, d, a, b⟩
    · exact absurd h h1
    · exact absurd h h2
    · exact ⟨d, a, b⟩
  simp only [words, List.mem_cons, List.not_mem_nil, or_false] at m1
  rcases m1 with rfl | rfl | rfl | rfl | rfl
  · obtain ⟨d, a, b⟩ := plain (by decide +kernel) (by decide +kernel)
    refine ⟨_, rfl, rfl, _, rfl, iteP (by decide +kernel) ⟨_, rfl, e, _, d, _, v, rfl, a, b, X1, fl (by decide +kernel), rfl, ?_⟩⟩
    have z := q H E_ Ext.zero
    rw [if_neg (by decide +kernel)] at z
    exact z
  · obtain ⟨d, a, b⟩ := plain (by decide +kernel) (by decide +kernel)
    refine ⟨_, rfl, rfl, _, rfl, iteN (by decide +kernel) ⟨_, rfl, rfl, _, rfl, iteP (by decide +kernel) ⟨_, rfl, e, _, d, _, v, rfl, a, b, X1, fl (by decide +kernel), rfl, ?_⟩⟩⟩
    have z := q H E_ Ext.zero
    rw [if_neg (by decide +kernel)] at z
    exact z
  · rcases he with ⟨h, _⟩ | ⟨_, d, l, a, b, c⟩ | ⟨_, h, _⟩
    · exact absurd h (by decide +kernel)
    · obtain ⟨dv, md, hD⟩ := hg rfl
      obtain ⟨o1, o2⟩ := d2s_ok dv md
      obtain ⟨s1, o2⟩ := He.ba o2
      obtain ⟨s2, s3⟩ := He.ba o2
      have s2 := of_decide_eq_true s2
      have s3 := of_decide_eq_true s3
      have fw : PySem.W.findIn K (.ref (He.ga K x)) "word" = some none := by
        have hx := m3 rfl
        rw [show x = "NotWellRead" from hx]
        exact T.fl ("NotWellRead", "word") (by decide +kernel)
      have hz : (PyData.list [dv]).shown.length ≤ sizeLine := Nat.le_trans s3 (by decide)
      refine ⟨_, rfl, rfl, _, rfl, iteN (by decide +kernel) ⟨_, rfl, rfl, _, rfl, iteN (by decide +kernel) ⟨_, rfl, rfl, _, rfl, iteP (by decide +kernel) ?_⟩⟩⟩
      refine ⟨_, rfl, e, _, d, _, .ref l, rfl, a, b, X1, fw, rfl, _, .list [dv], rfl, .lst c (.cons hD .nil), s1, by omega, hz, ?_⟩
      refine ⟨_, rfl, e, _, d, _, v, rfl, a, b, X1, fl (by decide +kernel), rfl, (by show 1 ≤ sizeLine; decide), fun l2 n2 => ?_⟩
      have E1 := Ext.one (o := .lst [v]) n2
      refine ⟨_, .list [dv], rfl, .lst upd_same (.cons (GG.Dq.mono E1.1 _ _ hD) .nil), s1, by omega, hz, rfl, _, rfl, ?_⟩
      refine iteP (decide_eq_true rfl) ⟨_, rfl, e, _, d, _, v, rfl, E1.1 _ _ a, E1.1 _ _ b, X1, fl (by decide +kernel), rfl, ?_⟩
      have z := q _ _ E1
      rw [if_neg (by decide +kernel)] at z
      exact z
    · exact absurd rfl h
  · obtain ⟨d, a, b⟩ := plain (by decide +kernel) (by decide +kernel)
    refine ⟨_, rfl, rfl, _, rfl, iteN (by decide +kernel) ⟨_, rfl, rfl, _, rfl, iteN (by decide +kernel) ⟨_, rfl, rfl, _, rfl, iteN (by decide +kernel) ?_⟩⟩⟩
    refine ⟨_, rfl, rfl, _, rfl, iteP (by decide +kernel) ⟨_, rfl, e, _, d, _, v, rfl, a, b, X1, fl (by decide +kernel), rfl, ?_⟩⟩
    have z := q H E_ Ext.zero
    rw [if_neg (by decide +kernel)] at z
    exact z
  · refine ⟨_, rfl, rfl, _, rfl, iteN (by decide +kernel) ⟨_, rfl, rfl, _, rfl, iteN (by decide +kernel) ⟨_, rfl, rfl, _, rfl, iteN (by decide +kernel) ?_⟩⟩⟩
    refine ⟨_, rfl, rfl, _, rfl, iteN (by decide +kernel) ?_⟩
    have z := q H E_ Ext.zero
    rw [if_pos (by decide +kernel)] at z
    exact z
end
end K01
namespace K01
open PySem PySem.Spec PyProof.Rows L2 HK ES NdefX CA
/-! ### is caught -/
def spCaught : Sp := fun vs H Q _ => ∃ (i : Nat) (v : V), vs = [.int (i : Int), v] ∧ i < 5 ∧ ∀ H', Same H H' → Q (.bl true) H'
def ways : List Nat := [0, 14, 15, 17, 18]
def tSuite (K : PySem.W.Frag) (a : Addr) (c : Value) (d : Option Addr) : TS :=
  tRet (tAndV (tOp (rIxL K) (tCallX K a c d (spKinds K) (tCons (tVar 2) tNil)) (tOp (rIxT K) (tTup (tCons (tC (.int 0)) (tCons (tC (.int 14)) (tCons (tC (.int 15)) (tCons (tC (.int 17)) (tCons (tC (.int 18)) tNil)))))) (tVar 0))) (tCallX K a c d (spPlain K) (tCons (tVar 2) tNil)))
section
variable {w : World} {K : PySem.W.Frag} {mg : Str → Option Value} {base : Heap}
theorem nk_of (T : TT K mg) {a C : Addr} {d : Option Addr} {oe : Obj} (hz : Zc (.ref C) d oe) (hf : ∃ vz, oe.data = .fields vz) : ∀ o, K.lookup a = some o → o ≠ oe := by
  intro o e z
  subst z
  have m : (a, o) ∈ K := by
    obtain ⟨l1, l2, e', _⟩ := List.lookup_eq_some_iff.mp e
    rw [e']
    exact List.mem_append_right _ List.mem_cons_self
  have q := List.all_eq_true.mp T.nx _ m
  obtain ⟨vz, hd⟩ := hf
  dsimp only at q
  rw [show o.cls = _ from hz.1, hd] at q
  cases q
theorem pin_is {H : Hp} {a C : Addr} {d : Option Addr} {oe : Obj} (hz : Zc (.ref C) d oe) (hf : ∃ vz, oe.data = .fields vz) (n : H a = none) (hd : ∀ dd, d = some dd → ∃ o, H dd = some o) : ExAt (upd H a (pinE a oe)) a C d := by
  obtain ⟨vz, hf⟩ := hf
  refine ⟨⟨_, upd_same, fun h e => ⟨oe, vz, e, hz.1, hz.2, hf⟩⟩, fun dd e => ?_⟩
  obtain ⟨o, h⟩ := hd dd e
  exact ⟨o, by rw [upd_ne (ne_of_none h n)]; exact h⟩
theorem same_hid {H H2 G : Hp} {a : Addr} {u : HO} (n : H a = none) (E : Ext (upd H a u) H2 G) : Same H (hid a H2) := fun b o e => by
  have hb := ne_of_none e n
  rw [hid_ne hb]
  exact E.1 _ _ (by rw [upd_ne hb]; exact e)
theorem suite_ok (T : TT K mg) {i : Nat} {v : V} {x : Str} {a : Addr} {d : Option Addr} {H : Hp} {D : Ends} (hi : i < 5) (mx : x ∈ neC) (hx : cls[ways.getD i 0]? = some x) (na : H a = none) (hd : ∀ dd, d = some dd → ∃ o, H dd = some o)
    (q : ∀ H', Same H H' → D.rt (.bl true) H') : tSuite K a (.ref (He.ga K x)) d D [some (.int (i : Int)), some v, some (.ref a)] H := by
  refine ⟨_, rfl, fun oe hz hf => ⟨nk_of T hz hf, a, x, rfl, ⟨mx, d, pin_is hz hf na hd⟩, fun l H2 G E gl => ⟨E.1 _ _ upd_same, (by show 5 ≤ sizeLine; decide), fun t nt => ?_⟩⟩⟩
  have S3 := same_hid na E
  have hl : hid a H2 l = some (.lst (cls.map fun y => .bl (decide (x = y)))) := by
    have l0 := (E.2 l _ gl).1
    have la : l ≠ a := fun z => by
      rw [z, upd_same] at l0
      cases l0
    rw [hid_ne la]
    exact E.in_ _ _ gl
  have S4 : Same (hid a H2) (upd (hid a H2) t (.tup [.int 0, .int 14, .int 15, .int 17, .int 18])) := fun b o e => by
    rw [upd_ne (ne_of_none e nt)]
    exact e
  have hw : ([.int 0, .int 14, .int 15, .int 17, .int 18] : List V)[i]? = some (.int ((ways.getD i 0 : Nat) : Int)) := by
    rcases (by omega : i = 0 ∨ i = 1 ∨ i = 2 ∨ i = 3 ∨ i = 4) with rfl | rfl | rfl | rfl | rfl <;> rfl
  have hk : (cls.map fun y => V.bl (decide (x = y)))[ways.getD i 0]? = some (.bl true) := by
    rw [List.getElem?_map, hx]
    show some (V.bl (decide (x = x))) = _
    rw [decide_eq_true rfl]
  refine ⟨_, rfl, t, _, _, _, rfl, rfl, SqT.of upd_same, atI_nat hw, l, _, _, _, rfl, rfl, SqL.of (S4 _ _ hl), atI_nat hk, true, rfl, ?_⟩
  refine iteT ⟨_, rfl, fun oe hz hf => ⟨nk_of T hz hf, a, x, rfl, ⟨mx, d, ?_⟩, fun H5 G5 E5 => ⟨E5.1 _ _ upd_same, q _ ?_⟩⟩⟩
  · obtain ⟨vz, hf⟩ := hf
    refine ⟨⟨_, upd_same, fun h e => ⟨oe, vz, e, hz.1, hz.2, hf⟩⟩, fun dd e => ?_⟩
    obtain ⟨o, h⟩ := hd dd e
    exact ⟨o, by rw [upd_ne (ne_of_none h na)]; exact S4 _ _ (S3 _ _ h)⟩
  · intro b o e
    have hb := ne_of_none e na
    rw [hid_ne hb]
    exact E5.1 _ _ (by rw [upd_ne hb]; exact S4 _ _ (S3 _ _ e))
theorem mark_room {A : Around} {k : Nat} {v : Option Value} (r : L2H.RoomH k A) : L2H.RoomH k (A.mark v) := ⟨r.dp, r.un⟩
theorem dead1 {H : Hp} {a0 d b : Addr} {o u1 u2 u3 u4 : HO} (n0 : H a0 = none) (nd : H d = none) (e : H b = some o) : upd (del (upd (upd (upd H a0 u1) d u2) a0 u3) a0) d u4 b = some o := by
  rw [upd_ne (ne_of_none e nd), del_ne (ne_of_none e n0), upd_ne (ne_of_none e n0), upd_ne (ne_of_none e nd), upd_ne (ne_of_none e n0)]
  exact e
theorem dead2 {H : Hp} {a0 d b : Addr} {o u1 u2 u3 u4 u5 : HO} (n0 : H a0 = none) (nd : H d = none) (e : H b = some o) : upd (del (upd (upd (upd (upd H a0 u1) d u2) a0 u3) d u5) a0) d u4 b = some o := by
  rw [upd_ne (ne_of_none e nd), del_ne (ne_of_none e n0), upd_ne (ne_of_none e nd), upd_ne (ne_of_none e n0), upd_ne (ne_of_none e nd), upd_ne (ne_of_none e n0)]
  exact e
theorem sc_caught : FnScope (["way", "thing", "e"] : List Str) (["way", "thing"] : List Str) (defScope s_law_is_caught) := ⟨rfl, rfl, rfl, by decide +kernel, rfl, by decide +kernel, by decide +kernel⟩
theorem ok_caught (T : TT K mg) {fd fK fP : FuncData} (F : FunD K "_law_is_caught" "_law_is_caught" (defArgs s_law_is_caught) (defBody s_law_is_caught) (defScope s_law_is_caught) [] [] (He.ga K "_law_is_caught") fd)
    (FK : FunD K "_law_kinds" "_law_kinds" (defArgs s_law_kinds) (defBody s_law_kinds) (defScope s_law_kinds) [] [] (He.ga K "_law_kinds") fK) (FP : FunD K "_law_is_plain" "_law_is_plain" (defArgs s_law_is_plain) (defBody s_law_is_plain) (defScope s_law_is_plain) [] [] (He.ga K "_law_is_plain") fP) :
    FnOk Pw w K mg base CX0 3 (He.ga K "_law_is_caught") fd (["way", "thing"] : List Str) spCaught := by
  have SC := sc_caught
  have bK : Binds K fK (["e"] : List Str) [] := FK.bindsN fun _ _ _ _ _ _ us hl => match us, hl with | [_], _ => rfl
  have bP : Binds K fP (["e"] : List Str) [] := FP.bindsN fun _ _ _ _ _ _ us hl => match us, hl with | [_], _ => rfl
  obtain ⟨fd1, F1, b1, k1⟩ := (i_InvalidText T).fn
  obtain ⟨fd2, F2, b2, k2⟩ := (i_NotWellRead T).fn
  obtain ⟨fd3, F3, b3, k3⟩ := (i_InvalidRows T).fn
  obtain ⟨fd4, F4, b4, k4⟩ := (i_Barred T).fn
  have B5 := bare_of T (x := "NothingToUndo") (by decide +kernel)
  have R5 : ∀ X : Cx, X.K = K → Raises X (.ref (He.ga K "NothingToUndo")) := fun X hX => by
    subst hX
    have C := (T.xc "NothingToUndo" (by decide +kernel)).1
    exact raises_own C.hs (of_decide_eq_true (He.ba (He.ba (T.bb "NothingToUndo" (by decide +kernel))).2).2)
  refine F.ok SC (fun vs H Q E h => ?_) (fun cdv A outer s H vs Q E hr h => ⟨_, PSs.nox (pss_cons (ps_try_as (i := 2) (ts := tSuite K) rfl rfl SC.nd rfl rfl ⟨rfl, by decide, .inl (T.gl "NumberError" (by decide +kernel))⟩ takes0
      (fun W pn xe tk _ => pss_cons (ps_if (pt_cmpR op_eq (pv 0) pe_int (nomark _)) (pss_one (ps_raise rfl tk (pmk_oex (i_InvalidText T).ex (i_InvalidText T).iC (i_InvalidText T).tI (F1 w base) hr b1 .nil pass0 rfl (T.gl _ (by decide +kernel)) (pa_cons (pv 1) pa_nil)))) pss_nil)
        (pss_cons (ps_if (pt_cmpR op_eq (pv 0) pe_int (nomark _)) (pss_one (ps_raise rfl tk (pmk_oexK (ks := (["row", "word"] : List Str)) (i_NotWellRead T).ex (i_NotWellRead T).iC (i_NotWellRead T).tI (F2 w base) hr k2 rfl (T.gl _ (by decide +kernel)) (pk_cons (pv 1) (pk_cons pe_int pk_nil)) rfl))) pss_nil)
        (pss_cons (ps_if (pt_cmpR op_eq (pv 0) pe_int (nomark _)) (pss_one (ps_raise rfl tk (pmk_oex (i_InvalidRows T).ex (i_InvalidRows T).iC (i_InvalidRows T).tI (F3 w base) hr b3 .nil pass0 rfl (T.gl _ (by decide +kernel)) (pa_cons (pv 1) pa_nil)))) pss_nil)
        (pss_cons (ps_if (pt_cmpR op_eq (pv 0) pe_int (nomark _)) (pss_one (ps_raise rfl tk (pmk_oexK (ks := (["reason"] : List Str)) (i_Barred T).ex (i_Barred T).iC (i_Barred T).tI (F4 w base) hr k4 rfl (T.gl _ (by decide +kernel)) (pk_cons (pv 1) pk_nil) rfl))) pss_nil)
        (pss_one (ps_raise rfl tk (pmk_own0 B5.1 B5.2 (R5 _ rfl) rfl (T.gl _ (by decide +kernel)))))))))
      (fun a oe cls d pn hz hf => pss_one (ps_ret (pe_and (pe_ix ix_list (pe_callX List.mem_cons_self hz hf (fun base => ok_kinds T FK) (mark_room ((L2H.roomH_of hr).mono (by decide : 1 ≤ 2))) rfl (T.gl _ (by decide +kernel)) FK.kp bK (pa_cons (pv 2) pa_nil)) (pe_ix ix_tup (pe_tup (pa_cons pe_int (pa_cons pe_int (pa_cons pe_int (pa_cons pe_int (pa_cons pe_int pa_nil)))))) (pv 0) (fun _ _ => rfl)) (fun _ _ => rfl))
        (pe_one (pe_callX List.mem_cons_self hz hf (fun base => ok_plain T FP) (mark_room ((L2H.roomH_of hr).mono (by decide : 1 ≤ 2))) rfl (T.gl _ (by decide +kernel)) FP.kp bP (pa_cons (pv 2) pa_nil)))))))
      (pss_one (ps_ret pe_bl))), ?_⟩)
  · obtain ⟨i, v, rfl, _⟩ := h
    rfl
  obtain ⟨i, v, rfl, hi, q⟩ := h
  rcases (by omega : i = 0 ∨ i = 1 ∨ i = 2 ∨ i = 3 ∨ i = 4) with rfl | rfl | rfl | rfl | rfl
  · refine ⟨_, rfl, rfl, _, rfl, iteP (by decide +kernel) ?_⟩
    refine ⟨v, rfl, (by show 1 ≤ 1000; decide), fun a0 n0 => ⟨a0, v, rfl, upd_same, fun d nd nda => ⟨rfl, d, _, upd_same, by rw [upd_ne nda, upd_same], by rw [upd_ne nda] at nd; exact nd, true, T.xm "InvalidText" (by decide +kernel), fun _ a na => ?_, fun z => nomatch z⟩⟩⟩
    rw [upd_ne nda] at nd
    exact suite_ok T (by decide) (by decide +kernel) (by decide +kernel) na (fun dd e => by cases e; exact ⟨_, upd_same⟩) fun H' S => q H' (fun b o e => S _ _ (dead1 n0 nd e))
  · refine ⟨_, rfl, rfl, _, rfl, iteN (by decide +kernel) ⟨_, rfl, rfl, _, rfl, iteP (by decide +kernel) ?_⟩⟩
    refine ⟨v, rfl, rfl, (by show 2 ≤ 1000; decide), fun a0 n0 => ⟨a0, v, .int 0, rfl, upd_same, fun d nd nda => ⟨rfl, d, _, by rw [upd_ne (Ne.symm nda), upd_same], upd_same, by rw [upd_ne nda] at nd; exact nd, true, T.xm "NotWellRead" (by decide +kernel), fun _ a na => ?_, fun z => nomatch z⟩⟩⟩
    rw [upd_ne nda] at nd
    exact suite_ok T (by decide) (by decide +kernel) (by decide +kernel) na (fun dd e => by cases e; exact ⟨_, upd_same⟩) fun H' S => q H' (fun b o e => S _ _ (dead2 n0 nd e))
  · refine ⟨_, rfl, rfl, _, rfl, iteN (by decide +kernel) ⟨_, rfl, rfl, _, rfl, iteN (by decide +kernel) ⟨_, rfl, rfl, _, rfl, iteP (by decide +kernel) ?_⟩⟩⟩
    refine ⟨v, rfl, (by show 1 ≤ 1000; decide), fun a0 n0 => ⟨a0, v, rfl, upd_same, fun d nd nda => ⟨rfl, d, _, upd_same, by rw [upd_ne nda, upd_same], by rw [upd_ne nda] at nd; exact nd, true, T.xm "InvalidRows" (by decide +kernel), fun _ a na => ?_, fun z => nomatch z⟩⟩⟩
    rw [upd_ne nda] at nd
    exact suite_ok T (by decide) (by decide +kernel) (by decide +kernel) na (fun dd e => by cases e; exact ⟨_, upd_same⟩) fun H' S => q H' (fun b o e => S _ _ (dead1 n0 nd e))
  · refine ⟨_, rfl, rfl, _, rfl, iteN (by decide +kernel) ⟨_, rfl, rfl, _, rfl, iteN (by decide +kernel) ⟨_, rfl, rfl, _, rfl, iteN (by decide +kernel) ⟨_, rfl, rfl, _, rfl, iteP (by decide +kernel) ?_⟩⟩⟩⟩
    refine ⟨v, rfl, rfl, (by show 1 ≤ 1000; decide), fun a0 n0 => ⟨a0, v, rfl, upd_same, fun d nd nda => ⟨rfl, d, _, upd_same, by rw [upd_ne nda, upd_same], by rw [upd_ne nda] at nd; exact nd, true, T.xm "Barred" (by decide +kernel), fun _ a na => ?_, fun z => nomatch z⟩⟩⟩
    rw [upd_ne nda] at nd
    exact suite_ok T (by decide) (by decide +kernel) (by decide +kernel) na (fun dd e => by cases e; exact ⟨_, upd_same⟩) fun H' S => q H' (fun b o e => S _ _ (dead1 n0 nd e))
  · refine ⟨_, rfl, rfl, _, rfl, iteN (by decide +kernel) ⟨_, rfl, rfl, _, rfl, iteN (by decide +kernel) ⟨_, rfl, rfl, _, rfl, iteN (by decide +kernel) ⟨_, rfl, rfl, _, rfl, iteN (by decide +kernel) ?_⟩⟩⟩⟩
    refine ⟨true, T.xm "NothingToUndo" (by decide +kernel), fun _ a na => ?_, fun z => nomatch z⟩
    exact suite_ok T (by decide) (by decide +kernel) (by decide +kernel) na (fun dd e => nomatch e) q
end
end K01
namespace K01
open PySem PySem.Spec PyProof.Rows L2 HK ES NdefX CA
/-- the heap behind, the purse at p may have changed; what is new -/
structure ExtP (p : Addr) (H H' G : Hp) : Prop where
  old : ∀ b o, H b = some o → b ≠ p → H' b = some o
  new : ∀ b o, G b = some o → b ≠ p ∧ H' b = some o
  pur : Purse H' p
theorem Purse.mono {H H' : Hp} {p : Addr} (h : Purse H p) (s : Same H H') : Purse H' p := let ⟨f, a, t, e, r⟩ := h; ⟨f, a, t, s _ _ e, r⟩
theorem Purse.at {H : Hp} {p : Addr} (h : Purse H p) : ∃ l, H p = some (.lst l) := let ⟨_, _, _, e, _⟩ := h; ⟨_, e⟩
theorem ExtP.of {p : Addr} {H H' G : Hp} (h : Purse H p) (e : Ext H H' G) : ExtP p H H' G := by
  refine ⟨fun b o z _ => e.1 b o z, fun b o z => ⟨fun y => ?_, e.in_ b o z⟩, h.mono e.1⟩
  obtain ⟨l, hl⟩ := h.at
  have := (e.2 b o z).1
  rw [y, hl] at this
  cases this
theorem ExtP.join {p : Addr} {H H1 H2 G1 G2 : Hp} (a : ExtP p H H1 G1) (b : Ext H1 H2 G2) : ExtP p H H2 (join G1 G2) ∧ Same G1 (join G1 G2) := by
  have k : Same G1 (K01.join G1 G2) := fun c o e => by
    unfold K01.join
    cases q : G2 c with
    | none => exact e
    | some u =>
      have z := (b.2 c u q).1
      rw [(a.new c o e).2] at z
      cases z
  refine ⟨⟨fun c o e n => b.1 _ _ (a.old c o e n), fun c o e => ?_, a.pur.mono b.1⟩, k⟩
  unfold K01.join at e
  cases q : G2 c with
  | none =>
    rw [q] at e
    exact ⟨(a.new c o e).1, b.1 _ _ (a.new c o e).2⟩
  | some u =>
    rw [q] at e
    cases e
    refine ⟨fun y => ?_, (b.2 c o q).2⟩
    obtain ⟨l, hl⟩ := a.pur.at
    have := (b.2 c o q).1
    rw [y, hl] at this
    cases this
theorem ExtP.upd {p : Addr} {H H1 G1 : Hp} {o : HO} (a : ExtP p H H1 G1) (h : Purse (upd H1 p o) p) : ExtP p H (L2.upd H1 p o) G1 := by
  refine ⟨fun b u e n => ?_, fun b u e => ⟨(a.new b u e).1, ?_⟩, h⟩
  · rw [upd_ne n]
    exact a.old b u e n
  · rw [upd_ne (a.new b u e).1]
    exact (a.new b u e).2
theorem ExtP.mono {p : Addr} {H H1 H2 G : Hp} (a : ExtP p H H1 G) (s : Same H1 H2) : ExtP p H H2 G := ⟨fun b o e n => s _ _ (a.old b o e n), fun b o e => ⟨(a.new b o e).1, s _ _ (a.new b o e).2⟩, a.pur.mono s⟩
theorem RowsV.get {K : PySem.W.Frag} {G : Hp} {v : V} : ∀ {l : List (Str × Str)} {rs : List V} {j : Nat} {r : V}, RowsV K G v l rs → rs[j]? = some r → ∃ xw, l[j]? = some xw ∧ RowV K G xw v r
  | [], _, j, _, h, e => by
    rw [show _ = [] from h] at e
    simp at e
  | xw :: _, _, 0, _, ⟨r, rs', h, hr, _⟩, e => by
    rw [h] at e
    simp at e
    exact ⟨xw, rfl, e ▸ hr⟩
  | _ :: l, _, j + 1, r', ⟨r, rs', h, _, ht⟩, e => by
    rw [h] at e
    obtain ⟨xw, h1, h2⟩ := RowsV.get (j := j) (r := r') ht (by simpa using e)
    exact ⟨xw, by simpa using h1, h2⟩
/-- the told kinds of the class at j, as bools -/
def bsJ (j : Nat) : List Bool := (List.range 22).map fun (k : Nat) => decide (V.int (0 + (k : Int)) = V.int (j : Int))
theorem dpBools {K : PySem.W.Frag} {H : Hp} : ∀ bs : List Bool, DpAll K H (bs.map V.bl) (bs.map PyData.bool)
  | [] => .nil
  | _ :: bs => .cons (.bl _) (dpBools bs)
theorem bs_ok : ∀ j < 22, ((cls.map fun y => V.bl (decide (cls.getD j "" = y))) = (bsJ j).map V.bl) ∧ SeqAt.shaped (.list ((bsJ j).map PyData.bool)) = true ∧ PyData.eqv (.list ((bsJ j).map PyData.bool)) (.list ((bsJ j).map PyData.bool)) = true := by decide +kernel
theorem xw_cls : ∀ j < 22, (xws.getD j ("", "")).1 = cls.getD j "" := by decide +kernel
theorem words_in : ∀ w ∈ words, (!inV (.str w) [.str "", .str "row"]) = false ∨ ((!inV (.str w) [.str "", .str "row"]) = true ∧ w ≠ "" ∧ w ≠ "row") := by decide +kernel
theorem xw_len : xws.length = 22 := by decide +kernel
theorem xw_bare : ∀ xw ∈ xws, xw.2 = "" ∨ xw.2 ≠ "" := fun _ _ => Classical.em _
def spRight : Sp := fun vs H Q _ => ∃ p, vs = [.ref p] ∧ Purse H p ∧ ∀ H', (∀ b o, H b = some o → b ≠ p → H' b = some o) → Q (.bl true) H'
section
variable {w : World} {K : PySem.W.Frag} {mg : Str → Option Value} {base : Heap}
theorem sc_right : FnScope (["draws", "plain", "thing", "spot", "row", "made", "word", "one", "two", "e", "way", "at"] : List Str) (["draws"] : List Str) (defScope s_law_right) := ⟨rfl, rfl, rfl, by decide +kernel, rfl, by decide +kernel, by decide +kernel⟩
theorem ok_right (T : TT K mg) {fd fT fPi fG1 fI fK fPl fKe fC : FuncData} (F : FunD K "_law_right" "_law_right" (defArgs s_law_right) (defBody s_law_right) (defScope s_law_right) [] [] (He.ga K "_law_right") fd)
    (FT : FunD K "_law_take" "_law_take" (defArgs s_law_take) (defBody s_law_take) (defScope s_law_take) [] [] (He.ga K "_law_take") fT)
    (FPi : FunD K "_law_pick" "_law_pick" (defArgs s_law_pick) (defBody s_law_pick) (defScope s_law_pick) [] [] (He.ga K "_law_pick") fPi)
    (FG1 : FunD K "_law_given_ones" "_law_given_ones" (defArgs s_law_given_ones) (defBody s_law_given_ones) (defScope s_law_given_ones) [] [] (He.ga K "_law_given_ones") fG1)
    (FI : FunD K "_law_index_ones" "_law_index_ones" (defArgs s_law_index_ones) (defBody s_law_index_ones) (defScope s_law_index_ones) [] [] (He.ga K "_law_index_ones") fI)
    (FK : FunD K "_law_kinds" "_law_kinds" (defArgs s_law_kinds) (defBody s_law_kinds) (defScope s_law_kinds) [] [] (He.ga K "_law_kinds") fK)
    (FPl : FunD K "_law_is_plain" "_law_is_plain" (defArgs s_law_is_plain) (defBody s_law_is_plain) (defScope s_law_is_plain) [] [] (He.ga K "_law_is_plain") fPl)
    (FKe : FunD K "_law_kept" "_law_kept" (defArgs s_law_kept) (defBody s_law_kept) (defScope s_law_kept) [] [] (He.ga K "_law_kept") fKe)
    (FC : FunD K "_law_is_caught" "_law_is_caught" (defArgs s_law_is_caught) (defBody s_law_is_caught) (defScope s_law_is_caught) [] [] (He.ga K "_law_is_caught") fC) :
    GG.FnG Pw w K mg base 4 (He.ga K "_law_right") fd (["draws"] : List Str) spRight := by
  have SC := sc_right
  have GT : FnOk Pw w K mg base CX0 1 (He.ga K "_law_take") fT (["draws", "many"] : List Str) (spTake K) := ok_take T FT
  have bT : Binds K fT (["draws", "many"] : List Str) [] := FT.bindsN fun _ _ _ _ _ _ us hl => match us, hl with | [_, _], _ => rfl
  have GP : FnOk Pw w K mg base CX0 2 (He.ga K "_law_pick") fPi (["draws", "some"] : List Str) spPick := ok_pick T FPi FT
  have bPi : Binds K fPi (["draws", "some"] : List Str) [] := FPi.bindsN fun _ _ _ _ _ _ us hl => match us, hl with | [_, _], _ => rfl
  have GG1 : FnOk Pw w K mg base CX0 3 (He.ga K "_law_given_ones") fG1 (["thing"] : List Str) (spRows K xw1) := ok_given T FG1
  have bG1 : Binds K fG1 (["thing"] : List Str) [] := FG1.bindsN fun _ _ _ _ _ _ us hl => match us, hl with | [_], _ => rfl
  have GI : FnOk Pw w K mg base CX0 3 (He.ga K "_law_index_ones") fI (["thing"] : List Str) (spRows K xw2) := ok_index T FI
  have bI : Binds K fI (["thing"] : List Str) [] := FI.bindsN fun _ _ _ _ _ _ us hl => match us, hl with | [_], _ => rfl
  have GK : FnOk Pw w K mg base CX0 1 (He.ga K "_law_kinds") fK (["e"] : List Str) (spKinds K) := (ok_kinds T FK).ok
  have bK : Binds K fK (["e"] : List Str) [] := FK.bindsN fun _ _ _ _ _ _ us hl => match us, hl with | [_], _ => rfl
  have GPl : FnOk Pw w K mg base CX0 1 (He.ga K "_law_is_plain") fPl (["e"] : List Str) (spPlain K) := (ok_plain T FPl).ok
  have bPl : Binds K fPl (["e"] : List Str) [] := FPl.bindsN fun _ _ _ _ _ _ us hl => match us, hl with | [_], _ => rfl
  have GKe : GG.FnG Pw w K mg base 1 (He.ga K "_law_kept") fKe (["word", "e"] : List Str) (spKept K) := ok_kept T FKe
  have bKe : Binds K fKe (["word", "e"] : List Str) [] := FKe.bindsN fun _ _ _ _ _ _ us hl => match us, hl with | [_, _], _ => rfl
  have GC : FnOk Pw w K mg base CX0 3 (He.ga K "_law_is_caught") fC (["way", "thing"] : List Str) spCaught := ok_caught T FC FK FPl
  have bC : Binds K fC (["way", "thing"] : List Str) [] := FC.bindsN fun _ _ _ _ _ _ us hl => match us, hl with | [_, _], _ => rfl
  refine okGD F SC (fun vs H Q E h => ?_) (fun cdv A outer s H vs Q E hr hgu h => ⟨_, (pss_cons (ps_if (PW.pt (pw_or (pt_not (pt_val (pe_call GPl (hr.mono (by decide)) rfl (T.gl _ (by decide +kernel)) FPl.kp bPl .nil pass0 (pa_cons (pe_newX0 (bare_of T (x := "NumberError") (by decide +kernel)).1 (bare_of T (x := "NumberError") (by decide +kernel)).2 rfl (T.gl _ (by decide +kernel))) pa_nil)))) (pw_or1 (pt_cmpR op_in_seq pe_bl (pe_call GK (hr.mono (by decide)) rfl (T.gl _ (by decide +kernel)) FK.kp bK .nil pass0 (pa_cons (pe_newX0 (bare_of T (x := "NumberError") (by decide +kernel)).1 (bare_of T (x := "NumberError") (by decide +kernel)).2 rfl (T.gl _ (by decide +kernel))) pa_nil)) (by rfl))))) (pss_one (ps_ret pe_bl)) pss_nil)
      (pss_cons (ps_set (i := 1) SC.nd rfl (Or.inl rfl) (pe_tup (pa_cons pe_non (pa_cons pe_bl (pa_cons pe_bl (pa_cons pe_int (pa_cons pe_int (pa_cons (pe_un un_neg pe_int) (pa_cons (pe_op op_pow pe_int pe_int) (pa_cons pe_str (pa_cons pe_str (pa_cons (pe_tup pa_nil) (pa_cons (pe_tup (pa_cons pe_int (pa_cons pe_str pa_nil))) (pa_cons (pe_lst pa_nil) (pa_cons pe_dnewK (pa_cons (pe_tup (pa_cons (pe_tup (pa_cons pe_int (pa_cons pe_str pa_nil))) pa_nil)) (pa_cons (pe_tup (pa_cons pe_bl (pa_cons pe_int pa_nil))) pa_nil)))))))))))))))))
      (pss_cons (ps_set (i := 2) SC.nd rfl (Or.inr rfl) (pe_call GP (hr.mono (by decide)) rfl (T.gl _ (by decide +kernel)) FPi.kp bPi .nil pass0 (pa_cons (pv 0) (pa_cons (pv 1) pa_nil))))
      (pss_cons (ps_set (i := 2) SC.nd rfl (Or.inr rfl) (pe_call GP (hr.mono (by decide)) rfl (T.gl _ (by decide +kernel)) FPi.kp bPi .nil pass0 (pa_cons (pv 0) (pa_cons (pe_tup (pa_cons (pv 2) (pa_cons (pe_tup (pa_cons (pv 2) (pa_cons (pv 2) pa_nil))) (pa_cons (pe_lst (pa_cons (pv 2) pa_nil)) (pa_cons pe_str (pa_cons (pe_un un_neg pe_int) (pa_cons (pe_tup (pa_cons (pe_tup pa_nil) (pa_cons (pe_tup (pa_cons (pv 2) pa_nil)) pa_nil))) pa_nil))))))) pa_nil))))
      (pss_cons (ps_set (i := 3) SC.nd rfl (Or.inr rfl) pe_int)
      (pss_cons (ps_for PassesOwn.never rfl (pi_list (pe_op op_cat (pe_call GG1 (hr.mono (by decide)) rfl (T.gl _ (by decide +kernel)) FG1.kp bG1 .nil pass0 (pa_cons (pv 2) pa_nil)) (pe_call GI (hr.mono (by decide)) rfl (T.gl _ (by decide +kernel)) FI.kp bI .nil pass0 (pa_cons (pv 2) pa_nil)))) (pg_unl rfl (pgs_cons (pg_name (i := 6) SC.nd rfl (Or.inl rfl)) (pgs_cons (pg_name (i := 7) SC.nd rfl (Or.inl rfl)) (pgs_cons (pg_name (i := 8) SC.nd rfl (Or.inl rfl)) pgs_nil)))) (pss_cons (ps_for PassesOwn.never rfl (pi_tup (pe_tup (pa_cons (pv 7) (pa_cons (pv 8) pa_nil)))) (pg_name (i := 9) SC.nd rfl (Or.inl rfl)) (pss_cons (ps_if (PW.pt (pw_or (pt_cmpR (op_neD hr.units) (pe_call GK (hr.mono (by decide)) rfl (T.gl _ (by decide +kernel)) FK.kp bK .nil pass0 (pa_cons (pv 9) pa_nil)) (pe_lc (own := [("at", 11)]) (g := gName 11) (tt := tYes) rfl SC.nd (pi_range1 rfl (T.fr _ (by decide +kernel)) (pa_cons pe_int pa_nil)) (blkOk_by (N := (["draws", "plain", "thing", "spot", "row", "made", "word", "one", "two", "e", "way", "at"] : List Str)) (sc := defScope s_law_right) (by decide +kernel)) (fun _ _ _ _ _ => (pg_name (i := 11) SC.nd rfl (Or.inl rfl))) (fun _ _ _ _ _ => pts_nil) (fun _ _ _ _ _ => (pe_cmpR op_eq (pv 11) (pv 3) (nomark _)))) (nomark _)) (pw_or1 (pt_not (pt_val (pe_call GPl (hr.mono (by decide)) rfl (T.gl _ (by decide +kernel)) FPl.kp bPl .nil pass0 (pa_cons (pv 9) pa_nil))))))) (pss_one (ps_ret pe_bl)) pss_nil)
      (pss_one (ps_if (pt_cmpR op_ne (pe_callB (GG.call_repr hgu hr.units T.sy) (by rfl) (T.fr _ (by decide +kernel)) (by decide +kernel) (pa_cons (GG.pe_callG hgu GKe (hr.mono (by decide)) rfl (T.gl _ (by decide +kernel)) FKe.kp bKe .nil (pa_cons (pv 6) (pa_cons (pv 9) pa_nil))) pa_nil)) (pe_callB (GG.call_repr hgu hr.units T.sy) (by rfl) (T.fr _ (by decide +kernel)) (by decide +kernel) (pa_cons (pe_ifExp (pt_cmpR op_ne (pv 6) pe_str (nomark _)) (pv 2) pe_non) pa_nil)) (nomark _)) (pss_one (ps_ret pe_bl)) pss_nil))))
      (pss_one (ps_set (i := 3) SC.nd rfl (Or.inr rfl) (pe_op op_add (pv 3) pe_int)))))
      (pss_cons (ps_set (i := 4) SC.nd rfl (Or.inl rfl) (pe_lst (pa_cons (pe_call GT (hr.mono (by decide)) rfl (T.gl _ (by decide +kernel)) FT.kp bT .nil pass0 (pa_cons (pv 0) (pa_cons pe_int pa_nil))) pa_nil)))
      (pss_cons (ps_set (i := 5) SC.nd rfl (Or.inl rfl) (pe_op op_cat (pe_call GG1 (hr.mono (by decide)) rfl (T.gl _ (by decide +kernel)) FG1.kp bG1 .nil pass0 (pa_cons (pv 4) pa_nil)) (pe_call GI (hr.mono (by decide)) rfl (T.gl _ (by decide +kernel)) FI.kp bI .nil pass0 (pa_cons (pv 4) pa_nil))))
      (pss_cons (ps_expr (pe_bm PySem.F.plainAttrs_list PySem.F.slot_list_append PySem.F.type_list_append mt_append (pv 4) (pa_cons (pe_call GT (hr.mono (by decide)) rfl (T.gl _ (by decide +kernel)) FT.kp bT .nil pass0 (pa_cons (pv 0) (pa_cons pe_int pa_nil))) pa_nil)))
      (pss_cons (ps_for PassesOwn.never rfl (pi_list (pv 5)) (pg_unl rfl (pgs_cons (pg_name (i := 6) SC.nd rfl (Or.inl rfl)) (pgs_cons (pg_name (i := 7) SC.nd rfl (Or.inl rfl)) (pgs_cons (pg_name (i := 8) SC.nd rfl (Or.inl rfl)) pgs_nil)))) (pss_one (ps_if (PW.pt (pw_and (pt_cmpR op_notIn_seq (pv 6) (pe_tup (pa_cons pe_str (pa_cons pe_str pa_nil))) (by rfl)) (pw_and1 (PW.pt (pw_or (pt_cmpR (op_neD hr.units) (GG.pe_callG hgu GKe (hr.mono (by decide)) rfl (T.gl _ (by decide +kernel)) FKe.kp bKe .nil (pa_cons (pv 6) (pa_cons (pv 7) pa_nil))) (pv 4) (nomark _)) (pw_or1 (pt_cmpR (op_neD hr.units) (GG.pe_callG hgu GKe (hr.mono (by decide)) rfl (T.gl _ (by decide +kernel)) FKe.kp bKe .nil (pa_cons (pv 6) (pa_cons (pv 8) pa_nil))) (pv 4) (nomark _)))))))) (pss_one (ps_ret pe_bl)) pss_nil)))
      (pss_one (ps_ret (pe_callB (cr_all rfl) (by rfl) (T.fr _ (by decide +kernel)) (by decide +kernel) (pa_cons (pe_lc (own := [("way", 10)]) (g := gName 10) (tt := tYes) rfl SC.nd (pi_range1 rfl (T.fr _ (by decide +kernel)) (pa_cons pe_int pa_nil)) (blkOk_by (N := (["draws", "plain", "thing", "spot", "row", "made", "word", "one", "two", "e", "way", "at"] : List Str)) (sc := defScope s_law_right) (by decide +kernel)) (fun _ _ _ _ _ => (pg_name (i := 10) SC.nd rfl (Or.inl rfl))) (fun _ _ _ _ _ => pts_nil) (fun _ _ _ _ _ => (pe_cmpR op_is_bl (pe_call GC (hr.mono (by decide)) rfl (T.gl _ (by decide +kernel)) FC.kp bC .nil pass0 (pa_cons (pv 10) (pa_cons (pv 2) pa_nil))) pe_bl (nomark _)))) pa_nil)))))))))))))), ?_⟩)
  · obtain ⟨p, rfl, _⟩ := h
    rfl
  obtain ⟨p, rfl, hP, q⟩ := h
  have mN : ("NumberError" : Str) ∈ neC := by decide +kernel
  refine fun a0 n0 => ⟨a0, "NumberError", rfl, ⟨mN, none, exAt_new upd_same⟩, fun H1 G1 E1 => ⟨_, rfl, ?_⟩⟩
  have F1 := (Ext.one n0).join E1
  refine iteF ?_
  refine fun a1 n1 => ⟨a1, "NumberError", rfl, ⟨mN, none, exAt_new upd_same⟩, fun l1 H2 G2 E2 hl1 => ⟨l1, _, rfl, .inl (SqL.of (E2.in_ _ _ hl1)), rfl, rfl, _, rfl, ?_⟩⟩
  have F2 := F1.1.join ((Ext.one n1).join E2).1
  refine iteN (by decide +kernel) ?_
  have P2 := ExtP.of hP F2.1
  clear F2 F1
  refine ⟨1, rfl, _, _, rfl, rfl, ⟨by decide, by decide, by decide⟩, ?_⟩
  refine ⟨(by show 0 ≤ sizeLine; decide), fun t1 m1 => ⟨(by show 2 ≤ sizeLine; decide), fun t2 m2 => ⟨(by show 0 ≤ sizeLine; decide), fun t3 m3 => fun t4 m4 => ⟨(by show 2 ≤ sizeLine; decide), fun t5 m5 => ⟨(by show 1 ≤ sizeLine; decide), fun t6 m6 => ⟨(by show 2 ≤ sizeLine; decide), fun t7 m7 => ⟨(by show 15 ≤ sizeLine; decide), fun t8 m8 => ?_⟩⟩⟩⟩⟩⟩⟩
  obtain ⟨P3, k3⟩ := P2.join (Ext.one (o := .tup []) m1)
  obtain ⟨P4, k4⟩ := P3.join (Ext.one (o := .tup [.int 1, .str "good"]) m2)
  obtain ⟨P5, k5⟩ := P4.join (Ext.one (o := .lst []) m3)
  obtain ⟨P6, k6⟩ := P5.join (Ext.one (o := .dK []) m4)
  obtain ⟨P7, k7⟩ := P6.join (Ext.one (o := .tup [.int 1, .str "a"]) m5)
  obtain ⟨P8, k8⟩ := P7.join (Ext.one (o := .tup [.ref t5]) m6)
  obtain ⟨P9, k9⟩ := P8.join (Ext.one (o := .tup [.bl true, .int 0]) m7)
  obtain ⟨P10, k10⟩ := P9.join (Ext.one (o := .tup [.non, .bl true, .bl false, .int 0, .int 1, .int (-1), .int (10 ^ 29), .str "", .str "a", .ref t1, .ref t2, .ref t3, .ref t4, .ref t6, .ref t7]) m8)
  have g1 := k10 _ _ (k9 _ _ (k8 _ _ (k7 _ _ (k6 _ _ (k5 _ _ (k4 _ _ (join_r _ _ upd_same)))))))
  have g2 := k10 _ _ (k9 _ _ (k8 _ _ (k7 _ _ (k6 _ _ (k5 _ _ (join_r _ _ upd_same))))))
  have g3 := k10 _ _ (k9 _ _ (k8 _ _ (k7 _ _ (k6 _ _ (join_r _ _ upd_same)))))
  have g4 := k10 _ _ (k9 _ _ (k8 _ _ (k7 _ _ (join_r _ _ upd_same))))
  have g5 := k10 _ _ (k9 _ _ (k8 _ _ (join_r _ _ upd_same)))
  have g6 := k10 _ _ (k9 _ _ (join_r _ _ upd_same))
  have g7 := k10 _ _ (join_r _ _ upd_same)
  generalize hG : join (join (join (join (join (join (join (join _ (upd E_ t1 (.tup []))) (upd E_ t2 (.tup [.int 1, .str "good"]))) (upd E_ t3 (.lst []))) (upd E_ t4 (.dK []))) (upd E_ t5 (.tup [.int 1, .str "a"]))) (upd E_ t6 (.tup [.ref t5]))) (upd E_ t7 (.tup [.bl true, .int 0]))) (upd E_ t8 _) = GP10 at P10 g1 g2 g3 g4 g5 g6 g7
  refine ⟨_, rfl, _, rfl, p, t8, [.non, .bl true, .bl false, .int 0, .int 1, .int (-1), .int (10 ^ 29), .str "", .str "a", .ref t1, .ref t2, .ref t3, .ref t4, .ref t6, .ref t7], rfl, upd_same, (by show 0 < 15; decide), (by show 15 ≤ 100; decide), P10.pur, fun x mx o1 ho1 => ?_⟩
  have hx : ∃ d, d ∈ d0s ∧ GG.Dq K (GP10) x d := by
    simp only [List.mem_cons, List.not_mem_nil, or_false] at mx
    rcases mx with rfl | rfl | rfl | rfl | rfl | rfl | rfl | rfl | rfl | rfl | rfl | rfl | rfl | rfl | rfl
    · exact ⟨_, List.mem_of_getElem? (i := 0) rfl, .non⟩
    · exact ⟨_, List.mem_of_getElem? (i := 1) rfl, .bl _⟩
    · exact ⟨_, List.mem_of_getElem? (i := 2) rfl, .bl _⟩
    · exact ⟨_, List.mem_of_getElem? (i := 3) rfl, .int _⟩
    · exact ⟨_, List.mem_of_getElem? (i := 4) rfl, .int _⟩
    · exact ⟨_, List.mem_of_getElem? (i := 5) rfl, .int _⟩
    · exact ⟨_, List.mem_of_getElem? (i := 6) rfl, .int _⟩
    · exact ⟨_, List.mem_of_getElem? (i := 7) rfl, .str _⟩
    · exact ⟨_, List.mem_of_getElem? (i := 8) rfl, .str _⟩
    · exact ⟨_, List.mem_of_getElem? (i := 9) rfl, .tup (.inl (.inl g1)) .nil⟩
    · exact ⟨_, List.mem_of_getElem? (i := 10) rfl, .tup (.inl (.inl g2)) (.cons (.int _) (.cons (.str _) .nil))⟩
    · exact ⟨_, List.mem_of_getElem? (i := 11) rfl, .lst g3 .nil⟩
    · exact ⟨_, List.mem_of_getElem? (i := 12) rfl, .dct g4⟩
    · exact ⟨_, List.mem_of_getElem? (i := 13) rfl, .tup (.inl (.inl g6)) (.cons (.tup (.inl (.inl g5)) (.cons (.int _) (.cons (.str _) .nil))) .nil)⟩
    · exact ⟨_, List.mem_of_getElem? (i := 14) rfl, .tup (.inl (.inl g7)) (.cons (.bl _) (.cons (.int _) .nil))⟩
  have P11 := P10.upd ho1
  clear P10 P9 P8 P7 P6 P5 P4 P3 P2 k3 k4 k5 k6 k7 k8 k9 k10 g1 g2 g3 g4 g5 g6 g7
  refine ⟨_, rfl, _, rfl, _, rfl, _, rfl, (by show 2 ≤ sizeLine; decide), fun u1 v1 => ⟨_, rfl, (by show 1 ≤ sizeLine; decide), fun u2 v2 => ⟨7, rfl, (by show 0 ≤ sizeLine; decide), fun u3 v3 => ⟨_, rfl, (by show 1 ≤ sizeLine; decide), fun u4 v4 => ⟨(by show 2 ≤ sizeLine; decide), fun u5 v5 => ⟨(by show 6 ≤ sizeLine; decide), fun u6 v6 => ?_⟩⟩⟩⟩⟩⟩
  obtain ⟨P12, k12⟩ := P11.join (Ext.one (o := .tup [x, x]) v1)
  obtain ⟨P13, k13⟩ := P12.join (Ext.one (o := .lst [x]) v2)
  obtain ⟨P14, k14⟩ := P13.join (Ext.one (o := .tup []) v3)
  obtain ⟨P15, k15⟩ := P14.join (Ext.one (o := .tup [x]) v4)
  obtain ⟨P16, k16⟩ := P15.join (Ext.one (o := .tup [.ref u3, .ref u4]) v5)
  obtain ⟨P17, k17⟩ := P16.join (Ext.one (o := .tup [x, .ref u1, .ref u2, .str "a text", .int (-7), .ref u5]) v6)
  have g1 := k17 _ _ (k16 _ _ (k15 _ _ (k14 _ _ (k13 _ _ (join_r _ _ upd_same)))))
  have g2 := k17 _ _ (k16 _ _ (k15 _ _ (k14 _ _ (join_r _ _ upd_same))))
  have g3 := k17 _ _ (k16 _ _ (k15 _ _ (join_r _ _ upd_same)))
  have g4 := k17 _ _ (k16 _ _ (join_r _ _ upd_same))
  have g5 := k17 _ _ (join_r _ _ upd_same)
  have kx := k12.trans (k13.trans (k14.trans (k15.trans (k16.trans k17))))
  generalize hG2 : join (join (join (join (join (join _ (upd E_ u1 (.tup [x, x]))) (upd E_ u2 (.lst [x]))) (upd E_ u3 (.tup []))) (upd E_ u4 (.tup [x]))) (upd E_ u5 (.tup [.ref u3, .ref u4]))) (upd E_ u6 (.tup [x, .ref u1, .ref u2, .str "a text", .int (-7), .ref u5])) = GP17 at P17 g1 g2 g3 g4 g5 kx
  refine ⟨p, u6, [x, .ref u1, .ref u2, .str "a text", .int (-7), .ref u5], rfl, upd_same, (by show 0 < 6; decide), (by show 6 ≤ 100; decide), P17.pur, fun v mv o2 ho2 => ?_⟩
  have hv : Good K GP17 v := by
    obtain ⟨d, md, hd⟩ := hx
    have hd := GG.Dq.mono kx _ _ hd
    have m2 : ∀ d' ∈ two d, d' ∈ d2s := fun d' h => List.mem_cons_of_mem _ (List.mem_flatMap.mpr ⟨d, md, h⟩)
    simp only [List.mem_cons, List.not_mem_nil, or_false] at mv
    rcases mv with rfl | rfl | rfl | rfl | rfl | rfl
    · exact ⟨_, m2 _ (List.mem_of_getElem? (i := 0) rfl), hd⟩
    · exact ⟨_, m2 _ (List.mem_of_getElem? (i := 1) rfl), .tup (.inl (.inl g1)) (.cons hd (.cons hd .nil))⟩
    · exact ⟨_, m2 _ (List.mem_of_getElem? (i := 2) rfl), .lst g2 (.cons hd .nil)⟩
    · exact ⟨_, m2 _ (List.mem_of_getElem? (i := 3) rfl), .str _⟩
    · exact ⟨_, m2 _ (List.mem_of_getElem? (i := 4) rfl), .int _⟩
    · exact ⟨_, m2 _ (List.mem_of_getElem? (i := 5) rfl), .tup (.inl (.inl g5)) (.cons (.tup (.inl (.inl g3)) .nil) (.cons (.tup (.inl (.inl g4)) (.cons hd .nil)) .nil))⟩
  have P18 := P17.upd ho2
  clear P17 P16 P15 P14 P13 P12 P11 k12 k13 k14 k15 k16 k17 g1 g2 g3 g4 g5 kx hx mv
  refine ⟨_, rfl, v, rfl, fun a1 rs1 H1' G1 E1 ga1 R1 => ⟨_, rfl, v, rfl, fun a2 rs2 H2' G2 E2 ga2 R2 => ?_⟩⟩
  obtain ⟨P19, k19⟩ := P18.join E1
  obtain ⟨P20, k20⟩ := P19.join E2
  have hz1 : rs1.length = 14 := R1.len
  have hz2 : rs2.length = 8 := R2.len
  refine ⟨a1, a2, _, _, rfl, rfl, E2.1 _ _ (E1.in_ _ _ ga1), E2.in_ _ _ ga2, (by rw [hz1, hz2]; decide), fun l nl => ?_⟩
  obtain ⟨P21, k21⟩ := P20.join (Ext.one (o := .lst (rs1 ++ rs2)) nl)
  have RR : RowsV K _ v xws (rs1 ++ rs2) := RowsV.app (RowsV.mono (join_r.trans (k20.trans k21)) R1) (RowsV.mono (join_r.trans k21) R2)
  have hv := hv.mono (k19.trans (k20.trans k21))
  generalize hG3 : join (join (join GP17 G1) G2) (upd E_ l (.lst (rs1 ++ rs2))) = G at P21 RR hv
  generalize hH3 : upd H2' l (.lst (rs1 ++ rs2)) = Hd at P21
  have hl : Hd l = some (.lst (rs1 ++ rs2)) := by rw [← hH3, upd_same]
  clear P20 P19 P18 k19 k20 k21 R1 R2 ga1 ga2 E1 E2
  refine ⟨l, rfl, ⟨_, SqL.of hl⟩, ?_⟩
  refine for_list (xs := rs1 ++ rs2) (fun j σ H' => Same Hd H' ∧ ∃ y1 y2 y3 y4 : Option V, σ = [some (.ref p), some (.ref t8), some v, some (.int (j : Int)), none, none, y1, y2, y3, y4, none, none]) ⟨Same.refl _, _, _, _, _, rfl⟩ ?_ ?_ ?_
  · rintro i σ H' _ ⟨S, _⟩
    exact SqL.of (S _ _ hl)
  · rintro j r σ H' hj ⟨S, y1, y2, y3, y4, rfl⟩
    obtain ⟨⟨x, wd⟩, hxw, a, e1, e2, rfl, ha, he1, he2⟩ := RR.get hj
    have mxw : (x, wd) ∈ xws := List.mem_of_getElem? hxw
    obtain ⟨m1, m2, m3, m4, m5⟩ := xw_facts _ mxw
    have hj22 : j < 22 := by
      have := (List.getElem?_eq_some_iff.mp hxw).1
      rw [xw_len] at this
      exact this
    have hxj : x = cls.getD j "" := by
      rw [← xw_cls j hj22, List.getD_eq_getElem?_getD, hxw]
      rfl
    obtain ⟨b1, b2, b3⟩ := bs_ok j hj22
    rw [← hxj] at b1
    refine ⟨a, _, rfl, SqL.of (S _ _ (P21.new _ _ ha).2), rfl, ?_⟩
    refine ⟨_, _, rfl, _, _, rfl, _, _, rfl, rfl, ?_⟩
    refine ⟨_, rfl, _, rfl, (by show 2 ≤ sizeLine; decide), fun tt ntt => ⟨tt, rfl, ⟨_, SqT.of upd_same⟩, ?_⟩⟩
    have S2 : Same Hd (upd H' tt (.tup [.ref e1, .ref e2])) := S.trans (Ext.one ntt).1
    generalize hH4 : upd H' tt (.tup [.ref e1, .ref e2]) = H4 at S2
    have htt : H4 tt = some (.tup [.ref e1, .ref e2]) := by rw [← hH4, upd_same]
    refine for_tup (xs := [.ref e1, .ref e2]) (fun _ σ H' => Same H4 H' ∧ ∃ y4 : Option V, σ = [some (.ref p), some (.ref t8), some v, some (.int (j : Int)), none, none, some (.str wd), some (.ref e1), some (.ref e2), y4, none, none]) ⟨Same.refl _, _, rfl⟩ ?_ ?_ ?_
    · rintro i σ H' _ ⟨S, _⟩
      exact SqT.of (S _ _ htt)
    · rintro k y σ H5 hk ⟨S5, y4, rfl⟩
      obtain ⟨ek, rfl, hek⟩ : ∃ ek, y = .ref ek ∧ Err K G x wd v ek := by
        match k, hk with
        | 0, hk => exact ⟨e1, (Option.some.inj hk).symm, he1⟩
        | 1, hk => exact ⟨e2, (Option.some.inj hk).symm, he2⟩
        | k + 2, hk => simp at hk
      have tG : Same G H5 := fun b o e => S5 _ _ (S2 _ _ (P21.new _ _ e).2)
      have hK := (hek.isE m5).mono tG
      refine ⟨_, rfl, ek, x, rfl, hK, fun lk H6 G6 E6 gk => ?_⟩
      refine ⟨22, rfl, by decide, by decide, fun D nD => lc_range (n := 22) (fun i H' => Same H6 H' ∧ H' D = some (.lst ((List.range i).map fun (k : Nat) => V.bl (decide (V.int (0 + (k : Int)) = V.int (j : Int)))))) ⟨(Ext.one nD).1, upd_same⟩ ?_ ?_⟩
      · rintro i H' hi ⟨S7, hD⟩
        refine ⟨rfl, ?_⟩
        refine iteT (B := Same H6 H' ∧ H' D = some (.lst ((List.range (i + 1)).map fun (k : Nat) => V.bl (decide (V.int (0 + (k : Int)) = V.int (j : Int)))))) ⟨_, rfl, _, rfl, rfl, _, hD, ?_, fun b o e => ?_, ?_⟩
        · rw [List.length_map, List.length_range]
          exact Nat.lt_trans hi (by decide)
        · rw [upd_ne (ne_of_none e nD)]
          exact S7 _ _ e
        · rw [upd_same, List.range_succ, List.map_append]
          rfl
      · rintro H7 ⟨S7, hD⟩
        have hb : ((List.range 22).map fun (k : Nat) => V.bl (decide (V.int (0 + (k : Int)) = V.int (j : Int)))) = (bsJ j).map V.bl := by
          unfold bsJ
          rw [List.map_map]
          rfl
        rw [hb] at hD
        have gk7 : H7 lk = some (.lst ((bsJ j).map V.bl)) := by
          rw [← b1]
          exact S7 _ _ (E6.in_ _ _ gk)
        have t7 : Same G H7 := tG.trans (E6.1.trans S7)
        refine ⟨_, _, .lst (SqL.of gk7) (dpBools _), .lst (SqL.of hD) (dpBools _), b2, b2, _, rfl, iteN (by rw [b3]; rfl) ?_⟩
        refine ⟨_, rfl, ek, x, rfl, (hek.isE m5).mono t7, fun H8 G8 E8 => ⟨_, rfl, iteF ?_⟩⟩
        have t8' : Same G H8 := t7.trans E8.1
        refine ⟨_, rfl, _, rfl, x, wd, ek, v, rfl, mxw, hek.mono t8', fun _ => hv.mono t8', fun H9 G9 E9 => ?_⟩
        have t9 : Same G H9 := t8'.trans E9.1
        have S9 : Same H4 H9 := S5.trans (E6.1.trans (S7.trans (E8.1.trans E9.1)))
        by_cases hw : wd = ""
        · rw [if_pos hw]
          obtain ⟨o1, _⟩ := d2s_ok .none List.mem_cons_self
          obtain ⟨o1, o2⟩ := He.ba o1
          obtain ⟨o2, o3⟩ := He.ba o2
          have o2 := of_decide_eq_true o2
          have o3 := of_decide_eq_true o3
          refine ⟨_, .none, rfl, .non, o1, by omega, Nat.le_trans o3 (by decide), _, rfl, rfl, _, rfl, ?_⟩
          refine iteN (by rw [hw]; rfl) ⟨_, .none, rfl, .non, o1, by omega, Nat.le_trans o3 (by decide), rfl, _, rfl, iteN (by rw [decide_eq_true rfl]; rfl) ?_⟩
          exact ⟨S9, _, rfl⟩
        · rw [if_neg hw]
          obtain ⟨dv, md, hD9⟩ := hv.mono t9
          obtain ⟨o1, _⟩ := d2s_ok dv md
          obtain ⟨o1, o2⟩ := He.ba o1
          obtain ⟨o2, o3⟩ := He.ba o2
          have o2 := of_decide_eq_true o2
          have o3 := of_decide_eq_true o3
          refine ⟨_, dv, rfl, hD9, o1, by omega, Nat.le_trans o3 (by decide), _, rfl, rfl, _, rfl, ?_⟩
          refine iteP (by rw [decide_eq_false (fun z => hw (V.str.inj z))]; rfl) ⟨_, rfl, _, dv, rfl, hD9, o1, by omega, Nat.le_trans o3 (by decide), rfl, _, rfl, iteN (by rw [decide_eq_true rfl]; rfl) ?_⟩
          exact ⟨S9, _, rfl⟩
    · rintro σ H5 ⟨S5, y4, rfl⟩
      refine ⟨_, rfl, _, _, rfl, rfl, ?_⟩
      exact ⟨S2.trans S5, _, _, _, _, rfl⟩
  · rintro σ H' ⟨S, y1, y2, y3, y4, rfl⟩
    have P22 := P21.mono S
    refine ⟨_, rfl, p, 9, rfl, P22.pur, by decide, by decide, fun n1 o3 hn1 ho3 => ?_⟩
    have P23 := P22.upd ho3
    refine ⟨(by show 1 ≤ sizeLine; decide), fun ro nro => ?_⟩
    have Er := Ext.one (o := .lst [.int (n1 : Int)]) nro
    obtain ⟨P24, k24⟩ := P23.join Er
    have hrp : ro ≠ p := (P24.new ro _ (join_r _ _ upd_same)).1
    generalize hH5 : upd (upd H' p o3) ro (.lst [.int (n1 : Int)]) = H5 at P24
    have hro : H5 ro = some (.lst [.int (n1 : Int)]) := by rw [← hH5, upd_same]
    refine ⟨_, rfl, .ref ro, rfl, fun a3 rs3 H6 G3 E3 ga3 R3 => ⟨_, rfl, .ref ro, rfl, fun a4 rs4 H7 G4 E4 ga4 R4 => ?_⟩⟩
    have hz3 : rs3.length = 14 := R3.len
    have hz4 : rs4.length = 8 := R4.len
    refine ⟨a3, a4, _, _, rfl, rfl, E4.1 _ _ (E3.in_ _ _ ga3), E4.in_ _ _ ga4, (by rw [hz3, hz4]; decide), fun l2 nl2 => ?_⟩
    obtain ⟨J1, j1⟩ := E3.join E4
    obtain ⟨J2, j2⟩ := J1.join (Ext.one (o := .lst (rs3 ++ rs4)) nl2)
    have RR2 : RowsV K _ (.ref ro) xws (rs3 ++ rs4) := RowsV.app (RowsV.mono (j1.trans j2) R3) (RowsV.mono (join_r.trans j2) R4)
    have gl2 := join_r (G1 := join G3 G4) (G2 := upd E_ l2 (.lst (rs3 ++ rs4))) _ _ upd_same
    generalize hG4 : join (join G3 G4) (upd E_ l2 (.lst (rs3 ++ rs4))) = G' at J2 RR2 gl2
    generalize hH6 : upd H7 l2 (.lst (rs3 ++ rs4)) = H8 at J2
    have ro8 := J2.1 _ _ hro
    refine ⟨_, rfl, .inl ⟨rfl, _, SqL.of ro8⟩, _, rfl, p, 9, rfl, P24.pur.mono J2.1, by decide, by decide, fun n2 o4 hn2 ho4 => ?_⟩
    have ro9 : upd H8 p o4 ro = some (.lst [.int (n1 : Int)]) := by rw [upd_ne hrp]; exact ro8
    refine ⟨ro, _, _, rfl, rfl, ro9, (by show 1 < sizeLine; decide), ?_⟩
    generalize hH9 : upd (upd H8 p o4) ro (.lst ([.int (n1 : Int)] ++ [.int (n2 : Int)])) = H9
    have roV : H9 ro = some (.lst [.int (n1 : Int), .int (n2 : Int)]) := by rw [← hH9, upd_same] <;> rfl
    have tG9 : Same G' H9 := fun b o e => by
      have z := (J2.2 b o e).1
      have h1 : b ≠ ro := fun y => by
        rw [y, hro] at z
        cases z
      have h2 : b ≠ p := fun y => by
        obtain ⟨lp, hlp⟩ := P24.pur.at
        rw [y, hlp] at z
        cases z
      rw [← hH9, upd_ne h1, upd_ne h2]
      exact (J2.2 b o e).2
    have old9 : ∀ b o, H b = some o → b ≠ p → H9 b = some o := fun b o e n => by
      have z := P24.old b o e n
      have y := P23.old b o e n
      have h1 : b ≠ ro := ne_of_none y nro
      rw [← hH9, upd_ne h1, upd_ne n]
      exact J2.1 _ _ z
    have l29 := tG9 _ _ gl2
    refine ⟨_, rfl, l2, rfl, ⟨_, SqL.of l29⟩, ?_⟩
    refine for_list (xs := rs3 ++ rs4) (fun _ σ H' => Same H9 H' ∧ ∃ x3 y1 y2 y3 y4 : Option V, σ = [some (.ref p), some (.ref t8), some v, x3, some (.ref ro), some (.ref l2), y1, y2, y3, y4, none, none]) ⟨Same.refl _, _, _, _, _, _, rfl⟩ ?_ ?_ ?_
    · rintro i σ H' _ ⟨S, _⟩
      exact SqL.of (S _ _ l29)
    · rintro j r σ H' hj ⟨S, x3, y1, y2, y3, y4, rfl⟩
      obtain ⟨⟨x, wd⟩, hxw, a, e1, e2, rfl, ha, he1, he2⟩ := RR2.get hj
      have mxw : (x, wd) ∈ xws := List.mem_of_getElem? hxw
      obtain ⟨m1, m2, m3, m4, m5⟩ := xw_facts _ mxw
      refine ⟨a, _, rfl, SqL.of (S _ _ (tG9 _ _ ha)), rfl, ?_⟩
      refine ⟨_, _, rfl, _, _, rfl, _, _, rfl, rfl, ?_⟩
      refine ⟨_, rfl, (by show 2 ≤ sizeLine; decide), fun tt ntt => ⟨tt, _, rfl, .inr (SqT.of upd_same), rfl, rfl, _, rfl, ?_⟩⟩
      have S2 : Same H9 (upd H' tt (.tup [.str "", .str "row"])) := S.trans (Ext.one ntt).1
      generalize hH10 : upd H' tt (.tup [.str "", .str "row"]) = H10 at S2
      rcases words_in wd m1 with h0 | ⟨h0, w1, w2⟩
      · exact iteN h0 (iteF ⟨S2, _, _, _, _, _, rfl⟩)
      · have dpr : ∀ Hx : Hp, Same H9 Hx → Dp K Hx (.ref ro) (.list [.int (n1 : Int), .int (n2 : Int)]) := fun Hx s => .lst (SqL.of (s _ _ roV)) (.cons (.int _) (.cons (.int _) .nil))
        have eq0 : (!PyData.eqv (.list [.int (n1 : Int), .int (n2 : Int)]) (.list [.int (n1 : Int), .int (n2 : Int)])) = false := by
          rw [SeqAt.eqv_refl _ rfl]
          rfl
        refine iteP h0 ⟨_, rfl, _, rfl, x, wd, e1, .ref ro, rfl, mxw, (he1.mono tG9).mono S2, fun h => absurd h w2, fun H11 G11 E11 => ?_⟩
        rw [if_neg w1]
        have S11 := S2.trans E11.1
        refine ⟨_, rfl, _, _, dpr _ S11, dpr _ S11, rfl, rfl, _, rfl, iteN eq0 ⟨_, rfl, _, rfl, x, wd, e2, .ref ro, rfl, mxw, (he2.mono tG9).mono S11, fun h => absurd h w2, fun H12 G12 E12 => ?_⟩⟩
        rw [if_neg w1]
        have S12 := S11.trans E12.1
        refine ⟨_, rfl, _, _, dpr _ S12, dpr _ S12, rfl, rfl, _, rfl, iteN eq0 ⟨S12, _, _, _, _, _, rfl⟩⟩
    · rintro σ H' ⟨S, x3, y1, y2, y3, y4, rfl⟩
      refine ⟨5, rfl, by decide, by decide, fun D nD => lc_range (n := 5) (fun i H2 => Same H' H2 ∧ H2 D = some (.lst ((List.replicate i true).map V.bl))) ⟨(Ext.one nD).1, upd_same⟩ ?_ ?_⟩
      · rintro i H2 hi ⟨S2, hD⟩
        refine ⟨rfl, ?_⟩
        refine iteT (B := Same H' H2 ∧ H2 D = some (.lst ((List.replicate (i + 1) true).map V.bl))) ⟨_, rfl, _, rfl, i, v, by rw [Int.zero_add] <;> rfl, hi, fun H3 S3 => ⟨true, true, rfl, rfl, _, S3 _ _ hD, ?_, fun b o e => ?_, ?_⟩⟩
        · rw [List.length_map, List.length_replicate]
          exact Nat.lt_trans hi (by decide)
        · rw [upd_ne (ne_of_none e nD)]
          exact S3 _ _ (S2 _ _ e)
        · rw [upd_same, List.replicate_succ', List.map_append]
          rfl
      · rintro H2 ⟨S2, hD⟩
        exact ⟨D, List.replicate 5 true, rfl, SqL.of hD, q H2 fun b o e n => S2 _ _ (S _ _ (old9 b o e n))⟩
end
end K01
namespace K01
open PySem PySem.Spec PyProof.Rows L2 HK ES NdefX CA
def spLaw (K : PySem.W.Frag) : Sp := fun vs H Q _ => ∃ (c : Addr) (ns : List Int), vs = [.ref c] ∧ SqL K H c (ns.map V.int) ∧ ns.length ≤ 63 ∧ ∀ H', Q (.bl true) H'
section
variable {w : World} {K : PySem.W.Frag} {mg : Str → Option Value} {base : Heap}
theorem sc_law : FnScope (["cells", "at"] : List Str) (["cells"] : List Str) (defScope slaw) := ⟨rfl, rfl, rfl, by decide +kernel, rfl, by decide +kernel, by decide +kernel⟩
theorem ok_law (T : TT K mg) {fd fR fPu : FuncData} (F : FunD K "law" "law" (defArgs slaw) (defBody slaw) (defScope slaw) [] [] (He.ga K "law") fd)
    (FR : FunD K "_law_right" "_law_right" (defArgs s_law_right) (defBody s_law_right) (defScope s_law_right) [] [] (He.ga K "_law_right") fR)
    (FPu : FunD K "_law_purse" "_law_purse" (defArgs s_law_purse) (defBody s_law_purse) (defScope s_law_purse) [] [] (He.ga K "_law_purse") fPu)
    (GR : GG.FnG Pw w K mg base 4 (He.ga K "_law_right") fR (["draws"] : List Str) spRight) :
    GG.FnG Pw w K mg base 5 (He.ga K "law") fd (["cells"] : List Str) (spLaw K) := by
  have SC := sc_law
  have bR : Binds K fR (["draws"] : List Str) [] := FR.bindsN fun _ _ _ _ _ _ us hl => match us, hl with | [_], _ => rfl
  have GPu : FnOk Pw w K mg base CX0 1 (He.ga K "_law_purse") fPu (["cells", "at"] : List Str) (spPurse K) := ok_purse T FPu
  have bPu : Binds K fPu (["cells", "at"] : List Str) [] := FPu.bindsN fun _ _ _ _ _ _ us hl => match us, hl with | [_, _], _ => rfl
  refine okGD F SC (fun vs H Q E h => ?_) (fun cdv A outer s H vs Q E hr hgu h => ⟨_, (pss_one (ps_ret (pe_callB (cr_all rfl) (by rfl) (T.fr _ (by decide +kernel)) (by decide +kernel) (pa_cons (pe_lc (own := [("at", 1)]) (g := gName 1) (tt := tYes) rfl SC.nd (pi_range1 rfl (T.fr _ (by decide +kernel)) (pa_cons (pe_callB (call_max2 rfl) (by rfl) (T.fr _ (by decide +kernel)) (by decide +kernel) (pa_cons pe_int (pa_cons (pe_callB (call_min2 rfl) (by rfl) (T.fr _ (by decide +kernel)) (by decide +kernel) (pa_cons (pe_callB call_len_seq (by rfl) (T.fr _ (by decide +kernel)) PySem.boot_len (pa_cons (pv 0) pa_nil)) (pa_cons pe_int pa_nil))) pa_nil))) pa_nil)) (blkOk_by (N := (["cells", "at"] : List Str)) (sc := defScope slaw) (by decide +kernel)) (fun _ _ _ _ _ => (pg_name (i := 1) SC.nd rfl (Or.inl rfl))) (fun _ _ _ _ _ => pts_nil) (fun _ _ _ _ _ => (GG.pe_callG hgu GR hr rfl (T.gl _ (by decide +kernel)) FR.kp bR .nil (pa_cons (pe_call GPu (hr.mono (by decide)) rfl (T.gl _ (by decide +kernel)) FPu.kp bPu .nil pass0 (pa_cons (pv 0) (pa_cons (pv 1) pa_nil))) pa_nil)))) pa_nil)))), ?_⟩)
  · obtain ⟨c, ns, rfl, _⟩ := h
    rfl
  obtain ⟨c, ns, rfl, hS, hz, q⟩ := h
  refine ⟨_, rfl, c, _, rfl, .inl hS, _, _, rfl, _, _, rfl, ?_⟩
  obtain ⟨n, hn, hn2⟩ : ∃ n : Nat, (if (if (3 : Int) < (ns.length : Int) then (3 : Int) else (ns.length : Int)) > 2 then (if (3 : Int) < (ns.length : Int) then (3 : Int) else (ns.length : Int)) else 2) = (n : Int) ∧ n ≤ 3 := by
    by_cases h1 : (3 : Int) < (ns.length : Int)
    · exact ⟨3, by rw [if_pos h1, if_pos (by decide)] <;> rfl, by decide⟩
    · by_cases h2 : (ns.length : Int) > 2
      · exact ⟨ns.length, by rw [if_neg h1, if_pos h2], by omega⟩
      · exact ⟨2, by rw [if_neg h1, if_neg h2] <;> rfl, by decide⟩
  rw [← List.length_map (f := V.int)] at hn
  refine ⟨(n : Int), congrArg (fun t : Int => [V.int t]) hn, by omega, by omega, fun D nD => ?_⟩
  rw [Int.toNat_natCast]
  refine lc_range (n := n) (fun i H2 => Same H H2 ∧ H2 D = some (.lst ((List.replicate i true).map V.bl))) ⟨(Ext.one nD).1, upd_same⟩ ?_ ?_
  · rintro i H2 hi ⟨S2, hD⟩
    refine ⟨rfl, ?_⟩
    refine iteT (B := Same H H2 ∧ H2 D = some (.lst ((List.replicate (i + 1) true).map V.bl))) ⟨_, rfl, _, rfl, c, ns, i, by rw [Int.zero_add] <;> rfl, S2.seq hS, Nat.le_trans hz (by decide), by omega, fun p H3 np S3 hP => ⟨p, rfl, hP, fun H4 S4 => ?_⟩⟩
    have S4' : Same H2 H4 := fun b o e => S4 b o (S3 _ _ e) (ne_of_none e np)
    refine ⟨_, S4' _ _ hD, ?_, fun b o e => ?_, ?_⟩
    · rw [List.length_map, List.length_replicate]
      exact Nat.lt_trans hi (Nat.lt_of_le_of_lt hn2 (by decide))
    · rw [upd_ne (ne_of_none e nD)]
      exact S4' _ _ (S2 _ _ e)
    · rw [upd_same, List.replicate_succ', List.map_append]
      rfl
  · rintro H2 ⟨S2, hD⟩
    refine ⟨D, List.replicate n true, rfl, SqL.of hD, ?_⟩
    have e : (List.replicate n true).all id = true := by
      rw [List.all_eq_true]
      intro x hx
      rw [(List.mem_replicate.mp hx).2]
      rfl
    rw [e]
    exact q H2
theorem mem_fn (T : TT K mg) {d : He.DefD} (h : d ∈ fn) : ∃ fd, FunD K d.name d.qual d.params d.body d.scope [] [] (He.ga K d.name) fd := T.df d h
theorem facts {h : Heap} {f : Addr} (X : K.In h) (G : h.Ns mainGlobals mg) (hfa : mg ("law" : Str) = some (.ref f)) (c : Says fa fn ex js K) :
    ∃ fd : FuncData, (∀ (s : Shared) (v : Value), BindsTo s fd ⟨[v], []⟩ [("cells", v)]) ∧ ∀ base : Heap, K.In base → base.Ns mainGlobals mg → GG.FnG Pw w K mg base 5 f fd ["cells"] (spLaw K) := by
  have T := tt_of X G c
  have e := hfa.symm.trans (T.gl "law" (by decide +kernel))
  cases e
  obtain ⟨f1, F1⟩ := mem_fn T (d := d_law_purse) (by unfold fn; simp)
  obtain ⟨f2, F2⟩ := mem_fn T (d := d_law_take) (by unfold fn; simp)
  obtain ⟨f3, F3⟩ := mem_fn T (d := d_law_pick) (by unfold fn; simp)
  obtain ⟨f4, F4⟩ := mem_fn T (d := d_law_given_ones) (by unfold fn; simp)
  obtain ⟨f5, F5⟩ := mem_fn T (d := d_law_index_ones) (by unfold fn; simp)
  obtain ⟨f6, F6⟩ := mem_fn T (d := d_law_kinds) (by unfold fn; simp)
  obtain ⟨f7, F7⟩ := mem_fn T (d := d_law_kept) (by unfold fn; simp)
  obtain ⟨f8, F8⟩ := mem_fn T (d := d_law_is_plain) (by unfold fn; simp)
  obtain ⟨f9, F9⟩ := mem_fn T (d := d_law_is_caught) (by unfold fn; simp)
  obtain ⟨f10, F10⟩ := mem_fn T (d := d_law_right) (by unfold fn; simp)
  obtain ⟨fd, F⟩ := mem_fn T (d := dlaw) (by unfold fn; simp)
  have b := FunD.bindsA (ps := (["cells"] : List Str)) F fun _ _ _ _ _ _ us hl => match us, hl with | [_], _ => rfl
  exact ⟨fd, fun s v => b s [v] rfl, fun base _ _ => ok_law T F F10 F1 (ok_right T F10 F2 F3 F4 F5 F6 F8 F7 F9)⟩
end
end K01
open PySem PySem.W PySem.Calls PyProof.Rows
theorem PySem.Challenge.cw_thingtongue_k01_errors_each_of_its_own_holds : PySem.Challenge.rw_thingtongue_k01_errors_each_of_its_own.Holds := by
  w_on; o_law
  refine HandSHeadRun.head_any (r := OpenLaw.row PySem.Challenge.rw_thingtongue_k01_errors_each_of_its_own) (q := view (OpenLaw.row PySem.Challenge.rw_thingtongue_k01_errors_each_of_its_own).prog [35]) (H := K01.hk) (ob := K01.ob) (M := 8000) (loose := K01.loose) (d := HandSHeadRun.topDef (OpenLaw.row PySem.Challenge.rw_thingtongue_k01_errors_each_of_its_own).prog 35) (kwd := []) K01.ob_eq
    (by kernel_rfl) (fun s => by kernel_rfl) K01.run (by kernel_rfl) (by kernel_rfl) (by kernel_rfl) (by rfl) (by first | assumption | decide +kernel) (by decide +kernel) ⟨rfl, rfl, rfl, rfl, rfl, by decide +kernel⟩ ?hw ?hc
  case hw => w_witness2
  case hc =>
    refine GG.walk_ofG (l := PySem.Challenge.rw_thingtongue_k01_errors_each_of_its_own) (n := 63) (k := 5) (x := "cells") rfl (by decide) (by kernel_rfl) ⟨rfl, by decide, by decide⟩ ?F
    intro w mg fa h Y G hmg0
    obtain ⟨K, KX, c⟩ := Y
    have hmg : mg ("law" : PySem.Str) = some (.ref fa) := by
      have e : (HandSHeadRun.topDef (OpenLaw.row PySem.Challenge.rw_thingtongue_k01_errors_each_of_its_own).prog 35).name = ("law" : PySem.Str) := by kernel_rfl
      rw [← e]
      exact hmg0
    obtain ⟨fd, hb, hF⟩ := K01.facts (w := w) KX G hmg c
    exact ⟨K, fd, K01.spLaw K, KX, hb, fun H a ns hl _ hS => ⟨a, ns, rfl, hS, hl, fun _ => rfl⟩, hF⟩
