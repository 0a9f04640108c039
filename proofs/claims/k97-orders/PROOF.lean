import PyProof.Rows.All
import Wide.All
import OpenK.AllK
import Wide.FinOn
import KE.KExcSuper
import HandS.Base
import HandS.Call
import HandS.List
import HandS.Ends
import HandS.Exc
import HandS.ExcInit
import HandS.ExcSuper
import HandS.ExcIs
import HandS.ExcField
import HandS.WordsExc
import HandS.ForMost
import HandS.TupAny
import HandS.Deep
import HandS.Style
import HandS.Wide
import HandS.FStr
import HandS.RaiseMore
import HandS.Replace
import HandS.ReplaceLit
import HandS.StrMore
import HandS.IsInst
import HandS.TryMany
import HandS.More
import PyProof.CallFns
import HandS.Iter
import HandS.Walk
import HandS.ReplaceDef
import HandS.ReplaceList
import KE.KIsAll
import KE.KTryMore
import HandS.ExcOwn
import KE.IntTextLaws
import HandS.Text
import PySem.Challenge.RW_ruleyard_k97_orders_read_and_written
section
set_option Elab.async false
set_option linter.all false
set_option maxRecDepth 100000
set_option maxHeartbeats 2000000
/-! EX1: an own exception over ValueError (directly or through others): __init__(self, p): super().__init__(f'..{p}'); self.p = p -/
namespace PySem
namespace XP
open PySem.W PySem.Calls PyProof.Rows PySem.HandSPX
/-- what the written part says of the class at C and of its __init__ at fI, p its parameter and its field -/
structure Txt (P : Program) (K : Frag) (mg : Str → Option Value) (cn pn pre : Str) (C fI : Addr) : Prop where
  gC : mg cn = some (.ref C)
  cls : ∃ nm q N bs bm sn sub ab col dd k0 k1 k2 k3 k5, K.lookup C = some (excClassObj nm q C N bs bm true sn sub ab col dd k0 k1 k2 k3 k5 "ValueError.__new__") ∧ refsVE bm = true
  al : ks_superIn K C C "__init__" = some (some (.builtin "ValueError.__init__"))
  th : nsIn K cStatics "thirdparty.any" = some none
  sa : findIn K (.ref C) "__setattr__" = some (some (.builtin "object.__setattr__"))
  noN : findIn K (.ref C) pn = some none
  iC : findIn K (.ref C) "__init__" = some (some (.ref fI))
  tC : typeIn K (.ref fI) = some (.type "function")
  kC : keepIn K (.ref C) = true
  exC : subIn K (.ref C) (.type "BaseException") = some true
  veC : subIn K (.ref C) (.type "ValueError") = some true
  mC : mroIn K C (.ref C) = some true
  tyC : typeIn K (.ref C) = some (.type "type")
  ga : findIn K (.ref C) "__getattribute__" = some (some (.builtin "BaseException.__getattribute__"))
  gg : findIn K (.ref C) "__getattr__" = some none
  hdC : hasDictIn K C = true
  sup : mg "super" = none
  top : (P.main.scope.names.lookup ("super" : Str)).isSome = false
  fn : ∃ (oc : Value) (od : Option Addr) (params : Arguments) (body : List Stmt) (scope : Scope) (names : List (Str × NameKind)) (dV kV doc pm : Value) (an : Option Addr) (cda : Addr) (ct : Value) (osl : Array (Option Value)) (cc : Addr) (qual : Str)
      (ccl cl : Value) (cdd cld : Option Addr) (ccs csl : Array (Option Value)) (vs : Array Value) (file : Str) (tf : Tok) (q1 q2 q3 q4 q5 q6 q7 q8 q9 q10 q11 q12 q13 p1 p2 : Pos) (j : Nat),
    K.lookup fI = some ⟨oc, od, .func (ksFn "__init__" qual params body scope dV kV doc pm an (.ref cda) ct cc), osl⟩ ∧ codeIn K (.ref cda) qual = true ∧
    params = { posonlyargs := [], args := [{ arg := "self", annotation := none, pos := p1 }, { arg := pn, annotation := none, pos := p2 }], vararg := none, kwonlyargs := [], kw_defaults := [], kwarg := none, defaults := [] } ∧
    body = [.Expr (.Call (.Attribute (.Call (.Name "super" q1) [] [] q2) "__init__" q3) [.JoinedStr [.Constant (.str pre) j q4, .FormattedValue (.Name pn q5) (-1) none q6] q7] [] q8) q13,
      .Assign [.Attribute (.Name "self" q9) pn q10] (.Name pn q11) q12] ∧
    (∀ a b : Value, bindArgs (ksFn "__init__" qual params body scope dV kV doc pm an (.ref cda) ct cc) ⟨[a, b], []⟩ = pure [(("self" : Str), a), (pn, b)]) ∧
    scope = { kind := .function, names := names, isGenerator := false, isCoroutine := false, more := [] } ∧ (∀ x ∈ names, x.2 ≠ .cell) ∧ names.lookup ("super" : Str) = some .globalImplicit ∧ names.lookup ("__class__" : Str) = some .free ∧
    names.lookup ("self" : Str) = some .local ∧ names.lookup pn = some .local ∧
    (∃ pl : Env → Sem Bool, ∀ env, eval (.Call (.Attribute (.Call (.Name "super" q1) [] [] q2) "__init__" q3) [.JoinedStr [.Constant (.str pre) j q4, .FormattedValue (.Name pn q5) (-1) none q6] q7] [] q8) env = (do
      let ov ← attributeBase (.Call (.Name "super" q1) [] [] q2) "__init__" env (eval (.Call (.Name "super" q1) [] [] q2) env)
      standAt q3.atName
      let (f, first) ← holding [ov] (getMethod ov "__init__" (pl env))
      callWith q8 f first (backTo q8 (starEach [.JoinedStr [.Constant (.str pre) j q4, .FormattedValue (.Name pn q5) (-1) none q6] q7] env)) [])) ∧
    K.lookup cc = some ⟨cl, cld, .cell (some (.ref C)), csl⟩ ∧ K.lookup cda = some ⟨ccl, cdd, .fields vs, ccs⟩ ∧ vs[2]? = some (.str file tf) ∧ ((P.main.file : Str) == file) = true
/-- what __init__ leaves of a fresh exception at x -/
structure InitEnd (h h' : Heap) (x C dx t1 : Addr) (pn : Str) (v : Value) : Prop where
  keep : ∀ b o, b ≠ x → h.get? b = some o → h'.get? b = some o
  obj : h'.get? x = some { cls := .ref C, dict := some dx, data := .fields #[.ref t1, .none, .none, .none, .bool false, .none] }
  dbig : h.objs.size ≤ dx
  dne : dx ≠ x
  ns : h'.Ns1 dx (fun y => if y = pn then some v else none)
/-- a made exception -/
structure OwnMade (h h' : Heap) (e C d : Addr) (pn : Str) (v : Value) : Prop where
  keep : ∀ b o, h.get? b = some o → h'.get? b = some o
  new : h.objs.size ≤ e
  obj : ∃ oe vs, h'.get? e = some oe ∧ oe.cls = .ref C ∧ oe.dict = some d ∧ oe.data = .fields vs ∧ vs[1]? = some .none
  dbig : h.objs.size ≤ d
  dne : d ≠ e
  ns : h'.Ns1 d (fun y => if y = pn then some v else none)
section
variable {P : Program} {w : World} {A : Around} {E : Value → Shared → Prop} {h : Heap} {g : Array GenState} {d : Drawn} {t : Nat} {os : OsState}
variable {nm q : Str} {C N : Addr} {bs bm : List Value} {hdct : Bool} {sn : List Str} {sub : List Value} {ab : Bool} {col : Option Bool} {dd : Option Addr} {k0 k1 k2 k3 k5 : Option Value}
/-- ValueError.__init__ bound to e, called -/
theorem call_bound {u e t0 : Addr} {rest : List Value} {Q : Value → Shared → Prop}
    (hC : h.get? C = some (excClassObj nm q C N bs bm hdct sn sub ab col dd k0 k1 k2 k3 k5 "ValueError.__new__")) (he : h.get? e = some (excO C t0)) (hu : h.get? u = some (kxs_mw "ValueError.__init__" e)) (hrest : rest.length ≤ sizeLine)
    (hq : ∀ h' t1, (∀ b o, b ≠ e → h.get? b = some o → h'.get? b = some o) → h'.get? e = some (excO C t1) → Q .none ⟨h', g, d, t, os⟩) :
    wpAny (model P w) A (call (.ref u) rest) Q E ⟨h, g, d, t, os⟩ := by
  refine wpAny_call (codeAny_of_tree ?_)
  show wpAny _ A.in1 (callAny (.ref u) ⟨rest, []⟩) _ _ _
  simp only [callAny]
  refine wpAny_bind (wpAny_load hu ?_)
  simp only [kxs_mw, show (Value.type "method-wrapper" == Value.type "method" || Value.type "method-wrapper" == Value.type "builtin_function_or_method" || Value.type "method-wrapper" == Value.type "method-wrapper") = true by decide, if_true]
  refine W.KFB.if_so (by decide) ?_
  refine wpAny_bind (PySem.ESX.check_bound F.excBase_ValueError hC he rfl ?_)
  refine wpAny_bind (wpAny_pure (wpAny_pure ?_))
  refine ⟨Code.quiet_builtin _ (by decide +kernel), codeAny_builtin F.excBase_ValueError.initEntry ?_⟩
  rw [Around.under_plainId F.excBase_ValueError.init.plain _]
  wp_walk
  refine hq _ h.objs.size (fun b o hb ho => ?_) ?_
  · rw [Heap.get?_update_other _ _ (Ne.symm hb)]
    exact Heap.get?_push_of_some _ ho
  · rw [Heap.get?_update_self _ (Heap.get?_push_of_some _ he) rfl]
    rfl
theorem ns_but {h h' : Heap} {L x : Addr} {m : Str → Option Value} (hn : h.Ns L m) (hx : L ≠ x) (k : ∀ b o, b ≠ x → h.get? b = some o → h'.get? b = some o) : h'.Ns L m := by
  obtain ⟨oL, es, ep, hL, r⟩ := hn
  exact ⟨oL, es, ep, k _ _ hx hL, r⟩
end
section
variable {P : Program} {w : World} {A : Around} {E : Value → Shared → Prop} {R : Result → Shared → Prop} {s : Shared} {K : Frag} {mg : Str → Option Value} {cn pn pre : Str} {C fI : Addr}
theorem init_ok (T : Txt P K mg cn pn pre C fI) (hps : (pn == ("self" : Str)) = false) (hdb : (pn == ("__debug__" : Str)) = false) (hpre : pre.length ≤ 1000) {x t0 : Addr} {i : Int} {tk : Tok} (hi : i.natAbs.log2 < 1920) (hz : (Str.empty ++ pre ++ toString i).length ≤ sizeLine) (X : K.In s.heap) (hlim : s.heap.NoLimit) (hg : s.heap.Ns mainGlobals mg) (hb : ∃ mb, s.heap.Ns builtinsNs mb ∧ mb "super" = bootBuiltins "super")
    (hx : s.heap.get? x = some (excO C t0)) (hnx : K.lookup x = none) (hroom : A.depth < recursionLimit)
    (hq : ∀ h' tk' dx t1, InitEnd s.heap h' x C dx t1 pn (.int i tk) → R (.ok (.ret .none)) { s with heap := h', toks := tk' }) :
    codeAny (model P w) A (.call (.ref fI) ⟨[.ref x, .int i tk], []⟩) R s := by
  obtain ⟨oc, od, params, body, scope, names, dV, kV, doc, pm, an, cda, ct, osl, cc, qual, ccl, cl, cdd, cld, ccs, csl, vs, file, tf, q1, q2, q3, q4, q5, q6, q7, q8, q9, q10, q11, q12, q13, p1, p2, j, ho, hcd, rfl, rfl, hbind, rfl, hcell, hks, hkc, hself, hpn, ⟨pl, hev⟩, hcc, hcda, hvs, hfile⟩ := T.fn
  obtain ⟨nm, q, N, bs, bm, sn, sub, ab, col, dd, k0, k1, k2, k3, k5, hC, hbm⟩ := T.cls
  obtain ⟨mb, hb1, hb2⟩ := hb
  have hcl : clsIn K C = some { name := nm, bases := bs, mro := .ref C :: bm, ns := N, qualname := q, hasDict := true, slotNames := sn, subclasses := sub, abstract := ab, collection := col, hasDel := false } := by unfold clsIn; rw [hC] <;> rfl
  have hns : (("self" : Str) == pn) = false := by
    rw [Bool.eq_false_iff] at hps ⊢
    intro z
    exact hps (by rw [beq_iff_eq] at z ⊢; exact z.symm)
  obtain ⟨hp, g, d, t, os⟩ := s
  refine ks_codeAny_call_defAt (fd := ksFn "__init__" qual _ _ _ dV kV doc pm an (.ref cda) ct cc) (binds := [("self", .ref x), (pn, .int i tk)]) hroom (X _ _ ho) rfl hlim (codeRec_of X hcd) rfl (BindsTo.of_eq ?_) hcell (fun y hy => ?_) (fun h₁ hn k₁ => ?_) rfl rfl rfl
  · exact hbind _ _
  · simp only [List.mem_cons, List.not_mem_nil, or_false] at hy
    rcases hy with rfl | rfl
    · exact hself
    · exact hpn
  have X₁ : K.In h₁ := X.keeps k₁
  have hx₁ := k₁ _ _ hx
  have hLx : hp.objs.size ≠ x := Nat.ne_of_gt (Heap.lt_size hx)
  have mself : (fun y => List.lookup y (List.reverse [(("self" : Str), Value.ref x), (pn, .int i tk)])) "self" = some (.ref x) := by
    show List.lookup ("self" : Str) [(pn, .int i tk), (("self" : Str), Value.ref x)] = _
    rw [List.lookup_cons, hns]
    simp [List.lookup]
  have mpn : (fun y => List.lookup y (List.reverse [(("self" : Str), Value.ref x), (pn, .int i tk)])) pn = some (.int i tk) := by
    show List.lookup pn [(pn, .int i tk), (("self" : Str), Value.ref x)] = _
    rw [List.lookup_cons]
    simp
  generalize (fun y => List.lookup y (List.reverse [(("self" : Str), Value.ref x), (pn, .int i tk)])) = m at hn mself mpn
  have I₁ : InstAt h₁ x (excO C t0) C none := ⟨hx₁, rfl, rfl, trivial⟩
  have hD := X₁ _ _ hC
  -- super().__init__(..)
  refine ks_wpAt_execs_cons (ks_wpAt_Expr_any (ks_wpAt_MethodCall (pl := pl _) ?_ (hev _)) rfl rfl)
  refine ks_wpAt_super_base (of := ⟨oc, od, _, osl⟩) (oc := ⟨ccl, cdd, _, ccs⟩) hks hkc (by decide) rfl (X₁ _ _ ho) rfl rfl rfl (X₁ _ _ hcda) rfl hvs hfile T.top ?_
  refine ks_loadName_global rfl hks (loadGlobal_builtin (hg.keeps k₁) T.sup (hb1.keeps k₁) (hb2.trans (by first | boot_by_name | rfl | kernel_rfl)) ⟨rfl, ?_⟩)
  refine wpAny_loadName_free (v := .ref C) rfl hkc rfl ⟨_, X₁ _ _ hcc, rfl⟩ ?_
  refine wpAny_loadName_local (v := .ref x) rfl hself hn mself ?_
  refine ks_wpAny_isType_cls hD rfl ⟨rfl, ?_⟩
  refine ks_wpAny_call_super hD rfl hx₁ rfl (fun c e => by cases e) (looks_mroIn X₁ T.mC) (fun h₂ hso k₂ => ?_)
  have X₂ : K.In h₂ := X₁.keeps k₂
  have I₂ : InstAt h₂ x (excO C t0) C none := ⟨k₂ _ _ hx₁, rfl, rfl, trivial⟩
  have hal := T.al
  unfold ks_superIn at hal
  rw [hcl, Option.bind_some] at hal
  refine kxs_getMethod kxs_ValueError hso (looks_opaque X₂ T.th) (l₀ := .ref C :: bm) (fun A Q E s k q => wpAny_bind ((looks_clsIn X₂ hcl) A _ E s k (wpAny_pure q))) rfl X₂ hal (I₂.type.andThen (looks_subIn X₂ T.veC)) (ks_ne X₂ I₂ hcl) (by decide) ?_
  have hu : (h₂.push (kxs_mw "ValueError.__init__" x)).get? h₂.objs.size = some (kxs_mw "ValueError.__init__" x) := Heap.get?_push_at rfl rfl
  have k₃ : ∀ b o, h₂.get? b = some o → (h₂.push (kxs_mw "ValueError.__init__" x)).get? b = some o := fun b o e => Heap.get?_push_of_some _ e
  generalize h₂.push (kxs_mw "ValueError.__init__" x) = h₃ at hu k₃ ⊢
  have X₃ : K.In h₃ := X₂.keeps k₃
  have hx₃ := k₃ _ _ (k₂ _ _ hx₁)
  have hn₃ : h₃.Ns hp.objs.size m := (hn.keeps k₂).keeps k₃
  -- the message
  refine kxs_callWith (i := "ValueError.__init__") (x := x) (by rfl) (evalArgs_plain (spliced_cons ?_))
  refine JoinedStr_many (pos := q7) (joinParts_cons (wpAny_Constant_str ⟨?_, joinParts_cons (FormattedValue_plain (wpAny_Name (wpAny_loadName_local (v := .int i tk) rfl hpn hn₃ mpn (formatField_int_small hi ⟨hz, joinParts_nil (spliced_nil ⟨hu, ?_⟩) hz⟩)) hdb))⟩))
  · rw [strLen_append, sizeLine_eq]
    show 0 + pre.length ≤ _
    omega
  refine call_bound (X₃ _ _ hC) hx₃ hu (by rw [sizeLine_eq]; exact (by decide : 1 ≤ 16777216)) (fun h₄ t1 k₄ hx₄ => ?_)
  have X₄ : K.In h₄ := fun a o e => k₄ a o (fun z => by rw [z, hnx] at e; cases e) (X₃ _ _ e)
  have hn₄ : h₄.Ns hp.objs.size m := ns_but hn₃ hLx k₄
  -- self.p = p
  refine wpAt_of_wpAny (wpAny_execs_cons (plainObj_wpAny_Assign_Attribute (wpAny_Name (wpAny_loadName_local (v := .int i tk) rfl hpn hn₄ mpn (wpAny_Name (wpAny_loadName_local (v := .ref x) rfl hself hn₄ mself ?_) (by decide))) hdb)))
  refine set_plain X₄ (ox := excO C t1) (od := none) ⟨hx₄, rfl, rfl, trivial⟩ T.sa ?_
  refine exc_osa X₄ hx₄ hcl (show refsVE (.ref C :: bm) = true from hbm) rfl T.noN (fun h₅ tk₅ dx k₅ dn dne hx₅ hn₅ => ?_)
  refine wpAny_execs_nil (hq h₅ _ dx t1 ⟨fun b o hb e => k₅ b o hb (k₄ b o hb (k₃ _ _ (k₂ _ _ (k₁ _ _ e)))), hx₅, Nat.le_of_lt (Nat.lt_of_lt_of_le hn₄.lt dn), dne, hn₅⟩)
theorem made_ok (T : Txt P K mg cn pn pre C fI) (hps : (pn == ("self" : Str)) = false) (hdb : (pn == ("__debug__" : Str)) = false) (hpre : pre.length ≤ 1000) {i : Int} {tk : Tok} (hi : i.natAbs.log2 < 1920) (hz : (Str.empty ++ pre ++ toString i).length ≤ sizeLine) (X : K.In s.heap) (hlim : s.heap.NoLimit) (hg : s.heap.Ns mainGlobals mg) (hb : ∃ mb, s.heap.Ns builtinsNs mb ∧ mb "super" = bootBuiltins "super") (hroom : A.depth + 1 < recursionLimit)
    (hq : ∀ h' tk' e d, OwnMade s.heap h' e C d pn (.int i tk) → R (.ok (.ret (.ref e))) { s with heap := h', toks := tk' }) :
    codeAny (model P w) A (.call (.ref C) ⟨[.int i tk], []⟩) R s := by
  obtain ⟨nm, q, N, bs, bm, sn, sub, ab, col, dd, k0, k1, k2, k3, k5, hC, hbm⟩ := T.cls
  obtain ⟨hp, g, dr, t, os⟩ := s
  have k : ∀ b o, hp.get? b = some o → ((hp.push (kdv_tup [.int i tk])).push (excO C hp.objs.size)).get? b = some o := fun b o e => Heap.get?_push_of_some _ (Heap.get?_push_of_some _ e)
  have hget : ((hp.push (kdv_tup [.int i tk])).push (excO C hp.objs.size)).get? (hp.objs.size + 1) = some (excO C hp.objs.size) := by heap_get
  have hnx : K.lookup (hp.objs.size + 1) = none := by
    cases e : K.lookup (hp.objs.size + 1) with
    | none => rfl
    | some o =>
      have z : hp.get? (hp.objs.size + 1) = some o := X _ _ e
      exact absurd (Nat.lt_of_succ_lt (Heap.lt_size z)) (Nat.lt_irrefl _)
  refine call_own F.excBase_ValueError (fun X => refsVE_contains X bm hbm) (X _ _ hC) (looks_findIn X T.iC) (fun self => bind_fn X self T.tC) (by rw [sizeLine_eq]; exact (by decide : 1 ≤ 16777216)) ?_
  refine init_ok (s := ⟨(hp.push (kdv_tup [.int i tk])).push (excO C hp.objs.size), g, dr, t, os⟩) T hps hdb hpre hi hz (X.keeps k) (hlim.keeps k) (hg.keeps k) (by obtain ⟨mb, h1, h2⟩ := hb; exact ⟨mb, h1.keeps k, h2⟩) hget hnx ?_ fun h' tk' dx t1 ⟨k', hx, dn, dne, hns⟩ => ?_
  · show A.depth + 1 < recursionLimit
    exact hroom
  · have old : ∀ b o, hp.get? b = some o → h'.get? b = some o := fun b o e => k' b o (Nat.ne_of_lt (Nat.lt_succ_of_lt (Heap.lt_size e))) (k b o e)
    have z : hp.objs.size + 1 + 1 ≤ dx := by
      first
        | (simpa only [Heap.size_push] using dn)
        | exact dn
        | (have q := dn; rw [Heap.size_push, Heap.size_push] at q; exact q)
    exact ⟨rfl, hq h' tk' (hp.objs.size + 1) dx ⟨old, Nat.le_succ _, ⟨_, _, hx, rfl, rfl, rfl, rfl⟩, Nat.le_trans (Nat.le_trans (Nat.le_succ _) (Nat.le_succ _)) z, dne, hns⟩⟩
end
end XP
end PySem
namespace L2
open PySem PySem.Spec PyProof.Rows
theorem relO_own {pn : Str} {v : V} {v' : Value} (r : RelV v v') (f : Str) : RelO (List.lookup f [(pn, v)]) (if f = pn then some v' else none) := by
  by_cases hw : f = pn
  · subst hw
    rw [if_pos rfl]
    have q : List.lookup f [(f, v)] = some v := by simp [List.lookup]
    rw [q]
    exact r
  · rw [if_neg hw]
    have qw : (f == pn) = false := by simpa using hw
    have q2 : List.lookup f [(pn, v)] = none := by simp [List.lookup, qw]
    rw [q2]
    trivial
section
variable {X : Cx} {C fI : Addr} {cn pn pre : Str}
/-- C(e), e an int -/
def tMkI (C : Addr) (pn pre : Str) (ta : TA) : St → Hp → XK → Prop := fun σ H Q => ta σ H fun vs H1 => ∃ i : Int, vs = [.int i] ∧ i.natAbs.log2 < 1920 ∧ (Str.empty ++ pre ++ toString i).length ≤ sizeLine ∧ ∀ d, H1 d = none → Q (.ref C) (some d) (upd H1 d (.xd [(pn, .int i)]))
theorem pmk_I {a : Expr} {ta : TA} {p pos : Pos} {k : Nat} (T : PySem.XP.Txt X.prog X.K X.mg cn pn pre C fI) (hps : (pn == ("self" : Str)) = false) (hdb : (pn == ("__debug__" : Str)) = false) (hpre : pre.length ≤ 1000) (hr : Room k X.A) (ha : PA X [a] ta) (hg : Gl X cn) (hcd : (cn == ("__debug__" : Str)) = false)
    (he : starEach (a :: []) X.env = (false, eval a X.env) :: starEach [] X.env := by rfl) (hpl : (backTo pos (starEach [] X.env)).any (·.1) = false := by rfl) :
    PMk X (.Call (.Name cn p) [a] [] pos) (tMkI C pn pre ta) := by
  intro pins s σ H Q I h
  refine wpAny_Call_Name_kw (ld_glob I hg T.gC ?_ hcd)
  refine PySem.W.callWith_K (h₀ := X.base) I.ok.mod.kin T.kC (thn (ha.run pos pins s σ H _ I h) fun us s1 hh => ?_) he hpl
  obtain ⟨vs, H1, I1, r1, i, ev, hi, hz, q1⟩ := hh
  subst ev
  refine ⟨I1.kIn, ?_⟩
  cases r1 with
  | cons rv rn =>
    rename_i v' us'
    cases rn
    obtain ⟨tv, rfl⟩ := rv
    show wpAny _ _ (call (.ref C) [.int i tv]) _ _ _
    have hlim := I1.nolimit
    obtain ⟨mb, h1, h2⟩ := I1.mod.blt
    have hgl : s1.heap.Ns mainGlobals X.mg := I1.mod.glob.keeps I1.bk
    have hbl : ∃ mb, s1.heap.Ns builtinsNs mb ∧ mb "super" = bootBuiltins "super" := ⟨mb, h1.keeps I1.bk, h2 _ (by decide)⟩
    obtain ⟨hp, g, dr, tk, os⟩ := s1
    refine wpAny_call (PySem.XP.made_ok T hps hdb hpre hi hz I1.kIn hlim hgl hbl (by have := hr.dp; omega) fun h' tk' e d M => ?_)
    show MkP X pins σ Q (.ref e) ⟨h', g, dr, tk', os⟩
    obtain ⟨oe, fv, hoe, hc, hd, hdat, h1⟩ := M.obj
    have hns := M.ns
    obtain ⟨G', g1, g2⟩ := restrict h' fun b => decide (b ≠ e)
    have gk : ∀ b, b ≠ e → G'.get? b = h'.get? b := fun b hb => g1 b (decide_eq_true hb)
    have ge : G'.get? e = none := g2 e (by simp)
    have old : ∀ b o, hp.get? b = some o → G'.get? b = some o := fun b o q => (gk b (Nat.ne_of_lt (Nat.lt_of_lt_of_le (Heap.lt_size q) M.new))).trans (M.keep b o q)
    have rv : RelV (.int i) (.int i tv) := ⟨tv, rfl⟩
    have ob : ObjOk X.prog X.w (upd H1 d (.xd [(pn, .int i)])) G' d (.xd [(pn, .int i)]) :=
      ⟨_, hns.at (fun o q => (gk d M.dne).trans q), fun f => relO_own rv f⟩
    have J : Inv X pins σ (upd H1 d (.xd [(pn, .int i)])) ⟨G', g, dr, tk', os⟩ := I1.laid (t' := tk') old M.dbig ob
    refine ⟨e, oe, fv, ⟨G', g, dr, tk', os⟩, _, .ref C, some d, rfl, J, fun b o q => ?_, ge, hoe, ⟨hc, hd⟩, hdat, h1, ?_, rfl, I1.bare, raises_own T.exC T.tyC, q1 d (I1.hok.fresh M.dbig)⟩
    · by_cases hb : b = e
      · have q' : G'.get? b = some o := q
        rw [hb, ge] at q'; cases q'
      · exact (gk b hb).symm.trans q
    · rw [upd_ne (Ne.symm M.dne)]
      exact I1.hok.fresh M.new
/-- raise C(e) -/
def tRaiseI (C : Addr) (pn pre : Str) (W : WX) (ta : TA) : TS := fun _ σ H => tMkI C pn pre ta σ H fun cls d H' => W cls d σ H'
theorem ps_raiseI {a : Expr} {ta : TA} {W : WX} {p pos pos2 : Pos} {k : Nat} (hc : X.calm = true) (T : PySem.XP.Txt X.prog X.K X.mg cn pn pre C fI) (hps : (pn == ("self" : Str)) = false) (hdb : (pn == ("__debug__" : Str)) = false) (hpre : pre.length ≤ 1000) (hr : Room k X.A) (tk : Takes X W) (ha : PA X [a] ta) (hg : Gl X cn) (hcd : (cn == ("__debug__" : Str)) = false)
    (he : starEach (a :: []) X.env = (false, eval a X.env) :: starEach [] X.env := by rfl) (hpl : (backTo pos (starEach [] X.env)).any (·.1) = false := by rfl) :
    PS X (.Raise (some (.Call (.Name cn p) [a] [] pos)) none pos2) (tRaiseI C pn pre W ta) := ps_raise hc tk (pmk_I T hps hdb hpre hr ha hg hcd he hpl)
end
end L2
end
section
set_option Elab.async false
set_option linter.all false
set_option maxRecDepth 100000
/-! TW1: values as trees, how a tree lies in the abstract heap, what a frame's names hold -/
namespace TW
open PySem L2

/-- a value as a tree -/
abbrev D := PyData

/-- a thing that a name holds: a value that nothing changes any more, or a list or dict that is the name's own -/
inductive OT where
  | sh (d : D) | lst (xs : List D) | dic (kvs : List (Key × D))

def keyD : Key → D
  | .inl i => .int i
  | .inr x => .str x
def OT.frz : OT → D
  | .sh d => d
  | .lst xs => .list xs
  | .dic kvs => .dict (kvs.map fun p => (keyD p.1, p.2))

section
variable (K : PySem.W.Frag) (C : Hp)
mutual
def Rep : D → V → Prop
  | .none, v => v = .non
  | .bool b, v => v = .bl b
  | .int i, v => v = .int i
  | .str x, v => v = .str x
  | .tuple ds, v => ∃ a vs, v = .ref a ∧ SqT K C a vs ∧ RepL ds vs
  | .list ds, v => ∃ a vs, v = .ref a ∧ SqL K C a vs ∧ RepL ds vs
  | .dict kvs, v => ∃ a ws, v = .ref a ∧ C a = some (.dK ws) ∧ RepK kvs ws
def RepL : List D → List V → Prop
  | [], vs => vs = []
  | d :: ds, vs => ∃ v r, vs = v :: r ∧ Rep d v ∧ RepL ds r
def RepK : List (D × D) → List (Key × V) → Prop
  | [], ws => ws = []
  | (k, d) :: ds, ws => ∃ x v r, ws = (x, v) :: r ∧ k = keyD x ∧ Rep d v ∧ RepK ds r
end
end

/-- the frozen part may grow -/
def Le (C C' : Hp) : Prop := ∀ a o, C a = some o → C' a = some o
theorem Le.refl (C : Hp) : Le C C := fun _ _ h => h
theorem Le.trans {A B C : Hp} (h : Le A B) (g : Le B C) : Le A C := fun a o e => g a o (h a o e)

theorem SqL.le {K : PySem.W.Frag} {C C' : Hp} {a : Addr} {xs : List V} (h : Le C C') (q : SqL K C a xs) : SqL K C' a xs := by
  rcases q with (q | ⟨o, q⟩) | q
  · exact .inl (.inl (h _ _ q))
  · exact .inl (.inr ⟨o, h _ _ q⟩)
  · exact .inr q
theorem SqT.le {K : PySem.W.Frag} {C C' : Hp} {a : Addr} {xs : List V} (h : Le C C') (q : SqT K C a xs) : SqT K C' a xs := by
  rcases q with (q | ⟨o, q⟩) | q
  · exact .inl (.inl (h _ _ q))
  · exact .inl (.inr ⟨o, h _ _ q⟩)
  · exact .inr q

section
variable {K : PySem.W.Frag} {C C' : Hp}
mutual
theorem Rep.le (h : Le C C') : ∀ (d : D) (v : V), Rep K C d v → Rep K C' d v
  | .none, v, q => by simpa [Rep] using q
  | .bool b, v, q => by simpa [Rep] using q
  | .int i, v, q => by simpa [Rep] using q
  | .str x, v, q => by simpa [Rep] using q
  | .tuple ds, v, q => by
    simp only [Rep] at q ⊢
    obtain ⟨a, vs, e, s, r⟩ := q
    exact ⟨a, vs, e, SqT.le h s, RepL.le h ds vs r⟩
  | .list ds, v, q => by
    simp only [Rep] at q ⊢
    obtain ⟨a, vs, e, s, r⟩ := q
    exact ⟨a, vs, e, SqL.le h s, RepL.le h ds vs r⟩
  | .dict kvs, v, q => by
    simp only [Rep] at q ⊢
    obtain ⟨a, ws, e, s, r⟩ := q
    exact ⟨a, ws, e, h _ _ s, RepK.le h kvs ws r⟩
theorem RepL.le (h : Le C C') : ∀ (ds : List D) (vs : List V), RepL K C ds vs → RepL K C' ds vs
  | [], vs, q => by simpa [RepL] using q
  | d :: ds, vs, q => by
    simp only [RepL] at q ⊢
    obtain ⟨v, r, e, q1, q2⟩ := q
    exact ⟨v, r, e, Rep.le h d v q1, RepL.le h ds r q2⟩
theorem RepK.le (h : Le C C') : ∀ (ds : List (D × D)) (vs : List (Key × V)), RepK K C ds vs → RepK K C' ds vs
  | [], vs, q => by simpa [RepK] using q
  | (k, d) :: ds, vs, q => by
    simp only [RepK] at q ⊢
    obtain ⟨x, v, r, e, e2, q1, q2⟩ := q
    exact ⟨x, v, r, e, e2, Rep.le h d v q1, RepK.le h ds r q2⟩
end
end

/-! ### what a name holds -/
/-- t lies at v, its own objects at ψ -/
def Own (K : PySem.W.Frag) (C H : Hp) (ψ : List Addr) (v : V) : OT → Prop
  | .sh d => ψ = [] ∧ Rep K C d v
  | .lst ds => ∃ a vs, v = .ref a ∧ ψ = [a] ∧ H a = some (.lst vs) ∧ RepL K C ds vs
  | .dic kvs => ∃ a ws, v = .ref a ∧ ψ = [a] ∧ H a = some (.dK ws) ∧ RepK K C (kvs.map fun p => (keyD p.1, p.2)) ws

abbrev Env := List (Option OT)

/-- the frozen part C, the names' own objects φ by slot, the heap H, the slots σ: the names hold env; pin: slots that may not be stored anew -/
structure Sat (K : PySem.W.Frag) (pin : Nat → Option Addr) (C : Hp) (φ : Nat → List Addr) (σ : St) (H : Hp) (env : Env) : Prop where
  le : Le C H
  len : env.length = σ.length
  slot : ∀ i t, env[i]? = some (some t) → ∃ v, σ[i]? = some (some v) ∧ Own K C H (φ i) v t
  emp : ∀ i, (env[i]? = some none ∨ env[i]? = none) → φ i = []
  dis : ∀ i j a, a ∈ φ i → a ∈ φ j → i = j
  sep : ∀ i a, a ∈ φ i → C a = none ∧ ∃ o, H a = some o
  pin : ∀ i a, pin i = some a → σ[i]? = some (some (.ref a))

/-- from (C, F, H) to (C', F', H'): what is not F stays; what is new of C', F' was F or is new -/
structure Stp (C : Hp) (F : Addr → Prop) (H C' : Hp) (F' : Addr → Prop) (H' : Hp) : Prop where
  le : Le C C'
  keep : ∀ a o, H a = some o → ¬ F a → H' a = some o
  fr : ∀ a, F' a → F a ∨ H a = none
  cn : ∀ a, C' a ≠ none → C a ≠ none ∨ F a ∨ H a = none

def In (φ : Nat → List Addr) (a : Addr) : Prop := ∃ i, a ∈ φ i

theorem Stp.refl {C : Hp} {F : Addr → Prop} {H : Hp} : Stp C F H C F H := ⟨Le.refl _, fun _ _ h _ => h, fun _ h => .inl h, fun _ h => .inl h⟩
theorem Stp.trans {C F H C1 F1 H1 C2 F2 H2} (a : Stp C F H C1 F1 H1) (b : Stp C1 F1 H1 C2 F2 H2) : Stp C F H C2 F2 H2 := by
  have nn : ∀ x, H1 x = none → H x = none ∨ F x := fun x h => by
    by_cases hf : F x
    · exact .inr hf
    · cases e : H x with
      | none => exact .inl rfl
      | some o => rw [a.keep x o e hf] at h; cases h
  refine ⟨a.le.trans b.le, fun x o h nf => b.keep x o (a.keep x o h nf) fun f1 => ?_, fun x f2 => ?_, fun x c => ?_⟩
  · rcases a.fr x f1 with f | f
    · exact nf f
    · rw [h] at f; cases f
  · rcases b.fr x f2 with f | f
    · exact a.fr x f
    · rcases nn x f with h | h
      · exact .inr h
      · exact .inl h
  · rcases b.cn x c with c | f | f
    · exact a.cn x c
    · exact .inr (a.fr x f)
    · rcases nn x f with h | h
      · exact .inr (.inr h)
      · exact .inr (.inl h)
/-- fewer own objects at the start, more at the end -/
theorem Stp.mono {C F H C' F' H'} {G G' : Addr → Prop} (s : Stp C F H C' F' H') (h : ∀ a, F a → G a) (g : ∀ a, G' a → F' a) : Stp C G H C' G' H' :=
  ⟨s.le, fun a o e n => s.keep a o e fun f => n (h a f), fun a f => (s.fr a (g a f)).imp (h a) id, fun a c => (s.cn a c).imp id (Or.imp (h a) id)⟩
end TW
end
section
set_option Elab.async false
set_option linter.all false
set_option maxRecDepth 100000
/-! TW2: the small syntax, and what it means on trees: a weakest precondition, no heap in sight -/
namespace TW
open PySem L2

inductive Op2 where | add | sub | mul | fdiv | mod | pow | eq | ne | lt | le | gt | ge | isIn | notIn | is | isNot
  deriving DecidableEq, Repr
inductive Bi where | len | int | str | ord | repr | all | any | list | tuple | sorted
  deriving DecidableEq, Repr
inductive Ty where | int | str | bool | list | tuple | dict
  deriving DecidableEq, Repr
inductive Me where | split | join | index
  deriving DecidableEq, Repr
inductive Mu where | append | extend | pop | popAt | insert
  deriving DecidableEq, Repr
inductive ItK where | seq | rng1 | rng2 | enum | zip
  deriving DecidableEq, Repr
inductive Tg where | name (i : Nat) | tup (is : List Nat)
  deriving DecidableEq, Repr

inductive Ex where
  | var (i : Nat) | cst (d : D) | glo (x : Str)
  | op2 (o : Op2) (a b : Ex) | neg (a : Ex) | not (a : Ex) | and (a b : Ex) | or (a b : Ex) | ife (c a b : Ex)
  | chain (o o' : Op2) (a b c : Ex)
  | idx (a b : Ex) | slc (a lo hi : Ex) | slcL (a lo : Ex) | slcH (a hi : Ex)
  | tup (es : List Ex) | lst (es : List Ex)
  | call (f : Str) (es : List Ex) | bi (b : Bi) (es : List Ex) | isi (a : Ex) (t : Ty) | me (m : Me) (o : Ex) (es : List Ex)
  | mu (m : Mu) (i : Nat) (es : List Ex)
  | it (k : ItK) (es : List Ex)
  | lc (elt : Ex) (tg : Tg) (it : Ex) (ifs : List Ex) (own : List Nat)
  | fmt (w : Nat) (a : Ex) | fst (es : List Ex)

/-! ### by values -/
def isNon : D → Bool
  | .none => true
  | _ => false
def isBool (b : Bool) : D → Bool
  | .bool c => b == c
  | _ => false
def strIn (x y : Str) : Bool := !(Builtin.Str.occurrences y x 0 y.length 1).isEmpty
abbrev KO := OT → Prop
def op2I (o : Op2) (i j : Int) (Q : KO) : Prop :=
  match o with
  | .add => Q (.sh (.int (i + j)))
  | .sub => Q (.sh (.int (i - j)))
  | .mul => CMul i j ∧ Q (.sh (.int (i * j)))
  | .fdiv => CDiv i j ∧ Q (.sh (.int (i / j)))
  | .mod => 0 < j ∧ Q (.sh (.int (i % j)))
  | .pow => CPow i j ∧ Q (.sh (.int (i ^ j.toNat)))
  | .lt => Q (.sh (.bool (decide (i < j))))
  | .le => Q (.sh (.bool (decide (i ≤ j))))
  | .gt => Q (.sh (.bool (decide (j < i))))
  | .ge => Q (.sh (.bool (decide (j ≤ i))))
  | _ => False
def opAdd : D → D → KO → Prop
  | .int i, .int j, Q => Q (.sh (.int (i + j)))
  | .str x, .str y, Q => x.length + y.length ≤ sizeLine ∧ Q (.sh (.str (x ++ y)))
  | .list xs, .list ys, Q => xs.length + ys.length ≤ sizeLine ∧ Q (.lst (xs ++ ys))
  | .tuple xs, .tuple ys, Q => xs.length + ys.length ≤ sizeLine ∧ Q (.sh (.tuple (xs ++ ys)))
  | _, _, _ => False
def opIn : D → D → (Bool → Prop) → Prop
  | .str x, .str y, Q => Q (strIn x y)
  | d, .list ds, Q => SeqAt.shaped d = true ∧ SeqAt.shaped (.list ds) = true ∧ Q (ds.any fun z => PyData.eqv z d)
  | d, .tuple ds, Q => SeqAt.shaped d = true ∧ SeqAt.shaped (.tuple ds) = true ∧ Q (ds.any fun z => PyData.eqv z d)
  | _, _, _ => False
def opIs : D → D → (Bool → Prop) → Prop
  | d, .none, Q => Q (isNon d)
  | d, .bool b, Q => Q (isBool b d)
  | _, _, _ => False
def op2 (o : Op2) (d e : D) (Q : KO) : Prop :=
  match o with
  | .add => opAdd d e Q
  | .eq => SeqAt.shaped d = true ∧ SeqAt.shaped e = true ∧ Q (.sh (.bool (PyData.eqv d e)))
  | .ne => SeqAt.shaped d = true ∧ SeqAt.shaped e = true ∧ Q (.sh (.bool (!PyData.eqv d e)))
  | .isIn => opIn d e fun b => Q (.sh (.bool b))
  | .notIn => opIn d e fun b => Q (.sh (.bool (!b)))
  | .is => opIs d e fun b => Q (.sh (.bool b))
  | .isNot => opIs d e fun b => Q (.sh (.bool (!b)))
  | o => match d, e with
    | .int i, .int j => op2I o i j Q
    | _, _ => False
def idxS : D → D → (D → Prop) → Prop
  | .list ds, .int i, Q => ∃ d, atI ds i = some d ∧ Q d
  | .tuple ds, .int i, Q => ∃ d, atI ds i = some d ∧ Q d
  | .str x, .int i, Q => x.length ≤ sizeLine ∧ ∃ c, atI x.cps.toList i = some c ∧ Q (.str ⟨#[c]⟩)
  | _, _, _ => False
def cutD (ds : List D) (lo hi : Option Int) : List D := (ds.drop (HT.sIx ds.length 0 lo)).take (HT.sIx ds.length ds.length hi - HT.sIx ds.length 0 lo)
def slcI (d : D) (lo hi : Option Int) (Q : KO) : Prop :=
  match d with
  | .list ds => Q (.lst (cutD ds lo hi))
  | .tuple ds => Q (.sh (.tuple (cutD ds lo hi)))
  | .str x => x.length ≤ sizeLine ∧ Q (.sh (.str (cutS x lo hi)))
  | _ => False
def boolsD : List D → Option (List Bool)
  | [] => some []
  | .bool b :: ds => (boolsD ds).map (b :: ·)
  | _ => none
def strsD : List D → Option (List Str)
  | [] => some []
  | .str b :: ds => (strsD ds).map (b :: ·)
  | _ => none
def lenS (Q : KO) : D → Prop
  | .list ds => Q (.sh (.int ds.length))
  | .tuple ds => Q (.sh (.int ds.length))
  | .str x => x.length ≤ sizeLine ∧ Q (.sh (.int x.length))
  | _ => False
def intS (Q : KO) : D → Prop
  | .int i => Q (.sh (.int i))
  | .str x => x.length ≤ 640 ∧ ∃ n, intText? x = some n ∧ Q (.sh (.int n))
  | _ => False
def strS (Q : KO) : D → Prop
  | .int i => i.natAbs.log2 < 1920 ∧ Q (.sh (.str (toString i)))
  | .str x => Q (.sh (.str x))
  | _ => False
def ordS (Q : KO) : D → Prop
  | .str x => x.length = 1 ∧ Q (.sh (.int (x.cps.getD 0 0 : Nat)))
  | _ => False
def reprS (Q : KO) : D → Prop
  | .int i => i.natAbs.log2 < 1920 ∧ Q (.sh (.str (toString i)))
  | .str x => (reprText x).length ≤ sizeLine ∧ Q (.sh (.str (reprText x)))
  | _ => False
def allS (Q : KO) : D → Prop
  | .list ds => ∃ bs, boolsD ds = some bs ∧ Q (.sh (.bool (bs.all id)))
  | _ => False
def anyS (Q : KO) : D → Prop
  | .list ds => ∃ bs, boolsD ds = some bs ∧ Q (.sh (.bool (bs.any id)))
  | _ => False
def listS (Q : KO) : D → Prop
  | .list ds => Q (.lst ds)
  | .tuple ds => Q (.lst ds)
  | _ => False
def tupleS (Q : KO) : D → Prop
  | .list ds => Q (.sh (.tuple ds))
  | .tuple ds => Q (.sh (.tuple ds))
  | _ => False
def bi1 (b : Bi) (d : D) (Q : KO) : Prop :=
  match b with
  | .len => lenS Q d
  | .int => intS Q d
  | .str => strS Q d
  | .ord => ordS Q d
  | .repr => reprS Q d
  | .all => allS Q d
  | .any => anyS Q d
  | .list => listS Q d
  | .tuple => tupleS Q d
  | .sorted => False
def biS (b : Bi) (ds : List D) (Q : KO) : Prop :=
  match ds with
  | [d] => bi1 b d Q
  | _ => False
def isiS : Ty → D → Bool
  | .int, .int _ => true
  | .int, .bool _ => true
  | .bool, .bool _ => true
  | .str, .str _ => true
  | .list, .list _ => true
  | .tuple, .tuple _ => true
  | .dict, .dict _ => true
  | _, _ => false
def splitS (Q : KO) : D → D → Prop
  | .str x, .str y => (y.length == 0) = false ∧ x.length + 2 ≤ sizeLine ∧ Q (.lst ((Txt.split x y).map .str))
  | _, _ => False
def joinS (Q : KO) : D → D → Prop
  | .str x, .list ds => ∃ ys, strsD ds = some ys ∧ (ys.map (·.length)).sum + ys.length * x.length ≤ 16777216 ∧ Q (.sh (.str (Txt.join x ys)))
  | _, _ => False
def indexS (Q : KO) : D → D → Prop
  | .str x, .str y => ∃ i rest, Builtin.Str.occurrences x y 0 x.length 1 = i :: rest ∧ Q (.sh (.int (i : Nat)))
  | .list ds, d => SeqAt.shaped (.list ds) = true ∧ SeqAt.shaped d = true ∧ ∃ (j : Nat) (z : D), ds[j]? = some z ∧ PyData.eqv z d = true ∧ (∀ (m : Nat) (z' : D), m < j → ds[m]? = some z' → PyData.eqv z' d = false) ∧ Q (.sh (.int (j : Nat)))
  | _, _ => False
/-- what a method may be called on -/
def meT : Me → D → Bool
  | _, .str _ => true
  | .index, .list _ => true
  | _, _ => false
def me1 (m : Me) (d e : D) (Q : KO) : Prop :=
  match m with
  | .split => splitS Q d e
  | .join => joinS Q d e
  | .index => indexS Q d e
def meS (m : Me) (d : D) (ds : List D) (Q : KO) : Prop :=
  match ds with
  | [e] => me1 m d e Q
  | _ => False
abbrev KU := List D → D → Prop
def appendS (xs : List D) (Q : KU) : List D → Prop
  | [d] => xs.length < sizeLine ∧ Q (xs ++ [d]) .none
  | _ => False
def popS (xs : List D) (Q : KU) : List D → Prop
  | [] => ∃ y, xs[xs.length - 1]? = some y ∧ Q xs.dropLast y
  | _ => False
def popAtS (xs : List D) (Q : KU) : List D → Prop
  | [.int i] => ∃ k y, -(2 ^ 63) ≤ i ∧ i < 2 ^ 63 ∧ seqIndex? i xs.length = some k ∧ xs[k]? = some y ∧ Q (xs.eraseIdx k) y
  | _ => False
def insertS (xs : List D) (Q : KU) : List D → Prop
  | [.int i, d] => xs.length < sizeLine ∧ 0 ≤ i ∧ i < 2 ^ 63 ∧ Q (xs.take i.toNat ++ [d] ++ xs.drop i.toNat) .none
  | _ => False
def muL (m : Mu) (xs : List D) (ds : List D) (Q : KU) : Prop :=
  match m with
  | .append => appendS xs Q ds
  | .pop => popS xs Q ds
  | .popAt => popAtS xs Q ds
  | .extend => False
  | .insert => insertS xs Q ds
def muS (m : Mu) (t : OT) (ds : List D) (Q : OT → D → Prop) : Prop :=
  match t with
  | .lst xs => muL m xs ds fun ys d => Q (.lst ys) d
  | _ => False
/-- {i:04d} -/
def fmtZ (w : Nat) (i : Int) : Str := ⟨(List.replicate (w - (Nat.toDigits 10 i.natAbs).length) 48).toArray⟩ ++ Str.ofString (toString i)
/-- the items of what is walked -/
def chars (x : Str) : List D := x.cps.toList.map fun c => .str ⟨#[c]⟩
def rangeD (lo : Int) (n : Nat) : List D := (List.range n).map fun i => .int (lo + (i : Nat))
def seqS (Q : List D → Prop) : D → Prop
  | .list ds => Q ds
  | .tuple ds => Q ds
  | .str x => Q (chars x)
  | _ => False
def itS (k : ItK) (ds : List D) (Q : List D → Prop) : Prop :=
  match k with
  | .seq => match ds with
    | [d] => seqS Q d
    | _ => False
  | .rng1 => match ds with
    | [.int j] => -(2 ^ 62) ≤ j ∧ j < 2 ^ 62 ∧ Q (rangeD 0 j.toNat)
    | _ => False
  | .rng2 => match ds with
    | [.int i, .int j] => (-(2 ^ 62) ≤ i ∧ i < 2 ^ 62 ∧ -(2 ^ 62) ≤ j ∧ j < 2 ^ 62) ∧ Q (rangeD i (j - i).toNat)
    | _ => False
  | .enum => match ds with
    | [.list ds] => Q ((List.range ds.length).zipWith (fun i d => .tuple [.int (i : Nat), d]) ds)
    | _ => False
  | .zip => False

/-! ### names -/
structure Con where
  /-- which parameters are changed in place -/
  io : List Bool
  run : List OT → (OT → List OT → Prop) → Prop
structure Ctx where
  io : List Nat
  fn : Str → Option Con
  gl : Str → Option D

inductive Opd where
  | va (d : D) | pl (i : Nat)
def Opd.res (env : Env) : Opd → Option D
  | .va d => some d
  | .pl i => match env[i]? with
    | some (some t) => some t.frz
    | _ => none
def resL (env : Env) : List Opd → Option (List D)
  | [] => some []
  | o :: os => match o.res env, resL env os with
    | some d, some ds => some (d :: ds)
    | _, _ => none
def isOwn : OT → Bool
  | .sh _ => false
  | _ => true
/-- the arguments of a call: a changed parameter takes the name's own thing along -/
def takeArgs (io : List Nat) : List Bool → List Opd → Env → Option (List OT × Env)
  | [], [], env => some ([], env)
  | true :: bs, .pl i :: os, env => match env[i]? with
    | some (some t) => if isOwn t then (takeArgs io bs os (env.set i none)).map fun p => (t :: p.1, p.2) else none
    | _ => none
  | false :: bs, .va d :: os, env => (takeArgs io bs os env).map fun p => (.sh d :: p.1, p.2)
  | false :: bs, .pl i :: os, env => match env[i]? with
    | some (some t) => if isOwn t then (if i ∈ io then none else (takeArgs io bs os (env.set i (some (.sh t.frz)))).map fun p => (.sh t.frz :: p.1, p.2))
      else (takeArgs io bs os env).map fun p => (t :: p.1, p.2)
    | _ => none
  | _, _, _ => none
/-- the names whose own things go along -/
def ioPl : List Bool → List Opd → List Nat
  | true :: bs, .pl i :: os => i :: ioPl bs os
  | _ :: bs, _ :: os => ioPl bs os
  | _, _ => []
def putBack : List Bool → List Opd → List OT → Env → Env
  | true :: bs, .pl i :: os, t :: ts, env => putBack bs os ts (env.set i (some t))
  | false :: bs, _ :: os, ts, env => putBack bs os ts env
  | _, _, _, env => env

abbrev KE := OT → Env → Prop
/-- a name, as an operand, is looked at when the operator runs -/
def opd (e : Ex) (w : KE → Prop) (env : Env) (k : Opd → Env → Prop) : Prop :=
  match e with
  | .var i => (∃ t, env[i]? = some (some t)) ∧ k (.pl i) env
  | _ => w fun r e1 => k (.va r.frz) e1
def tst (w : KE → Prop) (k : Bool → Env → Prop) : Prop := w fun r e1 => ∃ c, r = .sh (.bool c) ∧ k c e1
def wipeE (env : Env) : List Nat → Env
  | [] => env
  | v :: vs => (wipeE env vs).set v none
/-- behind a block: its own names as they were -/
def unwipe (env e1 : Env) : List Nat → Env
  | [] => e1
  | v :: vs => match env[v]? with
    | some o => (unwipe env e1 vs).set v o
    | none => unwipe env e1 vs
def tgt (io : List Nat) : Tg → D → Env → (Env → Prop) → Prop
  | .name i, d, env, k => i ∉ io ∧ k (env.set i (some (.sh d)))
  | .tup is, .tuple ds, env, k => is.length = ds.length ∧ (∀ i ∈ is, i ∉ io) ∧ k ((is.zip ds).foldl (fun e p => e.set p.1 (some (.sh p.2))) env)
  | _, _, _, _ => False
def lcGo (step : D → Env → (Option D → Env → Prop) → Prop) : List D → List D → Env → (List D → Env → Prop) → Prop
  | [], acc, env, k => k acc env
  | d :: ds, acc, env, k => step d env fun o e1 => match o with
    | some r => acc.length < sizeLine ∧ lcGo step ds (acc ++ [r]) e1 k
    | none => lcGo step ds acc e1 k

mutual
def wpE (Γ : Ctx) : Ex → Env → KE → Prop
  | .var i, env, Q => ∃ t, env[i]? = some (some t) ∧ (match t with
    | .sh d => Q (.sh d) env
    | t => i ∉ Γ.io ∧ Q (.sh t.frz) (env.set i (some (.sh t.frz))))
  | .cst d, env, Q => Q (.sh d) env
  | .glo x, env, Q => ∃ d, Γ.gl x = some d ∧ Q (.sh d) env
  | .op2 o a b, env, Q => opd a (wpE Γ a env) env fun oa e1 => opd b (wpE Γ b e1) e1 fun ob e2 =>
    ∃ da db, oa.res e2 = some da ∧ ob.res e2 = some db ∧ op2 o da db fun r => Q r e2
  | .neg a, env, Q => wpE Γ a env fun r e1 => ∃ i, r = .sh (.int i) ∧ Q (.sh (.int (-i))) e1
  | .not a, env, Q => tst (wpE Γ a env) fun c e1 => Q (.sh (.bool (!c))) e1
  | .and a b, env, Q => tst (wpE Γ a env) fun c e1 => if c = true then wpE Γ b e1 Q else Q (.sh (.bool false)) e1
  | .or a b, env, Q => tst (wpE Γ a env) fun c e1 => if c = true then Q (.sh (.bool true)) e1 else wpE Γ b e1 Q
  | .ife c a b, env, Q => tst (wpE Γ c env) fun c e1 => if c = true then wpE Γ a e1 Q else wpE Γ b e1 Q
  | .chain o o' a b c, env, Q => opd a (wpE Γ a env) env fun oa e1 => opd b (wpE Γ b e1) e1 fun ob e2 =>
    ∃ da db, oa.res e2 = some da ∧ ob.res e2 = some db ∧ op2 o da db fun r => ∃ k, r = .sh (.bool k) ∧
      if k = true then opd c (wpE Γ c e2) e2 fun oc e3 => ∃ db' dc, ob.res e3 = some db' ∧ oc.res e3 = some dc ∧ op2 o' db' dc fun r => Q r e3
      else Q (.sh (.bool false)) e2
  | .idx a b, env, Q => opd a (wpE Γ a env) env fun oa e1 => opd b (wpE Γ b e1) e1 fun ob e2 =>
    ∃ da db, oa.res e2 = some da ∧ ob.res e2 = some db ∧ idxS da db fun d => Q (.sh d) e2
  | .slc a l h, env, Q => opd a (wpE Γ a env) env fun oa e1 => wpE Γ l e1 fun rl e2 => ∃ lo, rl = .sh (.int lo) ∧ wpE Γ h e2 fun rh e3 => ∃ hi, rh = .sh (.int hi) ∧
    ∃ da, oa.res e3 = some da ∧ slcI da (some lo) (some hi) fun r => Q r e3
  | .slcL a l, env, Q => opd a (wpE Γ a env) env fun oa e1 => wpE Γ l e1 fun rl e2 => ∃ lo, rl = .sh (.int lo) ∧
    ∃ da, oa.res e2 = some da ∧ slcI da (some lo) none fun r => Q r e2
  | .slcH a h, env, Q => opd a (wpE Γ a env) env fun oa e1 => wpE Γ h e1 fun rl e2 => ∃ hi, rl = .sh (.int hi) ∧
    ∃ da, oa.res e2 = some da ∧ slcI da none (some hi) fun r => Q r e2
  | .tup es, env, Q => wpVs Γ es env fun ds e1 => ds.length ≤ sizeLine ∧ Q (.sh (.tuple ds)) e1
  | .lst es, env, Q => wpVs Γ es env fun ds e1 => ds.length ≤ sizeLine ∧ Q (.lst ds) e1
  | .call f es, env, Q => ∃ con, Γ.fn f = some con ∧ wpOs Γ es env fun os e1 => ∃ args e2, (ioPl con.io os).Nodup ∧ takeArgs Γ.io con.io os e1 = some (args, e2) ∧
    con.run args fun r outs => Q r (putBack con.io os outs e2)
  | .bi b es, env, Q => wpOs Γ es env fun os e1 => ∃ ds, resL e1 os = some ds ∧ biS b ds fun r => Q r e1
  | .isi a t, env, Q => opd a (wpE Γ a env) env fun oa e1 => ∃ d, oa.res e1 = some d ∧ Q (.sh (.bool (isiS t d))) e1
  | .me m o es, env, Q => opd o (wpE Γ o env) env fun oo e1 => (∃ x, oo.res e1 = some x ∧ meT m x = true) ∧ wpOs Γ es e1 fun os e2 => ∃ d ds, oo.res e2 = some d ∧ resL e2 os = some ds ∧ meS m d ds fun r => Q r e2
  | .mu m i es, env, Q => (∃ xs, env[i]? = some (some (.lst xs))) ∧ wpVs Γ es env fun ds e1 => ∃ t, e1[i]? = some (some t) ∧ muS m t ds fun t' d => Q (.sh d) (e1.set i (some t'))
  | .it _ _, _, _ => False
  | .lc elt tg it ifs own, env, Q => (∀ i ∈ own, i ∉ Γ.io) ∧ wpI Γ it env fun items e1 =>
    lcGo (fun d e k => tgt Γ.io tg d (wipeE e own) fun e2 => wpTs Γ ifs e2 fun b e3 => if b = true then wpE Γ elt e3 fun r e4 => k (some r.frz) e4 else k none e3) items [] e1 fun acc e2 => Q (.lst acc) (unwipe e1 e2 own)
  | .fmt w a, env, Q => wpE Γ a env fun r e1 => ∃ i, r = .sh (.int i) ∧ 0 ≤ i ∧ i < 10000 ∧ Q (.sh (.str (fmtZ w i))) e1
  | .fst es, env, Q => wpJ Γ es Str.empty env fun x e1 => Q (.sh (.str x)) e1
def wpVs (Γ : Ctx) : List Ex → Env → (List D → Env → Prop) → Prop
  | [], env, k => k [] env
  | e :: es, env, k => wpE Γ e env fun r e1 => wpVs Γ es e1 fun ds e2 => k (r.frz :: ds) e2
def wpJ (Γ : Ctx) : List Ex → Str → Env → (Str → Env → Prop) → Prop
  | [], acc, env, k => k acc env
  | e :: es, acc, env, k => wpE Γ e env fun r e1 => ∃ y, r = .sh (.str y) ∧ acc.length + y.length ≤ sizeLine ∧ wpJ Γ es (acc ++ y) e1 k
def wpOs (Γ : Ctx) : List Ex → Env → (List Opd → Env → Prop) → Prop
  | [], env, k => k [] env
  | e :: es, env, k => opd e (wpE Γ e env) env fun o e1 => wpOs Γ es e1 fun os e2 => k (o :: os) e2
def wpTs (Γ : Ctx) : List Ex → Env → (Bool → Env → Prop) → Prop
  | [], env, k => k true env
  | e :: es, env, k => tst (wpE Γ e env) fun c e1 => if c = true then wpTs Γ es e1 k else k false e1
def wpI (Γ : Ctx) : Ex → Env → (List D → Env → Prop) → Prop
  | .it x es, env, k => wpVs Γ es env fun ds e1 => itS x ds fun items => k items e1
  | _, _, _ => False
end

/-! ### statements -/
inductive Sm where
  | skip | seq (a b : Sm) | asg (i : Nat) (e : Ex) | unp (is : List Nat) (e : Ex) | par (i j : Nat) (a b : Ex)
  | seti (i : Nat) (k e : Ex) | aug (i : Nat) (o : Op2) (e : Ex) | exp (e : Ex) | ret (e : Ex) | retN
  | ife (c : Ex) (a b : Sm) | for (tg : Tg) (it : Ex) (body : Sm) | whl (c : Ex) (body : Sm) | brk | cnt | rai (c : Str) (e : Ex) | bad
structure EndE where
  nx : Env → Prop
  rt : KE
  bk : Env → Prop := fun _ => False
  ct : Env → Prop := fun _ => False
  /-- the classes that may be raised here, each with a number -/
  ex : Str → Option (Int → Env → Prop) := fun _ => none
def forGo (step : D → Env → (Env → Prop) → Prop) : List D → Env → (Env → Prop) → Prop
  | [], env, k => k env
  | d :: ds, env, k => step d env fun e1 => forGo step ds e1 k
def whlGo (c : Env → (Bool → Env → Prop) → Prop) (b : Env → (Env → Prop) → Prop) : Nat → Env → (Env → Prop) → Prop
  | 0, _, _ => False
  | n + 1, env, k => c env fun t e1 => if t = true then b e1 fun e2 => whlGo c b n e2 k else k e1
def retE (Γ : Ctx) (e : Ex) (env : Env) (Q : KE) : Prop :=
  match e with
  | .var i => ∃ t, env[i]? = some (some t) ∧ (i ∉ Γ.io ∨ isOwn t = false) ∧ Q t (if isOwn t then env.set i none else env)
  | e => wpE Γ e env Q
def augS : Op2 → D → D → (D → Prop) → Prop
  | .add, .int i, .int j, Q => Q (.int (i + j))
  | .sub, .int i, .int j, Q => Q (.int (i - j))
  | .add, .str x, .str y, Q => x.length + y.length ≤ sizeLine ∧ Q (.str (x ++ y))
  | _, _, _, _ => False
def setiS : OT → D → D → (OT → Prop) → Prop
  | .lst xs, .int i, d, Q => ∃ j, ixN xs.length i = some j ∧ Q (.lst (xs.set j d))
  | _, _, _, _ => False
def wpS (Γ : Ctx) : Sm → Env → EndE → Prop
  | .skip, env, D => D.nx env
  | .seq a b, env, D => wpS Γ a env { D with nx := fun e1 => wpS Γ b e1 D }
  | .asg i e, env, D => i ∉ Γ.io ∧ wpE Γ e env fun r e1 => D.nx (e1.set i (some r))
  | .unp is e, env, D => wpE Γ e env fun r e1 => tgt Γ.io (.tup is) r.frz e1 D.nx
  | .par i j a b, env, D => i ∉ Γ.io ∧ j ∉ Γ.io ∧ i ≠ j ∧ wpE Γ a env fun r e1 => wpE Γ b e1 fun t e2 => D.nx ((e2.set i (some r)).set j (some t))
  | .seti i k e, env, D => wpE Γ e env fun r e1 => (∃ t, e1[i]? = some (some t)) ∧ wpE Γ k e1 fun ik e2 => ∃ t, e2[i]? = some (some t) ∧ setiS t ik.frz r.frz fun t' => D.nx (e2.set i (some t'))
  | .aug i o e, env, D => i ∉ Γ.io ∧ (∃ d, env[i]? = some (some (.sh d)) ∧ wpE Γ e env fun r e1 => augS o d r.frz fun t => D.nx (e1.set i (some (.sh t))))
  | .exp e, env, D => wpE Γ e env fun _ e1 => D.nx e1
  | .ret e, env, D => retE Γ e env D.rt
  | .retN, env, D => D.rt (.sh .none) env
  | .ife c a b, env, D => tst (wpE Γ c env) fun t e1 => if t = true then wpS Γ a e1 D else wpS Γ b e1 D
  | .for tg it body, env, D => wpI Γ it env fun items e1 => forGo (fun d e k => tgt Γ.io tg d e fun e2 => wpS Γ body e2 { D with nx := k, ct := k, bk := D.nx }) items e1 D.nx
  | .whl c body, env, D => ∃ n, whlGo (fun e k => tst (wpE Γ c e) k) (fun e k => wpS Γ body e { D with nx := k, ct := k, bk := D.nx }) n env D.nx
  | .brk, env, D => D.bk env
  | .cnt, env, D => D.ct env
  | .rai c e, env, D => ∃ k, D.ex c = some k ∧ wpVs Γ [e] env fun ds e1 => ∃ i, ds = [.int i] ∧ 0 ≤ i ∧ i < 10000 ∧ k i e1
  | .bad, _, _ => False

structure FDef where
  io : List Bool
  n : Nat
  body : Sm
def ioIx : Nat → List Bool → List Nat
  | _, [] => []
  | i, true :: bs => i :: ioIx (i + 1) bs
  | i, false :: bs => ioIx (i + 1) bs
def outsAt (env : Env) : List Nat → Option (List OT)
  | [] => some []
  | i :: is => match env[i]?, outsAt env is with
    | some (some t), some ts => some (t :: ts)
    | _, _ => none
def argsOk : List Bool → List OT → Prop
  | [], [] => True
  | b :: bs, t :: ts => isOwn t = b ∧ argsOk bs ts
  | _, _ => False
def wpF (Γ : Ctx) (f : FDef) (args : List OT) (Q : OT → List OT → Prop) : Prop :=
  argsOk f.io args ∧
  wpS { Γ with io := ioIx 0 f.io } f.body (args.map some ++ List.replicate (f.n - args.length) none)
    { nx := fun e => ∃ outs, outsAt e (ioIx 0 f.io) = some outs ∧ Q (.sh .none) outs, rt := fun r e => ∃ outs, outsAt e (ioIx 0 f.io) = some outs ∧ Q r outs }
end TW
end
section
set_option Elab.async false
set_option linter.all false
set_option maxRecDepth 100000
set_option maxHeartbeats 1000000
/-! TW3: the operators by values, over the hand layer's rules -/
namespace TW
open PySem L2

section
variable {K : PySem.W.Frag} {C C' H H' : Hp}

/-- d can be read at v (the top may be a name's own) -/
def Peek (K : PySem.W.Frag) (C H : Hp) : D → V → Prop
  | .list ds, v => ∃ a vs, v = .ref a ∧ SqL K H a vs ∧ RepL K C ds vs
  | .dict kvs, v => ∃ a ws, v = .ref a ∧ H a = some (.dK ws) ∧ RepK K C kvs ws
  | d, v => Rep K C d v
theorem Rep.peek (h : Le C H) : ∀ {d : D} {v : V}, Rep K C d v → Peek K C H d v
  | .none, _, q => q
  | .bool _, _, q => q
  | .int _, _, q => q
  | .str _, _, q => q
  | .tuple _, _, q => q
  | .list ds, v, q => by
    simp only [Rep] at q
    obtain ⟨a, vs, e, s, r⟩ := q
    exact ⟨a, vs, e, SqL.le h s, r⟩
  | .dict ds, v, q => by
    simp only [Rep] at q
    obtain ⟨a, vs, e, s, r⟩ := q
    exact ⟨a, vs, e, h _ _ s, r⟩
theorem Own.peek (h : Le C H) {ψ : List Addr} {v : V} : ∀ {t : OT}, Own K C H ψ v t → Peek K C H t.frz v
  | .sh d, q => Rep.peek h q.2
  | .lst ds, ⟨a, vs, e, _, q, r⟩ => ⟨a, vs, e, SqL.of q, r⟩
  | .dic ds, ⟨a, ws, e, _, q, r⟩ => ⟨a, ws, e, q, r⟩

theorem RepL.length : ∀ {ds : List D} {vs : List V}, RepL K C ds vs → vs.length = ds.length
  | [], vs, q => by simp only [RepL] at q; subst q; rfl
  | d :: ds, vs, q => by
    simp only [RepL] at q
    obtain ⟨v, r, e, _, q⟩ := q
    subst e
    simp [RepL.length q]
theorem RepL.get : ∀ {ds : List D} {vs : List V} {i : Nat} {d : D}, RepL K C ds vs → ds[i]? = some d → ∃ v, vs[i]? = some v ∧ Rep K C d v
  | [], vs, i, d, q, e => by simp at e
  | d' :: ds, vs, 0, d, q, e => by
    simp only [RepL] at q
    obtain ⟨v, r, e1, h, q⟩ := q
    simp at e
    subst e1 e
    exact ⟨v, rfl, h⟩
  | d' :: ds, vs, i + 1, d, q, e => by
    simp only [RepL] at q
    obtain ⟨v, r, e1, h, q⟩ := q
    subst e1
    obtain ⟨w, h1, h2⟩ := RepL.get (i := i) (d := d) q (by simpa using e)
    exact ⟨w, by simpa using h1, h2⟩
theorem RepL.append : ∀ {ds es : List D} {vs ws : List V}, RepL K C ds vs → RepL K C es ws → RepL K C (ds ++ es) (vs ++ ws)
  | [], es, vs, ws, q, r => by simp only [RepL] at q; subst q; exact r
  | d :: ds, es, vs, ws, q, r => by
    simp only [RepL] at q
    obtain ⟨v, t, e, h, q⟩ := q
    subst e
    simp only [List.cons_append, RepL]
    exact ⟨v, t ++ ws, rfl, h, RepL.append q r⟩
theorem RepL.one {d : D} {v : V} (h : Rep K C d v) : RepL K C [d] [v] := by simp only [RepL]; exact ⟨v, [], rfl, h, rfl⟩
theorem RepL.take : ∀ {ds : List D} {vs : List V} (n : Nat), RepL K C ds vs → RepL K C (ds.take n) (vs.take n)
  | _, _, 0, q => by simp [RepL]
  | [], vs, n + 1, q => by simp only [RepL] at q; subst q; simp [RepL]
  | d :: ds, vs, n + 1, q => by
    simp only [RepL] at q
    obtain ⟨v, t, e, h, q⟩ := q
    subst e
    simp only [List.take_succ_cons, RepL]
    exact ⟨v, _, rfl, h, RepL.take n q⟩
theorem RepL.drop : ∀ {ds : List D} {vs : List V} (n : Nat), RepL K C ds vs → RepL K C (ds.drop n) (vs.drop n)
  | _, _, 0, q => q
  | [], vs, n + 1, q => by simp only [RepL] at q; subst q; simp [RepL]
  | d :: ds, vs, n + 1, q => by
    simp only [RepL] at q
    obtain ⟨v, t, e, h, q⟩ := q
    subst e
    simp only [List.drop_succ_cons]
    exact RepL.drop n q
theorem RepL.set : ∀ {ds : List D} {vs : List V} {d : D} {v : V} (i : Nat), Rep K C d v → RepL K C ds vs → RepL K C (ds.set i d) (vs.set i v)
  | [], vs, d, v, i, h, q => by simp only [RepL] at q; subst q; simp [RepL]
  | d' :: ds, vs, d, v, 0, h, q => by
    simp only [RepL] at q
    obtain ⟨v', t, e, h', q⟩ := q
    subst e
    simp only [List.set_cons_zero, RepL]
    exact ⟨v, t, rfl, h, q⟩
  | d' :: ds, vs, d, v, i + 1, h, q => by
    simp only [RepL] at q
    obtain ⟨v', t, e, h', q⟩ := q
    subst e
    simp only [List.set_cons_succ, RepL]
    exact ⟨v', _, rfl, h', RepL.set i h q⟩
theorem RepL.eraseIdx : ∀ {ds : List D} {vs : List V} (i : Nat), RepL K C ds vs → RepL K C (ds.eraseIdx i) (vs.eraseIdx i)
  | [], vs, i, q => by simp only [RepL] at q; subst q; simp [RepL]
  | d' :: ds, vs, 0, q => by
    simp only [RepL] at q
    obtain ⟨v', t, e, h', q⟩ := q
    subst e
    exact q
  | d' :: ds, vs, i + 1, q => by
    simp only [RepL] at q
    obtain ⟨v', t, e, h', q⟩ := q
    subst e
    simp only [List.eraseIdx_cons_succ, RepL]
    exact ⟨v', _, rfl, h', RepL.eraseIdx i q⟩
theorem RepL.dropLast : ∀ {ds : List D} {vs : List V}, RepL K C ds vs → RepL K C ds.dropLast vs.dropLast := fun {ds vs} q => by
  rw [List.dropLast_eq_take, List.dropLast_eq_take, q.length]
  exact q.take _

/-! data of the rules that compare at any depth -/
mutual
theorem Rep.dp (h : Le C H) : ∀ (d : D) (v : V), PyData.canLay0 d = true → Rep K C d v → Dp K H v d
  | .none, v, _, q => by simp only [Rep] at q; subst q; exact .non
  | .bool b, v, _, q => by simp only [Rep] at q; subst q; exact .bl b
  | .int i, v, _, q => by simp only [Rep] at q; subst q; exact .int i
  | .str x, v, _, q => by simp only [Rep] at q; subst q; exact .str x
  | .tuple ds, v, z, q => by
    simp only [Rep] at q
    simp only [PyData.canLay0] at z
    obtain ⟨a, vs, rfl, s, r⟩ := q
    exact .tup (SqT.le h s) (RepL.dp h ds vs z r)
  | .list ds, v, z, q => by
    simp only [Rep] at q
    simp only [PyData.canLay0] at z
    obtain ⟨a, vs, rfl, s, r⟩ := q
    exact .lst (SqL.le h s) (RepL.dp h ds vs z r)
  | .dict kvs, v, z, q => by simp [PyData.canLay0] at z
theorem RepL.dp (h : Le C H) : ∀ (ds : List D) (vs : List V), PyData.canLayAll0 ds = true → RepL K C ds vs → DpAll K H vs ds
  | [], vs, _, q => by simp only [RepL] at q; subst q; exact .nil
  | d :: ds, vs, z, q => by
    simp only [RepL] at q
    simp only [PyData.canLayAll0, Bool.and_eq_true] at z
    obtain ⟨v, t, rfl, h', q⟩ := q
    exact .cons (Rep.dp h d v z.1 h') (RepL.dp h ds t z.2 q)
end
theorem Peek.dp (h : Le C H) {d : D} {v : V} (z : PyData.canLay0 d = true) (q : Peek K C H d v) : Dp K H v d := by
  cases d with
  | list ds =>
    obtain ⟨a, vs, rfl, s, r⟩ := q
    simp only [PyData.canLay0] at z
    exact .lst s (RepL.dp h ds vs z r)
  | dict kvs => simp [PyData.canLay0] at z
  | none => exact Rep.dp h _ _ z q
  | bool b => exact Rep.dp h _ _ z q
  | int i => exact Rep.dp h _ _ z q
  | str x => exact Rep.dp h _ _ z q
  | tuple ds => exact Rep.dp h _ _ z q
end

/-! ### what an operator gives -/
/-- r lies at v, in C', H', own objects ψ, made from C, H where F may change -/
structure Res (K : PySem.W.Frag) (C H : Hp) (r : OT) (C' H' : Hp) (ψ : List Addr) (v : V) : Prop where
  st : Stp C (fun _ => False) H C' (· ∈ ψ) H'
  le : Le C' H'
  own : Own K C' H' ψ v r
  sep : ∀ a ∈ ψ, C' a = none ∧ H a = none ∧ ∃ o, H' a = some o
/-- the wish Q of V and heap, for all that r may lie at -/
def Wish (K : PySem.W.Frag) (C H : Hp) (Q : VK) (r : OT) : Prop := ∀ C' H' ψ v, Res K C H r C' H' ψ v → Q v H'
section
variable {K : PySem.W.Frag} {C H : Hp} {Q : VK}
theorem Wish.val {d : D} {v : V} (le : Le C H) (r : Rep K C d v) (w : Wish K C H Q (.sh d)) : Q v H :=
  w C H [] v ⟨⟨Le.refl _, fun _ _ h _ => h, fun _ h => by simp at h, fun _ h => .inl h⟩, le, ⟨rfl, r⟩, fun _ h => by simp at h⟩
theorem Wish.bl {b : Bool} (le : Le C H) (w : Wish K C H Q (.sh (.bool b))) : Q (.bl b) H := w.val le (by simp only [Rep])
theorem Wish.int {i : Int} (le : Le C H) (w : Wish K C H Q (.sh (.int i))) : Q (.int i) H := w.val le (by simp only [Rep])
theorem Wish.str {x : Str} (le : Le C H) (w : Wish K C H Q (.sh (.str x))) : Q (.str x) H := w.val le (by simp only [Rep])
theorem Wish.non (le : Le C H) (w : Wish K C H Q (.sh .none)) : Q .non H := w.val le (by simp only [Rep])
theorem le_upd {p : Addr} {o : HO} (h : H p = none) : Le H (upd H p o) := fun a u e => by rw [upd_ne (ne_of_none e h)]; exact e
/-- a new list -/
theorem Wish.newL {ds : List D} {vs : List V} (le : Le C H) (r : RepL K C ds vs) (w : Wish K C H Q (.lst ds)) : ∀ p, H p = none → Q (.ref p) (upd H p (.lst vs)) := fun p hp => by
  refine w C (upd H p (.lst vs)) [p] _ ⟨⟨Le.refl _, fun a o e _ => le_upd hp a o e, fun a h => ?_, fun _ h => .inl h⟩, le.trans (le_upd hp), ⟨p, vs, rfl, rfl, upd_same, r⟩, fun a h => ?_⟩
  · have e : a = p := by simpa using h
    exact .inr (e ▸ hp)
  · have e : a = p := by simpa using h
    subst e
    refine ⟨?_, hp, _, upd_same⟩
    cases q : C a with
    | none => rfl
    | some o => have := le a o q; rw [hp] at this; cases this
/-- a new tuple -/
theorem Wish.newT {ds : List D} {vs : List V} (le : Le C H) (r : RepL K C ds vs) (w : Wish K C H Q (.sh (.tuple ds))) : ∀ p, H p = none → Q (.ref p) (upd H p (.tup vs)) := fun p hp => by
  have hc : C p = none := by
    cases q : C p with
    | none => rfl
    | some o => have := le p o q; rw [hp] at this; cases this
  have l1 : Le C (upd C p (.tup vs)) := fun a u e => by
    rw [upd_ne]
    · exact e
    · rintro rfl; rw [hc] at e; cases e
  refine w (upd C p (.tup vs)) (upd H p (.tup vs)) [] _ ⟨⟨l1, fun a o e _ => le_upd hp a o e, fun a h => by simp at h, fun a h => ?_⟩, fun a o e => ?_, ⟨rfl, ?_⟩, fun a h => by simp at h⟩
  · by_cases e : a = p
    · subst e; exact .inr (.inr hp)
    · rw [upd_ne e] at h; exact .inl h
  · by_cases z : a = p
    · subst z; rw [upd_same] at e ⊢; exact e
    · rw [upd_ne z] at e ⊢; exact le a o e
  · simp only [Rep]
    exact ⟨p, vs, rfl, .inl (.inl upd_same), RepL.le l1 ds vs r⟩
end
end TW
end
section
set_option Elab.async false
set_option linter.all false
set_option maxRecDepth 100000
set_option maxHeartbeats 1000000
/-! TW4: binary operators on trees -/
namespace TW
open PySem L2 PySem.Spec PyProof.Rows
section
variable {X : Cx}

/-- a binary operator's reading by its meaning on trees -/
def V2 (K : PySem.W.Frag) (sem : D → D → KO → Prop) : R2 := fun x y H Q => ∃ C d e Qo, Le C H ∧ Peek K C H d x ∧ Peek K C H e y ∧ sem d e Qo ∧ ∀ r, Qo r → Wish K C H Q r

theorem OpR.imp {f : Value → Value → Sem Value} {r r' : R2} (h : OpR X f r) (i : ∀ x y H Q, r' x y H Q → r x y H Q) : OpR X f r' :=
  fun pins s σ H x y v u Q I rx ry q => h pins s σ H x y v u Q I rx ry (i x y H Q q)

/-- two lists, wherever they stand -/
def rCatS (K : PySem.W.Frag) : R2 := fun x y H Q => ∃ l b xs zs, x = .ref l ∧ y = .ref b ∧ SqL K H l xs ∧ SqL K H b zs ∧ xs.length + zs.length ≤ sizeLine ∧
  ∀ p, H p = none → Q (.ref p) (upd H p (.lst (xs ++ zs)))
theorem op_catS : OpR X (binaryOp .Add) (rCatS X.K) := by
  rintro pins s σ H x y v u Q I rx ry ⟨l, b, xs, zs, rfl, rfl, hl, hb, hz, q⟩
  obtain rfl : v = Value.ref l := rx
  obtain rfl : u = Value.ref b := ry
  obtain ⟨its, r, ⟨⟨c1, d1, a1, s1⟩, n1, e1, e2, e3, e4⟩, z1⟩ := I.list hl
  obtain ⟨jts, r2, ⟨⟨c2, d2, a2, s2⟩, n2, f1, f2, f3, f4⟩, z2⟩ := I.list hb
  simp only at e2 e3 e4 f2 f3 f4
  subst e2 e3 e4 f2 f3 f4
  have hsz : its.toArray.size + jts.toArray.size ≤ sizeLine := by
    rw [List.size_toArray, List.size_toArray, ← r.length, ← r2.length]; exact hz
  have hpush : its.toArray ++ jts.toArray = (its ++ jts).toArray := by simp
  refine concat_meets ⟨_, e1, rfl⟩ ⟨_, f1, rfl⟩ noFill_list_add seq_list_add PySem.F.slot_list_add PySem.F.entry_list_add (PySem.F.args_list_add_2 _ _)
    (list_addW l b its.toArray jts.toArray n1 n2 none none s1 s2 hsz) ⟨e1, f1, ?_⟩
  rw [hpush]
  exact ⟨.ref _, _, I.lnew (t' := s.toks) (r.append r2) (by rw [List.length_append]; exact hz), rfl, q _ I.fresh⟩

theorem v2_add : OpR X (binaryOp .Add) (V2 X.K opAdd) := by
  refine OpR.imp (op_add.or (op_add_str.or (op_catS.or op_catA))) fun x y H Q h => ?_
  obtain ⟨C, d, e, Qo, le, px, py, hs, w⟩ := h
  cases d with
  | int i =>
    cases e with
    | int j =>
      simp only [Peek, Rep] at px py
      exact .inl ⟨i, j, px, py, (w _ hs).int le⟩
    | _ => exact (hs : False).elim
  | str i =>
    cases e with
    | str j =>
      simp only [Peek, Rep] at px py
      exact .inr (.inl ⟨i, j, px, py, hs.1, (w _ hs.2).str le⟩)
    | _ => exact (hs : False).elim
  | list i =>
    cases e with
    | list j =>
      obtain ⟨a, vs, ea, sa, ra⟩ := px
      obtain ⟨b, ws, eb, sb, rb⟩ := py
      exact .inr (.inr (.inl ⟨a, b, vs, ws, ea, eb, sa, sb, by rw [ra.length, rb.length]; exact hs.1, (w _ hs.2).newL le (ra.append rb)⟩))
    | _ => exact (hs : False).elim
  | tuple i =>
    cases e with
    | tuple j =>
      have px' := px
      have py' := py
      simp only [Peek, Rep] at px py
      obtain ⟨a, vs, ea, sa, ra⟩ := px
      obtain ⟨b, ws, eb, sb, rb⟩ := py
      refine .inr (.inr (.inr ⟨a, b, vs, ws, ea, eb, SqT.le le sa, SqT.le le sb, by rw [ra.length, rb.length]; exact hs.1, fun z => ?_, fun _ z => ?_, fun _ _ => (w _ hs.2).newT le (ra.append rb)⟩))
      · have z' : i = [] := List.eq_nil_of_length_eq_zero (by rw [← ra.length, z]; rfl)
        subst z'
        exact (w _ hs.2).val le (by rw [← eb]; exact py')
      · have z' : j = [] := List.eq_nil_of_length_eq_zero (by rw [← rb.length, z]; rfl)
        subst z'
        refine (w _ hs.2).val le ?_
        rw [← ea, List.append_nil]
        exact px'
    | _ => exact (hs : False).elim
  | _ => exact (hs : False).elim

theorem v2_int {f : Value → Value → Sem Value} {o : Op2} {P : Int → Int → Prop} {g : Int → Int → V} (h : OpR X f (rI P g)) (ho : ∀ d e Q, op2 o d e Q → ∃ i j, d = .int i ∧ e = .int j ∧ op2I o i j Q)
    (hp : ∀ i j Q, op2I o i j Q → P i j ∧ ((∃ k, g i j = .int k ∧ Q (.sh (.int k))) ∨ ∃ k, g i j = .bl k ∧ Q (.sh (.bool k)))) : OpR X f (V2 X.K (op2 o)) := by
  refine OpR.imp h fun x y H Q q => ?_
  obtain ⟨C, d, e, Qo, le, px, py, hs, w⟩ := q
  obtain ⟨i, j, rfl, rfl, hs'⟩ := ho d e Qo hs
  simp only [Peek, Rep] at px py
  obtain ⟨hP, q⟩ := hp i j Qo hs'
  refine ⟨i, j, px, py, hP, ?_⟩
  rcases q with ⟨k, e, q⟩ | ⟨k, e, q⟩
  · rw [e]; exact (w _ q).int le
  · rw [e]; exact (w _ q).bl le
theorem opR_rI0 {f : Value → Value → Sem Value} {g : Int → Int → V} (h : OpR X f (rI0 g)) : OpR X f (rI (fun _ _ => True) g) :=
  OpR.imp h fun _ _ _ _ ⟨i, j, e1, e2, _, q⟩ => ⟨i, j, e1, e2, q⟩
theorem op2_ints {o : Op2} (ho : o ∈ [Op2.sub, .mul, .fdiv, .mod, .pow, .lt, .le, .gt, .ge]) (d e : D) (Q : KO) (h : op2 o d e Q) : ∃ i j, d = .int i ∧ e = .int j ∧ op2I o i j Q := by
  cases d <;> cases e <;> first
    | exact ⟨_, _, rfl, rfl, (by revert h; simp only [List.mem_cons, List.mem_nil_iff, or_false] at ho; rcases ho with rfl | rfl | rfl | rfl | rfl | rfl | rfl | rfl | rfl <;> exact id)⟩
    | (exfalso; revert h; simp only [List.mem_cons, List.mem_nil_iff, or_false] at ho; rcases ho with rfl | rfl | rfl | rfl | rfl | rfl | rfl | rfl | rfl <;> exact id)
theorem v2_sub : OpR X (binaryOp .Sub) (V2 X.K (op2 .sub)) := v2_int (opR_rI0 op_sub) (op2_ints (by decide)) fun _ _ _ h => ⟨trivial, .inl ⟨_, rfl, h⟩⟩
theorem v2_mul : OpR X (binaryOp .Mult) (V2 X.K (op2 .mul)) := v2_int op_mul (op2_ints (by decide)) fun _ _ _ h => ⟨h.1, .inl ⟨_, rfl, h.2⟩⟩
theorem v2_fdiv : OpR X (binaryOp .FloorDiv) (V2 X.K (op2 .fdiv)) := v2_int op_fdiv (op2_ints (by decide)) fun _ _ _ h => ⟨h.1, .inl ⟨_, rfl, h.2⟩⟩
theorem v2_mod : OpR X (binaryOp .Mod) (V2 X.K (op2 .mod)) := v2_int op_mod (op2_ints (by decide)) fun _ _ _ h => ⟨h.1, .inl ⟨_, rfl, h.2⟩⟩
theorem v2_pow : OpR X (binaryOp .Pow) (V2 X.K (op2 .pow)) := v2_int op_pow (op2_ints (by decide)) fun _ _ _ h => ⟨h.1, .inl ⟨_, rfl, h.2⟩⟩
theorem v2_lt : OpR X (compareOp .Lt) (V2 X.K (op2 .lt)) := v2_int (opR_rI0 op_lt) (op2_ints (by decide)) fun _ _ _ h => ⟨trivial, .inr ⟨_, rfl, h⟩⟩
theorem v2_le : OpR X (compareOp .LtE) (V2 X.K (op2 .le)) := v2_int (opR_rI0 op_le) (op2_ints (by decide)) fun _ _ _ h => ⟨trivial, .inr ⟨_, rfl, h⟩⟩
theorem v2_gt : OpR X (compareOp .Gt) (V2 X.K (op2 .gt)) := v2_int (opR_rI0 op_gt) (op2_ints (by decide)) fun _ _ _ h => ⟨trivial, .inr ⟨_, rfl, h⟩⟩
theorem v2_ge : OpR X (compareOp .GtE) (V2 X.K (op2 .ge)) := v2_int (opR_rI0 op_ge) (op2_ints (by decide)) fun _ _ _ h => ⟨trivial, .inr ⟨_, rfl, h⟩⟩

theorem v2_eq (hu : X.A.units + 64 < cLine) : OpR X (compareOp .Eq) (V2 X.K (op2 .eq)) := by
  refine OpR.imp (op_eqD hu) fun x y H Q h => ?_
  obtain ⟨C, d, e, Qo, le, px, py, ⟨s1, s2, q⟩, w⟩ := h
  exact ⟨d, e, px.dp le (SeqAt.canLay_of_shaped s1), py.dp le (SeqAt.canLay_of_shaped s2), s1, s2, (w _ q).bl le⟩
theorem v2_ne (hu : X.A.units + 64 < cLine) : OpR X (compareOp .NotEq) (V2 X.K (op2 .ne)) := by
  refine OpR.imp (op_neD hu) fun x y H Q h => ?_
  obtain ⟨C, d, e, Qo, le, px, py, ⟨s1, s2, q⟩, w⟩ := h
  exact ⟨d, e, px.dp le (SeqAt.canLay_of_shaped s1), py.dp le (SeqAt.canLay_of_shaped s2), s1, s2, (w _ q).bl le⟩

/-! in a tuple of data -/
def rInTD (K : PySem.W.Frag) (neg : Bool) : R2 := fun x y H Q => ∃ d ds, Dp K H x d ∧ Dp K H y (.tuple ds) ∧ SeqAt.shaped d = true ∧ SeqAt.shaped (.tuple ds) = true ∧ Q (.bl (if neg = true then !(ds.any fun z => PyData.eqv z d) else ds.any fun z => PyData.eqv z d)) H
theorem room_inT {X : Cx} {ds : List PyData} {d : PyData} (sd : SeqAt.shaped d = true) (hu : X.A.units + 65 < cLine) : X.A.units + 1 + min (PyData.depthAll ds) d.depth < cLine := by
  have h1 := SeqAt.depth_of_shaped sd
  have h2 : min (PyData.depthAll ds) d.depth ≤ d.depth := Nat.min_le_right _ _
  omega
theorem op_inTD (hu : X.A.units + 65 < cLine) : OpR X (compareOp .In) (rInTD X.K false) := by
  rintro pins s σ H x y v u Q I rx ry ⟨d, ds, hd, he, sd, se, q⟩
  obtain ⟨as, r1⟩ := Dp.reads I d x v hd rx
  obtain ⟨bs, r2⟩ := Dp.reads I _ y u he ry
  have lay : PyData.canLayAll0 ds = true := SeqAt.canLay_of_shaped se
  exact SeqAt.in_tuple_reads r2 r1 lay (SeqAt.canLay_of_shaped sd) (room_inT sd hu) ⟨.bl _, H, I, rfl, q⟩
theorem op_ninTD (hu : X.A.units + 65 < cLine) : OpR X (compareOp .NotIn) (rInTD X.K true) := by
  rintro pins s σ H x y v u Q I rx ry ⟨d, ds, hd, he, sd, se, q⟩
  obtain ⟨as, r1⟩ := Dp.reads I d x v hd rx
  obtain ⟨bs, r2⟩ := Dp.reads I _ y u he ry
  have lay : PyData.canLayAll0 ds = true := SeqAt.canLay_of_shaped se
  exact SeqAt.notIn_tuple_reads r2 r1 lay (SeqAt.canLay_of_shaped sd) (room_inT sd hu) ⟨.bl _, H, I, rfl, q⟩

theorem v2_in (hu : X.A.units + 65 < cLine) : OpR X (compareOp .In) (V2 X.K (op2 .isIn)) := by
  refine OpR.imp (op_in_str.or ((op_inD hu).or (op_inTD hu))) fun x y H Q h => ?_
  obtain ⟨C, d, e, Qo, le, px, py, hs, w⟩ := h
  have hs : opIn d e (fun b => Qo (.sh (.bool b))) := hs
  cases e with
  | str j =>
    cases d with
    | str i =>
      simp only [Peek, Rep] at px py
      exact .inl ⟨i, j, px, py, (w _ hs).bl le⟩
    | _ => exact (hs : False).elim
  | list ds =>
    have hs : SeqAt.shaped d = true ∧ SeqAt.shaped (.list ds) = true ∧ Qo (.sh (.bool (ds.any fun z => PyData.eqv z d))) := by cases d <;> exact hs
    obtain ⟨s1, s2, q⟩ := hs
    exact .inr (.inl ⟨d, ds, px.dp le (SeqAt.canLay_of_shaped s1), py.dp le (SeqAt.canLay_of_shaped s2), s1, s2, (w _ q).bl le⟩)
  | tuple ds =>
    have hs : SeqAt.shaped d = true ∧ SeqAt.shaped (.tuple ds) = true ∧ Qo (.sh (.bool (ds.any fun z => PyData.eqv z d))) := by cases d <;> exact hs
    obtain ⟨s1, s2, q⟩ := hs
    exact .inr (.inr ⟨d, ds, px.dp le (SeqAt.canLay_of_shaped s1), py.dp le (SeqAt.canLay_of_shaped s2), s1, s2, (w _ q).bl le⟩)
  | _ => exfalso; revert hs; cases d <;> exact id
theorem v2_nin (hu : X.A.units + 65 < cLine) : OpR X (compareOp .NotIn) (V2 X.K (op2 .notIn)) := by
  refine OpR.imp (op_notin_str.or ((op_notInD hu).or (op_ninTD hu))) fun x y H Q h => ?_
  obtain ⟨C, d, e, Qo, le, px, py, hs, w⟩ := h
  have hs : opIn d e (fun b => Qo (.sh (.bool (!b)))) := hs
  cases e with
  | str j =>
    cases d with
    | str i =>
      simp only [Peek, Rep] at px py
      exact .inl ⟨i, j, px, py, (w _ hs).bl le⟩
    | _ => exact (hs : False).elim
  | list ds =>
    have hs : SeqAt.shaped d = true ∧ SeqAt.shaped (.list ds) = true ∧ Qo (.sh (.bool (!ds.any fun z => PyData.eqv z d))) := by cases d <;> exact hs
    obtain ⟨s1, s2, q⟩ := hs
    exact .inr (.inl ⟨d, ds, px.dp le (SeqAt.canLay_of_shaped s1), py.dp le (SeqAt.canLay_of_shaped s2), s1, s2, (w _ q).bl le⟩)
  | tuple ds =>
    have hs : SeqAt.shaped d = true ∧ SeqAt.shaped (.tuple ds) = true ∧ Qo (.sh (.bool (!ds.any fun z => PyData.eqv z d))) := by cases d <;> exact hs
    obtain ⟨s1, s2, q⟩ := hs
    exact .inr (.inr ⟨d, ds, px.dp le (SeqAt.canLay_of_shaped s1), py.dp le (SeqAt.canLay_of_shaped s2), s1, s2, (w _ q).bl le⟩)
  | _ => exfalso; revert hs; cases d <;> exact id

/-! is None, is True, is False: of any value -/
def rIsC (neg : Bool) (c : V) : R2 := fun x y H Q => y = c ∧ Q (.bl (if neg = true then !decide (x = c) else decide (x = c))) H
theorem op_isB {b : Bool} : OpR X (compareOp .Is) (rIsC false (.bl b)) := by
  rintro pins s σ H x y v u Q I rx ry ⟨rfl, q⟩
  obtain rfl : u = Value.bool b := ry
  by_cases e : x = .bl b
  · subst e
    obtain rfl : v = Value.bool b := rx
    exact wpAny_is_self rfl ⟨.bl true, H, I, rfl, by simpa using q⟩
  · have ne : v ≠ Value.bool b := by
      rintro rfl
      have e1 : absV (Value.bool b) = some x := RelV.abs rx
      exact e (Option.some.inj e1).symm
    have hk : (decide (x = V.bl b)) = false := decide_eq_false e
    refine wpAny_is_other ?_ ne ⟨.bl false, H, I, rfl, by simpa [hk] using q⟩
    cases x <;> first
      | (obtain rfl := (show v = _ from rx); rfl)
      | (obtain ⟨t, rfl⟩ := rx; rfl)
theorem op_isNB {b : Bool} : OpR X (compareOp .IsNot) (rIsC true (.bl b)) := by
  rintro pins s σ H x y v u Q I rx ry ⟨rfl, q⟩
  obtain rfl : u = Value.bool b := ry
  by_cases e : x = .bl b
  · subst e
    obtain rfl : v = Value.bool b := rx
    exact wpAny_isNot_self rfl ⟨.bl false, H, I, rfl, by simpa using q⟩
  · have ne : v ≠ Value.bool b := by
      rintro rfl
      have e1 : absV (Value.bool b) = some x := RelV.abs rx
      exact e (Option.some.inj e1).symm
    have hk : (decide (x = V.bl b)) = false := decide_eq_false e
    refine wpAny_isNot_other ?_ ne ⟨.bl true, H, I, rfl, by simpa [hk] using q⟩
    cases x <;> first
      | (obtain rfl := (show v = _ from rx); rfl)
      | (obtain ⟨t, rfl⟩ := rx; rfl)
theorem peek_non {K : PySem.W.Frag} {C H : Hp} {d : D} {x : V} (p : Peek K C H d x) : decide (x = .non) = isNon d := by
  cases d <;> simp only [Peek, Rep] at p <;> first
    | (subst p; rfl)
    | (obtain ⟨a, _, e, _⟩ := p; subst e; rfl)
theorem peek_bool {K : PySem.W.Frag} {C H : Hp} {d : D} {x : V} (b : Bool) (p : Peek K C H d x) : decide (x = .bl b) = isBool b d := by
  cases d <;> simp only [Peek, Rep] at p <;> first
    | (subst p; simp [isBool]; done)
    | (subst p; rename_i b'; cases b <;> cases b' <;> rfl)
    | (obtain ⟨a, _, e, _⟩ := p; subst e; simp [isBool])
theorem v2_is : OpR X (compareOp .Is) (V2 X.K (op2 .is)) := by
  refine OpR.imp (op_isN.or ((op_isB (b := true)).or (op_isB (b := false)))) fun x y H Q h => ?_
  obtain ⟨C, d, e, Qo, le, px, py, hs, w⟩ := h
  have hs : opIs d e (fun b => Qo (.sh (.bool b))) := hs
  cases e with
  | none =>
    simp only [Peek, Rep] at py
    refine .inl ⟨py, ?_⟩
    rw [peek_non px]
    exact (w _ (by cases d <;> exact hs)).bl le
  | bool b =>
    simp only [Peek, Rep] at py
    have q : Q (.bl (decide (x = .bl b))) H := by
      rw [peek_bool b px]
      exact (w _ (by cases d <;> exact hs)).bl le
    cases b
    · exact .inr (.inr ⟨py, q⟩)
    · exact .inr (.inl ⟨py, q⟩)
  | _ => exfalso; revert hs; cases d <;> exact id
theorem v2_isn : OpR X (compareOp .IsNot) (V2 X.K (op2 .isNot)) := by
  refine OpR.imp (op_notN.or ((op_isNB (b := true)).or (op_isNB (b := false)))) fun x y H Q h => ?_
  obtain ⟨C, d, e, Qo, le, px, py, hs, w⟩ := h
  have hs : opIs d e (fun b => Qo (.sh (.bool (!b)))) := hs
  cases e with
  | none =>
    simp only [Peek, Rep] at py
    refine .inl ⟨py, ?_⟩
    rw [peek_non px]
    exact (w _ (by cases d <;> exact hs)).bl le
  | bool b =>
    simp only [Peek, Rep] at py
    have q : Q (.bl (!decide (x = .bl b))) H := by
      rw [peek_bool b px]
      exact (w _ (by cases d <;> exact hs)).bl le
    cases b
    · exact .inr (.inr ⟨py, q⟩)
    · exact .inr (.inl ⟨py, q⟩)
  | _ => exfalso; revert hs; cases d <;> exact id

/-- the operators of the syntax -/
def binO : Op2 → Option Operator
  | .add => some .Add
  | .sub => some .Sub
  | .mul => some .Mult
  | .fdiv => some .FloorDiv
  | .mod => some .Mod
  | .pow => some .Pow
  | _ => none
def cmpO : Op2 → Option CmpOp
  | .eq => some .Eq
  | .ne => some .NotEq
  | .lt => some .Lt
  | .le => some .LtE
  | .gt => some .Gt
  | .ge => some .GtE
  | .isIn => some .In
  | .notIn => some .NotIn
  | .is => some .Is
  | .isNot => some .IsNot
  | _ => none
theorem v2_bin {o : Op2} {f : Operator} (h : binO o = some f) : OpR X (binaryOp f) (V2 X.K (op2 o)) := by
  cases o <;> simp only [binO, Option.some.injEq, reduceCtorEq] at h <;> subst h
  · exact v2_add
  · exact v2_sub
  · exact v2_mul
  · exact v2_fdiv
  · exact v2_mod
  · exact v2_pow
theorem v2_cmp {o : Op2} {f : CmpOp} (hu : X.A.units + 65 < cLine) (h : cmpO o = some f) : OpR X (compareOp f) (V2 X.K (op2 o)) := by
  have hu' : X.A.units + 64 < cLine := by omega
  cases o <;> simp only [cmpO, Option.some.injEq, reduceCtorEq] at h <;> subst h
  · exact v2_eq hu'
  · exact v2_ne hu'
  · exact v2_lt
  · exact v2_le
  · exact v2_gt
  · exact v2_ge
  · exact v2_in hu
  · exact v2_nin hu
  · exact v2_is
  · exact v2_isn
end
end TW
end
section
set_option Elab.async false
set_option linter.all false
set_option maxRecDepth 100000
set_option maxHeartbeats 1000000
/-! TW5: subscripts, slices, built-ins and methods on trees -/
namespace TW
open PySem L2 PySem.Spec PyProof.Rows
section
variable {X : Cx}
def PeekL (K : PySem.W.Frag) (C H : Hp) : List D → List V → Prop
  | [], vs => vs = []
  | d :: ds, vs => ∃ v r, vs = v :: r ∧ Peek K C H d v ∧ PeekL K C H ds r
def VL (K : PySem.W.Frag) (sem : List D → KO → Prop) : List V → Hp → VK → Prop := fun xs H Q => ∃ C ds Qo, Le C H ∧ PeekL K C H ds xs ∧ sem ds Qo ∧ ∀ r, Qo r → Wish K C H Q r
def VM (K : PySem.W.Frag) (sem : D → List D → KO → Prop) : V → List V → Hp → VK → Prop := fun x xs H Q => ∃ C d ds Qo, Le C H ∧ Peek K C H d x ∧ PeekL K C H ds xs ∧ sem d ds Qo ∧ ∀ r, Qo r → Wish K C H Q r

theorem CallR.imp {f : Value} {r r' : List V → Hp → VK → Prop} (h : CallR X f r) (i : ∀ x H Q, r' x H Q → r x H Q) : CallR X f r' :=
  fun pins s σ H xs us Q I rx q => h pins s σ H xs us Q I rx (i xs H Q q)
theorem MtR.imp {id : String} {r r' : V → List V → Hp → VK → Prop} (h : MtR X id r) (i : ∀ x xs H Q, r' x xs H Q → r x xs H Q) : MtR X id r' :=
  fun pins s σ H x xs v us Q I rx rs q => h pins s σ H x xs v us Q I rx rs (i x xs H Q q)
theorem IxR.imp {r r' : R2} (h : IxR X r) (i : ∀ x y H Q, r' x y H Q → r x y H Q) : IxR X r' :=
  fun value slice pins s σ H x y v u Q I rx ry q hs => h value slice pins s σ H x y v u Q I rx ry (i x y H Q q) hs
theorem SlR.imp {r r' : V → Option Int → Option Int → Hp → VK → Prop} (h : SlR X r) (i : ∀ x l u H Q, r' x l u H Q → r x l u H Q) : SlR X r' :=
  fun pins s σ H x v vl vu lo hi sl Q I rx hs pl pu q => h pins s σ H x v vl vu lo hi sl Q I rx hs pl pu (i x lo hi H Q q)

theorem RepL.at {K : PySem.W.Frag} {C : Hp} {ds : List D} {vs : List V} {i : Int} {d : D} (q : RepL K C ds vs) (e : atI ds i = some d) : ∃ v, atI vs i = some v ∧ Rep K C d v := by
  unfold atI at e ⊢
  rw [q.length]
  cases h : ixN ds.length i with
  | none => rw [h] at e; cases e
  | some j =>
    rw [h] at e
    simp only [Option.bind_some] at e ⊢
    exact q.get e
theorem vx_ix : IxR X (V2 X.K fun d e Q => idxS d e fun r => Q (.sh r)) := by
  refine IxR.imp ix_seq fun x y H Q h => ?_
  obtain ⟨C, d, e, Qo, le, px, py, hs, w⟩ := h
  cases d with
  | list ds =>
    cases e with
    | int i =>
      obtain ⟨a, vs, ea, sa, ra⟩ := px
      simp only [Peek, Rep] at py
      obtain ⟨r, er, q⟩ := hs
      obtain ⟨v, ev, rv⟩ := RepL.at ra er
      exact .inl ⟨a, vs, i, v, ea, py, sa, ev, (w _ q).val le rv⟩
    | _ => exact (hs : False).elim
  | tuple ds =>
    cases e with
    | int i =>
      simp only [Peek, Rep] at px py
      obtain ⟨a, vs, ea, sa, ra⟩ := px
      obtain ⟨r, er, q⟩ := hs
      obtain ⟨v, ev, rv⟩ := RepL.at ra er
      exact .inr (.inl ⟨a, vs, i, v, ea, py, SqT.le le sa, ev, (w _ q).val le rv⟩)
    | _ => exact (hs : False).elim
  | str z =>
    cases e with
    | int i =>
      simp only [Peek, Rep] at px py
      obtain ⟨hz, c, ec, q⟩ := hs
      exact .inr (.inr ⟨z, i, c, px, py, hz, ec, (w _ q).str le⟩)
    | _ => exact (hs : False).elim
  | _ => cases e <;> exact (hs : False).elim

/-! slices -/
def VS (K : PySem.W.Frag) : V → Option Int → Option Int → Hp → VK → Prop := fun x lo hi H Q => ∃ C d Qo, Le C H ∧ Peek K C H d x ∧ slcI d lo hi Qo ∧ ∀ r, Qo r → Wish K C H Q r
theorem RepL.cut {K : PySem.W.Frag} {C : Hp} {ds : List D} {vs : List V} (q : RepL K C ds vs) (lo hi : Option Int) : RepL K C (cutD ds lo hi) (cutV vs lo hi) := by
  unfold cutD cutV
  rw [q.length]
  exact (q.drop _).take _
theorem cutD_all {ds : List D} {lo hi : Option Int} (h : HT.sIx ds.length 0 lo = 0 ∧ HT.sIx ds.length ds.length hi = ds.length) : cutD ds lo hi = ds := by
  unfold cutD
  rw [h.1, h.2, List.drop_zero, Nat.sub_zero, List.take_length]
theorem vx_sl : SlR X (VS X.K) := by
  refine SlR.imp (sl_list.or (sl_tupA.or sl_str)) fun x lo hi H Q h => ?_
  obtain ⟨C, d, Qo, le, px, hs, w⟩ := h
  cases d with
  | list ds =>
    obtain ⟨a, vs, ea, sa, ra⟩ := px
    exact .inl ⟨a, vs, ea, sa, (w _ hs).newL le (ra.cut lo hi)⟩
  | tuple ds =>
    have px' := px
    simp only [Peek, Rep] at px
    obtain ⟨a, vs, ea, sa, ra⟩ := px
    have hs : Qo (.sh (.tuple (cutD ds lo hi))) := hs
    refine .inr (.inl ⟨a, vs, ea, SqT.le le sa, fun z => ?_, fun _ => (w _ hs).newT le (ra.cut lo hi)⟩)
    rw [ra.length] at z
    rw [cutD_all z] at hs
    exact (w _ hs).val le (by rw [← ea]; exact px')
  | str z =>
    simp only [Peek, Rep] at px
    exact .inr (.inr ⟨z, px, hs.1, (w _ hs.2).str le⟩)
  | _ => exact (hs : False).elim

/-! built-ins -/
theorem call_repr_str : CallR X (.builtin "repr") (fun xs H Q => ∃ y, xs = [.str y] ∧ (reprText y).length ≤ sizeLine ∧ Q (.str (reprText y)) H) := by
  rintro pins s σ H xs us Q I r ⟨y, rfl, hz, q⟩
  obtain ⟨u, rfl, ru⟩ := r.one
  obtain ⟨t, rfl⟩ := ru
  exact PySem.call_repr_gives (PySem.typeIs_str _ _ _) PySem.F.slot_str_repr PySem.F.entry_str_repr (PySem.F.args_str_repr_1 _) (PySem.gives_str_repr y t) ⟨.str _, H, I.tok _, ⟨_, rfl⟩, q⟩ (hx := hz)

def biV : Bi → Value
  | .len => .builtin "len"
  | .int => .type "int"
  | .str => .type "str"
  | .ord => .builtin "ord"
  | .repr => .builtin "repr"
  | .all => .builtin "all"
  | .any => .builtin "any"
  | .list => .type "list"
  | .tuple => .type "tuple"
  | .sorted => .builtin "sorted"
def biN : Bi → Str
  | .len => "len"
  | .int => "int"
  | .str => "str"
  | .ord => "ord"
  | .repr => "repr"
  | .all => "all"
  | .any => "any"
  | .list => "list"
  | .tuple => "tuple"
  | .sorted => "sorted"

theorem boolsD_of : ∀ {ds : List D} {bs : List Bool}, boolsD ds = some bs → ds = bs.map .bool
  | [], bs, h => by simp only [boolsD, Option.some.injEq] at h; subst h; rfl
  | d :: ds, bs, h => by
    cases d with
    | bool b =>
      simp only [boolsD, Option.map_eq_some_iff] at h
      obtain ⟨cs, h, rfl⟩ := h
      rw [boolsD_of h]; rfl
    | _ => simp [boolsD] at h
theorem strsD_of : ∀ {ds : List D} {bs : List Str}, strsD ds = some bs → ds = bs.map .str
  | [], bs, h => by simp only [strsD, Option.some.injEq] at h; subst h; rfl
  | d :: ds, bs, h => by
    cases d with
    | str b =>
      simp only [strsD, Option.map_eq_some_iff] at h
      obtain ⟨cs, h, rfl⟩ := h
      rw [strsD_of h]; rfl
    | _ => simp [strsD] at h
section
variable {K : PySem.W.Frag} {C H : Hp}
theorem RepL.bools : ∀ {bs : List Bool} {vs : List V}, RepL K C (bs.map .bool) vs → vs = bs.map V.bl
  | [], vs, q => by simp only [List.map_nil, RepL] at q; exact q
  | b :: bs, vs, q => by
    simp only [List.map_cons, RepL, Rep] at q
    obtain ⟨v, r, rfl, rfl, q⟩ := q
    rw [RepL.bools q]; rfl
theorem RepL.strs : ∀ {bs : List Str} {vs : List V}, RepL K C (bs.map .str) vs → vs = bs.map V.str
  | [], vs, q => by simp only [List.map_nil, RepL] at q; exact q
  | b :: bs, vs, q => by
    simp only [List.map_cons, RepL, Rep] at q
    obtain ⟨v, r, rfl, rfl, q⟩ := q
    rw [RepL.strs q]; rfl
theorem RepL.ofStrs : ∀ {bs : List Str}, RepL K C (bs.map .str) (bs.map V.str)
  | [] => by simp [RepL]
  | b :: bs => by
    simp only [List.map_cons, RepL, Rep]
    exact ⟨_, _, rfl, rfl, RepL.ofStrs⟩
theorem PeekL.one {d : D} {xs : List V} (h : PeekL K C H [d] xs) : ∃ x, xs = [x] ∧ Peek K C H d x := by
  simp only [PeekL] at h
  obtain ⟨v, r, rfl, p, rfl⟩ := h
  exact ⟨v, rfl, p⟩
end
theorem biS_one {b : Bi} {ds : List D} {Q : KO} (h : biS b ds Q) : ∃ d, ds = [d] ∧ bi1 b d Q := by
  match ds, h with
  | [d], h => exact ⟨d, rfl, h⟩
theorem vb_len : CallR X (.builtin "len") (VL X.K (biS .len)) := by
  refine CallR.imp (CallR.or call_len_seq call_len_str) fun xs H Q h => ?_
  obtain ⟨C, ds, Qo, le, pl, hb, w⟩ := h
  obtain ⟨d, rfl, hb⟩ := biS_one hb
  obtain ⟨x, rfl, p⟩ := pl.one
  have hs : lenS Qo d := hb
  clear hb pl
  cases d with
  | list es =>
    obtain ⟨a, vs, rfl, sa, ra⟩ := p
    exact .inl ⟨a, vs, rfl, .inl sa, by rw [ra.length]; exact (w _ hs).int le⟩
  | tuple es =>
    simp only [Peek, Rep] at p
    obtain ⟨a, vs, rfl, sa, ra⟩ := p
    exact .inl ⟨a, vs, rfl, .inr (SqT.le le sa), by rw [ra.length]; exact (w _ hs).int le⟩
  | str z =>
    simp only [Peek, Rep] at p
    subst p
    exact .inr ⟨z, rfl, hs.1, (w _ hs.2).int le⟩
  | _ => exact (hs : False).elim
theorem vb_int : CallR X (.type "int") (VL X.K (biS .int)) := by
  refine CallR.imp (CallR.or call_int1 call_int_str) fun xs H Q h => ?_
  obtain ⟨C, ds, Qo, le, pl, hb, w⟩ := h
  obtain ⟨d, rfl, hb⟩ := biS_one hb
  obtain ⟨x, rfl, p⟩ := pl.one
  have hs : intS Qo d := hb
  clear hb pl
  cases d with
  | int i =>
    simp only [Peek, Rep] at p
    subst p
    exact .inl (.inl ⟨i, rfl, (w _ hs).int le⟩)
  | str z =>
    simp only [Peek, Rep] at p
    subst p
    obtain ⟨hz, n, hn, hs⟩ := hs
    exact .inr ⟨z, n, rfl, hn, hz, (w _ hs).int le⟩
  | _ => exact (hs : False).elim
theorem vb_str : CallR X (.type "str") (VL X.K (biS .str)) := by
  refine CallR.imp (CallR.or call_str_int SkE.call_str_str) fun xs H Q h => ?_
  obtain ⟨C, ds, Qo, le, pl, hb, w⟩ := h
  obtain ⟨d, rfl, hb⟩ := biS_one hb
  obtain ⟨x, rfl, p⟩ := pl.one
  have hs : strS Qo d := hb
  clear hb pl
  cases d with
  | int i =>
    simp only [Peek, Rep] at p
    subst p
    exact .inl ⟨i, rfl, hs.1, (w _ hs.2).str le⟩
  | str z =>
    simp only [Peek, Rep] at p
    subst p
    exact .inr ⟨z, rfl, (w _ hs).str le⟩
  | _ => exact (hs : False).elim
theorem vb_repr : CallR X (.builtin "repr") (VL X.K (biS .repr)) := by
  refine CallR.imp (CallR.or SkE.call_repr_int call_repr_str) fun xs H Q h => ?_
  obtain ⟨C, ds, Qo, le, pl, hb, w⟩ := h
  obtain ⟨d, rfl, hb⟩ := biS_one hb
  obtain ⟨x, rfl, p⟩ := pl.one
  have hs : reprS Qo d := hb
  clear hb pl
  cases d with
  | int i =>
    simp only [Peek, Rep] at p
    subst p
    exact .inl ⟨i, rfl, hs.1, (w _ hs.2).str le⟩
  | str z =>
    simp only [Peek, Rep] at p
    subst p
    exact .inr ⟨z, rfl, hs.1, (w _ hs.2).str le⟩
  | _ => exact (hs : False).elim
theorem vb_ord : CallR X (.builtin "ord") (VL X.K (biS .ord)) := by
  refine CallR.imp (call_ord) fun xs H Q h => ?_
  obtain ⟨C, ds, Qo, le, pl, hb, w⟩ := h
  obtain ⟨d, rfl, hb⟩ := biS_one hb
  obtain ⟨x, rfl, p⟩ := pl.one
  have hs : ordS Qo d := hb
  clear hb pl
  cases d with
  | str z =>
    simp only [Peek, Rep] at p
    subst p
    exact ⟨z, rfl, hs.1, (w _ hs.2).int le⟩
  | _ => exact (hs : False).elim
theorem vb_all (hc : X.calm = true) : CallR X (.builtin "all") (VL X.K (biS .all)) := by
  refine CallR.imp (cr_all hc) fun xs H Q h => ?_
  obtain ⟨C, ds, Qo, le, pl, hb, w⟩ := h
  obtain ⟨d, rfl, hb⟩ := biS_one hb
  obtain ⟨x, rfl, p⟩ := pl.one
  have hs : allS Qo d := hb
  clear hb pl
  cases d with
  | list es =>
    obtain ⟨a, vs, rfl, sa, ra⟩ := p
    obtain ⟨bs, he, hs⟩ := hs
    rw [boolsD_of he] at ra
    rw [ra.bools] at sa
    exact ⟨a, bs, rfl, sa, (w _ hs).bl le⟩
  | _ => exact (hs : False).elim
theorem vb_any (hc : X.calm = true) : CallR X (.builtin "any") (VL X.K (biS .any)) := by
  refine CallR.imp (cr_any hc) fun xs H Q h => ?_
  obtain ⟨C, ds, Qo, le, pl, hb, w⟩ := h
  obtain ⟨d, rfl, hb⟩ := biS_one hb
  obtain ⟨x, rfl, p⟩ := pl.one
  have hs : anyS Qo d := hb
  clear hb pl
  cases d with
  | list es =>
    obtain ⟨a, vs, rfl, sa, ra⟩ := p
    obtain ⟨bs, he, hs⟩ := hs
    rw [boolsD_of he] at ra
    rw [ra.bools] at sa
    exact ⟨a, bs, rfl, sa, (w _ hs).bl le⟩
  | _ => exact (hs : False).elim
theorem vb_list : CallR X (.type "list") (VL X.K (biS .list)) := by
  refine CallR.imp (call_list_of) fun xs H Q h => ?_
  obtain ⟨C, ds, Qo, le, pl, hb, w⟩ := h
  obtain ⟨d, rfl, hb⟩ := biS_one hb
  obtain ⟨x, rfl, p⟩ := pl.one
  have hs : listS Qo d := hb
  clear hb pl
  cases d with
  | list es =>
    obtain ⟨a, vs, rfl, sa, ra⟩ := p
    exact ⟨a, vs, rfl, .inl sa, (w _ hs).newL le ra⟩
  | tuple es =>
    simp only [Peek, Rep] at p
    obtain ⟨a, vs, rfl, sa, ra⟩ := p
    exact ⟨a, vs, rfl, .inr (SqT.le le sa), (w _ hs).newL le ra⟩
  | _ => exact (hs : False).elim
theorem vb_tuple : CallR X (.type "tuple") (VL X.K (biS .tuple)) := by
  refine CallR.imp (call_tuple_of) fun xs H Q h => ?_
  obtain ⟨C, ds, Qo, le, pl, hb, w⟩ := h
  obtain ⟨d, rfl, hb⟩ := biS_one hb
  obtain ⟨x, rfl, p⟩ := pl.one
  have hs : tupleS Qo d := hb
  clear hb pl
  cases d with
  | list es =>
    obtain ⟨a, vs, rfl, sa, ra⟩ := p
    exact ⟨a, vs, rfl, .inl ⟨sa, (w _ hs).newT le ra⟩⟩
  | tuple es =>
    have q' := p
    simp only [Peek, Rep] at p
    obtain ⟨a, vs, rfl, sa, ra⟩ := p
    exact ⟨a, vs, rfl, .inr ⟨SqT.le le sa, (w _ hs).val le q'⟩⟩
  | _ => exact (hs : False).elim
theorem vb_no {f : Value} : CallR X f (VL X.K fun _ _ => False) := fun _ _ _ _ _ _ _ _ _ ⟨_, _, _, _, _, hs, _⟩ => hs.elim
theorem biS_sorted (ds : List D) (Q : KO) (h : biS .sorted ds Q) : False := by
  obtain ⟨d, rfl, hs⟩ := biS_one h
  exact hs
theorem vb_all_of (hc : X.calm = true) : ∀ b : Bi, CallR X (biV b) (VL X.K (biS b))
  | .len => vb_len
  | .int => vb_int
  | .str => vb_str
  | .ord => vb_ord
  | .repr => vb_repr
  | .all => vb_all hc
  | .any => vb_any hc
  | .list => vb_list
  | .tuple => vb_tuple
  | .sorted => CallR.imp vb_no fun xs H Q ⟨C, ds, Qo, le, p, hs, w⟩ => ⟨C, ds, Qo, le, p, biS_sorted _ _ hs, w⟩

/-! methods -/
def meId : Me → String
  | .split => "str.split"
  | .join => "str.join"
  | .index => "str.index"
def meN : Me → Str
  | .split => "split"
  | .join => "join"
  | .index => "index"
theorem meS_one {m : Me} {d : D} {ds : List D} {Q : KO} (h : meS m d ds Q) : ∃ e, ds = [e] ∧ me1 m d e Q := by
  match ds, h with
  | [e], h => exact ⟨e, rfl, h⟩
/-- a method's meaning on one kind of thing -/
def onStr (m : Me) (d : D) (ds : List D) (Q : KO) : Prop := (∃ x, d = .str x) ∧ meS m d ds Q
def onList (m : Me) (d : D) (ds : List D) (Q : KO) : Prop := (∃ x, d = .list x) ∧ meS m d ds Q
theorem vm_split : MtR X "str.split" (VM X.K (onStr .split)) := by
  refine MtR.imp mt_split fun x xs H Q h => ?_
  obtain ⟨C, d, ds, Qo, le, px, pl, ⟨⟨x0, rfl⟩, hb⟩, w⟩ := h
  obtain ⟨e, rfl, hb⟩ := meS_one hb
  obtain ⟨y, rfl, p⟩ := pl.one
  have hs : splitS Qo (.str x0) e := hb
  clear hb pl
  cases e <;> first
    | exact (hs : False).elim
    | (rename_i b
       simp only [Peek, Rep] at px p
       subst px p
       exact ⟨x0, b, rfl, rfl, hs.1, hs.2.1, (w _ hs.2.2).newL le RepL.ofStrs⟩)
theorem vm_index : MtR X "str.index" (VM X.K (onStr .index)) := by
  refine MtR.imp mt_sindex fun x xs H Q h => ?_
  obtain ⟨C, d, ds, Qo, le, px, pl, ⟨⟨x0, rfl⟩, hb⟩, w⟩ := h
  obtain ⟨e, rfl, hb⟩ := meS_one hb
  obtain ⟨y, rfl, p⟩ := pl.one
  have hs : indexS Qo (.str x0) e := hb
  clear hb pl
  cases e <;> first
    | exact (hs : False).elim
    | (rename_i b
       simp only [Peek, Rep] at px p
       subst px p
       obtain ⟨i, rest, e, hs⟩ := hs
       exact ⟨x0, b, i, rest, rfl, rfl, e, (w _ hs).int le⟩)
theorem vm_join : MtR X "str.join" (VM X.K (onStr .join)) := by
  refine MtR.imp mt_join fun x xs H Q h => ?_
  obtain ⟨C, d, ds, Qo, le, px, pl, ⟨⟨x0, rfl⟩, hb⟩, w⟩ := h
  obtain ⟨e, rfl, hb⟩ := meS_one hb
  obtain ⟨y, rfl, p⟩ := pl.one
  have hs : joinS Qo (.str x0) e := hb
  clear hb pl
  cases e <;> first
    | exact (hs : False).elim
    | (rename_i es
       simp only [Peek, Rep] at px
       subst px
       obtain ⟨b, vs, rfl, sa, ra⟩ := p
       obtain ⟨ys, e, hz, hs⟩ := hs
       rw [strsD_of e] at ra
       rw [ra.strs] at sa
       exact ⟨x0, b, ys, rfl, rfl, .inl sa, hz, (w _ hs).str le⟩)
theorem vm_lindex (hu : X.A.units + 65 < cLine) : MtR X "list.index" (VM X.K (onList .index)) := by
  refine MtR.imp (mt_indexD hu) fun x xs H Q h => ?_
  obtain ⟨C, d, ds, Qo, le, px, pl, ⟨⟨x0, rfl⟩, hb⟩, w⟩ := h
  obtain ⟨e, rfl, hb⟩ := meS_one hb
  obtain ⟨y, rfl, p⟩ := pl.one
  have hs : SeqAt.shaped (.list x0) = true ∧ SeqAt.shaped e = true ∧ ∃ (j : Nat) (z : D), x0[j]? = some z ∧ PyData.eqv z e = true ∧ (∀ (m : Nat) (z' : D), m < j → x0[m]? = some z' → PyData.eqv z' e = false) ∧ Qo (.sh (.int (j : Nat))) := by cases e <;> exact hb
  obtain ⟨s1, s2, j, z, h1, h2, h3, q⟩ := hs
  have pd := Peek.dp le (SeqAt.canLay_of_shaped s1) px
  have pe := Peek.dp le (SeqAt.canLay_of_shaped s2) p
  obtain ⟨a, vs, rfl, sa, ra⟩ := px
  exact ⟨a, y, e, x0, j, z, rfl, rfl, pd, pe, s1, s2, h1, h2, h3, (w _ q).int le⟩
/-- the kinds of things a method has -/
def meKs (K : PySem.W.Frag) : Me → List (String × String × (V → List V → Hp → VK → Prop))
  | .split => [("str", "str.split", VM K (onStr .split))]
  | .join => [("str", "str.join", VM K (onStr .join))]
  | .index => [("str", "str.index", VM K (onStr .index)), ("list", "list.index", VM K (onList .index))]
theorem meKs_ok (hu : X.A.units + 65 < cLine) (m : Me) : ∀ c ∈ meKs X.K m, PlainAttrs c.1 ∧ Slot c.1 (meN m) c.2.1 ∧ typeOf (.builtin c.2.1) = pure (.type "method_descriptor") ∧ MtR X c.2.1 c.2.2 := by
  intro c hc
  cases m <;> simp only [meKs, List.mem_cons, List.not_mem_nil, or_false] at hc
  · subst hc; exact ⟨PySem.F.plainAttrs_str, PySem.F.slot_str_split, PySem.F.type_str_split, vm_split⟩
  · subst hc; exact ⟨PySem.F.plainAttrs_str, PySem.F.slot_str_join, PySem.F.type_str_join, vm_join⟩
  · rcases hc with rfl | rfl
    · exact ⟨PySem.F.plainAttrs_str, PySem.F.slot_str_index, PySem.F.type_str_index, vm_index⟩
    · exact ⟨PySem.F.plainAttrs_list, PySem.F.slot_list_index, PySem.F.type_list_index, vm_lindex hu⟩
/-- o.name(e, ..), the kind of o known behind its evaluation -/
def tBMs (K : PySem.W.Frag) (cs : List (String × String × (V → List V → Hp → VK → Prop))) (to : TE) (t : TA) : TE := fun σ H Q => to σ H fun x H1 => ∃ c ∈ cs, tyV K c.1 x H1 ∧ t σ H1 fun xs H2 => c.2.2 x xs H2 Q
theorem pe_bms {o e : Expr} {es : List Expr} {to : TE} {t : TA} {name : Str} {apos cpos : Pos} {cs : List (String × String × (V → List V → Hp → VK → Prop))} (hcs : ∀ c ∈ cs, PlainAttrs c.1 ∧ Slot c.1 name c.2.1 ∧ typeOf (.builtin c.2.1) = pure (.type "method_descriptor") ∧ MtR X c.2.1 c.2.2) (ho : PE X o to) (ha : PA X (e :: es) t)
    (hbase : attributeBase o name X.env (eval o X.env) = eval o X.env)
    (hfew : ((backTo cpos (starEach (e :: es) X.env)).all (fun y => !y.1) && (backToKw cpos (keywordEach [] X.env)).all (fun y => y.1.isSome) && decide ((e :: es).length + ([] : List Keyword).length + (if ([] : List Keyword).isEmpty then 0 else 1) < 30)) = true)
    (hline : (apos.endLine == cpos.line) = true) (hs : starEach (e :: es) X.env = (false, eval e X.env) :: starEach es X.env) (hplain : (backTo cpos (starEach es X.env)).any (·.1) = false) :
    PE X (.Call (.Attribute o name apos) (e :: es) [] cpos) (tBMs X.K cs to t) := by
  refine ⟨fun pins s σ H Q I h => ?_⟩
  refine wpAny_Call_method_late hbase hfew hline rfl (thn (ho.run pins s σ H _ I h) fun v s1 ⟨x, H1, I1, r1, c, hc, ty, q1⟩ => ?_)
  obtain ⟨pa, slot, hty, hm⟩ := hcs c hc
  obtain ⟨h1, h2⟩ := tyV_is I1 r1 ty
  have hA := ha.run cpos pins s1 σ H1 _ I1 q1
  refine ⟨c.1, c.2.1, pa, slot, hty, h1, h2, ?_⟩
  rw [hs] at hA ⊢
  refine Calls.callWith_builtin (by show (false || (backTo cpos (starEach es X.env)).any (·.1)) = false; rw [hplain] <;> rfl) (Calls.evalArgs_plain (thn hA fun us s2 ⟨vs, H2, I2, r2, q2⟩ => hm pins s2 σ H2 x vs v us Q I2 r1 r2 q2))

/-! methods that change a list -/
def muId : Mu → String
  | .append => "list.append"
  | .extend => "list.extend"
  | .pop => "list.pop"
  | .popAt => "list.pop"
  | .insert => "list.insert"
def muN : Mu → Str
  | .append => "append"
  | .extend => "extend"
  | .pop => "pop"
  | .popAt => "pop"
  | .insert => "insert"
def VU (K : PySem.W.Frag) (m : Mu) : V → List V → Hp → VK → Prop := fun x xs H Q => ∃ C a vs es ds Qo, Le C H ∧ x = .ref a ∧ H a = some (.lst vs) ∧ RepL K C es vs ∧ RepL K C ds xs ∧ muL m es ds Qo ∧
  ∀ es' d vs' r, Qo es' d → RepL K C es' vs' → Rep K C d r → Q r (upd H a (.lst vs'))
theorem RepL.nil {K : PySem.W.Frag} {C : Hp} {xs : List V} (h : RepL K C [] xs) : xs = [] := by simpa only [RepL] using h
theorem RepL.uno {K : PySem.W.Frag} {C : Hp} {d : D} {xs : List V} (h : RepL K C [d] xs) : ∃ x, xs = [x] ∧ Rep K C d x := by
  simp only [RepL] at h
  obtain ⟨v, r, rfl, p, rfl⟩ := h
  exact ⟨v, rfl, p⟩
theorem vu_append : MtR X "list.append" (VU X.K .append) := by
  refine MtR.imp (r := rAppend) mt_append fun x xs H Q h => ?_
  obtain ⟨C, a, vs, es, ds, Qo, le, rfl, ha, re, rd, hs, w⟩ := h
  have hs : appendS es Qo ds := hs
  match ds, rd, hs with
  | [d], rd, hs =>
    obtain ⟨y, rfl, ry⟩ := rd.uno
    exact ⟨a, vs, y, rfl, rfl, ha, by rw [re.length]; exact hs.1, w _ .none _ _ hs.2 (re.append (RepL.one ry)) (by simp only [Rep])⟩
theorem vu_pop : MtR X "list.pop" (VU X.K .pop) := by
  refine MtR.imp (r := rPop) mt_pop fun x xs H Q h => ?_
  obtain ⟨C, a, vs, es, ds, Qo, le, rfl, ha, re, rd, hs, w⟩ := h
  have hs : popS es Qo ds := hs
  match ds, rd, hs with
  | [], rd, hs =>
    obtain ⟨y, ey, hs⟩ := hs
    obtain ⟨v, ev, rv⟩ := re.get ey
    exact ⟨a, vs, v, rfl, rd.nil, ha, by rw [re.length]; exact ev, w _ _ _ _ hs re.dropLast rv⟩
theorem popAtS_one {es ds : List D} {Q : KU} (h : popAtS es Q ds) : ∃ i, ds = [.int i] ∧ ∃ k y, -(2 ^ 63) ≤ i ∧ i < 2 ^ 63 ∧ seqIndex? i es.length = some k ∧ es[k]? = some y ∧ Q (es.eraseIdx k) y := by
  unfold popAtS at h
  split at h
  · exact ⟨_, rfl, h⟩
  · exact h.elim
theorem vu_popAt : MtR X "list.pop" (VU X.K .popAt) := by
  refine MtR.imp (r := rPopAt) mt_popAt fun x xs H Q h => ?_
  obtain ⟨C, a, vs, es, ds, Qo, le, rfl, ha, re, rd, hs, w⟩ := h
  obtain ⟨i, rfl, hs⟩ : ∃ i, ds = [.int i] ∧ ∃ k y, -(2 ^ 63) ≤ i ∧ i < 2 ^ 63 ∧ seqIndex? i es.length = some k ∧ es[k]? = some y ∧ Qo (es.eraseIdx k) y := popAtS_one hs
  · obtain ⟨k, y, h1, h2, hk, ey, hs⟩ := hs
    obtain ⟨v, ev, rv⟩ := re.get ey
    obtain ⟨u, rfl, ru⟩ := rd.uno
    simp only [Rep] at ru
    subst ru
    exact ⟨a, vs, i, k, v, rfl, rfl, ha, h1, h2, by rw [re.length]; exact hk, ev, w _ _ _ _ hs (re.eraseIdx k) rv⟩
theorem insertS_two {es ds : List D} {Q : KU} (h : insertS es Q ds) : ∃ i d, ds = [.int i, d] ∧ es.length < sizeLine ∧ 0 ≤ i ∧ i < 2 ^ 63 ∧ Q (es.take i.toNat ++ [d] ++ es.drop i.toNat) .none := by
  unfold insertS at h
  split at h
  · exact ⟨_, _, rfl, h⟩
  · exact h.elim
theorem vu_insert : MtR X "list.insert" (VU X.K .insert) := by
  refine MtR.imp mt_insert fun x xs H Q h => ?_
  obtain ⟨C, a, vs, es, ds, Qo, le, rfl, ha, re, rd, hs, w⟩ := h
  obtain ⟨i, d, rfl, hz, h0, h1, hs⟩ := insertS_two hs
  simp only [RepL, Rep] at rd
  obtain ⟨v1, r1, rfl, rfl, v2, r2, rfl, rp, rfl⟩ := rd
  exact ⟨a, vs, i, v2, rfl, rfl, ha, by rw [re.length]; exact hz, h0, h1, w _ .none _ _ hs (((re.take _).append (RepL.one rp)).append (re.drop _)) (by simp only [Rep])⟩
theorem vu_of : ∀ m : Mu, MtR X (muId m) (VU X.K m)
  | .append => vu_append
  | .pop => vu_pop
  | .popAt => vu_popAt
  | .extend => fun _ _ _ _ _ _ _ _ _ _ _ _ ⟨_, _, _, _, _, _, _, _, _, _, _, hs, _⟩ => (hs : False).elim
  | .insert => vu_insert
end
end TW
end
section
set_option Elab.async false
set_option linter.all false
set_option maxRecDepth 100000
set_option maxHeartbeats 1000000
/-! TW6: the frame's names along a step: laws of Sat -/
namespace TW
open PySem L2 PySem.Spec
section
variable {K : PySem.W.Frag} {pin : Nat → Option Addr} {C C' : Hp} {φ φ' : Nat → List Addr} {σ : L2.St} {H H' : Hp} {env env' : Env} {ψ : List Addr} {v : V} {r : OT} {i : Nat}

/-- a result r at v beside the names -/
structure ResAt (K : PySem.W.Frag) (C : Hp) (φ : Nat → List Addr) (ψ : List Addr) (H : Hp) (v : V) (r : OT) : Prop where
  own : Own K C H ψ v r
  sep : ∀ a ∈ ψ, C a = none ∧ (∃ o, H a = some o) ∧ ¬ In φ a

theorem Own.move {t : OT} (h : Own K C H ψ v t) (le : Le C C') (k : ∀ a ∈ ψ, ∀ o, H a = some o → H' a = some o) : Own K C' H' ψ v t := by
  cases t with
  | sh d => exact ⟨h.1, Rep.le le _ _ h.2⟩
  | lst ds =>
    obtain ⟨a, vs, e1, e2, e3, e4⟩ := h
    exact ⟨a, vs, e1, e2, k a (by simp [e2]) _ e3, RepL.le le _ _ e4⟩
  | dic ds =>
    obtain ⟨a, vs, e1, e2, e3, e4⟩ := h
    exact ⟨a, vs, e1, e2, k a (by simp [e2]) _ e3, RepK.le le _ _ e4⟩

theorem Sat.none_of (S : Sat K pin C φ σ H env) {a : Addr} (h : H a = none) : C a = none := by
  cases q : C a with
  | none => rfl
  | some o => rw [S.le a o q] at h; cases h

/-- a step that leaves the names' own objects alone -/
theorem Sat.keep {F F' : Addr → Prop} (S : Sat K pin C φ σ H env) (st : Stp C F H C' F' H') (le : Le C' H') (nf : ∀ a, In φ a → ¬ F a) : Sat K pin C' φ σ H' env := by
  refine ⟨le, S.len, fun i t e => ?_, S.emp, S.dis, fun i a h => ?_, S.pin⟩
  · obtain ⟨v, e1, o⟩ := S.slot i t e
    exact ⟨v, e1, o.move st.le fun a ha u e => st.keep a u e (nf a ⟨i, ha⟩)⟩
  · obtain ⟨c, o, e⟩ := S.sep i a h
    refine ⟨?_, o, st.keep a o e (nf a ⟨i, h⟩)⟩
    cases q : C' a with
    | none => rfl
    | some u =>
      rcases st.cn a (by rw [q]; simp) with z | z | z
      · exact absurd c z
      · exact absurd z (nf a ⟨i, h⟩)
      · rw [e] at z; cases z

/-- behind an operator -/
theorem Sat.res (S : Sat K pin C φ σ H env) (R : Res K C H r C' H' ψ v) : Sat K pin C' φ σ H' env ∧ ResAt K C' φ ψ H' v r ∧ Stp C (In φ) H C' (fun a => In φ a ∨ a ∈ ψ) H' := by
  refine ⟨S.keep R.st R.le (fun _ _ => id), ⟨R.own, fun a ha => ?_⟩, ⟨R.st.le, fun a o e _ => R.st.keep a o e id, fun a h => ?_, fun a c => ?_⟩⟩
  · obtain ⟨c, n, o, e⟩ := R.sep a ha
    refine ⟨c, ⟨o, e⟩, fun ⟨i, hi⟩ => ?_⟩
    obtain ⟨_, o', e'⟩ := S.sep i a hi
    rw [n] at e'; cases e'
  · rcases h with h | h
    · exact .inl h
    · exact .inr (R.sep a h).2.1
  · rcases R.st.cn a c with z | z | z
    · exact .inl z
    · exact z.elim
    · exact .inr (.inr z)

/-- a value that is shared -/
theorem ResAt.sh {d : D} (h : Rep K C d v) : ResAt K C φ [] H v (.sh d) := ⟨⟨rfl, h⟩, fun _ h => by simp at h⟩

/-- the own object is frozen -/
theorem absorb {t : OT} (le : Le C H) (o : Own K C H ψ v t) (s : ∀ a ∈ ψ, C a = none) : ∃ C', Le C C' ∧ Le C' H ∧ Rep K C' t.frz v ∧ ∀ a, C' a ≠ none → C a ≠ none ∨ a ∈ ψ := by
  have go : ∀ (a : Addr) (u : HO), H a = some u → C a = none → Le C (upd C a u) ∧ Le (upd C a u) H ∧ ∀ b, upd C a u b ≠ none → C b ≠ none ∨ b = a := fun a u e c => by
    refine ⟨fun b o h => ?_, fun b o h => ?_, fun b h => ?_⟩
    · rw [upd_ne]
      · exact h
      · rintro rfl; rw [c] at h; cases h
    · by_cases z : b = a
      · subst z; rw [upd_same] at h; cases h; exact e
      · rw [upd_ne z] at h; exact le b o h
    · by_cases z : b = a
      · exact .inr z
      · rw [upd_ne z] at h; exact .inl h
  cases t with
  | sh d =>
    obtain ⟨rfl, h⟩ := o
    exact ⟨C, Le.refl _, le, h, fun a h => .inl h⟩
  | lst ds =>
    obtain ⟨a, vs, rfl, rfl, e, h⟩ := o
    obtain ⟨l1, l2, l3⟩ := go a _ e (s a (by simp))
    refine ⟨_, l1, l2, ?_, fun b hb => (l3 b hb).imp id fun z => by simp [z]⟩
    simp only [OT.frz, Rep]
    exact ⟨a, vs, rfl, SqL.of upd_same, RepL.le l1 _ _ h⟩
  | dic ds =>
    obtain ⟨a, vs, rfl, rfl, e, h⟩ := o
    obtain ⟨l1, l2, l3⟩ := go a _ e (s a (by simp))
    refine ⟨_, l1, l2, ?_, fun b hb => (l3 b hb).imp id fun z => by simp [z]⟩
    simp only [OT.frz, Rep]
    exact ⟨a, vs, rfl, upd_same, RepK.le l1 _ _ h⟩

/-- a result is frozen -/
theorem Sat.frzR (S : Sat K pin C φ σ H env) (R : ResAt K C φ ψ H v r) : ∃ C', Sat K pin C' φ σ H env ∧ Rep K C' r.frz v ∧ Stp C (fun a => In φ a ∨ a ∈ ψ) H C' (In φ) H := by
  obtain ⟨C', l1, l2, rp, cn⟩ := absorb S.le R.own fun a h => (R.sep a h).1
  refine ⟨C', ⟨l2, S.len, fun i t e => ?_, S.emp, S.dis, fun i a h => ⟨?_, (S.sep i a h).2⟩, S.pin⟩, rp, ⟨l1, fun a o e _ => e, fun a h => .inl (.inl h), fun a h => (cn a h).imp id fun z => .inl (.inr z)⟩⟩
  · obtain ⟨v, e1, o⟩ := S.slot i t e
    exact ⟨v, e1, o.move l1 fun _ _ _ e => e⟩
  · cases q : C' a with
    | none => rfl
    | some u =>
      rcases cn a (by rw [q]; simp) with z | z
      · exact absurd (S.sep i a h).1 z
      · exact absurd ⟨i, h⟩ (R.sep a z).2.2

def upN (φ : Nat → List Addr) (i : Nat) (ψ : List Addr) : Nat → List Addr := fun j => if j = i then ψ else φ j
theorem upN_same : upN φ i ψ i = ψ := if_pos rfl
theorem upN_ne {j : Nat} (h : j ≠ i) : upN φ i ψ j = φ j := if_neg h
theorem in_upN {a : Addr} (h : In (upN φ i ψ) a) : In φ a ∨ a ∈ ψ := by
  obtain ⟨j, h⟩ := h
  by_cases e : j = i
  · subst e; rw [upN_same] at h; exact .inr h
  · rw [upN_ne e] at h; exact .inl ⟨j, h⟩
theorem in_upN_nil {a : Addr} (h : In (upN φ i []) a) : In φ a := (in_upN h).elim id fun z => by simp at z

/-- a slot's thing taken out -/
theorem Sat.out (S : Sat K pin C φ σ H env) (i : Nat) : Sat K pin C (upN φ i []) σ H (env.set i none) := by
  refine ⟨S.le, by rw [List.length_set]; exact S.len, fun j t e => ?_, fun j e => ?_, fun j k a h1 h2 => ?_, fun j a h => ?_, S.pin⟩
  · by_cases z : j = i
    · subst z
      by_cases hl : j < env.length
      · rw [List.getElem?_set_self hl] at e; cases e
      · rw [List.getElem?_eq_none (by simpa using hl)] at e; cases e
    · rw [List.getElem?_set_ne (Ne.symm z)] at e
      obtain ⟨v, e1, o⟩ := S.slot j t e
      exact ⟨v, e1, by rw [upN_ne z]; exact o⟩
  · by_cases z : j = i
    · subst z; exact upN_same
    · rw [upN_ne z]
      rw [List.getElem?_set_ne (Ne.symm z)] at e
      exact S.emp j e
  · by_cases z : j = i
    · subst z; rw [upN_same] at h1; simp at h1
    · by_cases z2 : k = i
      · subst z2; rw [upN_same] at h2; simp at h2
      · rw [upN_ne z] at h1; rw [upN_ne z2] at h2; exact S.dis j k a h1 h2
  · by_cases z : j = i
    · subst z; rw [upN_same] at h; simp at h
    · rw [upN_ne z] at h; exact S.sep j a h

/-- what a slot held, as a result beside the others -/
theorem Sat.outR (S : Sat K pin C φ σ H env) {t : OT} (e : env[i]? = some (some t)) : ∃ v, σ[i]? = some (some v) ∧ ResAt K C (upN φ i []) (φ i) H v t := by
  obtain ⟨v, e1, o⟩ := S.slot i t e
  refine ⟨v, e1, o, fun a h => ⟨(S.sep i a h).1, (S.sep i a h).2, fun ⟨j, hj⟩ => ?_⟩⟩
  by_cases z : j = i
  · subst z; rw [upN_same] at hj; simp at hj
  · rw [upN_ne z] at hj; exact z (S.dis j i a hj h)

/-- a result is put into a slot that held nothing of its own -/
theorem Sat.putE (S : Sat K pin C φ σ H env) (R : ResAt K C φ ψ H v r) (e : σ[i]? = some (some v)) (h0 : φ i = []) (hl : i < env.length) : Sat K pin C (upN φ i ψ) σ H (env.set i (some r)) := by
  refine ⟨S.le, by rw [List.length_set]; exact S.len, fun j t e' => ?_, fun j e' => ?_, fun j k a h1 h2 => ?_, fun j a h => ?_, S.pin⟩
  · by_cases z : j = i
    · subst z
      rw [List.getElem?_set_self hl] at e'
      cases e'
      exact ⟨v, e, by rw [upN_same]; exact R.own⟩
    · rw [List.getElem?_set_ne (Ne.symm z)] at e'
      obtain ⟨v, e1, o⟩ := S.slot j t e'
      exact ⟨v, e1, by rw [upN_ne z]; exact o⟩
  · by_cases z : j = i
    · subst z
      rw [List.getElem?_set_self hl] at e'
      rcases e' with e' | e' <;> cases e'
    · rw [upN_ne z]
      rw [List.getElem?_set_ne (Ne.symm z)] at e'
      exact S.emp j e'
  · by_cases z : j = i
    · by_cases z2 : k = i
      · rw [z, z2]
      · subst z; rw [upN_same] at h1; rw [upN_ne z2] at h2; exact absurd ⟨k, h2⟩ (R.sep a h1).2.2
    · by_cases z2 : k = i
      · subst z2; rw [upN_same] at h2; rw [upN_ne z] at h1; exact absurd ⟨j, h1⟩ (R.sep a h2).2.2
      · rw [upN_ne z] at h1; rw [upN_ne z2] at h2; exact S.dis j k a h1 h2
  · by_cases z : j = i
    · subst z; rw [upN_same] at h; exact ⟨(R.sep a h).1, (R.sep a h).2.1⟩
    · rw [upN_ne z] at h; exact S.sep j a h

/-- the slots change, the knowledge of slot i is gone -/
theorem Sat.slots (S : Sat K pin C φ σ H env) (v : Option V) (hi : env[i]? = some none ∨ env[i]? = none) (hp : pin i = none) : Sat K pin C φ (σ.set i v) H env := by
  refine ⟨S.le, by rw [List.length_set]; exact S.len, fun j t e => ?_, S.emp, S.dis, S.sep, fun j a h => ?_⟩
  · have z : j ≠ i := by
      rintro rfl
      rcases hi with q | q <;> rw [q] at e <;> cases e
    obtain ⟨w, e1, o⟩ := S.slot j t e
    exact ⟨w, by rw [List.getElem?_set_ne (Ne.symm z)]; exact e1, o⟩
  · have z : j ≠ i := by rintro rfl; rw [hp] at h; cases h
    rw [List.getElem?_set_ne (Ne.symm z)]
    exact S.pin j a h

/-- name = result -/
theorem Sat.store (S : Sat K pin C φ σ H env) (R : ResAt K C φ ψ H v r) (hp : pin i = none) :
    ∃ φ', Sat K pin C φ' (σ.set i (some v)) H (env.set i (some r)) ∧ ∀ a, In φ' a → In φ a ∨ a ∈ ψ := by
  by_cases hl : i < env.length
  · have S1 := S.out i
    have e0 : (env.set i none)[i]? = some none := List.getElem?_set_self hl
    have S2 := S1.slots (some v) (.inl e0) hp
    have R2 : ResAt K C (upN φ i []) ψ H v r := ⟨R.own, fun a h => ⟨(R.sep a h).1, (R.sep a h).2.1, fun q => (R.sep a h).2.2 (in_upN_nil q)⟩⟩
    have hl2 : i < σ.length := by rw [← S.len]; exact hl
    have S3 := S2.putE (i := i) R2 (List.getElem?_set_self hl2) upN_same (by rw [List.length_set]; exact hl)
    rw [List.set_set] at S3
    refine ⟨_, S3, fun a h => ?_⟩
    rcases in_upN h with h | h
    · exact .inl (in_upN_nil h)
    · exact .inr h
  · have h1 : env.set i (some r) = env := List.set_eq_of_length_le (by omega)
    have h2 : σ.set i (some v) = σ := List.set_eq_of_length_le (by rw [← S.len]; omega)
    rw [h1, h2]
    exact ⟨φ, S, fun a h => .inl h⟩

/-- a name's own thing is frozen -/
theorem Sat.frzV (S : Sat K pin C φ σ H env) {t : OT} (e : env[i]? = some (some t)) :
    ∃ C' φ' v, Sat K pin C' φ' σ H (env.set i (some (.sh t.frz))) ∧ σ[i]? = some (some v) ∧ Rep K C' t.frz v ∧ Stp C (In φ) H C' (In φ') H := by
  obtain ⟨v, e1, R⟩ := S.outR e
  have S1 := S.out i
  obtain ⟨C', S2, rp, st⟩ := S1.frzR R
  have hl : i < env.length := by
    by_cases h : i < env.length
    · exact h
    · rw [List.getElem?_eq_none (by omega)] at e; cases e
  have S3 := S2.putE (i := i) (ResAt.sh (φ := upN φ i []) (H := H) rp) e1 upN_same (by rw [List.length_set]; exact hl)
  rw [List.set_set] at S3
  refine ⟨C', _, v, S3, e1, rp, st.mono (fun a h => ?_) fun a h => ?_⟩
  · rcases h with h | h
    · exact in_upN_nil h
    · exact ⟨i, h⟩
  · exact (in_upN h).elim id fun z => by simp at z

/-- what a name holds can be read -/
theorem Sat.peek (S : Sat K pin C φ σ H env) {t : OT} (e : env[i]? = some (some t)) : ∃ v, σ[i]? = some (some v) ∧ Peek K C H t.frz v := by
  obtain ⟨v, e1, o⟩ := S.slot i t e
  exact ⟨v, e1, Own.peek S.le o⟩
end
end TW
end
section
set_option Elab.async false
set_option linter.all false
set_option maxRecDepth 100000
set_option maxHeartbeats 1000000
/-! TW7: readings of the hand layer by the meaning on trees; one lemma for each form of expression -/
namespace TW
open PySem L2 PySem.Spec

section
variable {X : Cx}
theorem _root_.L2.PE.imp {e : Expr} {t t' : TE} (h : PE X e t) (i : ∀ σ H Q, t' σ H Q → t σ H Q) : PE X e t' := ⟨fun pins s σ H Q I q => h.run pins s σ H Q I (i σ H Q q)⟩
theorem _root_.L2.PT.imp {e : Expr} {t t' : TT} (h : PT X e t) (i : ∀ σ H Q, t' σ H Q → t σ H Q) : PT X e t' := ⟨fun pins s σ H Q I q => h.run pins s σ H Q I (i σ H Q q)⟩
theorem _root_.L2.PW.imp {e : Expr} {t t' : TT} (h : PW X e t) (i : ∀ σ H Q, t' σ H Q → t σ H Q) : PW X e t' := ⟨fun w pins s σ H Q I q => h.run w pins s σ H Q I (i σ H Q q)⟩
theorem _root_.L2.PA.imp {e : List Expr} {t t' : TA} (h : PA X e t) (i : ∀ σ H Q, t' σ H Q → t σ H Q) : PA X e t' := ⟨fun p pins s σ H Q I q => h.run p pins s σ H Q I (i σ H Q q)⟩
end

/-- what stays the same through a body -/
structure Zt where
  K : PySem.W.Frag
  Γ : Ctx
  pin : Nat → Option Addr
  /-- the classes that may be raised: where, and the name of the field -/
  xc : Str → Option (Addr × Str) := fun _ => none
  /-- what is wished for where one is raised -/
  W : WX := fun _ _ _ _ => False

section
variable (Z : Zt)
def RE (e : Ex) : TE := fun σ H Q => ∃ C φ env Qt, Sat Z.K Z.pin C φ σ H env ∧ wpE Z.Γ e env Qt ∧
  ∀ r env' C' φ' ψ H' v, Qt r env' → Stp C (In φ) H C' (fun a => In φ' a ∨ a ∈ ψ) H' → Sat Z.K Z.pin C' φ' σ H' env' → ResAt Z.K C' φ' ψ H' v r → Q v H'
def RV (e : Ex) : TE := fun σ H Q => ∃ (C : Hp) (φ : Nat → List Addr) (env : Env) (Qt : D → Env → Prop), Sat Z.K Z.pin C φ σ H env ∧ wpE Z.Γ e env (fun r e1 => Qt r.frz e1) ∧
  ∀ d env' C' φ' H' v, Qt d env' → Stp C (In φ) H C' (In φ') H' → Sat Z.K Z.pin C' φ' σ H' env' → Rep Z.K C' d v → Q v H'
def OpAt (K : PySem.W.Frag) (C : Hp) (σ : L2.St) : Opd → V → Prop
  | .va d, v => Rep K C d v
  | .pl i, v => σ[i]? = some (some v)
def RO (e : Ex) : TE := fun σ H Q => ∃ C φ env Qt, Sat Z.K Z.pin C φ σ H env ∧ opd e (wpE Z.Γ e env) env Qt ∧
  ∀ o env' C' φ' H' v, Qt o env' → Stp C (In φ) H C' (In φ') H' → Sat Z.K Z.pin C' φ' σ H' env' → OpAt Z.K C' σ o v → Q v H'
def RT (e : Ex) : TT := fun σ H Q => ∃ C φ env Qt, Sat Z.K Z.pin C φ σ H env ∧ tst (wpE Z.Γ e env) Qt ∧
  ∀ c env' C' φ' H', Qt c env' → Stp C (In φ) H C' (In φ') H' → Sat Z.K Z.pin C' φ' σ H' env' → Q c H'
def RVs (es : List Ex) : TA := fun σ H Q => ∃ C φ env Qt, Sat Z.K Z.pin C φ σ H env ∧ wpVs Z.Γ es env Qt ∧
  ∀ ds env' C' φ' H' vs, Qt ds env' → Stp C (In φ) H C' (In φ') H' → Sat Z.K Z.pin C' φ' σ H' env' → RepL Z.K C' ds vs → Q vs H'
def OpL (K : PySem.W.Frag) (C : Hp) (σ : L2.St) : List Opd → List V → Prop
  | [], vs => vs = []
  | o :: os, vs => ∃ v r, vs = v :: r ∧ OpAt K C σ o v ∧ OpL K C σ os r
def ROs (es : List Ex) : TA := fun σ H Q => ∃ C φ env Qt, Sat Z.K Z.pin C φ σ H env ∧ wpOs Z.Γ es env Qt ∧
  ∀ os env' C' φ' H' vs, Qt os env' → Stp C (In φ) H C' (In φ') H' → Sat Z.K Z.pin C' φ' σ H' env' → OpL Z.K C' σ os vs → Q vs H'
end

section
variable {Z : Zt} {X : Cx}
theorem OpAt.le {K : PySem.W.Frag} {C C' : Hp} {σ : L2.St} {o : Opd} {v : V} (h : Le C C') (q : OpAt K C σ o v) : OpAt K C' σ o v := by
  cases o with
  | va d => exact Rep.le h _ _ q
  | pl i => exact q
theorem OpAt.peek {K : PySem.W.Frag} {pin : Nat → Option Addr} {C C' H : Hp} {φ : Nat → List Addr} {σ : L2.St} {env : Env} {o : Opd} {v : V} {d : D} (q : OpAt K C σ o v) (h : Le C C') (S : Sat K pin C' φ σ H env) (e : o.res env = some d) : Peek K C' H d v := by
  cases o with
  | va d' =>
    simp only [Opd.res, Option.some.injEq] at e
    subst e
    exact Rep.peek S.le (Rep.le h _ _ q)
  | pl i =>
    simp only [Opd.res] at e
    split at e
    · rename_i t et
      cases e
      obtain ⟨w, e1, p⟩ := S.peek et
      have q' : σ[i]? = some (some v) := q
      rw [q'] at e1
      cases e1
      exact p
    · cases e
theorem OpL.peek {K : PySem.W.Frag} {pin : Nat → Option Addr} {C C' H : Hp} {φ : Nat → List Addr} {σ : L2.St} {env : Env} (h : Le C C') (S : Sat K pin C' φ σ H env) : ∀ {os : List Opd} {vs : List V} {ds : List D}, OpL K C σ os vs → resL env os = some ds → PeekL K C' H ds vs
  | [], vs, ds, q, e => by
    simp only [resL, Option.some.injEq] at e
    subst e
    simp only [OpL] at q
    simpa only [PeekL] using q
  | o :: os, vs, ds, q, e => by
    simp only [OpL] at q
    obtain ⟨v, r, rfl, q1, q2⟩ := q
    simp only [resL] at e
    split at e
    · rename_i d ds' e1 e2
      cases e
      simp only [PeekL]
      exact ⟨v, r, rfl, q1.peek h S e1, OpL.peek h S q2 e2⟩
    · cases e

theorem RV_RE {ex : Ex} {σ : L2.St} {H : Hp} {Q : VK} (h : RV Z ex σ H Q) : RE Z ex σ H Q := by
  obtain ⟨C, φ, env, Qt, S, w, k⟩ := h
  refine ⟨C, φ, env, _, S, w, fun r e1 C1 φ1 ψ H1 v q st S1 R => ?_⟩
  obtain ⟨C2, S2, rp, st2⟩ := S1.frzR R
  exact k _ e1 C2 φ1 H1 v q (st.trans st2) S2 rp
theorem pe_RV {e : Expr} {ex : Ex} (h : PE X e (RE Z ex)) : PE X e (RV Z ex) := h.imp fun _ _ _ q => RV_RE q
theorem RT_RE {ex : Ex} {σ : L2.St} {H : Hp} {Q : Bool → Hp → Prop} (h : RT Z ex σ H Q) : RE Z ex σ H (fun x H' => ∃ k, x = .bl k ∧ Q k H') := by
  obtain ⟨C, φ, env, Qt, S, w, k⟩ := h
  refine ⟨C, φ, env, _, S, w, fun r e1 C1 φ1 ψ H1 v q st S1 R => ?_⟩
  obtain ⟨c, rfl, q⟩ := q
  obtain ⟨e2, rp⟩ := R.own
  subst e2
  simp only [Rep] at rp
  exact ⟨c, rp, k c e1 C1 φ1 H1 q (st.mono (fun _ h => h) fun _ h => .inl h) S1⟩

theorem pe_RO {e : Expr} {ex : Ex} (h : PE X e (RE Z ex)) (hv : ∀ i, ex = .var i → PE X e (tVar i)) : PE X e (RO Z ex) := by
  have gen : (∀ env k, opd ex (wpE Z.Γ ex env) env k = wpE Z.Γ ex env fun r e1 => k (.va r.frz) e1) → PE X e (RO Z ex) := fun he => by
    refine (pe_RV h).imp fun σ H Q q => ?_
    obtain ⟨C, φ, env, Qt, S, w, k⟩ := q
    rw [he] at w
    exact ⟨C, φ, env, fun d e1 => Qt (.va d) e1, S, w, fun d e1 C1 φ1 H1 v q st S1 rp => k _ e1 C1 φ1 H1 v q st S1 rp⟩
  cases ex with
  | var i =>
    refine (hv i rfl).imp fun σ H Q q => ?_
    obtain ⟨C, φ, env, Qt, S, w, k⟩ := q
    obtain ⟨⟨t, et⟩, w⟩ := w
    obtain ⟨v, e1, p⟩ := S.peek et
    exact ⟨v, e1, k _ env C φ H v w Stp.refl S e1⟩
  | _ => exact gen fun _ _ => rfl

/-! ### operators -/
theorem R2_peek {o : Op2} {σ : L2.St} {H : Hp} {a b : Ex} {Q : VK} (h : RE Z (.op2 o a b) σ H Q) : tOp (V2 Z.K (op2 o)) (RO Z a) (RO Z b) σ H Q := by
  obtain ⟨C, φ, env, Qt, S, w, k⟩ := h
  simp only [wpE] at w
  refine ⟨C, φ, env, _, S, w, fun oa e1 C1 φ1 H1 x q1 st1 S1 oa1 => ⟨C1, φ1, e1, _, S1, q1, fun ob e2 C2 φ2 H2 y q2 st2 S2 ob2 => ?_⟩⟩
  obtain ⟨da, db, ra, rb, q⟩ := q2
  refine ⟨C2, da, db, _, S2.le, oa1.peek st2.le S2 ra, ob2.peek (Le.refl _) S2 rb, q, fun r q C3 H3 ψ v R => ?_⟩
  obtain ⟨S3, R3, st3⟩ := S2.res R
  exact k r e2 C3 φ2 ψ H3 v q ((st1.trans st2).trans st3) S3 R3
theorem s_bin {a b : Expr} {ea eb : Ex} {o : Op2} {f : Operator} {pos : Pos} (hK : X.K = Z.K) (ha : PE X a (RO Z ea)) (hb : PE X b (RO Z eb)) (ho : binO o = some f) : PE X (.BinOp a f b pos) (RE Z (.op2 o ea eb)) :=
  (pe_op (v2_bin ho) ha hb).imp fun σ H Q q => by rw [hK]; exact R2_peek q
theorem s_cmp {a b : Expr} {ea eb : Ex} {o : Op2} {f : CmpOp} {pos : Pos} (hK : X.K = Z.K) (hu : X.A.units + 65 < cLine) (ha : PE X a (RO Z ea)) (hb : PE X b (RO Z eb)) (ho : cmpO o = some f) (hm : behindInMarks f b = false) :
    PE X (.Compare a [f] [b] pos) (RE Z (.op2 o ea eb)) ∧ PT X (.Compare a [f] [b] pos) (RT Z (.op2 o ea eb)) :=
  ⟨(pe_cmpR (v2_cmp hu ho) ha hb hm).imp fun σ H Q q => by rw [hK]; exact R2_peek q,
   (pt_cmpR (v2_cmp hu ho) ha hb hm).imp fun σ H Q q => by rw [hK]; exact R2_peek (RT_RE q)⟩
theorem RC_peek {o o' : Op2} {σ : L2.St} {H : Hp} {a b c : Ex} {Q : VK} (h : RE Z (.chain o o' a b c) σ H Q) : tChain (V2 Z.K (op2 o)) (V2 Z.K (op2 o')) (RO Z a) (RO Z b) (RO Z c) σ H Q := by
  obtain ⟨C, φ, env, Qt, S, w, k⟩ := h
  simp only [wpE] at w
  refine ⟨C, φ, env, _, S, w, fun oa e1 C1 φ1 H1 x q1 st1 S1 oa1 => ⟨C1, φ1, e1, _, S1, q1, fun ob e2 C2 φ2 H2 y q2 st2 S2 ob2 => ?_⟩⟩
  obtain ⟨da, db, ra, rb, q⟩ := q2
  refine ⟨C2, da, db, _, S2.le, oa1.peek st2.le S2 ra, ob2.peek (Le.refl _) S2 rb, q, fun r q C3 H3 ψ v R => ?_⟩
  obtain ⟨S3, R3, st3⟩ := S2.res R
  obtain ⟨k', rfl, q⟩ := q
  obtain ⟨e3, rp⟩ := R3.own
  subst e3
  simp only [Rep] at rp
  have st4 : Stp C (In φ) H C3 (In φ2) H3 := (st1.trans st2).trans (st3.mono (fun _ h => h) fun _ h => .inl h)
  refine ⟨k', rp, ?_⟩
  cases k' with
  | false =>
    simp only [Bool.false_eq_true, if_false] at q ⊢
    exact k _ e2 C3 φ2 [] H3 _ q (st4.mono (fun _ h => h) fun a h => h.elim id fun z => by simp at z) S3 (ResAt.sh (by simp only [Rep]))
  | true =>
    simp only [if_true] at q ⊢
    refine ⟨C3, φ2, e2, _, S3, q, fun oc e4 C4 φ4 H4 z q4 st5 S4 oc4 => ?_⟩
    obtain ⟨db', dc, rb', rc, q⟩ := q4
    refine ⟨C4, db', dc, _, S4.le, ob2.peek (st3.le.trans st5.le) S4 rb', oc4.peek (Le.refl _) S4 rc, q, fun r q C5 H5 ψ v R => ?_⟩
    obtain ⟨S5, R5, st6⟩ := S4.res R
    exact k r e4 C5 φ4 ψ H5 v q ((st4.trans st5).trans st6) S5 R5
theorem s_chain {a b c : Expr} {ea eb ec : Ex} {o o' : Op2} {f f' : CmpOp} {pos : Pos} (hK : X.K = Z.K) (hu : X.A.units + 65 < cLine) (ha : PE X a (RO Z ea)) (hb : PE X b (RO Z eb)) (hc : PE X c (RO Z ec)) (ho : cmpO o = some f) (ho' : cmpO o' = some f')
    (hm : lastMarks [f, f'] [b, c] = false) :
    PE X (.Compare a [f, f'] [b, c] pos) (RE Z (.chain o o' ea eb ec)) ∧ PT X (.Compare a [f, f'] [b, c] pos) (RT Z (.chain o o' ea eb ec)) :=
  ⟨(pe_chain (v2_cmp hu ho) (v2_cmp hu ho') ha hb hc hm).imp fun σ H Q q => by rw [hK]; exact RC_peek q,
   (pt_chain (v2_cmp hu ho) (v2_cmp hu ho') ha hb hc hm).imp fun σ H Q q => by rw [hK]; exact RC_peek (RT_RE q)⟩

/-! ### not, and, or, if -/
theorem s_not {a : Expr} {ea : Ex} {pos : Pos} (pe : PE X a (RE Z ea)) (pt : PT X a (RT Z ea)) : PE X (.UnaryOp .Not a pos) (RE Z (.not ea)) ∧ PT X (.UnaryOp .Not a pos) (RT Z (.not ea)) := by
  refine ⟨(pe_not pe).imp fun σ H Q q => ?_, (pt_not pt).imp fun σ H Q q => ?_⟩
  · obtain ⟨C, φ, env, Qt, S, w, k⟩ := q
    simp only [wpE] at w
    refine ⟨C, φ, env, _, S, w, fun r e1 C1 φ1 ψ H1 v q st S1 R => ?_⟩
    obtain ⟨c, rfl, q⟩ := q
    obtain ⟨e2, rp⟩ := R.own
    subst e2
    simp only [Rep] at rp
    exact ⟨c, rp, k _ e1 C1 φ1 [] H1 _ q st S1 (ResAt.sh (by simp only [Rep]))⟩
  · obtain ⟨C, φ, env, Qt, S, w, k⟩ := q
    simp only [wpE, tst] at w
    refine ⟨C, φ, env, fun c e1 => Qt (!c) e1, S, ?_, fun c e1 C1 φ1 H1 q st S1 => k _ e1 C1 φ1 H1 q st S1⟩
    simpa [tst] using w
/-- a shared result of a test -/
theorem Stp.drop {C F H C' H' : _} {φ : Nat → List Addr} {ψ : List Addr} (s : Stp C F H C' (fun a => In φ a ∨ a ∈ ψ) H') : Stp C F H C' (In φ) H' := s.mono (fun _ h => h) fun _ h => .inl h
theorem Stp.with {C F H C' H' : _} {φ : Nat → List Addr} (s : Stp C F H C' (In φ) H') : Stp C F H C' (fun a => In φ a ∨ a ∈ ([] : List Addr)) H' := s.mono (fun _ h => h) fun a h => h.elim id fun z => by simp at z
theorem s_and {a b : Expr} {rest : List Expr} {ea eb : Ex} {pos : Pos} (pe : PE X a (RE Z ea)) (pt : PT X a (RT Z ea)) (pe2 : PE X (.BoolOp .And (b :: rest) pos) (RE Z eb)) (pw2 : PW X (.BoolOp .And (b :: rest) pos) (RT Z eb)) :
    PE X (.BoolOp .And (a :: b :: rest) pos) (RE Z (.and ea eb)) ∧ PW X (.BoolOp .And (a :: b :: rest) pos) (RT Z (.and ea eb)) := by
  refine ⟨(pe_and pe pe2).imp fun σ H Q q => ?_, (pw_and pt pw2).imp fun σ H Q q => ?_⟩
  · obtain ⟨C, φ, env, Qt, S, w, k⟩ := q
    simp only [wpE] at w
    refine ⟨C, φ, env, _, S, w, fun r e1 C1 φ1 ψ H1 v q st S1 R => ?_⟩
    obtain ⟨c, rfl, q⟩ := q
    obtain ⟨e2, rp⟩ := R.own
    subst e2
    simp only [Rep] at rp
    refine ⟨c, rp, ?_⟩
    cases c with
    | false =>
      simp only [Bool.false_eq_true, if_false] at q ⊢
      exact k _ e1 C1 φ1 [] H1 _ q st S1 (ResAt.sh (by simp only [Rep]))
    | true =>
      simp only [if_true] at q ⊢
      exact ⟨C1, φ1, e1, _, S1, q, fun r e2 C2 φ2 ψ H2 v q st2 S2 R2 => k r e2 C2 φ2 ψ H2 v q (st.drop.trans st2) S2 R2⟩
  · obtain ⟨C, φ, env, Qt, S, w, k⟩ := q
    simp only [wpE, tst] at w
    refine ⟨C, φ, env, _, S, w, fun c e1 C1 φ1 H1 q st S1 => ?_⟩
    cases c with
    | false =>
      simp only [Bool.false_eq_true, if_false] at q ⊢
      obtain ⟨c', e, q⟩ := q
      cases e
      exact k _ e1 C1 φ1 H1 q st S1
    | true =>
      simp only [if_true] at q ⊢
      exact ⟨C1, φ1, e1, _, S1, q, fun c e2 C2 φ2 H2 q st2 S2 => k c e2 C2 φ2 H2 q (st.trans st2) S2⟩
theorem s_or {a b : Expr} {rest : List Expr} {ea eb : Ex} {pos : Pos} (pe : PE X a (RE Z ea)) (pt : PT X a (RT Z ea)) (pe2 : PE X (.BoolOp .Or (b :: rest) pos) (RE Z eb)) (pw2 : PW X (.BoolOp .Or (b :: rest) pos) (RT Z eb)) :
    PE X (.BoolOp .Or (a :: b :: rest) pos) (RE Z (.or ea eb)) ∧ PW X (.BoolOp .Or (a :: b :: rest) pos) (RT Z (.or ea eb)) := by
  refine ⟨(pe_or pe pe2).imp fun σ H Q q => ?_, (pw_or pt pw2).imp fun σ H Q q => ?_⟩
  · obtain ⟨C, φ, env, Qt, S, w, k⟩ := q
    simp only [wpE] at w
    refine ⟨C, φ, env, _, S, w, fun r e1 C1 φ1 ψ H1 v q st S1 R => ?_⟩
    obtain ⟨c, rfl, q⟩ := q
    obtain ⟨e2, rp⟩ := R.own
    subst e2
    simp only [Rep] at rp
    refine ⟨c, rp, ?_⟩
    cases c with
    | true =>
      simp only [if_true] at q ⊢
      exact k _ e1 C1 φ1 [] H1 _ q st S1 (ResAt.sh (by simp only [Rep]))
    | false =>
      simp only [Bool.false_eq_true, if_false] at q ⊢
      exact ⟨C1, φ1, e1, _, S1, q, fun r e2 C2 φ2 ψ H2 v q st2 S2 R2 => k r e2 C2 φ2 ψ H2 v q (st.drop.trans st2) S2 R2⟩
  · obtain ⟨C, φ, env, Qt, S, w, k⟩ := q
    simp only [wpE, tst] at w
    refine ⟨C, φ, env, _, S, w, fun c e1 C1 φ1 H1 q st S1 => ?_⟩
    cases c with
    | true =>
      simp only [if_true] at q ⊢
      obtain ⟨c', e, q⟩ := q
      cases e
      exact k _ e1 C1 φ1 H1 q st S1
    | false =>
      simp only [Bool.false_eq_true, if_false] at q ⊢
      exact ⟨C1, φ1, e1, _, S1, q, fun c e2 C2 φ2 H2 q st2 S2 => k c e2 C2 φ2 H2 q (st.trans st2) S2⟩
theorem s_ife {c a b : Expr} {ec ea eb : Ex} {pos : Pos} (pt : PT X c (RT Z ec)) (pe : PE X a (RE Z ea)) (pe2 : PE X b (RE Z eb)) : PE X (.IfExp c a b pos) (RE Z (.ife ec ea eb)) := by
  refine (pe_ifExp pt pe pe2).imp fun σ H Q q => ?_
  obtain ⟨C, φ, env, Qt, S, w, k⟩ := q
  simp only [wpE] at w
  refine ⟨C, φ, env, _, S, w, fun c e1 C1 φ1 H1 q st S1 => ?_⟩
  cases c with
  | true =>
    simp only [if_true] at q ⊢
    exact ⟨C1, φ1, e1, _, S1, q, fun r e2 C2 φ2 ψ H2 v q st2 S2 R2 => k r e2 C2 φ2 ψ H2 v q (st.trans st2) S2 R2⟩
  | false =>
    simp only [Bool.false_eq_true, if_false] at q ⊢
    exact ⟨C1, φ1, e1, _, S1, q, fun r e2 C2 φ2 ψ H2 v q st2 S2 R2 => k r e2 C2 φ2 ψ H2 v q (st.trans st2) S2 R2⟩
theorem s_neg {a : Expr} {ea : Ex} {pos : Pos} (pe : PE X a (RE Z ea)) : PE X (.UnaryOp .USub a pos) (RE Z (.neg ea)) := by
  refine (pe_un un_neg pe).imp fun σ H Q q => ?_
  obtain ⟨C, φ, env, Qt, S, w, k⟩ := q
  simp only [wpE] at w
  refine ⟨C, φ, env, _, S, w, fun r e1 C1 φ1 ψ H1 v q st S1 R => ?_⟩
  obtain ⟨i, rfl, q⟩ := q
  obtain ⟨e2, rp⟩ := R.own
  subst e2
  simp only [Rep] at rp
  exact ⟨i, rp, k _ e1 C1 φ1 [] H1 _ q st S1 (ResAt.sh (by simp only [Rep]))⟩

/-! ### constants, names -/
theorem s_cst {e : Expr} {d : D} {v : V} (h : PE X e (tC v)) (r : ∀ K C, Rep K C d v) : PE X e (RE Z (.cst d)) := by
  refine h.imp fun σ H Q q => ?_
  obtain ⟨C, φ, env, Qt, S, w, k⟩ := q
  simp only [wpE] at w
  exact k _ env C φ [] H v w Stp.refl.with S (ResAt.sh (r _ _))
theorem s_var {e : Expr} {i : Nat} (hio : ∀ j, j ∉ Z.Γ.io → Z.pin j = none) (h : PE X e (tVar i)) : PE X e (RE Z (.var i)) := by
  refine h.imp fun σ H Q q => ?_
  obtain ⟨C, φ, env, Qt, S, w, k⟩ := q
  simp only [wpE] at w
  obtain ⟨t, et, w⟩ := w
  cases t with
  | sh d =>
    obtain ⟨v, e1, o⟩ := S.slot i _ et
    exact ⟨v, e1, k _ env C φ [] H v w Stp.refl.with S (ResAt.sh o.2)⟩
  | lst ds =>
    obtain ⟨C', φ', v, S', e1, rp, st⟩ := S.frzV et
    exact ⟨v, e1, k _ _ C' φ' [] H v w.2 st.with S' (ResAt.sh rp)⟩
  | dic ds =>
    obtain ⟨C', φ', v, S', e1, rp, st⟩ := S.frzV et
    exact ⟨v, e1, k _ _ C' φ' [] H v w.2 st.with S' (ResAt.sh rp)⟩

/-! ### subscripts -/
theorem s_idx {a b : Expr} {ea eb : Ex} {pos : Pos} (hK : X.K = Z.K) (ha : PE X a (RO Z ea)) (hb : PE X b (RO Z eb)) (hs : PlainIx b) : PE X (.Subscript a b pos) (RE Z (.idx ea eb)) := by
  refine (pe_ix vx_ix ha hb hs).imp fun σ H Q q => ?_
  rw [hK]
  obtain ⟨C, φ, env, Qt, S, w, k⟩ := q
  simp only [wpE] at w
  refine ⟨C, φ, env, _, S, w, fun oa e1 C1 φ1 H1 x q1 st1 S1 oa1 => ⟨C1, φ1, e1, _, S1, q1, fun ob e2 C2 φ2 H2 y q2 st2 S2 ob2 => ?_⟩⟩
  obtain ⟨da, db, ra, rb, q⟩ := q2
  refine ⟨C2, da, db, fun r => Qt r e2, S2.le, oa1.peek st2.le S2 ra, ob2.peek (Le.refl _) S2 rb, q, fun r q C3 H3 ψ v R => ?_⟩
  obtain ⟨S3, R3, st3⟩ := S2.res R
  exact k r e2 C3 φ2 ψ H3 v q ((st1.trans st2).trans st3) S3 R3
/-- a slice's part -/
def RI (Z : Zt) (ex : Ex) : TO := fun σ H Q => ∃ (C : Hp) (φ : Nat → List Addr) (env : Env) (Qt : Int → Env → Prop), Sat Z.K Z.pin C φ σ H env ∧ wpE Z.Γ ex env (fun r e1 => ∃ i, r = .sh (.int i) ∧ Qt i e1) ∧
  ∀ i env' C' φ' H', Qt i env' → Stp C (In φ) H C' (In φ') H' → Sat Z.K Z.pin C' φ' σ H' env' → Q (some i) H'
theorem _root_.L2.PO.imp {e : Option Expr} {t t' : TO} (h : PO X e t) (i : ∀ σ H Q, t' σ H Q → t σ H Q) : PO X e t' := ⟨fun pins s σ H Q I q => h.run pins s σ H Q I (i σ H Q q)⟩
theorem po_RI {e : Expr} {ex : Ex} (h : PE X e (RE Z ex)) : PO X (some e) (RI Z ex) := by
  refine (po_some h).imp fun σ H Q q => ?_
  obtain ⟨C, φ, env, Qt, S, w, k⟩ := q
  refine ⟨C, φ, env, _, S, w, fun r e1 C1 φ1 ψ H1 v q st S1 R => ?_⟩
  obtain ⟨i, rfl, q⟩ := q
  obtain ⟨e2, rp⟩ := R.own
  subst e2
  simp only [Rep] at rp
  exact ⟨i, rp, k i e1 C1 φ1 H1 q st.drop S1⟩
theorem s_slc {a l h : Expr} {ea el eh : Ex} {pos p2 : Pos} (hK : X.K = Z.K) (ha : PE X a (RO Z ea)) (hl : PE X l (RE Z el)) (hh : PE X h (RE Z eh)) : PE X (.Subscript a (.Slice (some l) (some h) none p2) pos) (RE Z (.slc ea el eh)) := by
  refine (pe_slice vx_sl ha (po_RI hl) (po_RI hh)).imp fun σ H Q q => ?_
  rw [hK]
  obtain ⟨C, φ, env, Qt, S, w, k⟩ := q
  simp only [wpE] at w
  refine ⟨C, φ, env, _, S, w, fun oa e1 C1 φ1 H1 x q1 st1 S1 oa1 => ⟨C1, φ1, e1, fun lo e2 => wpE Z.Γ eh e2 fun rh e3 => ∃ hi, rh = .sh (.int hi) ∧ ∃ da, oa.res e3 = some da ∧ slcI da (some lo) (some hi) fun r => Qt r e3, S1, q1, fun lo e2 C2 φ2 H2 q2 st2 S2 => ?_⟩⟩
  refine ⟨C2, φ2, e2, fun hi e3 => ∃ da, oa.res e3 = some da ∧ slcI da (some lo) (some hi) fun r => Qt r e3, S2, q2, fun hi e3 C3 φ3 H3 q3 st3 S3 => ?_⟩
  obtain ⟨da, ra, q⟩ := q3
  refine ⟨C3, da, fun r => Qt r e3, S3.le, oa1.peek (st2.le.trans st3.le) S3 ra, q, fun r q C4 H4 ψ v R => ?_⟩
  obtain ⟨S4, R4, st4⟩ := S3.res R
  exact k r e3 C4 φ3 ψ H4 v q (((st1.trans st2).trans st3).trans st4) S4 R4
theorem s_slcL {a l : Expr} {ea el : Ex} {pos p2 : Pos} (hK : X.K = Z.K) (ha : PE X a (RO Z ea)) (hl : PE X l (RE Z el)) : PE X (.Subscript a (.Slice (some l) none none p2) pos) (RE Z (.slcL ea el)) := by
  refine (pe_slice vx_sl ha (po_RI hl) po_none).imp fun σ H Q q => ?_
  rw [hK]
  obtain ⟨C, φ, env, Qt, S, w, k⟩ := q
  simp only [wpE] at w
  refine ⟨C, φ, env, _, S, w, fun oa e1 C1 φ1 H1 x q1 st1 S1 oa1 => ⟨C1, φ1, e1, fun lo e3 => ∃ da, oa.res e3 = some da ∧ slcI da (some lo) none fun r => Qt r e3, S1, q1, fun lo e3 C3 φ3 H3 q3 st2 S3 => ?_⟩⟩
  obtain ⟨da, ra, q⟩ := q3
  refine ⟨C3, da, fun r => Qt r e3, S3.le, oa1.peek st2.le S3 ra, q, fun r q C4 H4 ψ v R => ?_⟩
  obtain ⟨S4, R4, st4⟩ := S3.res R
  exact k r e3 C4 φ3 ψ H4 v q ((st1.trans st2).trans st4) S4 R4
theorem s_slcH {a l : Expr} {ea el : Ex} {pos p2 : Pos} (hK : X.K = Z.K) (ha : PE X a (RO Z ea)) (hl : PE X l (RE Z el)) : PE X (.Subscript a (.Slice none (some l) none p2) pos) (RE Z (.slcH ea el)) := by
  refine (pe_slice vx_sl ha po_none (po_RI hl)).imp fun σ H Q q => ?_
  rw [hK]
  obtain ⟨C, φ, env, Qt, S, w, k⟩ := q
  simp only [wpE] at w
  refine ⟨C, φ, env, _, S, w, fun oa e1 C1 φ1 H1 x q1 st1 S1 oa1 => ⟨C1, φ1, e1, fun lo e3 => ∃ da, oa.res e3 = some da ∧ slcI da none (some lo) fun r => Qt r e3, S1, q1, fun lo e3 C3 φ3 H3 q3 st2 S3 => ?_⟩⟩
  obtain ⟨da, ra, q⟩ := q3
  refine ⟨C3, da, fun r => Qt r e3, S3.le, oa1.peek st2.le S3 ra, q, fun r q C4 H4 ψ v R => ?_⟩
  obtain ⟨S4, R4, st4⟩ := S3.res R
  exact k r e3 C4 φ3 ψ H4 v q ((st1.trans st2).trans st4) S4 R4

/-! ### lists of expressions -/
theorem pa_RVs_nil : PA X [] (RVs Z []) := pa_nil.imp fun σ H Q q => by
  obtain ⟨C, φ, env, Qt, S, w, k⟩ := q
  simp only [wpVs] at w
  exact k [] env C φ H [] w Stp.refl S (by simp only [RepL])
theorem pa_RVs_cons {e : Expr} {es : List Expr} {ex : Ex} {exs : List Ex} (h : PE X e (RE Z ex)) (hr : PA X es (RVs Z exs)) (hs : starEach (e :: es) X.env = (false, eval e X.env) :: starEach es X.env) : PA X (e :: es) (RVs Z (ex :: exs)) :=
  (pa_cons (pe_RV h) hr hs).imp fun σ H Q q => by
    obtain ⟨C, φ, env, Qt, S, w, k⟩ := q
    simp only [wpVs] at w
    refine ⟨C, φ, env, fun d e1 => wpVs Z.Γ exs e1 fun ds e2 => Qt (d :: ds) e2, S, w, fun d e1 C1 φ1 H1 v q st S1 rp => ⟨C1, φ1, e1, _, S1, q, fun ds e2 C2 φ2 H2 vs q st2 S2 rs => ?_⟩⟩
    exact k (d :: ds) e2 C2 φ2 H2 (v :: vs) q (st.trans st2) S2 (by simp only [RepL]; exact ⟨v, vs, rfl, Rep.le st2.le _ _ rp, rs⟩)
theorem pa_ROs_nil : PA X [] (ROs Z []) := pa_nil.imp fun σ H Q q => by
  obtain ⟨C, φ, env, Qt, S, w, k⟩ := q
  simp only [wpOs] at w
  exact k [] env C φ H [] w Stp.refl S (by simp only [OpL])
theorem OpL.le {K : PySem.W.Frag} {C C' : Hp} {σ : L2.St} (h : Le C C') : ∀ {os : List Opd} {vs : List V}, OpL K C σ os vs → OpL K C' σ os vs
  | [], vs, q => by simp only [OpL] at q ⊢; exact q
  | o :: os, vs, q => by
    simp only [OpL] at q ⊢
    obtain ⟨v, r, rfl, q1, q2⟩ := q
    exact ⟨v, r, rfl, q1.le h, OpL.le h q2⟩
theorem pa_ROs_cons {e : Expr} {es : List Expr} {ex : Ex} {exs : List Ex} (h : PE X e (RO Z ex)) (hr : PA X es (ROs Z exs)) (hs : starEach (e :: es) X.env = (false, eval e X.env) :: starEach es X.env) : PA X (e :: es) (ROs Z (ex :: exs)) :=
  (pa_cons h hr hs).imp fun σ H Q q => by
    obtain ⟨C, φ, env, Qt, S, w, k⟩ := q
    simp only [wpOs] at w
    refine ⟨C, φ, env, _, S, w, fun o e1 C1 φ1 H1 v q st S1 rp => ⟨C1, φ1, e1, _, S1, q, fun os e2 C2 φ2 H2 vs q st2 S2 rs => ?_⟩⟩
    exact k (o :: os) e2 C2 φ2 H2 (v :: vs) q (st.trans st2) S2 (by simp only [OpL]; exact ⟨v, vs, rfl, rp.le st2.le, rs⟩)

/-! ### displays -/
theorem s_tup {es : List Expr} {exs : List Ex} {x1 : Nat} {pos : Pos} (h : PA X es (RVs Z exs)) : PE X (.Tuple es x1 pos) (RE Z (.tup exs)) := by
  refine (pe_tup h).imp fun σ H Q q => ?_
  obtain ⟨C, φ, env, Qt, S, w, k⟩ := q
  simp only [wpE] at w
  refine ⟨C, φ, env, _, S, w, fun ds e1 C1 φ1 H1 vs q st S1 rs => ⟨by rw [rs.length]; exact q.1, ?_⟩⟩
  refine Wish.newT S1.le rs fun C2 H2 ψ v R => ?_
  obtain ⟨S2, R2, st2⟩ := S1.res R
  exact k _ e1 C2 φ1 ψ H2 v q.2 (st.trans st2) S2 R2
theorem s_lst {es : List Expr} {exs : List Ex} {pos : Pos} (h : PA X es (RVs Z exs)) : PE X (.List es pos) (RE Z (.lst exs)) := by
  refine (pe_lst h).imp fun σ H Q q => ?_
  obtain ⟨C, φ, env, Qt, S, w, k⟩ := q
  simp only [wpE] at w
  refine ⟨C, φ, env, _, S, w, fun ds e1 C1 φ1 H1 vs q st S1 rs => ⟨by rw [rs.length]; exact q.1, ?_⟩⟩
  refine Wish.newL S1.le rs fun C2 H2 ψ v R => ?_
  obtain ⟨S2, R2, st2⟩ := S1.res R
  exact k _ e1 C2 φ1 ψ H2 v q.2 (st.trans st2) S2 R2

/-! ### built-ins, methods -/
theorem tCB_of {f : Value} {b : Bi} {exs : List Ex} {σ : L2.St} {H : Hp} {Q : VK} (q : RE Z (.bi b exs) σ H Q) : ROs Z exs σ H fun vs H1 => VL Z.K (biS b) vs H1 Q := by
  obtain ⟨C, φ, env, Qt, S, w, k⟩ := q
  simp only [wpE] at w
  refine ⟨C, φ, env, _, S, w, fun os e1 C1 φ1 H1 vs q st S1 rs => ?_⟩
  obtain ⟨ds, rd, q⟩ := q
  refine ⟨C1, ds, _, S1.le, OpL.peek (Le.refl _) S1 rs rd, q, fun r q C2 H2 ψ v R => ?_⟩
  obtain ⟨S2, R2, st2⟩ := S1.res R
  exact k r e1 C2 φ1 ψ H2 v q (st.trans st2) S2 R2
theorem s_bi {b : Bi} {e : Expr} {es : List Expr} {exs : List Ex} {p pos : Pos} (hK : X.K = Z.K) (hc : X.calm = true) (hg : Gl X (biN b)) (hm : X.mg (biN b) = none) (ha : PA X (e :: es) (ROs Z exs))
    (he : starEach (e :: es) X.env = (false, eval e X.env) :: starEach es X.env) (hpl : (backTo pos (starEach es X.env)).any (·.1) = false) : PE X (.Call (.Name (biN b) p) (e :: es) [] pos) (RE Z (.bi b exs)) := by
  have go : ∀ t, PE X (.Call (.Name (biN b) p) (e :: es) [] pos) (tCB (VL X.K (biS b)) t) → t = ROs Z exs → PE X (.Call (.Name (biN b) p) (e :: es) [] pos) (RE Z (.bi b exs)) := fun t h ht =>
    h.imp fun σ H Q q => by
      subst ht
      rw [hK]
      exact tCB_of (f := biV b) q
  refine go _ ?_ rfl
  cases b
  · exact pe_callB vb_len hg hm (by decide +kernel) ha (by decide) (by decide) he hpl
  · exact pe_callTy vb_int hg hm (by decide +kernel) ha (by decide) (by decide) he hpl
  · exact pe_callTy vb_str hg hm (by decide +kernel) ha (by decide) (by decide) he hpl
  · exact pe_callB vb_ord hg hm (by decide +kernel) ha (by decide) (by decide) he hpl
  · exact pe_callB vb_repr hg hm (by decide +kernel) ha (by decide) (by decide) he hpl
  · exact pe_callB (vb_all hc) hg hm (by decide +kernel) ha (by decide) (by decide) he hpl
  · exact pe_callB (vb_any hc) hg hm (by decide +kernel) ha (by decide) (by decide) he hpl
  · exact pe_callTy vb_list hg hm (by decide +kernel) ha (by decide) (by decide) he hpl
  · exact pe_callTy vb_tuple hg hm (by decide +kernel) ha (by decide) (by decide) he hpl
  · exact pe_callB (vb_all_of hc .sorted) hg hm (by decide +kernel) ha (by decide) (by decide) he hpl
end
end TW
end
section
set_option Elab.async false
set_option linter.all false
set_option maxRecDepth 100000
set_option maxHeartbeats 1000000
/-! TW8: isinstance, methods, calls of defs -/
namespace TW
open PySem L2 PySem.Spec
section
variable {Z : Zt} {X : Cx}

/-! ### isinstance -/
def tyS : D → String
  | .none => "NoneType"
  | .bool _ => "bool"
  | .int _ => "int"
  | .str _ => "str"
  | .list _ => "list"
  | .tuple _ => "tuple"
  | .dict _ => "dict"
def tyN : Ty → String
  | .int => "int"
  | .str => "str"
  | .bool => "bool"
  | .list => "list"
  | .tuple => "tuple"
  | .dict => "dict"
theorem kit_is (t : Ty) (d : D) : kitB (tyS d) (tyN t) = some (isiS t d) := by
  cases t <;> cases d <;> simp only [tyS, tyN, isiS] <;> decide +kernel
theorem tyx_of {K : PySem.W.Frag} {C H : Hp} {d : D} {x : V} (le : Le C H) (p : Peek K C H d x) : TyX K H x (.type (tyS d)) := by
  cases d with
  | none => simp only [Peek, Rep] at p; subst p; exact .base .non
  | bool b => simp only [Peek, Rep] at p; subst p; exact .base (.bl b)
  | int b => simp only [Peek, Rep] at p; subst p; exact .base (.int b)
  | str b => simp only [Peek, Rep] at p; subst p; exact .base (.str b)
  | list ds =>
    obtain ⟨a, vs, rfl, s, r⟩ := p
    rcases s with (s | ⟨o, s⟩) | ⟨o, its, n, h1, h2, _⟩
    · exact .base (.lst s)
    · exact .base (.frz s)
    · exact .kList h1 h2
  | tuple ds =>
    simp only [Peek, Rep] at p
    obtain ⟨a, vs, rfl, s, r⟩ := p
    rcases SqT.le le s with (s | ⟨o, s⟩) | ⟨o, its, n, h1, h2, _⟩
    · exact .base (.tup s)
    · exact .fTuple s
    · exact .kTuple h1 h2
  | dict ds =>
    obtain ⟨a, ws, rfl, s, r⟩ := p
    exact .base (.dK s)
theorem s_isi {t : Ty} {a : Expr} {ea : Ex} {p p2 pos : Pos} (hK : X.K = Z.K) (hg : Gl X "isinstance") (hm : X.mg "isinstance" = none) (hg2 : Gl X (tyN t)) (hm2 : X.mg (tyN t) = none) (ha : PE X a (RO Z ea))
    (he : starEach [a, .Name (tyN t) p2] X.env = (false, eval a X.env) :: starEach [.Name (tyN t) p2] X.env) (hpl : (backTo pos (starEach [.Name (tyN t) p2] X.env)).any (·.1) = false) :
    PE X (.Call (.Name "isinstance" p) [a, .Name (tyN t) p2] [] pos) (RE Z (.isi ea t)) := by
  have ht : PE X (.Name (tyN t) p2) (tC (.ty (tyN t))) := by
    refine pe_bltn (v := .ty (tyN t)) (u := .type (tyN t)) hg2 hm2 ?_ rfl ?_ ?_
    · cases t <;> decide +kernel
    · cases t <;> decide
    · cases t <;> decide
  refine (pe_callB call_isi hg hm (by decide +kernel) (pa_cons ha (pa_cons ht pa_nil) he) (by decide) (by decide) he hpl).imp fun σ H Q q => ?_
  obtain ⟨C, φ, env, Qt, S, w, k⟩ := q
  simp only [wpE] at w
  refine ⟨C, φ, env, _, S, w, fun oa e1 C1 φ1 H1 x q1 st1 S1 oa1 => ?_⟩
  obtain ⟨d, rd, q⟩ := q1
  rw [hK]
  have pk := oa1.peek (Le.refl _) S1 rd
  exact ⟨x, .ty (tyN t), .type (tyS d), .type (tyN t), isiS t d, rfl, .ty _, tyx_of S1.le pk, kit_ty (kit_is t d), k _ e1 C1 φ1 [] H1 _ q st1.with S1 (ResAt.sh (by simp only [Rep]))⟩

/-! ### methods -/
theorem s_me {m : Me} {o : Expr} {e : Expr} {es : List Expr} {eo : Ex} {exs : List Ex} {apos cpos : Pos} (hu : X.A.units + 65 < cLine) (hK : X.K = Z.K) (ho : PE X o (RO Z eo)) (ha : PA X (e :: es) (ROs Z exs))
    (hbase : attributeBase o (meN m) X.env (eval o X.env) = eval o X.env)
    (hfew : ((backTo cpos (starEach (e :: es) X.env)).all (fun x => !x.1) && (backToKw cpos (keywordEach [] X.env)).all (fun x => x.1.isSome)
      && decide ((e :: es).length + ([] : List Keyword).length + (if ([] : List Keyword).isEmpty then 0 else 1) < 30)) = true)
    (hline : (apos.endLine == cpos.line) = true) (hs : starEach (e :: es) X.env = (false, eval e X.env) :: starEach es X.env) (hplain : (backTo cpos (starEach es X.env)).any (·.1) = false) :
    PE X (.Call (.Attribute o (meN m) apos) (e :: es) [] cpos) (RE Z (.me m eo exs)) := by
  refine (pe_bms (meKs_ok hu m) ho ha hbase hfew hline hs hplain).imp fun σ H Q q => ?_
  obtain ⟨C, φ, env, Qt, S, w, k⟩ := q
  simp only [wpE] at w
  rw [hK]
  refine ⟨C, φ, env, _, S, w, fun oo e1 C1 φ1 H1 x q1 st1 S1 oa1 => ?_⟩
  obtain ⟨⟨y, ry, ty⟩, q1⟩ := q1
  have pk := oa1.peek (Le.refl _) S1 ry
  -- behind the arguments it is of the same kind
  have kind : ∀ {C2 : Hp} {φ2 : Nat → List Addr} {H2 : Hp} {e2 : Env} {d : D}, Le C1 C2 → Stp C1 (In φ1) H1 C2 (In φ2) H2 → Sat Z.K Z.pin C2 φ2 σ H2 e2 → oo.res e2 = some d → Peek Z.K C2 H2 d x := fun l _ S rd => oa1.peek l S rd
  have fin : ∀ (sem : D → List D → KO → Prop), (∀ os e2 C2 φ2 H2 xs, (∃ d ds, oo.res e2 = some d ∧ resL e2 os = some ds ∧ meS m d ds fun r => Qt r e2) → Stp C1 (In φ1) H1 C2 (In φ2) H2 → Sat Z.K Z.pin C2 φ2 σ H2 e2 → OpL Z.K C2 σ os xs → ∃ d ds, Peek Z.K C2 H2 d x ∧ resL e2 os = some ds ∧ sem d ds fun r => Qt r e2) →
      ROs Z exs σ H1 fun xs H2 => VM Z.K sem x xs H2 Q := fun sem hsem => by
    refine ⟨C1, φ1, e1, _, S1, q1, fun os e2 C2 φ2 H2 xs q2 st2 S2 ops => ?_⟩
    obtain ⟨d, ds, pd, rds, q⟩ := hsem os e2 C2 φ2 H2 xs q2 st2 S2 ops
    refine ⟨C2, d, ds, _, S2.le, pd, OpL.peek (Le.refl _) S2 ops rds, q, fun r q C3 H3 ψ v R => ?_⟩
    obtain ⟨S3, R3, st3⟩ := S2.res R
    exact k r e2 C3 φ2 ψ H3 v q ((st1.trans st2).trans st3) S3 R3
  have str : ∀ z, y = .str z → ROs Z exs σ H1 fun xs H2 => VM Z.K (onStr m) x xs H2 Q := fun z ez => by
    subst ez
    simp only [Peek, Rep] at pk
    subst pk
    refine fin _ fun os e2 C2 φ2 H2 xs ⟨d, ds, rd, rds, q⟩ st2 S2 ops => ?_
    have pd := kind st2.le st2 S2 rd
    refine ⟨d, ds, pd, rds, ?_, q⟩
    cases d <;> simp only [Peek, Rep] at pd
    · cases pd
    · cases pd
    · cases pd
    · cases pd; exact ⟨_, rfl⟩
    · obtain ⟨_, _, pd, _⟩ := pd; cases pd
    · obtain ⟨_, _, pd, _⟩ := pd; cases pd
    · obtain ⟨_, _, pd, _⟩ := pd; cases pd
  cases y with
  | str z =>
    have pk' := pk
    simp only [Peek, Rep] at pk'
    cases m with
    | split => exact ⟨_, List.mem_cons_self, by rw [pk']; rfl, str z rfl⟩
    | join => exact ⟨_, List.mem_cons_self, by rw [pk']; rfl, str z rfl⟩
    | index => exact ⟨_, List.mem_cons_self, by rw [pk']; rfl, str z rfl⟩
  | list zs =>
    cases m with
    | index =>
      have pk0 := pk
      obtain ⟨a, vs, rfl, sa, ra⟩ := pk
      refine ⟨_, List.mem_cons_of_mem _ List.mem_cons_self, .inl ⟨rfl, vs, sa⟩, fin _ fun os e2 C2 φ2 H2 xs ⟨d, ds, rd, rds, q⟩ st2 S2 ops => ?_⟩
      have pd := kind st2.le st2 S2 rd
      refine ⟨d, ds, pd, rds, ?_, q⟩
      obtain ⟨e, rfl, q⟩ := meS_one q
      cases d with
      | list zs => exact ⟨_, rfl⟩
      | str z => simp only [Peek, Rep] at pd; cases pd
      | none => exact (show False by cases e <;> exact q).elim
      | bool b => exact (show False by cases e <;> exact q).elim
      | int b => exact (show False by cases e <;> exact q).elim
      | tuple b => exact (show False by cases e <;> exact q).elim
      | dict b => exact (show False by cases e <;> exact q).elim
    | split => simp [meT] at ty
    | join => simp [meT] at ty
  | none => cases m <;> simp [meT] at ty
  | bool b => cases m <;> simp [meT] at ty
  | int b => cases m <;> simp [meT] at ty
  | tuple b => cases m <;> simp [meT] at ty
  | dict b => cases m <;> simp [meT] at ty

/-! ### methods that change a list -/
/-- a slot's own list is changed -/
theorem Sat.setL {K : PySem.W.Frag} {pin : Nat → Option Addr} {C : Hp} {φ : Nat → List Addr} {σ : L2.St} {H : Hp} {env : Env} {i : Nat} {xs xs' : List D} {a : Addr} {vs' : List V} (S : Sat K pin C φ σ H env) (e : env[i]? = some (some (.lst xs))) (ea : σ[i]? = some (some (.ref a))) (r : RepL K C xs' vs') :
    Sat K pin C φ σ (upd H a (.lst vs')) (env.set i (some (.lst xs'))) ∧ Stp C (In φ) H C (In φ) (upd H a (.lst vs')) := by
  have hl : i < env.length := by
    by_cases h : i < env.length
    · exact h
    · rw [List.getElem?_eq_none (by omega)] at e; cases e
  obtain ⟨v, e1, o⟩ := S.slot i _ e
  rw [ea] at e1
  obtain ⟨b, vs, eb, ef, eh, er⟩ := o
  cases e1
  cases eb
  have hin : a ∈ φ i := by rw [ef]; simp
  refine ⟨⟨fun b o h => ?_, by rw [List.length_set]; exact S.len, fun j t e' => ?_, fun j e' => ?_, S.dis, fun j b h => ?_, S.pin⟩, ⟨Le.refl _, fun b o h nf => ?_, fun b h => .inl h, fun b h => .inl h⟩⟩
  · have z : b ≠ a := by
      rintro rfl
      rw [(S.sep i b hin).1] at h; cases h
    rw [upd_ne z]
    exact S.le b o h
  · by_cases z : j = i
    · subst z
      rw [List.getElem?_set_self hl] at e'
      cases e'
      exact ⟨.ref a, ea, a, vs', rfl, ef, upd_same, r⟩
    · rw [List.getElem?_set_ne (Ne.symm z)] at e'
      obtain ⟨v, e1, o⟩ := S.slot j t e'
      refine ⟨v, e1, o.move (Le.refl _) fun b hb u hu => ?_⟩
      rw [upd_ne]
      · exact hu
      · rintro rfl
        exact z (S.dis j i b hb hin)
  · by_cases z : j = i
    · subst z
      rw [List.getElem?_set_self hl] at e'
      rcases e' with e' | e' <;> cases e'
    · rw [List.getElem?_set_ne (Ne.symm z)] at e'
      exact S.emp j e'
  · obtain ⟨c, o, ho⟩ := S.sep j b h
    refine ⟨c, ?_⟩
    by_cases z : b = a
    · subst z; exact ⟨_, upd_same⟩
    · rw [upd_ne z]; exact ⟨o, ho⟩
  · rw [upd_ne]
    · exact h
    · rintro rfl; exact nf ⟨i, hin⟩
theorem Sat.own_lst {K : PySem.W.Frag} {pin : Nat → Option Addr} {C : Hp} {φ : Nat → List Addr} {σ : L2.St} {H : Hp} {env : Env} {i : Nat} {xs : List D} (S : Sat K pin C φ σ H env) (e : env[i]? = some (some (.lst xs))) :
    ∃ a vs, σ[i]? = some (some (.ref a)) ∧ H a = some (.lst vs) ∧ RepL K C xs vs := by
  obtain ⟨v, e1, a, vs, ea, _, eh, er⟩ := S.slot i _ e
  subst ea
  exact ⟨a, vs, e1, eh, er⟩
theorem muS_lst {m : Mu} {t : OT} {ds : List D} {Q : OT → D → Prop} (h : muS m t ds Q) : ∃ xs, t = .lst xs ∧ muL m xs ds fun ys d => Q (.lst ys) d := by
  cases t with
  | lst xs => exact ⟨xs, rfl, h⟩
  | _ => exact (h : False).elim
theorem mu_go {m : Mu} {i : Nat} {exs : List Ex} {σ : L2.St} {H : Hp} {Q : VK} (q : RE Z (.mu m i exs) σ H Q) : ∃ a vs, σ[i]? = some (some (.ref a)) ∧ H a = some (.lst vs) ∧ RVs Z exs σ H fun xs H1 => VU Z.K m (.ref a) xs H1 Q := by
  obtain ⟨C, φ, env, Qt, S, w, k⟩ := q
  simp only [wpE] at w
  obtain ⟨⟨xs, ex⟩, w⟩ := w
  obtain ⟨a, vs, ea, eh, _⟩ := S.own_lst ex
  refine ⟨a, vs, ea, eh, C, φ, env, _, S, w, fun ds e1 C1 φ1 H1 us q st S1 rs => ?_⟩
  obtain ⟨t, et, q⟩ := q
  obtain ⟨ys, rfl, q⟩ := muS_lst q
  obtain ⟨b, ws, eb, eh1, rw1⟩ := S1.own_lst et
  rw [ea] at eb
  cases eb
  refine ⟨C1, a, ws, ys, ds, _, S1.le, rfl, eh1, rw1, rs, q, fun es' d vs' r q r1 r2 => ?_⟩
  obtain ⟨S2, st2⟩ := S1.setL et ea r1
  exact k _ _ C1 φ1 [] _ r q (st.trans st2).with S2 (ResAt.sh r2)
theorem s_mu {m : Mu} {i : Nat} {o : Expr} {e : Expr} {es : List Expr} {exs : List Ex} {apos cpos : Pos} (hK : X.K = Z.K) (ho : PE X o (tVar i)) (ha : PA X (e :: es) (RVs Z exs)) (hm : m ≠ .pop)
    (hbase : attributeBase o (muN m) X.env (eval o X.env) = eval o X.env)
    (hfew : ((backTo cpos (starEach (e :: es) X.env)).all (fun x => !x.1) && (backToKw cpos (keywordEach [] X.env)).all (fun x => x.1.isSome)
      && decide ((e :: es).length + ([] : List Keyword).length + (if ([] : List Keyword).isEmpty then 0 else 1) < 30)) = true)
    (hline : (apos.endLine == cpos.line) = true) (hs : starEach (e :: es) X.env = (false, eval e X.env) :: starEach es X.env) (hplain : (backTo cpos (starEach es X.env)).any (·.1) = false) :
    PE X (.Call (.Attribute o (muN m) apos) (e :: es) [] cpos) (RE Z (.mu m i exs)) := by
  have base : PE X (.Call (.Attribute o (muN m) apos) (e :: es) [] cpos) (tBM X.K "list" (VU X.K m) (tVar i) (RVs Z exs)) := by
    cases m
    · exact pe_bm PySem.F.plainAttrs_list PySem.F.slot_list_append PySem.F.type_list_append vu_append ho ha hbase hfew hline hs hplain
    · exact pe_bm PySem.F.plainAttrs_list PySem.F.slot_list_extend PySem.F.type_list_extend (vu_of .extend) ho ha hbase hfew hline hs hplain
    · exact absurd rfl hm
    · exact pe_bm PySem.F.plainAttrs_list PySem.F.slot_list_pop PySem.F.type_list_pop vu_popAt ho ha hbase hfew hline hs hplain
    · exact pe_bm PySem.F.plainAttrs_list PySem.F.slot_list_insert PySem.F.type_list_insert (vu_of .insert) ho ha hbase hfew hline hs hplain
  refine base.imp fun σ H Q q => ?_
  obtain ⟨a, vs, ea, eh, q⟩ := mu_go q
  rw [hK]
  exact ⟨_, ea, .inl ⟨rfl, vs, SqL.of eh⟩, q⟩
theorem s_pop {i : Nat} {o : Expr} {apos cpos : Pos} (hK : X.K = Z.K) (ho : PE X o (tVar i)) (hbase : attributeBase o "pop" X.env (eval o X.env) = eval o X.env) (hline : (apos.endLine == cpos.line) = true) :
    PE X (.Call (.Attribute o "pop" apos) [] [] cpos) (RE Z (.mu .pop i [])) := by
  refine (pe_bm0 PySem.F.plainAttrs_list PySem.F.slot_list_pop PySem.F.type_list_pop vu_pop ho hbase hline).imp fun σ H Q q => ?_
  obtain ⟨a, vs, ea, eh, q⟩ := mu_go q
  rw [hK]
  refine ⟨_, ea, .inl ⟨rfl, vs, SqL.of eh⟩, ?_⟩
  obtain ⟨C, φ, env, Qt, S, w, k⟩ := q
  simp only [wpVs] at w
  exact k [] env C φ H [] w Stp.refl S (by simp only [RepL])

end
/-! ### f-strings -/
section
open Builtin Builtin.Str Builtin.Int Builtin.Float PyProof.Rows
def spec04 : Str := Str.ofString "04d"
def f04 : FormatSpec := ⟨48, 61, none, false, false, some 4, none, none, some 100⟩
theorem p04 : parseFormatSpec spec04.cps.toList "int" 62 = .ok f04 := by kernel_rfl
theorem t04 {a : Int} (h0 : 0 ≤ a) : intSpecText f04 a = fmtZ 4 a := intSpecText_zero rfl rfl rfl rfl h0
theorem l04 {a : Int} (h0 : 0 ≤ a) (h1 : a < 10000) : (fmtZ 4 a).length = 4 := by
  have F := intSpecFacts (f := f04) a rfl rfl
  have e := F.lenNonneg h0
  rw [t04 h0] at e
  have hd := F.digits.lt10000 (by omega)
  rw [e]
  show max 4 _ = 4
  omega
theorem ret_textL {M : Model} {A : Around} {E : Value → Shared → Prop} {s : Shared} {X T : Str} {Q : Fin → Shared → Prop} (e : X = T) (hl : T.length ≤ sizeLine) (h : ∀ t k, Q (.done (.ret (.str T t))) { s with toks := k }) : wpAny M A (retStr X) Q E s :=
  PySem.W.KXf.ret_text e (by rw [e]; exact hl) h
section
variable {Z : Zt} {X : Cx}
theorem g04 {a : Int} (h0 : 0 ≤ a) (h1 : a < 10000) (t u : Tok) : Meets («int.__format__» ⟨[.int a t, .str spec04 u], []⟩) (fun _ R s => ∀ t' k, R (.ok (.ret (.str (fmtZ 4 a) t'))) { s with toks := k }) := by
  intro prog w A R s hq
  unfold «int.__format__»
  refine wpAny_bind (wpAny_of_eq (a := (_, _)) rfl ?_)
  refine wpAny_bind (wpAny_of_eq (a := _) rfl ?_)
  refine wpAny_bind (wpAny_typeNameOf (T := "str") (typeIs_str _ _ _) (by decide) fun _ => ?_)
  refine wpAny_bind (wpAny_of_eq (a := some spec04) rfl ?_)
  show wpAny _ _ (if _ then _ else _) _ _ _
  rw [if_neg (by decide)]
  show wpAny _ _ (if _ then _ else _) _ _ _
  rw [if_neg (by decide)]
  refine wpAny_bind (wpAny_typeNameOfCut_int ?_)
  rw [p04]
  have hs : a.natAbs.log2 < 1920 := by
    rcases Nat.eq_zero_or_pos a.natAbs with h | h
    · rw [h]; decide
    · exact Nat.lt_of_lt_of_le ((Nat.log2_lt (by omega)).mpr (show a.natAbs < 2 ^ 14 by omega)) (by decide)
  show wpAny _ _ (do let r ← Builtin.overDigitLimit? a; _) _ _ _
  refine wpAny_bind (wpAny_of_eq (PySem.overDigitLimit_small hs) ?_)
  show wpAny _ _ (retStr _) _ _ _
  refine ret_textL (T := fmtZ 4 a) ?_ (by rw [l04 h0 h1]; decide) hq
  rw [← t04 h0]
  unfold intSpecText
  rfl
/-- {e:04d}, of a number of at most four figures -/
theorem s_fmt {a : Expr} {ea : Ex} {j : Nat} {p p1 p2 p3 : Pos} (pe : PE X a (RE Z ea)) :
    PE X (.JoinedStr [.FormattedValue a (-1) (some (.JoinedStr [.Constant (.str spec04) j p1] p2)) p3] p) (RE Z (.fmt 4 ea)) := by
  refine pe_joined1 ⟨fun pins s σ H Q I q => ?_⟩
  obtain ⟨C, φ, env, Qt, S, w, k⟩ := q
  simp only [wpE] at w
  refine wpAny_FormattedValue_spec (thn (pe.run pins s σ H (fun v H1 => ∃ i, v = .int i ∧ 0 ≤ i ∧ i < 10000 ∧ Q (.str (fmtZ 4 i)) H1) I ⟨C, φ, env, _, S, w, fun r e1 C1 φ1 ψ H1 v q st S1 R => ?_⟩) fun v s1 hv => ?_)
  · obtain ⟨i, rfl, h0, h1, q⟩ := q
    obtain ⟨e2, rp⟩ := R.own
    subst e2
    simp only [Rep] at rp
    exact ⟨i, rp, h0, h1, k _ e1 C1 φ1 [] H1 _ q st S1 (ResAt.sh (by simp only [Rep]))⟩
  · obtain ⟨x, H1, I1, r1, i, rfl, h0, h1, q⟩ := hv
    obtain ⟨t, rfl⟩ := r1
    refine wpAny_JoinedStr_one (Calls.Constant_str ⟨spec04, _, rfl, ?_⟩)
    exact PySem.W.KXf.field_int rfl (by decide +kernel) (by decide +kernel) (g04 h0 h1 t) fun t' k' => ⟨.str (fmtZ 4 i), H1, (I1.tok _).tok _, ⟨t', rfl⟩, q⟩
/-- a part of an f-string: a text -/
def RF (Z : Zt) (ex : Ex) : TE := fun σ H Q => ∃ (n : Nat) (C : Hp) (φ : Nat → List Addr) (env : Env) (Qt : Str → Env → Prop), Sat Z.K Z.pin C φ σ H env ∧ wpE Z.Γ ex env (fun r e1 => ∃ y, r = .sh (.str y) ∧ n + y.length ≤ sizeLine ∧ Qt y e1) ∧
  ∀ y env' C' φ' H', n + y.length ≤ sizeLine → Qt y env' → Stp C (In φ) H C' (In φ') H' → Sat Z.K Z.pin C' φ' σ H' env' → Q (.str y) H'
theorem pe_RF {e : Expr} {ex : Ex} (h : PE X e (RE Z ex)) : PE X e (RF Z ex) := h.imp fun σ H Q q => by
  obtain ⟨n, C, φ, env, Qt, S, w, k⟩ := q
  refine ⟨C, φ, env, _, S, w, fun r e1 C1 φ1 ψ H1 v q st S1 R => ?_⟩
  obtain ⟨y, rfl, hz, q⟩ := q
  obtain ⟨e2, rp⟩ := R.own
  subst e2
  simp only [Rep] at rp
  subst rp
  exact k y e1 C1 φ1 H1 hz q (st.mono (fun _ h => h) fun _ h => .inl h) S1
theorem s_fpart {a : Expr} {ea : Ex} {p : Pos} (pe : PE X a (RO Z ea)) : PE X (.FormattedValue a (-1) none p) (RF Z (.bi .str [ea])) := by
  refine (pe_fmt pe).imp fun σ H Q q => ?_
  obtain ⟨n, C, φ, env, Qt, S, w, k⟩ := q
  simp only [wpE, wpOs] at w
  refine ⟨C, φ, env, _, S, w, fun oa e1 C1 φ1 H1 x q1 st1 S1 oa1 => ?_⟩
  obtain ⟨ds, rd, q⟩ := q1
  simp only [resL] at rd
  cases hd : oa.res e1 with
  | none => rw [hd] at rd; cases rd
  | some d =>
    rw [hd] at rd
    simp only [Option.some.injEq] at rd
    subst rd
    have pk := oa1.peek (Le.refl _) S1 hd
    have hs : strS (fun r => ∃ y, r = .sh (.str y) ∧ n + y.length ≤ sizeLine ∧ Qt y e1) d := q
    cases d with
    | int i =>
      simp only [Peek, Rep] at pk
      obtain ⟨hi, y, ey, hz, q⟩ := hs
      cases ey
      exact .inr ⟨i, pk, hi, k _ e1 C1 φ1 H1 hz q st1 S1⟩
    | str z =>
      simp only [Peek, Rep] at pk
      obtain ⟨y, ey, hz, q⟩ := hs
      cases ey
      exact .inl ⟨_, pk, by omega, k _ e1 C1 φ1 H1 hz q st1 S1⟩
    | _ => exact (hs : False).elim
theorem js_go {σ : L2.St} {Q : Str → Hp → Prop} : ∀ (exs : List Ex) (acc : Str) (C : Hp) (φ : Nat → List Addr) (env : Env) (H : Hp) (Qt : Str → Env → Prop), Sat Z.K Z.pin C φ σ H env → wpJ Z.Γ exs acc env Qt →
    (∀ out e1 C1 φ1 H1, Qt out e1 → Stp C (In φ) H C1 (In φ1) H1 → Sat Z.K Z.pin C1 φ1 σ H1 e1 → Q out H1) → tJs (exs.map (RF Z)) acc σ H Q
  | [], acc, C, φ, env, H, Qt, S, w, k => by
    simp only [wpJ] at w
    exact k acc env C φ H w Stp.refl S
  | ex :: exs, acc, C, φ, env, H, Qt, S, w, k => by
    simp only [wpJ] at w
    refine ⟨acc.length, C, φ, env, _, S, w, fun y e1 C1 φ1 H1 hz q st S1 => ?_⟩
    exact ⟨y, rfl, by rw [Str.length_append]; exact hz, js_go exs _ C1 φ1 e1 H1 Qt S1 q fun out e2 C2 φ2 H2 q st2 S2 => k out e2 C2 φ2 H2 q (st.trans st2) S2⟩
theorem s_fst {v1 v2 : Expr} {rest : List Expr} {exs : List Ex} {pos : Pos} (h : PJ X (v1 :: v2 :: rest) (exs.map (RF Z))) : PE X (.JoinedStr (v1 :: v2 :: rest) pos) (RE Z (.fst exs)) := by
  refine (pe_joined h).imp fun σ H Q q => ?_
  obtain ⟨C, φ, env, Qt, S, w, k⟩ := q
  simp only [wpE] at w
  exact js_go exs _ C φ env H _ S w fun out e1 C1 φ1 H1 q st S1 => k _ e1 C1 φ1 [] H1 _ q st.with S1 (ResAt.sh (by simp only [Rep]))
end
end
end TW
end
section
set_option Elab.async false
set_option linter.all false
set_option maxRecDepth 100000
set_option maxHeartbeats 1000000
/-! TW9: calls of the program's own defs -/
namespace TW
open PySem L2 PySem.Spec
section
variable {K : PySem.W.Frag} {pin : Nat → Option Addr} {C C' C0 : Hp} {φ φA : Nat → List Addr} {σ : L2.St} {H H' : Hp} {env : Env} {ψ : List Addr} {v : V} {r : OT} {i : Nat}

abbrev pin0 : Nat → Option Addr := fun _ => none
def outEnv : List Bool → List OT → Env
  | [], _ => []
  | true :: bs, t :: ts => some t :: outEnv bs ts
  | true :: bs, [] => none :: outEnv bs []
  | false :: bs, ts => none :: outEnv bs ts
/-- what a def promises, by its meaning on trees -/
def spC (K : PySem.W.Frag) (con : Con) : Sp := fun vs H Q _ => vs.length = con.io.length ∧ ∃ C φ args Qc, argsOk con.io args ∧ Sat K pin0 C φ (vs.map some) H (args.map some) ∧ con.run args Qc ∧
  ∀ r outs C' φ' ψ H' v, Qc r outs → Stp C (In φ) H C' (fun a => In φ' a ∨ a ∈ ψ) H' → Sat K pin0 C' φ' (vs.map some) H' (outEnv con.io outs) → ResAt K C' φ' ψ H' v r → Q v H'

def consN (ψ : List Addr) (φ : Nat → List Addr) : Nat → List Addr
  | 0 => ψ
  | j + 1 => φ j
theorem in_consN {a : Addr} : In (consN ψ φ) a ↔ a ∈ ψ ∨ In φ a := by
  constructor
  · rintro ⟨j, h⟩
    cases j with
    | zero => exact .inl h
    | succ j => exact .inr ⟨j, h⟩
  · rintro (h | ⟨j, h⟩)
    · exact ⟨0, h⟩
    · exact ⟨j + 1, h⟩
theorem Sat.cons {vs : List V} {e : Env} (S : Sat K pin0 C φ (vs.map some) H e) (R : ResAt K C φ ψ H v r) : Sat K pin0 C (consN ψ φ) ((v :: vs).map some) H (some r :: e) := by
  refine ⟨S.le, ?_, fun j t h => ?_, fun j h => ?_, fun j k a h1 h2 => ?_, fun j a h => ?_, fun _ _ h => nomatch h⟩
  · simpa using S.len
  · cases j with
    | zero =>
      simp only [List.getElem?_cons_zero, Option.some.injEq] at h
      subst h
      exact ⟨v, rfl, R.own⟩
    | succ j =>
      simp only [List.getElem?_cons_succ] at h
      obtain ⟨w, e1, o⟩ := S.slot j t h
      exact ⟨w, by simpa using e1, o⟩
  · cases j with
    | zero => simp at h
    | succ j =>
      simp only [List.getElem?_cons_succ] at h
      exact S.emp j h
  · cases j with
    | zero =>
      cases k with
      | zero => rfl
      | succ k => exact absurd ⟨k, h2⟩ (R.sep a h1).2.2
    | succ j =>
      cases k with
      | zero => exact absurd ⟨j, h1⟩ (R.sep a h2).2.2
      | succ k => rw [S.dis j k a h1 h2]
  · cases j with
    | zero => exact ⟨(R.sep a h).1, (R.sep a h).2.1⟩
    | succ j => exact S.sep j a h
theorem Sat.nil0 (le : Le C H) : Sat K pin0 C (fun _ => []) (([] : List V).map some) H [] :=
  ⟨le, rfl, fun j t h => by simp at h, fun _ _ => rfl, fun _ _ _ h => by simp at h, fun _ _ h => by simp at h, fun _ _ h => nomatch h⟩
theorem Sat.tail {vs : List V} {o : Option OT} {e : Env} (S : Sat K pin0 C φ ((v :: vs).map some) H (o :: e)) : Sat K pin0 C (fun j => φ (j + 1)) (vs.map some) H e := by
  refine ⟨S.le, by simpa using S.len, fun j t h => ?_, fun j h => S.emp (j + 1) (by simpa using h), fun j k a h1 h2 => by have := S.dis _ _ a h1 h2; omega, fun j a h => S.sep _ a h, fun _ _ h => nomatch h⟩
  obtain ⟨w, e1, o⟩ := S.slot (j + 1) t (by simpa using h)
  exact ⟨w, by simpa using e1, o⟩

/-- a result behind a step of other things -/
theorem ResAt.keep {F F' : Addr → Prop} {φ' : Nat → List Addr} (R : ResAt K C φ ψ H v r) (st : Stp C F H C' F' H') (nf : ∀ a ∈ ψ, ¬ F a) (sub : ∀ a, In φ' a → F' a) : ResAt K C' φ' ψ H' v r := by
  refine ⟨R.own.move st.le fun a ha o e => st.keep a o e (nf a ha), fun a ha => ?_⟩
  obtain ⟨c, ⟨o, e⟩, n⟩ := R.sep a ha
  refine ⟨?_, ⟨o, st.keep a o e (nf a ha)⟩, fun h => ?_⟩
  · cases q : C' a with
    | none => rfl
    | some u =>
      rcases st.cn a (by rw [q]; simp) with z | z | z
      · exact absurd c z
      · exact absurd z (nf a ha)
      · rw [e] at z; cases z
  · rcases st.fr a (sub a h) with z | z
    · exact nf a ha z
    · rw [e] at z; cases z

/-- a slot that holds nothing stays so -/
theorem take_none {io : List Nat} {i : Nat} : ∀ (bs : List Bool) (os : List Opd) (env : Env) (args : List OT) (env2 : Env), env[i]? = some none → takeArgs io bs os env = some (args, env2) → env2[i]? = some none
  | [], [], env, args, env2, e, h => by
    simp only [takeArgs, Option.some.injEq, Prod.mk.injEq] at h
    rw [← h.2]; exact e
  | [], _ :: _, env, args, env2, e, h => by simp [takeArgs] at h
  | true :: bs, [], env, args, env2, e, h => by simp [takeArgs] at h
  | false :: bs, [], env, args, env2, e, h => by simp [takeArgs] at h
  | true :: bs, .va d :: os, env, args, env2, e, h => by simp [takeArgs] at h
  | true :: bs, .pl j :: os, env, args, env2, e, h => by
    simp only [takeArgs] at h
    split at h
    · rename_i t et
      split at h
      · simp only [Option.map_eq_some_iff] at h
        obtain ⟨⟨ts, e2⟩, h, hp⟩ := h
        cases hp
        have ne : j ≠ i := by rintro rfl; rw [e] at et; cases et
        exact take_none bs os _ ts e2 (by rw [List.getElem?_set_ne ne]; exact e) h
      · cases h
    · cases h
  | false :: bs, .va d :: os, env, args, env2, e, h => by
    simp only [takeArgs, Option.map_eq_some_iff] at h
    obtain ⟨⟨ts, e2⟩, h, hp⟩ := h
    cases hp
    exact take_none bs os _ ts e2 e h
  | false :: bs, .pl j :: os, env, args, env2, e, h => by
    simp only [takeArgs] at h
    split at h
    · rename_i t et
      have ne : j ≠ i := by rintro rfl; rw [e] at et; cases et
      split at h
      · split at h
        · cases h
        · simp only [Option.map_eq_some_iff] at h
          obtain ⟨⟨ts, e2⟩, h, hp⟩ := h
          cases hp
          exact take_none bs os _ ts e2 (by rw [List.getElem?_set_ne ne]; exact e) h
      · simp only [Option.map_eq_some_iff] at h
        obtain ⟨⟨ts, e2⟩, h, hp⟩ := h
        cases hp
        exact take_none bs os _ ts e2 e h
    · cases h
theorem isOwn_sh {t : OT} (h : ¬ isOwn t = true) : ∃ d, t = .sh d := by
  cases t with
  | sh d => exact ⟨d, rfl⟩
  | _ => exact absurd rfl h
/-- the arguments are taken along -/
theorem take_args {io : List Nat} (hio : ∀ j, j ∉ io → pin j = none) : ∀ (bs : List Bool) (os : List Opd) (vs : List V) (C : Hp) (φ : Nat → List Addr) (env : Env) (args : List OT) (env2 : Env), Sat K pin C φ σ H env → OpL K C σ os vs → takeArgs io bs os env = some (args, env2) →
    ∃ C2 φ2 φA, Sat K pin C2 φ2 σ H env2 ∧ Sat K pin0 C2 φA (vs.map some) H (args.map some) ∧ (∀ a, In φA a → ¬ In φ2 a) ∧ Stp C (In φ) H C2 (fun a => In φ2 a ∨ In φA a) H ∧ argsOk bs args ∧ vs.length = bs.length ∧
      ∀ i ∈ ioPl bs os, env2[i]? = some none
  | [], [], vs, C, φ, env, args, env2, S, ol, h => by
    simp only [OpL] at ol
    subst ol
    simp only [takeArgs, Option.some.injEq, Prod.mk.injEq] at h
    obtain ⟨rfl, rfl⟩ := h
    exact ⟨C, φ, fun _ => [], S, Sat.nil0 S.le, fun a h => by obtain ⟨_, h⟩ := h; simp at h, Stp.refl.mono (fun _ h => h) fun a h => h.elim id fun ⟨_, z⟩ => by simp at z, trivial, rfl, fun i h => by simp [ioPl] at h⟩
  | [], _ :: _, vs, C, φ, env, args, env2, S, ol, h => by simp [takeArgs] at h
  | true :: bs, [], vs, C, φ, env, args, env2, S, ol, h => by simp [takeArgs] at h
  | false :: bs, [], vs, C, φ, env, args, env2, S, ol, h => by simp [takeArgs] at h
  | true :: bs, .va d :: os, vs, C, φ, env, args, env2, S, ol, h => by simp [takeArgs] at h
  | true :: bs, .pl i :: os, vs, C, φ, env, args, env2, S, ol, h => by
    simp only [OpL] at ol
    obtain ⟨v, ws, rfl, o1, ol⟩ := ol
    simp only [takeArgs] at h
    split at h
    · rename_i t et
      split at h
      · rename_i ow
        simp only [Option.map_eq_some_iff] at h
        obtain ⟨⟨ts, e2⟩, h, hp⟩ := h
        simp only [Prod.mk.injEq] at hp
        obtain ⟨rfl, rfl⟩ := hp
        have hl : i < env.length := by
          by_cases h : i < env.length
          · exact h
          · rw [List.getElem?_eq_none (by omega)] at et; cases et
        obtain ⟨v', ev, R⟩ := S.outR et
        have o1 : σ[i]? = some (some v) := o1
        rw [o1] at ev
        cases ev
        obtain ⟨C2, φ2, φA, S2, SA, dj, st, ao, le, pl⟩ := take_args hio bs os ws C _ _ ts e2 (S.out i) ol h
        have R2 : ResAt K C2 φA (φ i) H v t := R.keep st (fun a ha => (R.sep a ha).2.2) fun a h => .inr h
        have R3 : ResAt K C2 φ2 (φ i) H v t := R.keep st (fun a ha => (R.sep a ha).2.2) fun a h => .inl h
        refine ⟨C2, φ2, consN (φ i) φA, S2, by simpa using SA.cons R2, fun a h => ?_, ⟨st.le, fun a o e _ => e, fun a h => ?_, fun a h => ?_⟩, ⟨ow, ao⟩, by simp [le], fun j hj => ?_⟩
        · rcases in_consN.mp h with h | h
          · exact (R3.sep a h).2.2
          · exact dj a h
        · rcases h with h | h
          · exact (st.fr a (.inl h)).imp in_upN_nil id
          · rcases in_consN.mp h with h | h
            · exact .inl ⟨i, h⟩
            · exact (st.fr a (.inr h)).imp in_upN_nil id
        · exact (st.cn a h).imp id (Or.imp in_upN_nil id)
        · simp only [ioPl, List.mem_cons] at hj
          rcases hj with rfl | hj
          · exact take_none bs os _ ts e2 (List.getElem?_set_self hl) h
          · exact pl j hj
      · cases h
    · cases h
  | false :: bs, .va d :: os, vs, C, φ, env, args, env2, S, ol, h => by
    simp only [OpL] at ol
    obtain ⟨v, ws, rfl, o1, ol⟩ := ol
    simp only [takeArgs, Option.map_eq_some_iff] at h
    obtain ⟨⟨ts, e2⟩, h, hp⟩ := h
    simp only [Prod.mk.injEq] at hp
    obtain ⟨rfl, rfl⟩ := hp
    obtain ⟨C2, φ2, φA, S2, SA, dj, st, ao, le, pl⟩ := take_args hio bs os ws C _ _ ts e2 S ol h
    have rp : Rep K C2 d v := Rep.le st.le _ _ o1
    refine ⟨C2, φ2, consN [] φA, S2, by simpa using SA.cons (ResAt.sh (φ := φA) (H := H) rp), fun a h => ?_, st.mono (fun _ h => h) fun a h => ?_, ⟨rfl, ao⟩, by simp [le], fun j hj => pl j hj⟩
    · rcases in_consN.mp h with h | h
      · simp at h
      · exact dj a h
    · rcases h with h | h
      · exact .inl h
      · rcases in_consN.mp h with h | h
        · simp at h
        · exact .inr h
  | false :: bs, .pl i :: os, vs, C, φ, env, args, env2, S, ol, h => by
    simp only [OpL] at ol
    obtain ⟨v, ws, rfl, o1, ol⟩ := ol
    have o1 : σ[i]? = some (some v) := o1
    simp only [takeArgs] at h
    split at h
    · rename_i t et
      split at h
      · split at h
        · cases h
        · rename_i nio
          simp only [Option.map_eq_some_iff] at h
          obtain ⟨⟨ts, e2⟩, h, hp⟩ := h
          simp only [Prod.mk.injEq] at hp
          obtain ⟨rfl, rfl⟩ := hp
          obtain ⟨C1, φ1, v', S1, ev, rp, st1⟩ := S.frzV et
          rw [o1] at ev
          cases ev
          obtain ⟨C2, φ2, φA, S2, SA, dj, st, ao, le, pl⟩ := take_args hio bs os ws C1 _ _ ts e2 S1 (ol.le st1.le) h
          have rp2 : Rep K C2 t.frz v := Rep.le st.le _ _ rp
          refine ⟨C2, φ2, consN [] φA, S2, by simpa using SA.cons (ResAt.sh (φ := φA) (H := H) rp2), fun a h => ?_, st1.trans (st.mono (fun _ h => h) fun a h => ?_), ⟨rfl, ao⟩, by simp [le], fun j hj => pl j hj⟩
          · rcases in_consN.mp h with h | h
            · simp at h
            · exact dj a h
          · rcases h with h | h
            · exact .inl h
            · rcases in_consN.mp h with h | h
              · simp at h
              · exact .inr h
      · rename_i now
        obtain ⟨d, rfl⟩ := isOwn_sh now
        simp only [Option.map_eq_some_iff] at h
        obtain ⟨⟨ts, e2⟩, h, hp⟩ := h
        simp only [Prod.mk.injEq] at hp
        obtain ⟨rfl, rfl⟩ := hp
        obtain ⟨v', ev, o⟩ := S.slot i _ et
        rw [o1] at ev
        cases ev
        obtain ⟨C2, φ2, φA, S2, SA, dj, st, ao, le, pl⟩ := take_args hio bs os ws C _ _ ts e2 S ol h
        have rp2 : Rep K C2 d v := Rep.le st.le _ _ o.2
        refine ⟨C2, φ2, consN [] φA, S2, by simpa using SA.cons (ResAt.sh (φ := φA) (H := H) rp2), fun a h => ?_, st.mono (fun _ h => h) fun a h => ?_, ⟨rfl, ao⟩, by simp [le], fun j hj => pl j hj⟩
        · rcases in_consN.mp h with h | h
          · simp at h
          · exact dj a h
        · rcases h with h | h
          · exact .inl h
          · rcases in_consN.mp h with h | h
            · simp at h
            · exact .inr h
    · cases h

/-- the things come back -/
theorem put_back : ∀ (bs : List Bool) (os : List Opd) (vs : List V) (outs : List OT) (env : Env) (φ φA : Nat → List Addr), Sat K pin C φ σ H env → Sat K pin0 C φA (vs.map some) H (outEnv bs outs) → OpL K C0 σ os vs → (∀ a, In φA a → ¬ In φ a) →
    (∀ i ∈ ioPl bs os, env[i]? = some none) → (ioPl bs os).Nodup → ∃ φ', Sat K pin C φ' σ H (putBack bs os outs env) ∧ ∀ a, In φ' a → In φ a ∨ In φA a
  | [], os, vs, outs, env, φ, φA, S, SA, ol, dj, hn, nd => ⟨φ, by unfold putBack; exact S, fun a h => .inl h⟩
  | true :: bs, [], vs, outs, env, φ, φA, S, SA, ol, dj, hn, nd => ⟨φ, by unfold putBack; exact S, fun a h => .inl h⟩
  | false :: bs, [], vs, outs, env, φ, φA, S, SA, ol, dj, hn, nd => ⟨φ, by unfold putBack; exact S, fun a h => .inl h⟩
  | true :: bs, .va d :: os, vs, outs, env, φ, φA, S, SA, ol, dj, hn, nd => ⟨φ, by unfold putBack; exact S, fun a h => .inl h⟩
  | true :: bs, .pl i :: os, vs, [], env, φ, φA, S, SA, ol, dj, hn, nd => ⟨φ, by unfold putBack; exact S, fun a h => .inl h⟩
  | true :: bs, .pl i :: os, vs, t :: ts, env, φ, φA, S, SA, ol, dj, hn, nd => by
    simp only [OpL] at ol
    obtain ⟨v, ws, rfl, o1, ol⟩ := ol
    simp only [ioPl, List.nodup_cons] at nd
    have e0 : env[i]? = some none := hn i (by simp [ioPl])
    have hl : i < env.length := by
      by_cases h : i < env.length
      · exact h
      · rw [List.getElem?_eq_none (by omega)] at e0; cases e0
    simp only [outEnv] at SA
    have h0 : (some t :: outEnv bs ts)[0]? = some (some t) := rfl
    obtain ⟨v', ev, o⟩ := SA.slot 0 t h0
    have ev' : v = v' := by simpa using ev
    subst ev'
    have R : ResAt K C φ (φA 0) H v t := ⟨o, fun a ha => ⟨(SA.sep 0 a ha).1, (SA.sep 0 a ha).2, dj a ⟨0, ha⟩⟩⟩
    have S1 := S.putE R o1 (S.emp i (.inl e0)) hl
    have ST := SA.tail
    have dj2 : ∀ a, In (fun j => φA (j + 1)) a → ¬ In (upN φ i (φA 0)) a := fun a ⟨j, h⟩ h2 => by
      rcases in_upN h2 with z | z
      · exact dj a ⟨j + 1, h⟩ z
      · have := SA.dis _ _ a h z
        omega
    obtain ⟨φ', S', sub⟩ := put_back bs os ws ts _ _ _ S1 ST ol dj2 (fun j hj => by
      have ne : i ≠ j := by rintro rfl; exact nd.1 hj
      rw [List.getElem?_set_ne ne]
      exact hn j (by simp [ioPl, hj])) nd.2
    refine ⟨φ', by simpa only [putBack] using S', fun a h => ?_⟩
    rcases sub a h with z | ⟨j, z⟩
    · rcases in_upN z with z | z
      · exact .inl z
      · exact .inr ⟨0, z⟩
    · exact .inr ⟨j + 1, z⟩
  | false :: bs, o :: os, vs, outs, env, φ, φA, S, SA, ol, dj, hn, nd => by
    simp only [OpL] at ol
    obtain ⟨v, ws, rfl, o1, ol⟩ := ol
    simp only [outEnv] at SA
    have e1 : ioPl (false :: bs) (o :: os) = ioPl bs os := by cases o <;> rfl
    rw [e1] at hn nd
    obtain ⟨φ', S', sub⟩ := put_back bs os ws outs env φ _ S SA.tail ol (fun a ⟨j, h⟩ => dj a ⟨j + 1, h⟩) hn nd
    refine ⟨φ', by simpa only [putBack] using S', fun a h => ?_⟩
    rcases sub a h with z | ⟨j, z⟩
    · exact .inl z
    · exact .inr ⟨j + 1, z⟩
end

section
variable {Z : Zt} {X : Cx}
/-- what stands ready for a def that is called -/
structure FnAt (X : Cx) (K : PySem.W.Frag) (f : Str) (con : Con) : Prop where
  at_ : ∃ (a : Addr) (fd : FuncData) (ps : List Str) (k : Nat), X.mg f = some (.ref a) ∧ FnOk X.prog X.w X.K X.mg X.base CX0 k a fd ps (spC K con) ∧ Room k X.A ∧ PySem.W.keepIn X.K (.ref a) = true ∧ Binds X.K fd ps []
theorem call_go {f : Str} {exs : List Ex} {σ : L2.St} {H : Hp} {Q : VK} (hio : ∀ j, j ∉ Z.Γ.io → Z.pin j = none) {con : Con} (hf : Z.Γ.fn f = some con) (q : RE Z (.call f exs) σ H Q) : ROs Z exs σ H fun vs H1 => spC Z.K con (vs ++ []) H1 Q E0 := by
  obtain ⟨C, φ, env, Qt, S, w, k⟩ := q
  simp only [wpE] at w
  obtain ⟨con', ef, w⟩ := w
  rw [hf] at ef
  cases ef
  refine ⟨C, φ, env, _, S, w, fun os e1 C1 φ1 H1 vs q st S1 ol => ?_⟩
  obtain ⟨args, e2, nd, ta, run⟩ := q
  obtain ⟨C2, φ2, φA, S2, SA, dj, st2, ao, le, pl⟩ := take_args hio con.io os vs C1 φ1 e1 args e2 S1 ol ta
  rw [List.append_nil]
  refine ⟨le, C2, φA, args, _, ao, SA, run, fun r outs C3 φ3 ψ H3 v q st3 S3 R3 => ?_⟩
  have nf : ∀ a, In φ2 a → ¬ In φA a := fun a h1 h2 => dj a h2 h1
  have S4 : Sat Z.K Z.pin C3 φ2 σ H3 e2 := S2.keep st3 S3.le nf
  have new : ∀ a, (In φ3 a ∨ a ∈ ψ) → ¬ In φ2 a := fun a h h2 => by
    obtain ⟨j, hj⟩ := id h2
    obtain ⟨_, o, ho⟩ := S2.sep j a hj
    rcases st3.fr a h with z | z
    · exact nf a h2 z
    · rw [ho] at z; cases z
  obtain ⟨φ5, S5, sub⟩ := put_back con.io os vs outs e2 φ2 φ3 S4 S3 ol (fun a h => new a (.inl h)) pl nd
  refine k r _ C3 φ5 ψ H3 v q ?_ S5 ⟨R3.own, fun a ha => ⟨(R3.sep a ha).1, (R3.sep a ha).2.1, fun h => ?_⟩⟩
  · refine (st.trans st2).trans ⟨st3.le, fun a o e n => st3.keep a o e fun z => n (.inr z), fun a h => ?_, fun a h => (st3.cn a h).imp id (Or.imp .inr id)⟩
    have go : (In φ3 a ∨ a ∈ ψ) → (In φ2 a ∨ In φA a) ∨ H1 a = none := fun z => (st3.fr a z).imp .inr id
    rcases h with h | h
    · rcases sub a h with z | z
      · exact .inl (.inl z)
      · exact go (.inl z)
    · exact go (.inr h)
  · rcases sub a h with z | z
    · exact new a (.inr ha) z
    · exact (R3.sep a ha).2.2 z
theorem s_call {f : Str} {con : Con} {e : Expr} {es : List Expr} {exs : List Ex} {p pos : Pos} (hio : ∀ j, j ∉ Z.Γ.io → Z.pin j = none) (hg : Gl X f) (F : FnAt X Z.K f con) (hf : Z.Γ.fn f = some con) (ha : PA X (e :: es) (ROs Z exs)) (hdb : (f == ("__debug__" : Str)) = false)
    (he : starEach (e :: es) X.env = (false, eval e X.env) :: starEach es X.env) (hpl : (backTo pos (starEach es X.env)).any (·.1) = false) : PE X (.Call (.Name f p) (e :: es) [] pos) (RE Z (.call f exs)) := by
  obtain ⟨a, fd, ps, k, hm, F, hr, hk, hb⟩ := F.at_
  exact (pe_call F hr hg hm hk hb .nil pass0 ha hdb he hpl).imp fun σ H Q q => call_go hio hf q
theorem s_call0 {f : Str} {con : Con} {p pos : Pos} (hio : ∀ j, j ∉ Z.Γ.io → Z.pin j = none) (hg : Gl X f) (F : FnAt X Z.K f con) (hf : Z.Γ.fn f = some con) (hdb : (f == ("__debug__" : Str)) = false) : PE X (.Call (.Name f p) [] [] pos) (RE Z (.call f [])) := by
  obtain ⟨a, fd, ps, k, hm, F, hr, hk, hb⟩ := F.at_
  refine (pe_call0 F hr hg hm hk hb .nil pass0 hdb).imp fun σ H Q q => ?_
  obtain ⟨C, φ, env, Qt, S, w, k⟩ := call_go hio hf q
  simp only [wpOs] at w
  exact k [] env C φ H [] w Stp.refl S (by simp only [OpL])
end
end TW
end
section
set_option Elab.async false
set_option linter.all false
set_option maxRecDepth 100000
set_option maxHeartbeats 1000000
/-! TW10: what is walked, targets, comprehensions -/
namespace TW
open PySem L2 PySem.Spec
/-- J walks over items, as long as the frozen part C stands -/
structure IterOk (K : PySem.W.Frag) (C : Hp) (J : It) (items : List D) : Prop where
  go : ∀ i H, i < items.length → Le C H → J.go i H
  stop : ∀ H, Le C H → J.stop items.length H
  yld : ∀ i H x H2 d, items[i]? = some d → Le C H → J.yld i H x H2 → ∀ C1, Le C C1 → Le C1 H → ∃ C2, Stp C1 (fun _ => False) H C2 (fun _ => False) H2 ∧ Le C2 H2 ∧ Rep K C2 d x
def IT (Z : Zt) (it : Ex) : TI := fun σ H R => ∃ C φ env Qt, Sat Z.K Z.pin C φ σ H env ∧ wpI Z.Γ it env Qt ∧
  ∀ items env' C' φ' H' J, Qt items env' → Stp C (In φ) H C' (In φ') H' → Sat Z.K Z.pin C' φ' σ H' env' → IterOk Z.K C' J items → R J H'

section
variable {K : PySem.W.Frag} {C : Hp}
theorem stp_same {C1 H : Hp} : Stp C1 (fun _ => False) H C1 (fun _ => False) H := Stp.refl
theorem iter_list {a : Addr} {ds : List D} {vs : List V} (s : SqL K C a vs) (r : RepL K C ds vs) : IterOk K C (Itl K a) ds := by
  have W := walk_list (K := K) (a := a) (xs := vs)
  refine ⟨fun i H h le => W.goes i H (by rw [r.length]; exact h) (SqL.le le s), fun H le => by rw [← r.length]; exact W.stops H (SqL.le le s), fun i H x H2 d e le y C1 l1 l2 => ?_⟩
  have hi : i < vs.length := by
    rw [r.length]
    by_cases h : i < ds.length
    · exact h
    · rw [List.getElem?_eq_none (by omega)] at e; cases e
  obtain ⟨rfl, ex⟩ := W.yields i H x H2 hi (SqL.le le s) y
  obtain ⟨v, ev, rv⟩ := r.get e
  rw [ex] at ev
  cases ev
  exact ⟨C1, stp_same, l2, Rep.le l1 _ _ rv⟩
theorem iter_tup {a : Addr} {ds : List D} {vs : List V} (s : SqT K C a vs) (r : RepL K C ds vs) : IterOk K C (Itt K a) ds := by
  have W := walk_tup (K := K) (a := a) (xs := vs)
  refine ⟨fun i H h le => W.goes i H (by rw [r.length]; exact h) (SqT.le le s), fun H le => by rw [← r.length]; exact W.stops H (SqT.le le s), fun i H x H2 d e le y C1 l1 l2 => ?_⟩
  have hi : i < vs.length := by
    rw [r.length]
    by_cases h : i < ds.length
    · exact h
    · rw [List.getElem?_eq_none (by omega)] at e; cases e
  obtain ⟨rfl, ex⟩ := W.yields i H x H2 hi (SqT.le le s) y
  obtain ⟨v, ev, rv⟩ := r.get e
  rw [ex] at ev
  cases ev
  exact ⟨C1, stp_same, l2, Rep.le l1 _ _ rv⟩
theorem iter_str {z : Str} : IterOk K C (Its z) (chars z) := by
  have W := walk_str (z := z)
  have hl : (chars z).length = z.cps.size := by simp [chars]
  refine ⟨fun i H h le => W.goes i H (by rw [← hl]; exact h) trivial, fun H le => by rw [hl]; exact W.stops H trivial, fun i H x H2 d e le y C1 l1 l2 => ?_⟩
  have hi : i < z.cps.size := by
    rw [← hl]
    by_cases h : i < (chars z).length
    · exact h
    · rw [List.getElem?_eq_none (by omega)] at e; cases e
  obtain ⟨rfl, c, ec, rfl⟩ := W.yields i H x H2 hi trivial y
  have ed : d = .str ⟨#[c]⟩ := by
    have e2 : z.cps.toList[i]? = some c := by simpa using ec
    unfold chars at e
    rw [List.getElem?_map, e2] at e
    exact (Option.some.inj e).symm
  subst ed
  exact ⟨C1, stp_same, l2, by simp only [Rep]⟩
theorem iter_range {lo : Int} {n : Nat} : IterOk K C (Itr lo n) (rangeD lo n) := by
  have W := walk_range (lo := lo) (n := n)
  have hl : (rangeD lo n).length = n := by simp [rangeD]
  refine ⟨fun i H h le => W.goes i H (by rw [← hl]; exact h) trivial, fun H le => by rw [hl]; exact W.stops H trivial, fun i H x H2 d e le y C1 l1 l2 => ?_⟩
  have hi : i < n := by
    rw [← hl]
    by_cases h : i < (rangeD lo n).length
    · exact h
    · rw [List.getElem?_eq_none (by omega)] at e; cases e
  obtain ⟨rfl, rfl⟩ := W.yields i H x H2 hi trivial y
  have ed : d = .int (lo + (i : Nat)) := by
    unfold rangeD at e
    rw [List.getElem?_map, List.getElem?_range hi] at e
    exact (Option.some.inj e).symm
  subst ed
  exact ⟨C1, stp_same, l2, by simp only [Rep]⟩
end

section
variable {X : Cx} {tg : Expr}
theorem _root_.L2.PI.imp {iter : Expr} {t t' : TI} (h : PI X tg iter t) (i : ∀ σ H Q, t' σ H Q → t σ H Q) : PI X tg iter t' := ⟨fun pins s σ H Q I q => h.run pins s σ H Q I (i σ H Q q)⟩
/-- a list, a tuple, a text by its value -/
def iSeq (K : PySem.W.Frag) (tl : TE) : TI := fun σ H R => tl σ H fun x H1 => (∃ a xs, x = .ref a ∧ SqL K H1 a xs ∧ R (Itl K a) H1) ∨ (∃ a xs, x = .ref a ∧ SqT K H1 a xs ∧ R (Itt K a) H1) ∨ ∃ z, x = .str z ∧ R (Its z) H1
theorem pi_seq {l : Expr} {tl : TE} (hl : PE X l tl) : PI X tg l (iSeq X.K tl) := by
  refine ⟨fun pins s σ H R I h => thn (hl.run pins s σ H _ I h) fun v s1 hv => ?_⟩
  obtain ⟨x, H1, I1, r1, q⟩ := hv
  rcases q with ⟨a, xs, rfl, hq, q⟩ | ⟨a, xs, rfl, hq, q⟩ | ⟨z, rfl, q⟩
  · obtain rfl : v = Value.ref a := r1
    obtain ⟨its, _, p, _⟩ := I1.list hq
    exact wpAny_pyIter_list p.isList (pi_one (tk := s1.toks) I1 _ (turn_list a _) ⟨_, Heap.get?_push_size _ rfl, rfl, rfl⟩ q)
  · obtain rfl : v = Value.ref a := r1
    obtain ⟨its, _, p, _⟩ := I1.tuple hq
    exact wpAny_pyIter_tuple (show s1.heap.IsTuple a its.toArray from p) (pi_one (tk := s1.toks) I1 _ (turn_tuple a _) ⟨_, Heap.get?_push_size _ rfl, rfl, rfl⟩ q)
  · obtain ⟨t, rfl⟩ := r1
    cases ascii : z.cps.all (· < 128) with
    | true => exact wpAny_pyIter_ascii ascii (pi_one (tk := s1.toks) I1 _ (turn_str _ z t "str_ascii_iterator" (.inl rfl)) ⟨_, Heap.get?_push_size _ rfl, rfl, rfl⟩ q)
    | false => exact wpAny_pyIter_wide ascii (pi_one (tk := s1.toks) I1 _ (turn_str _ z t "str_iterator" (.inr rfl)) ⟨_, Heap.get?_push_size _ rfl, rfl, rfl⟩ q)

variable {Z : Zt}
theorem s_seq {l : Expr} {el : Ex} (hK : X.K = Z.K) (hl : PE X l (RE Z el)) : PI X tg l (IT Z (.it .seq [el])) := by
  refine (pi_seq (pe_RV hl)).imp fun σ H R q => ?_
  obtain ⟨C, φ, env, Qt, S, w, k⟩ := q
  simp only [wpI, wpVs] at w
  rw [hK]
  refine ⟨C, φ, env, fun d e1 => itS .seq [d] fun items => Qt items e1, S, w, fun d e1 C1 φ1 H1 v q st S1 rp => ?_⟩
  have q : seqS (fun items => Qt items e1) d := q
  cases d with
  | list ds =>
    simp only [Rep] at rp
    obtain ⟨a, vs, rfl, s, r⟩ := rp
    exact .inl ⟨a, vs, rfl, SqL.le S1.le s, k _ e1 C1 φ1 H1 _ q st S1 (iter_list s r)⟩
  | tuple ds =>
    simp only [Rep] at rp
    obtain ⟨a, vs, rfl, s, r⟩ := rp
    exact .inr (.inl ⟨a, vs, rfl, SqT.le S1.le s, k _ e1 C1 φ1 H1 _ q st S1 (iter_tup s r)⟩)
  | str z =>
    simp only [Rep] at rp
    subst rp
    exact .inr (.inr ⟨z, rfl, k _ e1 C1 φ1 H1 _ q st S1 iter_str⟩)
  | _ => exact (q : False).elim
theorem s_rng1 {a : Expr} {exs : List Ex} {p pos : Pos} (hg : Gl X "range") (hm : X.mg "range" = none) (ha : PA X [a] (RVs Z exs)) (hs : starEach [a] X.env = [(false, eval a X.env)]) : PI X tg (.Call (.Name "range" p) [a] [] pos) (IT Z (.it .rng1 exs)) := by
  refine (pi_range1 hg hm ha hs).imp fun σ H R q => ?_
  obtain ⟨C, φ, env, Qt, S, w, k⟩ := q
  simp only [wpI] at w
  refine ⟨C, φ, env, _, S, w, fun ds e1 C1 φ1 H1 vs q st S1 rs => ?_⟩
  simp only [itS] at q
  split at q
  · rename_i j
    obtain ⟨v, rfl, rv⟩ := rs.uno
    simp only [Rep] at rv
    subst rv
    exact ⟨j, rfl, q.1, q.2.1, k _ e1 C1 φ1 H1 _ q.2.2 st S1 iter_range⟩
  · exact q.elim
theorem s_rng2 {a b : Expr} {exs : List Ex} {p pos : Pos} (hg : Gl X "range") (hm : X.mg "range" = none) (ha : PA X [a, b] (RVs Z exs)) (hs : starEach [a, b] X.env = [(false, eval a X.env), (false, eval b X.env)]) (hs2 : starEach [b] X.env = [(false, eval b X.env)]) :
    PI X tg (.Call (.Name "range" p) [a, b] [] pos) (IT Z (.it .rng2 exs)) := by
  refine (pi_range2 hg hm ha hs hs2).imp fun σ H R q => ?_
  obtain ⟨C, φ, env, Qt, S, w, k⟩ := q
  simp only [wpI] at w
  refine ⟨C, φ, env, _, S, w, fun ds e1 C1 φ1 H1 vs q st S1 rs => ?_⟩
  simp only [itS] at q
  split at q
  · rename_i i j
    simp only [RepL, Rep] at rs
    obtain ⟨v, r, rfl, rfl, v2, r2, rfl, rfl, rfl⟩ := rs
    exact ⟨i, j, rfl, q.1, k _ e1 C1 φ1 H1 _ q.2 st S1 iter_range⟩
  · exact q.elim

/-- enumerate(a list) -/
def enumD (ds : List D) : List D := (List.range ds.length).zipWith (fun i d => .tuple [.int (i : Nat), d]) ds
theorem enumD_len (ds : List D) : (enumD ds).length = ds.length := by simp [enumD]
theorem enumD_get (ds : List D) (i : Nat) : (enumD ds)[i]? = ds[i]?.map fun d => .tuple [.int (i : Nat), d] := by
  unfold enumD
  rw [List.getElem?_zipWith]
  by_cases h : i < ds.length
  · rw [List.getElem?_range h, List.getElem?_eq_getElem h]; rfl
  · rw [List.getElem?_eq_none (by simp; omega), List.getElem?_eq_none (by omega)]; rfl
theorem iter_enum {K : PySem.W.Frag} {C : Hp} {a : Addr} {ds : List D} {vs : List V} (s : SqL K C a vs) (r : RepL K C ds vs) : IterOk K C (Ite K a) (enumD ds) := by
  have W := walk_enum (K := K) (a := a) (xs := vs)
  refine ⟨fun i H h le => W.goes i H (by rw [r.length, ← enumD_len]; exact h) (SqL.le le s), fun H le => by rw [enumD_len, ← r.length]; exact W.stops H (SqL.le le s), fun i H x H2 d e le y C1 l1 l2 => ?_⟩
  rw [enumD_get] at e
  have hi : i < vs.length := by
    rw [r.length]
    by_cases h : i < ds.length
    · exact h
    · rw [List.getElem?_eq_none (by omega)] at e; cases e
  have hd : i < ds.length := by rw [← r.length]; exact hi
  rw [List.getElem?_eq_getElem hd] at e
  cases e
  obtain ⟨T, x0, y0, rfl, hT, rfl, e1, e2⟩ := W.yields i H x H2 hi (SqL.le le s) y
  cases e1
  obtain ⟨v, ev, rv⟩ := r.get (List.getElem?_eq_getElem hd)
  have e2 : vs[i]? = some y0 := e2
  rw [ev] at e2
  cases e2
  have cT : C1 T = none := by
    cases q : C1 T with
    | none => rfl
    | some o => rw [l2 T o q] at hT; cases hT
  have l3 : Le C1 (upd C1 T (.tup [.int (i : Nat), y0])) := fun b o h => by
    rw [upd_ne]
    · exact h
    · rintro rfl; rw [cT] at h; cases h
  refine ⟨upd C1 T (.tup [.int (i : Nat), y0]), ⟨l3, fun b o h _ => ?_, fun _ h => h.elim, fun b h => ?_⟩, fun b o h => ?_, ?_⟩
  · rw [upd_ne]
    · exact h
    · rintro rfl; rw [hT] at h; cases h
  · by_cases z : b = T
    · subst z; exact .inr (.inr hT)
    · rw [upd_ne z] at h; exact .inl h
  · by_cases z : b = T
    · subst z; rw [upd_same] at h ⊢; exact h
    · rw [upd_ne z] at h ⊢; exact l2 b o h
  · simp only [Rep]
    refine ⟨T, [.int (i : Nat), y0], rfl, SqT.of upd_same, ?_⟩
    simp only [RepL, Rep]
    exact ⟨_, _, rfl, rfl, y0, [], rfl, Rep.le (l1.trans l3) _ _ rv, rfl⟩
theorem s_enum {elts : List Expr} {kk : Nat} {tpos : Pos} {e : Expr} {exs : List Ex} {p pos : Pos} (hK : X.K = Z.K) (hg : Gl X "enumerate") (hm : X.mg "enumerate" = none) (ha : PA X [e] (RVs Z exs)) (hs : starEach [e] X.env = [(false, eval e X.env)]) :
    PI X (.Tuple elts kk tpos) (.Call (.Name "enumerate" p) [e] [] pos) (IT Z (.it .enum exs)) := by
  refine (pi_enum hg hm ha hs).imp fun σ H R q => ?_
  obtain ⟨C, φ, env, Qt, S, w, k⟩ := q
  simp only [wpI] at w
  refine ⟨C, φ, env, _, S, w, fun ds e1 C1 φ1 H1 vs q st S1 rs => ?_⟩
  simp only [itS] at q
  split at q
  · obtain ⟨v, rfl, rv⟩ := rs.uno
    simp only [Rep] at rv
    obtain ⟨a, ws, rfl, s, r⟩ := rv
    rw [hK]
    exact ⟨a, ws, rfl, SqL.le S1.le s, k _ e1 C1 φ1 H1 _ q st S1 (iter_enum s r)⟩
  · exact q.elim

/-! ### targets -/
def tgIx : Tg → List Nat
  | .name i => [i]
  | .tup is => is
def GT (Z : Zt) (tg : Tg) : TG := fun v σ H Q => ∃ C φ env d Qt, Sat Z.K Z.pin C φ σ H env ∧ Rep Z.K C d v ∧ tgt Z.Γ.io tg d env Qt ∧
  ∀ env' φ' σ', Qt env' → Sat Z.K Z.pin C φ' σ' H env' → (∀ a, In φ' a → In φ a) → (∀ vs : List Nat, (∀ i ∈ tgIx tg, i ∈ vs) → wipe σ' vs = wipe σ vs) → Q σ' H
theorem wipe_set {v : Option V} {i : Nat} : ∀ {vs : List Nat} {σ : L2.St}, i ∈ vs → wipe (σ.set i v) vs = wipe σ vs := by
  have key : ∀ (vs : List Nat) (σ : L2.St), i ∉ vs → wipe (σ.set i v) vs = (wipe σ vs).set i v := by
    intro vs
    induction vs with
    | nil => intro σ _; rfl
    | cons w vs ih =>
      intro σ h
      simp only [List.mem_cons, not_or] at h
      simp only [wipe, ih σ h.2]
      rw [List.set_comm _ _ h.1]
  intro vs
  induction vs with
  | nil => intro σ h; simp at h
  | cons w vs ih =>
    intro σ h
    by_cases h2 : i ∈ vs
    · simp only [wipe, ih h2]
    · have e : i = w := by simpa [h2] using h
      subst e
      simp only [wipe, key vs σ h2, List.set_set]
theorem _root_.L2.PG.imp {t t' : TG} (h : PG X tg t) (i : ∀ v σ H Q, t' v σ H Q → t v σ H Q) : PG X tg t' := ⟨fun pins s σ H v u Q I r q => h.run pins s σ H v u Q I r (i v σ H Q q)⟩
theorem s_tgname {i : Nat} (hio : ∀ j, j ∉ Z.Γ.io → Z.pin j = none) (h : PG X tg (gName i)) : PG X tg (GT Z (.name i)) := by
  refine h.imp fun v σ H Q q => ?_
  obtain ⟨C, φ, env, d, Qt, S, rp, w, k⟩ := q
  obtain ⟨φ', S', sub⟩ := S.store (ResAt.sh rp) (hio i w.1)
  exact k _ φ' _ w.2 S' (fun a h => (sub a h).elim id fun z => by simp at z) fun vs hv => wipe_set (hv i (by simp [tgIx]))
/-- names one after another -/
def gNames : List Nat → TGs
  | [] => gNil
  | i :: is => gCons (gName i) (gNames is)
theorem names_go (hio : ∀ j, j ∉ Z.Γ.io → Z.pin j = none) {C : Hp} {H : Hp} : ∀ (is : List Nat) (ds : List D) (vs : List V) (φ : Nat → List Addr) (σ : L2.St) (env : Env) (Q : L2.St → Hp → Prop), Sat Z.K Z.pin C φ σ H env → RepL Z.K C ds vs → is.length = ds.length → (∀ i ∈ is, i ∉ Z.Γ.io) →
    (∀ φ' σ', Sat Z.K Z.pin C φ' σ' H ((is.zip ds).foldl (fun e p => e.set p.1 (some (.sh p.2))) env) → (∀ a, In φ' a → In φ a) → (∀ ws : List Nat, (∀ i ∈ is, i ∈ ws) → wipe σ' ws = wipe σ ws) → Q σ' H) → gNames is vs σ H Q
  | [], [], vs, φ, σ, env, Q, S, r, _, _, k => ⟨r.nil, k φ σ S (fun _ h => h) fun _ _ => rfl⟩
  | [], _ :: _, vs, φ, σ, env, Q, S, r, h, _, k => by simp at h
  | i :: is, [], vs, φ, σ, env, Q, S, r, h, _, k => by simp at h
  | i :: is, d :: ds, vs, φ, σ, env, Q, S, r, h, hi, k => by
    simp only [RepL] at r
    obtain ⟨v, ws, rfl, rv, r⟩ := r
    obtain ⟨φ', S', sub⟩ := S.store (ResAt.sh rv) (hio i (hi i (by simp)))
    refine ⟨v, ws, rfl, names_go hio is ds ws φ' _ _ Q S' r (by simpa using h) (fun j hj => hi j (by simp [hj])) fun φ2 σ2 S2 sub2 hw => k φ2 σ2 S2 (fun a h => (sub a (sub2 a h)).elim id fun z => by simp at z) fun us hu => ?_⟩
    rw [hw us fun j hj => hu j (by simp [hj]), wipe_set (hu i (by simp))]
theorem s_tgtup {is : List Nat} (hK : X.K = Z.K) (hio : ∀ j, j ∉ Z.Γ.io → Z.pin j = none) (h : PG X tg (gTup X.K is.length (gNames is))) : PG X tg (GT Z (.tup is)) := by
  refine h.imp fun v σ H Q q => ?_
  obtain ⟨C, φ, env, d, Qt, S, rp, w, k⟩ := q
  cases d with
  | tuple ds =>
    obtain ⟨hl, hi, w⟩ := w
    simp only [Rep] at rp
    obtain ⟨a, vs, rfl, s, r⟩ := rp
    refine ⟨a, vs, rfl, by rw [hK]; exact SqT.le S.le s, by rw [r.length, hl], names_go hio is ds vs φ σ env Q S r hl hi fun φ' σ' S' sub hw => k _ φ' σ' w S' sub hw⟩
  | _ => exact (w : False).elim
end
end TW
end
section
set_option Elab.async false
set_option linter.all false
set_option maxRecDepth 100000
set_option maxHeartbeats 2000000
/-! TW11: list comprehensions -/
namespace TW
open PySem L2 PySem.Spec

theorem wipe_ne {i : Nat} : ∀ {vs : List Nat} {σ : L2.St}, i ∉ vs → (wipe σ vs)[i]? = σ[i]?
  | [], σ, _ => rfl
  | v :: vs, σ, h => by
    simp only [List.mem_cons, not_or] at h
    simp only [wipe]
    rw [List.getElem?_set_ne (fun e => h.1 e.symm), wipe_ne h.2]
theorem wipeE_ne {i : Nat} : ∀ {vs : List Nat} {e : Env}, i ∉ vs → (wipeE e vs)[i]? = e[i]?
  | [], e, _ => rfl
  | v :: vs, e, h => by
    simp only [List.mem_cons, not_or] at h
    simp only [wipeE]
    rw [List.getElem?_set_ne (fun e => h.1 e.symm), wipeE_ne h.2]
theorem wipeE_len : ∀ {vs : List Nat} {e : Env}, (wipeE e vs).length = e.length
  | [], e => rfl
  | v :: vs, e => by simp only [wipeE, List.length_set]; exact wipeE_len
theorem wipeE_at {i : Nat} : ∀ {vs : List Nat} {e : Env}, i ∈ vs → (wipeE e vs)[i]? = if i < e.length then some none else none
  | [], e, h => by simp at h
  | v :: vs, e, h => by
    simp only [wipeE]
    by_cases hl : i < e.length
    · rw [if_pos hl]
      by_cases z : v = i
      · subst z
        exact List.getElem?_set_self (by rw [wipeE_len]; exact hl)
      · rw [List.getElem?_set_ne z, wipeE_at (by simpa [Ne.symm z] using h), if_pos hl]
    · rw [if_neg hl]
      exact List.getElem?_eq_none (by rw [List.length_set, wipeE_len]; omega)
theorem wipe_at {i : Nat} : ∀ {vs : List Nat} {e : L2.St}, i ∈ vs → (L2.wipe e vs)[i]? = if i < e.length then some none else none
  | [], e, h => by simp at h
  | v :: vs, e, h => by
    simp only [L2.wipe]
    by_cases hl : i < e.length
    · rw [if_pos hl]
      by_cases z : v = i
      · subst z
        exact List.getElem?_set_self (by rw [wipe_length]; exact hl)
      · rw [List.getElem?_set_ne z, wipe_at (by simpa [Ne.symm z] using h), if_pos hl]
    · rw [if_neg hl]
      exact List.getElem?_eq_none (by rw [List.length_set, wipe_length]; omega)
theorem wipeE_in {i : Nat} {vs : List Nat} {e : Env} (h : i ∈ vs) : (wipeE e vs)[i]? = some none ∨ (wipeE e vs)[i]? = none := by
  rw [wipeE_at h]
  split
  · exact .inl rfl
  · exact .inr rfl
theorem wipe_wipe {vs : List Nat} {e : L2.St} : L2.wipe (L2.wipe e vs) vs = L2.wipe e vs := by
  apply List.ext_getElem?
  intro i
  by_cases m : i ∈ vs
  · rw [wipe_at m, wipe_at m, wipe_length]
  · rw [wipe_ne m]
theorem wipeE_wipeE {vs : List Nat} {e : Env} : wipeE (wipeE e vs) vs = wipeE e vs := by
  apply List.ext_getElem?
  intro i
  by_cases m : i ∈ vs
  · rw [wipeE_at m, wipeE_at m, wipeE_len]
  · rw [wipeE_ne m]
theorem unwipe_ne {i : Nat} {e : Env} : ∀ {vs : List Nat} {e1 : Env}, i ∉ vs → (unwipe e e1 vs)[i]? = e1[i]?
  | [], e1, _ => rfl
  | v :: vs, e1, h => by
    simp only [List.mem_cons, not_or] at h
    simp only [unwipe]
    split
    · rw [List.getElem?_set_ne (fun e => h.1 e.symm), unwipe_ne h.2]
    · exact unwipe_ne h.2
theorem unwipe_len {e : Env} : ∀ {vs : List Nat} {e1 : Env}, (unwipe e e1 vs).length = e1.length
  | [], e1 => rfl
  | v :: vs, e1 => by
    simp only [unwipe]
    split
    · rw [List.length_set]; exact unwipe_len
    · exact unwipe_len
theorem unwipe_in {i : Nat} {e : Env} : ∀ {vs : List Nat} {e1 : Env}, e.length = e1.length → i ∈ vs → (unwipe e e1 vs)[i]? = e[i]?
  | [], e1, _, h => by simp at h
  | v :: vs, e1, hl, h => by
    simp only [unwipe]
    by_cases z : v = i
    · subst z
      split
      · rename_i o eo
        have h2 : v < e.length := by
          by_cases h : v < e.length
          · exact h
          · rw [List.getElem?_eq_none (by omega)] at eo; cases eo
        rw [List.getElem?_set_self (by rw [unwipe_len]; omega), eo]
      · rename_i eo
        rw [eo]
        have h2 : ¬ v < e.length := fun h => by rw [List.getElem?_eq_getElem h] at eo; cases eo
        exact List.getElem?_eq_none (by rw [unwipe_len]; omega)
    · have hm : i ∈ vs := by simpa [Ne.symm z] using h
      split
      · rw [List.getElem?_set_ne z]
        exact unwipe_in hl hm
      · exact unwipe_in hl hm

section
variable {K : PySem.W.Frag} {pin : Nat → Option Addr} {C C' : Hp} {φ φ' : Nat → List Addr} {σ : L2.St} {H H' : Hp} {env env' : Env}
/-- within a block: its own names forgotten -/
def cutN (φ : Nat → List Addr) (vs : List Nat) : Nat → List Addr := fun i => if i ∈ vs then [] else φ i
theorem in_cutN {vs : List Nat} {a : Addr} (h : In (cutN φ vs) a) : In φ a := by
  obtain ⟨i, h⟩ := h
  unfold cutN at h
  split at h
  · simp at h
  · exact ⟨i, h⟩
theorem Sat.wipe (S : Sat K pin C φ σ H env) (vs : List Nat) (hp : ∀ i ∈ vs, pin i = none) : Sat K pin C (cutN φ vs) (L2.wipe σ vs) H (wipeE env vs) := by
  refine ⟨S.le, by rw [wipeE_len, wipe_length]; exact S.len, fun i t e => ?_, fun i e => ?_, fun i j a h1 h2 => ?_, fun i a h => ?_, fun i a h => ?_⟩
  · by_cases m : i ∈ vs
    · rcases wipeE_in (e := env) m with q | q <;> rw [q] at e <;> cases e
    · rw [wipeE_ne m] at e
      obtain ⟨v, e1, o⟩ := S.slot i t e
      exact ⟨v, by rw [wipe_ne m]; exact e1, by unfold cutN; rw [if_neg m]; exact o⟩
  · unfold cutN
    by_cases m : i ∈ vs
    · rw [if_pos m]
    · rw [if_neg m]
      rw [wipeE_ne m] at e
      exact S.emp i e
  · unfold cutN at h1 h2
    split at h1
    · simp at h1
    · split at h2
      · simp at h2
      · exact S.dis i j a h1 h2
  · unfold cutN at h
    split at h
    · simp at h
    · exact S.sep i a h
  · have m : i ∉ vs := fun m => by rw [hp i m] at h; cases h
    rw [wipe_ne m]
    exact S.pin i a h
def joinN (φ φ' : Nat → List Addr) (vs : List Nat) : Nat → List Addr := fun i => if i ∈ vs then φ i else φ' i
theorem in_joinN {vs : List Nat} {a : Addr} (h : In (joinN φ φ' vs) a) : In φ a ∨ In φ' a := by
  obtain ⟨i, h⟩ := h
  unfold joinN at h
  split at h
  · exact .inl ⟨i, h⟩
  · exact .inr ⟨i, h⟩
/-- behind a block -/
theorem Sat.unwipe {F' : Addr → Prop} (S : Sat K pin C φ σ H env) (vs : List Nat) (S' : Sat K pin C' φ' (L2.wipe σ vs) H' env') (st : Stp C (In (cutN φ vs)) H C' F' H') (hF : ∀ a, In φ' a → F' a) :
    Sat K pin C' (joinN φ φ' vs) σ H' (TW.unwipe env env' vs) := by
  have hlen : env.length = env'.length := by rw [S.len, S'.len, wipe_length]
  have hid : ∀ i ∈ vs, ∀ a ∈ φ i, ¬ In (cutN φ vs) a := fun i m a ha ⟨j, hj⟩ => by
    unfold cutN at hj
    split at hj
    · simp at hj
    · rename_i nm
      exact nm (S.dis i j a ha hj ▸ m)
  have hnew : ∀ i ∈ vs, ∀ a ∈ φ i, ¬ F' a := fun i m a ha hf => by
    obtain ⟨_, o, ho⟩ := S.sep i a ha
    rcases st.fr a hf with z | z
    · exact hid i m a ha z
    · rw [ho] at z; cases z
  refine ⟨S'.le, by rw [unwipe_len, S'.len, wipe_length], fun i t e => ?_, fun i e => ?_, fun i j a h1 h2 => ?_, fun i a h => ?_, fun i a h => ?_⟩
  · by_cases m : i ∈ vs
    · rw [unwipe_in hlen m] at e
      obtain ⟨v, e1, o⟩ := S.slot i t e
      refine ⟨v, e1, ?_⟩
      unfold joinN
      rw [if_pos m]
      exact o.move st.le fun a ha u hu => st.keep a u hu (hid i m a ha)
    · rw [unwipe_ne m] at e
      obtain ⟨v, e1, o⟩ := S'.slot i t e
      refine ⟨v, by rw [wipe_ne m] at e1; exact e1, ?_⟩
      unfold joinN
      rw [if_neg m]
      exact o
  · unfold joinN
    by_cases m : i ∈ vs
    · rw [if_pos m]
      rw [unwipe_in hlen m] at e
      exact S.emp i e
    · rw [if_neg m]
      rw [unwipe_ne m] at e
      exact S'.emp i e
  · unfold joinN at h1 h2
    split at h1
    · rename_i m1
      split at h2
      · exact S.dis i j a h1 h2
      · exact absurd (hF a ⟨j, h2⟩) (hnew i m1 a h1)
    · split at h2
      · rename_i m2
        exact absurd (hF a ⟨i, h1⟩) (hnew j m2 a h2)
      · exact S'.dis i j a h1 h2
  · unfold joinN at h
    split at h
    · rename_i m
      obtain ⟨c, o, ho⟩ := S.sep i a h
      refine ⟨?_, o, st.keep a o ho (hid i m a h)⟩
      cases q : C' a with
      | none => rfl
      | some u =>
        rcases st.cn a (by rw [q]; simp) with z | z | z
        · exact absurd c z
        · exact absurd z (hid i m a h)
        · rw [ho] at z; cases z
    · exact S'.sep i a h
  · exact S.pin i a h
end

section
variable {Z : Zt} {X : Cx}
/-- the tests of a comprehension: none, or one -/
def RTs (Z : Zt) (es : List Ex) : TT := fun σ H Q => ∃ C φ env Qt, Sat Z.K Z.pin C φ σ H env ∧ wpTs Z.Γ es env Qt ∧
  ∀ c env' C' φ' H', Qt c env' → Stp C (In φ) H C' (In φ') H' → Sat Z.K Z.pin C' φ' σ H' env' → Q c H'
theorem _root_.L2.PTs.imp {es : List Expr} {t t' : TT} (h : PTs X es t) (i : ∀ σ H Q, t' σ H Q → t σ H Q) : PTs X es t' := ⟨fun pins s σ H Q I q => h.run pins s σ H Q I (i σ H Q q)⟩
theorem s_tests0 : PTs X [] (RTs Z []) := pts_nil.imp fun σ H Q q => by
  obtain ⟨C, φ, env, Qt, S, w, k⟩ := q
  simp only [wpTs] at w
  exact k true env C φ H w Stp.refl S
theorem s_tests1 {c : Expr} {ec : Ex} (h : PT X c (RT Z ec)) : PTs X [c] (RTs Z [ec]) := (pts_one h).imp fun σ H Q q => by
  obtain ⟨C, φ, env, Qt, S, w, k⟩ := q
  simp only [wpTs] at w
  refine ⟨C, φ, env, _, S, w, fun c e1 C1 φ1 H1 q st S1 => ?_⟩
  cases c with
  | true => simp only [if_true] at q; exact k true e1 C1 φ1 H1 q st S1
  | false => simp only [Bool.false_eq_true, if_false] at q; exact k false e1 C1 φ1 H1 q st S1

/-- the list that is being made stands at D, beside the names -/
structure Acc (K : PySem.W.Frag) (C : Hp) (φ : Nat → List Addr) (H : Hp) (D : Addr) (acc : List TW.D) : Prop where
  at_ : ∃ vs, H D = some (.lst vs) ∧ RepL K C acc vs
  c : C D = none
  out : ¬ In φ D
theorem Acc.step {K : PySem.W.Frag} {C C' : Hp} {φ φ' : Nat → List Addr} {H H' : Hp} {D : Addr} {acc : List TW.D} (A : Acc K C φ H D acc) (st : Stp C (In φ) H C' (In φ') H') : Acc K C' φ' H' D acc := by
  obtain ⟨vs, e, r⟩ := A.at_
  refine ⟨⟨vs, st.keep D _ e A.out, RepL.le st.le _ _ r⟩, ?_, fun h => ?_⟩
  · cases q : C' D with
    | none => rfl
    | some u =>
      rcases st.cn D (by rw [q]; simp) with z | z | z
      · exact absurd A.c z
      · exact absurd z A.out
      · rw [e] at z; cases z
  · rcases st.fr D h with z | z
    · exact A.out z
    · rw [e] at z; cases z

def stepLc (Γ : Ctx) (elt : Ex) (tg : Tg) (ifs : List Ex) (own : List Nat) : TW.D → Env → (Option TW.D → Env → Prop) → Prop := fun d e k => tgt Γ.io tg d (wipeE e own) fun e2 => wpTs Γ ifs e2 fun b e3 => if b = true then wpE Γ elt e3 fun r e4 => k (some r.frz) e4 else k none e3

theorem unwipe_wipeE {e e1 : Env} {vs : List Nat} (h : e.length = e1.length) : TW.unwipe e (wipeE e1 vs) vs = TW.unwipe e e1 vs := by
  apply List.ext_getElem?
  intro i
  by_cases m : i ∈ vs
  · rw [unwipe_in (by rw [wipeE_len]; exact h) m, unwipe_in h m]
  · rw [unwipe_ne m, unwipe_ne m, wipeE_ne m]
theorem Sat.beside {K : PySem.W.Frag} {pin : Nat → Option Addr} {C : Hp} {φ : Nat → List Addr} {σ : L2.St} {H : Hp} {env : Env} {D : Addr} {o : HO} (S : Sat K pin C φ σ H env) (hc : C D = none) (hn : ¬ In φ D) : Sat K pin C φ σ (upd H D o) env := by
  have ne : ∀ a, In φ a → a ≠ D := fun a h e => hn (e ▸ h)
  refine ⟨fun a u h => ?_, S.len, fun i t e => ?_, S.emp, S.dis, fun i a h => ⟨(S.sep i a h).1, ?_⟩, S.pin⟩
  · rw [upd_ne]
    · exact S.le a u h
    · rintro rfl; rw [hc] at h; cases h
  · obtain ⟨v, e1, ow⟩ := S.slot i t e
    exact ⟨v, e1, ow.move (Le.refl _) fun a ha u hu => by rw [upd_ne (ne a ⟨i, ha⟩)]; exact hu⟩
  · rw [upd_ne (ne a ⟨i, h⟩)]
    exact (S.sep i a h).2
/-- what holds between two turns -/
structure Turns (Z : Zt) (C1 : Hp) (φ1 : Nat → List Addr) (H1 : Hp) (σ : L2.St) (own : List Nat) (D : Addr) (k : List TW.D → Env → Prop) (acc : List TW.D) (e : Env) (H : Hp) : Prop where
  ex : ∃ C φ, Sat Z.K Z.pin C φ (L2.wipe σ own) H (wipeE e own) ∧ Acc Z.K C φ H D acc ∧ Stp C1 (In (cutN φ1 own)) H1 C (fun a => In φ a ∨ a = D) H
  go : k acc e
/-- the reading of a comprehension -/
theorem lc_go {elt it : Ex} {tg : Tg} {ifs : List Ex} {own : List Nat} {σ : L2.St} {H : Hp} {Q : VK} (hio : ∀ j, j ∉ Z.Γ.io → Z.pin j = none) (htg : ∀ i ∈ tgIx tg, i ∈ own) (q : RE Z (.lc elt tg it ifs own) σ H Q) : tLc (IT Z it) (GT Z tg) (RTs Z ifs) (RV Z elt) own σ H Q := by
  obtain ⟨C, φ, env, Qt, S, w, k⟩ := q
  simp only [wpE] at w
  obtain ⟨hown, w⟩ := w
  have hp : ∀ i ∈ own, Z.pin i = none := fun i m => hio i (hown i m)
  refine ⟨C, φ, env, _, S, w, fun items e1 C1 φ1 H1 J q st S1 IO => ?_⟩
  have q : lcGo (stepLc Z.Γ elt tg ifs own) items [] e1 fun acc e2 => Qt (.lst acc) (TW.unwipe e1 e2 own) := q
  intro D hD
  have hc1 : C1 D = none := S1.none_of hD
  have hnD : ¬ In φ1 D := fun ⟨i, h⟩ => by obtain ⟨_, o, ho⟩ := S1.sep i D h; rw [hD] at ho; cases ho
  have len2 : ∀ {e : Env} {C φ H}, Sat Z.K Z.pin C φ (L2.wipe σ own) H (wipeE e own) → e1.length = e.length := fun {e C φ H} S => by
    have a1 := S.len
    rw [wipeE_len, wipe_length, ← S1.len] at a1
    exact a1.symm
  refine ⟨fun i m H' => m = items.length - i ∧ i ≤ items.length ∧ ∃ acc e, Turns Z C1 φ1 H1 σ own D (fun acc e => lcGo (stepLc Z.Γ elt tg ifs own) (items.drop i) acc e fun acc e2 => Qt (.lst acc) (TW.unwipe e1 e2 own)) acc e H', ⟨items.length, by simp, Nat.zero_le _, [], e1, ⟨C1, cutN φ1 own, (S1.wipe own hp).beside hc1 (fun h => hnD (in_cutN h)), ⟨⟨[], upd_same, by simp only [RepL]⟩, hc1, fun h => hnD (in_cutN h)⟩, ?_⟩, by simpa using q⟩, ?_⟩
  · exact ⟨Le.refl _, fun a o e _ => le_upd hD a o e, fun a h => h.elim .inl fun z => .inr (by rw [z]; exact hD), fun a h => .inl h⟩
  · rintro i m H' ⟨rfl, hi, acc, e, ⟨C', φ', S2, A, st2⟩, go⟩
    have leC : Le C1 H' := st2.le.trans S2.le
    by_cases hlt : i < items.length
    · have ed : items[i]? = some items[i] := List.getElem?_eq_getElem hlt
      rw [List.drop_eq_getElem_cons hlt] at go
      refine .inr ⟨IO.go i H' hlt leC, fun H'' => i + 1 ≤ items.length ∧ ∃ acc e, Turns Z C1 φ1 H1 σ own D (fun acc e => lcGo (stepLc Z.Γ elt tg ifs own) (items.drop (i + 1)) acc e fun acc e2 => Qt (.lst acc) (TW.unwipe e1 e2 own)) acc e H'', fun H'' p => ⟨_, by omega, rfl, p⟩, fun x H2 y => ?_⟩
      obtain ⟨C2, st3, le2, rp⟩ := IO.yld i H' x H2 _ ed leC y C' st2.le S2.le
      have S3 := S2.keep st3 le2 fun _ _ => id
      have st3' : Stp C' (In φ') H' C2 (In φ') H2 := ⟨st3.le, fun a o e _ => st3.keep a o e id, fun a h => .inl h, fun a h => (st3.cn a h).imp id fun z => z.elim (fun z => z.elim) .inr⟩
      have A3 := A.step st3'
      have st4 : Stp C1 (In (cutN φ1 own)) H1 C2 (fun a => In φ' a ∨ a = D) H2 := st2.trans ⟨st3.le, fun a o e _ => st3.keep a o e id, fun a h => .inl h, fun a h => (st3.cn a h).imp id fun z => z.elim (fun z => z.elim) .inr⟩
      refine ⟨C2, φ', wipeE e own, _, _, S3, rp, go, fun e2 φ3 σ2 q3 S4 sub hw => ?_⟩
      have hw2 : L2.wipe σ2 own = L2.wipe σ own := by rw [hw own htg, wipe_wipe]
      refine ⟨hw2, C2, φ3, e2, _, S4, q3, fun c e3 C5 φ5 H5 q5 st5 S5 => ?_⟩
      have A4 : Acc Z.K C2 φ3 H2 D acc := ⟨A3.at_, A3.c, fun h => A3.out (sub D h)⟩
      have A5 := A4.step st5
      have st5' : Stp C1 (In (cutN φ1 own)) H1 C5 (fun a => In φ5 a ∨ a = D) H5 := st4.trans ⟨st5.le, fun a o e n => st5.keep a o e fun h => n (.inl (sub a h)), fun a h => h.elim (fun h => (st5.fr a h).imp (fun h => .inl (sub a h)) id) fun h => .inl (.inr h), fun a h => (st5.cn a h).imp id (Or.imp (fun h => .inl (sub a h)) id)⟩
      cases c with
      | false =>
        simp only [Bool.false_eq_true, if_false] at q5 ⊢
        refine ⟨hlt, acc, e3, ⟨C5, cutN φ5 own, ?_, ⟨A5.at_, A5.c, fun h => A5.out (in_cutN h)⟩, st5'.mono (fun _ h => h) fun a h => h.imp in_cutN id⟩, q5⟩
        rw [← hw2]
        exact S5.wipe own hp
      | true =>
        simp only [if_true] at q5 ⊢
        refine ⟨C5, φ5, e3, fun d e4 => acc.length < sizeLine ∧ lcGo (stepLc Z.Γ elt tg ifs own) (items.drop (i + 1)) (acc ++ [d]) e4 fun acc e2 => Qt (.lst acc) (TW.unwipe e1 e2 own), S5, q5, fun d e4 C6 φ6 H6 v q6 st6 S6 rp6 => ?_⟩
        have A6 := A5.step st6
        obtain ⟨vs, eD, rD⟩ := A6.at_
        have st6' : Stp C1 (In (cutN φ1 own)) H1 C6 (fun a => In φ6 a ∨ a = D) H6 := st5'.trans ⟨st6.le, fun a o e n => st6.keep a o e fun h => n (.inl h), fun a h => h.elim (fun h => (st6.fr a h).imp .inl id) fun h => .inl (.inr h), fun a h => (st6.cn a h).imp id (Or.imp .inl id)⟩
        refine ⟨vs, eD, by rw [rD.length]; exact q6.1, hlt, acc ++ [d], e4, ⟨C6, cutN φ6 own, ?_, ⟨⟨vs ++ [v], upd_same, rD.append (RepL.one rp6)⟩, A6.c, fun h => A6.out (in_cutN h)⟩, ?_⟩, q6.2⟩
        · rw [← hw2]
          exact (S6.wipe own hp).beside A6.c fun h => A6.out (in_cutN h)
        · refine st6'.trans ⟨Le.refl _, fun a o e n => ?_, fun a h => .inl (h.imp in_cutN id), fun a h => .inl h⟩
          rw [upd_ne (fun z => n (.inr z))]
          exact e
    · have ei : i = items.length := by omega
      subst ei
      refine .inl ⟨IO.stop H' leC, ?_⟩
      simp only [List.drop_length, lcGo] at go
      have hl := len2 S2
      have S7 := S1.unwipe own S2 st2 fun a h => .inl h
      rw [unwipe_wipeE hl] at S7
      refine k _ _ C' _ [D] H' (.ref D) go ?_ S7 ⟨?_, fun a h => ?_⟩
      · refine st.trans ⟨st2.le, fun a o e n => st2.keep a o e fun h => n (in_cutN h), fun a h => ?_, fun a h => (st2.cn a h).imp id (Or.imp in_cutN id)⟩
        have old : ∀ a, (In φ' a ∨ a = D) → In φ1 a ∨ H1 a = none := fun a h => (st2.fr a h).imp in_cutN id
        rcases h with h | h
        · rcases in_joinN h with z | z
          · exact .inl z
          · exact old a (.inl z)
        · exact old a (.inr (by simpa using h))
      · obtain ⟨vs, e, r⟩ := A.at_
        exact ⟨D, vs, rfl, rfl, e, r⟩
      · have e : a = D := by simpa using h
        subst e
        refine ⟨A.c, let ⟨vs, e, _⟩ := A.at_; ⟨_, e⟩, fun z => ?_⟩
        rcases in_joinN z with z | z
        · exact hnD z
        · exact A.out z
end
end TW
end
section
set_option Elab.async false
set_option linter.all false
set_option maxRecDepth 100000
set_option maxHeartbeats 2000000
/-! TW12: statements -/
namespace TW
open PySem L2 PySem.Spec
/-- the ends on trees lead to the ends of the hand layer -/
structure EndOk (Z : Zt) (C : Hp) (φ : Nat → List Addr) (H : Hp) (E : EndE) (D : Ends) : Prop where
  nx : ∀ env' C' φ' σ' H', E.nx env' → Stp C (In φ) H C' (In φ') H' → Sat Z.K Z.pin C' φ' σ' H' env' → D.nx σ' H'
  rt : ∀ r env' C' φ' ψ σ' H' v, E.rt r env' → Stp C (In φ) H C' (fun a => In φ' a ∨ a ∈ ψ) H' → Sat Z.K Z.pin C' φ' σ' H' env' → ResAt Z.K C' φ' ψ H' v r → D.rt v H'
  bk : ∀ env' C' φ' σ' H', E.bk env' → Stp C (In φ) H C' (In φ') H' → Sat Z.K Z.pin C' φ' σ' H' env' → D.bk σ' H'
  ct : ∀ env' C' φ' σ' H', E.ct env' → Stp C (In φ) H C' (In φ') H' → Sat Z.K Z.pin C' φ' σ' H' env' → D.ct σ' H'
  ex : ∀ c k, E.ex c = some k → ∃ x, Z.xc c = some x ∧ ∀ i env' C' φ' σ' H', k i env' → Stp C (In φ) H C' (In φ') H' → Sat Z.K Z.pin C' φ' σ' H' env' → ∀ dd, H' dd = none → Z.W (.ref x.1) (some dd) σ' (upd H' dd (.xd [(x.2, .int i)]))
theorem EndOk.step {Z : Zt} {C C1 : Hp} {φ φ1 : Nat → List Addr} {H H1 : Hp} {E : EndE} {D : Ends} (k : EndOk Z C φ H E D) (st : Stp C (In φ) H C1 (In φ1) H1) : EndOk Z C1 φ1 H1 E D :=
  ⟨fun e C' φ' σ' H' q s S => k.nx e C' φ' σ' H' q (st.trans s) S, fun r e C' φ' ψ σ' H' v q s S R => k.rt r e C' φ' ψ σ' H' v q (st.trans s) S R,
   fun e C' φ' σ' H' q s S => k.bk e C' φ' σ' H' q (st.trans s) S, fun e C' φ' σ' H' q s S => k.ct e C' φ' σ' H' q (st.trans s) S,
   fun c g e => by
    obtain ⟨x, hx, h⟩ := k.ex c g e
    exact ⟨x, hx, fun i e C' φ' σ' H' q s S => h i e C' φ' σ' H' q (st.trans s) S⟩⟩
def RS (Z : Zt) (s : Sm) : TS := fun D σ H => ∃ C φ env E, Sat Z.K Z.pin C φ σ H env ∧ wpS Z.Γ s env E ∧ EndOk Z C φ H E D

section
variable {Z : Zt} {X : Cx}
theorem _root_.L2.PS.imp {s : Stmt} {t t' : TS} (h : PS X s t) (i : ∀ D σ H, t' D σ H → t D σ H) : PS X s t' := ⟨fun pins s σ H D I q => h.run pins s σ H D I (i D σ H q)⟩
theorem _root_.L2.PSs.imp {s : List Stmt} {t t' : TS} (h : PSs X s t) (i : ∀ D σ H, t' D σ H → t D σ H) : PSs X s t' := ⟨fun pins s σ H D I q => h.run pins s σ H D I (i D σ H q)⟩

theorem ss_skip : PSs X [] (RS Z .skip) := pss_nil.imp fun D σ H q => by
  obtain ⟨C, φ, env, E, S, w, k⟩ := q
  exact k.nx env C φ σ H w Stp.refl S
theorem ss_pass {pos : Pos} : PS X (.Pass pos) (RS Z .skip) := ps_pass.imp fun D σ H q => by
  obtain ⟨C, φ, env, E, S, w, k⟩ := q
  exact k.nx env C φ σ H w Stp.refl S
theorem ss_seq {s : Stmt} {ss : List Stmt} {a b : Sm} (h : PS X s (RS Z a)) (g : PSs X ss (RS Z b)) : PSs X (s :: ss) (RS Z (.seq a b)) := (pss_cons h g).imp fun D σ H q => by
  obtain ⟨C, φ, env, E, S, w, k⟩ := q
  simp only [wpS] at w
  exact ⟨C, φ, env, _, S, w, ⟨fun e C' φ' σ' H' q s S' => ⟨C', φ', e, E, S', q, k.step s⟩, k.rt, k.bk, k.ct, k.ex⟩⟩
theorem asg_go {te : TE} {e : Ex} {i : Nat} (hio : ∀ j, j ∉ Z.Γ.io → Z.pin j = none) (ht : ∀ σ H Q, RE Z e σ H Q → te σ H Q) {D : Ends} {σ : L2.St} {H : Hp} (q : RS Z (.asg i e) D σ H) : tAsg te (gName i) D σ H := by
  obtain ⟨C, φ, env, E, S, w, k⟩ := q
  simp only [wpS] at w
  refine ht σ H _ ⟨C, φ, env, _, S, w.2, fun r e1 C1 φ1 ψ H1 v q st S1 R => ?_⟩
  obtain ⟨φ2, S2, sub⟩ := S1.store R (hio i w.1)
  exact k.nx _ C1 φ2 _ H1 q (st.mono (fun _ h => h) sub) S2
theorem ss_asg {i : Nat} {x : Str} {e : Expr} {ex : Ex} {pos pos' : Pos} (hio : ∀ j, j ∉ Z.Γ.io → Z.pin j = none) (hN : X.N.Nodup) (hi : X.N[i]? = some x) (hx : Loc X.env.scope x) (he : PE X e (RE Z ex))
    (hs : swapsWith e (some (.Name x pos')) pos.line X.env = pure false) (hf : X.fn x = true ∨ X.env.scope.names.lookup x = some .local) : PS X (.Assign [.Name x pos'] e pos) (RS Z (.asg i ex)) :=
  (ps_set hN hi hx he hs hf).imp fun D σ H q => asg_go hio (fun _ _ _ h => h) q
theorem ss_unp {is : List Nat} {tg e : Expr} {ex : Ex} {pos : Pos} (he : PE X e (RE Z ex)) (hg : PG X tg (GT Z (.tup is))) (hs : swapsWithSole [tg] e pos.line X.env = pure false) (hw : swappedStores [tg] e X.env = pure none)
    (h1 : (assignEach [tg] X.env).map (·.2) = [assign tg X.env]) : PS X (.Assign [tg] e pos) (RS Z (.unp is ex)) := (ps_asg (pe_RV he) hg hs hw h1).imp fun D σ H q => by
  obtain ⟨C, φ, env, E, S, w, k⟩ := q
  simp only [wpS] at w
  refine ⟨C, φ, env, fun d e1 => tgt Z.Γ.io (.tup is) d e1 E.nx, S, w, fun d e1 C1 φ1 H1 v q st S1 rp => ?_⟩
  exact ⟨C1, φ1, e1, d, _, S1, rp, q, fun e2 φ2 σ2 q S2 sub _ => k.nx e2 C1 φ2 σ2 H1 q (st.mono (fun _ h => h) sub) S2⟩
theorem ss_par {i j : Nat} {x y : Str} {a b : Expr} {ea eb : Ex} {px py pt pos : Pos} {kt k2 : Nat} {pt2 : Pos} (hio : ∀ j, j ∉ Z.Γ.io → Z.pin j = none) (hc : X.calm = true) (hN : X.N.Nodup) (hi : X.N[i]? = some x) (hj : X.N[j]? = some y) (hij : i ≠ j)
    (hx : X.env.scope.names.lookup x = some .local) (hy : X.env.scope.names.lookup y = some .local) (ha : PE X a (RE Z ea)) (hb : PE X b (RE Z eb)) (hsa : starEach [a, b] X.env = (false, eval a X.env) :: starEach [b] X.env) (hsb : starEach [b] X.env = (false, eval b X.env) :: starEach [] X.env)
    (hw : swappedStores [.Tuple [.Name x px, .Name y py] kt pt] (.Tuple [a, b] k2 pt2) X.env = pure (some [x, y]))
    (hs : swapsWithSole [.Tuple [.Name x px, .Name y py] kt pt] (.Tuple [a, b] k2 pt2) pos.line X.env = pure false) :
    PS X (.Assign [.Tuple [.Name x px, .Name y py] kt pt] (.Tuple [a, b] k2 pt2) pos) (RS Z (.par i j ea eb)) :=
  (ps_par hc hN hi hj hij hx hy (pa_cons ha (pa_cons hb pa_nil hsb) hsa) hw hs).imp fun D σ H q => by
    obtain ⟨C, φ, env, E, S, w, k⟩ := q
    simp only [wpS] at w
    obtain ⟨ni, nj, _, w⟩ := w
    refine ⟨C, φ, env, _, S, w, fun r e1 C1 φ1 ψ H1 v q st S1 R => ⟨C1, φ1, e1, _, S1, q, fun t e2 C2 φ2 ψ2 H2 u q st2 S2 R2 => ?_⟩⟩
    -- the first result waits
    have R' : ResAt Z.K C2 φ2 ψ H2 v r := R.keep st2 (fun a h => (R.sep a h).2.2) fun a h => .inl h
    have dj : ∀ a ∈ ψ, a ∉ ψ2 := fun a h h2 => by
      rcases st2.fr a (.inr h2) with z | z
      · exact (R.sep a h).2.2 z
      · obtain ⟨_, ⟨o, ho⟩, _⟩ := R.sep a h; rw [ho] at z; cases z
    obtain ⟨φ3, S3, sub3⟩ := S2.store R' (hio i ni)
    have R2' : ResAt Z.K C2 φ3 ψ2 H2 u t := ⟨R2.own, fun a h => ⟨(R2.sep a h).1, (R2.sep a h).2.1, fun z => (sub3 a z).elim (R2.sep a h).2.2 fun z => dj a z h⟩⟩
    obtain ⟨φ4, S4, sub4⟩ := S3.store R2' (hio j nj)
    refine ⟨v, u, rfl, k.nx _ C2 φ4 _ H2 q ?_ S4⟩
    refine st.trans ⟨st2.le, fun a o e n => st2.keep a o e fun z => n (.inl z), fun a h => ?_, fun a h => (st2.cn a h).imp id (Or.imp .inl id)⟩
    rcases sub4 a h with z | z
    · rcases sub3 a z with z | z
      · exact (st2.fr a (.inl z)).imp .inl id
      · exact .inl (.inr z)
    · exact (st2.fr a (.inr z)).imp .inl id
theorem ss_seti {i : Nat} {o ie e : Expr} {ek ex : Ex} {pos pos' : Pos} (ho : PE X o (tVar i)) (hk : PE X ie (RE Z ek)) (he : PE X e (RE Z ex))
    (ha : ∀ v, assign (.Subscript o ie pos') X.env v = (do
      let ov ← holding [v] (eval o X.env)
      let iv ← holding [v, ov] (eval ie X.env)
      standAt pos'
      holding [v, ov, iv] (setItem ov iv v)
      release [v, ov, iv] []))
    (hs : swapsWithSole [.Subscript o ie pos'] e pos.line X.env = pure false) (hw : swappedStores [.Subscript o ie pos'] e X.env = pure none) (h1 : (assignEach [.Subscript o ie pos'] X.env).map (·.2) = [assign (.Subscript o ie pos') X.env]) :
    PS X (.Assign [.Subscript o ie pos'] e pos) (RS Z (.seti i ek ex)) := (ps_asg (pe_RV he) (pg_sub ho (pe_RV hk) set_list ha) hs hw h1).imp fun D σ H q => by
  obtain ⟨C, φ, env, E, S, w, k⟩ := q
  simp only [wpS] at w
  refine ⟨C, φ, env, fun d e1 => (∃ t, e1[i]? = some (some t)) ∧ wpE Z.Γ ek e1 fun ik e2 => ∃ t, e2[i]? = some (some t) ∧ setiS t ik.frz d fun t' => E.nx (e2.set i (some t')), S, w, fun d e1 C1 φ1 H1 v q st S1 rp => ?_⟩
  obtain ⟨⟨t, et⟩, q⟩ := q
  obtain ⟨vo, eo, _⟩ := S1.peek et
  refine ⟨vo, eo, C1, φ1, e1, fun ik e2 => ∃ t, e2[i]? = some (some t) ∧ setiS t ik d fun t' => E.nx (e2.set i (some t')), S1, q, fun ik e2 C2 φ2 H2 u q st2 S2 rp2 => ?_⟩
  obtain ⟨t, et2, q⟩ := q
  cases t with
  | lst xs =>
    cases ik with
    | int n =>
      obtain ⟨j, ej, q⟩ := q
      obtain ⟨a, vs, ea, eh, er⟩ := S2.own_lst et2
      rw [eo] at ea
      cases ea
      simp only [Rep] at rp2
      have rs : RepL Z.K C2 (xs.set j d) (vs.set j v) := er.set j (Rep.le st2.le _ _ rp)
      obtain ⟨S3, st3⟩ := S2.setL et2 eo rs
      exact ⟨a, vs, n, j, rfl, rp2, eh, by rw [er.length]; exact ej, k.nx _ C2 φ2 σ _ q ((st.trans st2).trans st3) S3⟩
    | _ => exact (q : False).elim
  | _ => exact (q : False).elim
def VA (K : PySem.W.Frag) (o : Op2) : R2 := fun x y H Q => ∃ C d e Qo, Le C H ∧ Rep K C d x ∧ Rep K C e y ∧ augS o d e Qo ∧ ∀ r v, Qo r → (∀ C, Rep K C r v) → Q v H
theorem va_add : PIp X .Add (VA X.K .add) := by
  have h : OpR X (inplaceOp .Add) (VA X.K .add) := OpR.imp (iop_add.or iop_add_str) fun x y H Q h => by
    obtain ⟨C, d, e, Qo, le, rx, ry, hs, w⟩ := h
    cases d <;> cases e <;> first
      | exact (hs : False).elim
      | (simp only [Rep] at rx ry
         exact .inl ⟨_, _, rx, ry, w _ _ hs fun C => by simp only [Rep]⟩)
      | (simp only [Rep] at rx ry
         exact .inr ⟨_, _, rx, ry, hs.1, w _ _ hs.2 fun C => by simp only [Rep]⟩)
  exact h
theorem va_sub : PIp X .Sub (VA X.K .sub) := by
  have h : OpR X (inplaceOp .Sub) (VA X.K .sub) := OpR.imp iop_sub fun x y H Q h => by
    obtain ⟨C, d, e, Qo, le, rx, ry, hs, w⟩ := h
    cases d <;> cases e <;> first
      | exact (hs : False).elim
      | (simp only [Rep] at rx ry
         exact ⟨_, _, rx, ry, w _ _ hs fun C => by simp only [Rep]⟩)
  exact h
theorem ss_aug {i : Nat} {x : Str} {e : Expr} {ex : Ex} {o : Op2} {op : Operator} {pos pos' : Pos} (hK : X.K = Z.K) (hio : ∀ j, j ∉ Z.Γ.io → Z.pin j = none) (hN : X.N.Nodup) (hi : X.N[i]? = some x) (hx : Loc X.env.scope x) (he : PE X e (RE Z ex)) (ho : PIp X op (VA X.K o))
    (hf : X.fn x = true ∨ X.env.scope.names.lookup x = some .local) : PS X (.AugAssign (.Name x pos') op e pos) (RS Z (.aug i o ex)) := (ps_aug hN hi hx (pe_RV he) ho hf).imp fun D σ H q => by
  obtain ⟨C, φ, env, E, S, w, k⟩ := q
  simp only [wpS] at w
  obtain ⟨ni, d, ed, w⟩ := w
  obtain ⟨v, ev, _, rp⟩ := S.slot i _ ed
  rw [hK]
  refine ⟨v, ev, C, φ, env, fun d' e1 => augS o d d' fun t => E.nx (e1.set i (some (.sh t))), S, w, fun d' e1 C1 φ1 H1 u q st S1 rp2 => ?_⟩
  refine ⟨C1, d, d', _, S1.le, Rep.le st.le _ _ rp, rp2, q, fun r v q hr => ?_⟩
  obtain ⟨φ2, S2, sub⟩ := S1.store (ResAt.sh (φ := φ1) (H := H1) (hr C1)) (hio i ni)
  exact k.nx _ C1 φ2 _ H1 q (st.mono (fun _ h => h) fun a h => (sub a h).elim id fun z => by simp at z) S2
theorem ss_exp {e : Expr} {ex : Ex} {pos : Pos} (he : PE X e (RE Z ex)) (hs : swapsWith e none pos.line X.env = pure false) : PS X (.Expr e pos) (RS Z (.exp ex)) := (ps_expr he hs).imp fun D σ H q => by
  obtain ⟨C, φ, env, E, S, w, k⟩ := q
  simp only [wpS] at w
  exact ⟨C, φ, env, _, S, w, fun r e1 C1 φ1 ψ H1 v q st S1 R => k.nx e1 C1 φ1 σ H1 q st.drop S1⟩
theorem ss_retN {pos : Pos} : PS X (.Return none pos) (RS Z .retN) := ps_retN.imp fun D σ H q => by
  obtain ⟨C, φ, env, E, S, w, k⟩ := q
  simp only [wpS] at w
  exact k.rt _ env C φ [] σ H .non w Stp.refl.with S (ResAt.sh (by simp only [Rep]))
theorem ss_ret {e : Expr} {ex : Ex} {pos : Pos} (he : PE X e (RE Z ex)) (hv : ∀ i, ex = .var i → PE X e (tVar i)) : PS X (.Return (some e) pos) (RS Z (.ret ex)) := by
  have gen : (∀ env Q, retE Z.Γ ex env Q = wpE Z.Γ ex env Q) → PS X (.Return (some e) pos) (RS Z (.ret ex)) := fun hr => (ps_ret he).imp fun D σ H q => by
    obtain ⟨C, φ, env, E, S, w, k⟩ := q
    simp only [wpS] at w
    rw [hr] at w
    exact ⟨C, φ, env, _, S, w, fun r e1 C1 φ1 ψ H1 v q st S1 R => k.rt r e1 C1 φ1 ψ σ H1 v q st S1 R⟩
  cases ex with
  | var i =>
    refine (ps_ret (hv i rfl)).imp fun D σ H q => ?_
    obtain ⟨C, φ, env, E, S, w, k⟩ := q
    simp only [wpS, retE] at w
    obtain ⟨t, et, hio, w⟩ := w
    by_cases ow : isOwn t = true
    · rw [if_pos ow] at w
      obtain ⟨v, ev, R⟩ := S.outR et
      refine ⟨v, ev, k.rt t _ C _ (φ i) σ H v w (Stp.refl.mono (fun _ h => h) fun a h => ?_) (S.out i) R⟩
      rcases h with h | h
      · exact in_upN_nil h
      · exact ⟨i, h⟩
    · rw [if_neg ow] at w
      obtain ⟨d, rfl⟩ := isOwn_sh ow
      obtain ⟨v, ev, o⟩ := S.slot i _ et
      exact ⟨v, ev, k.rt _ env C φ [] σ H v w Stp.refl.with S (ResAt.sh o.2)⟩
  | _ => exact gen fun _ _ => rfl
theorem ss_ife {c : Expr} {a b : List Stmt} {ec : Ex} {sa sb : Sm} {pos : Pos} (hc : PT X c (RT Z ec)) (ha : PSs X a (RS Z sa)) (hb : PSs X b (RS Z sb)) : PS X (.If c a b pos) (RS Z (.ife ec sa sb)) := (ps_if hc ha hb).imp fun D σ H q => by
  obtain ⟨C, φ, env, E, S, w, k⟩ := q
  simp only [wpS] at w
  refine ⟨C, φ, env, _, S, w, fun c e1 C1 φ1 H1 q st S1 => ?_⟩
  cases c with
  | true => simp only [if_true] at q ⊢; exact ⟨C1, φ1, e1, E, S1, q, k.step st⟩
  | false => simp only [Bool.false_eq_true, if_false] at q ⊢; exact ⟨C1, φ1, e1, E, S1, q, k.step st⟩
theorem ss_brk {pos : Pos} : PS X (.Break pos) (RS Z .brk) := ps_break.imp fun D σ H q => by
  obtain ⟨C, φ, env, E, S, w, k⟩ := q
  exact k.bk env C φ σ H w Stp.refl S
theorem ss_cnt {pos : Pos} : PS X (.Continue pos) (RS Z .cnt) := ps_continue.imp fun D σ H q => by
  obtain ⟨C, φ, env, E, S, w, k⟩ := q
  exact k.ct env C φ σ H w Stp.refl S
theorem ss_whl {c : Expr} {body : List Stmt} {ec : Ex} {sb : Sm} {pos : Pos} (hp : PassesOwn (model X.prog X.w) X.A X.env X.xe) (hc : PT X c (RT Z ec)) (hb : PSs X body (RS Z sb)) : PS X (.While c body [] pos) (RS Z (.whl ec sb)) := (ps_while hp hc hb).imp fun D σ H q => by
  obtain ⟨C, φ, env, E, S, w, k⟩ := q
  simp only [wpS] at w
  obtain ⟨n, w⟩ := w
  refine ⟨fun m σ' H' => ∃ C' φ' e', Sat Z.K Z.pin C' φ' σ' H' e' ∧ Stp C (In φ) H C' (In φ') H' ∧ whlGo (fun e k => tst (wpE Z.Γ ec e) k) (fun e k => wpS Z.Γ sb e { E with nx := k, ct := k, bk := E.nx }) m e' E.nx, ⟨n, C, φ, env, S, Stp.refl, w⟩, ?_⟩
  rintro m σ' H' ⟨C', φ', e', S', st, go⟩
  cases m with
  | zero => exact (go : False).elim
  | succ m =>
    simp only [whlGo] at go
    refine ⟨C', φ', e', _, S', go, fun t e1 C1 φ1 H1 q st1 S1 => ?_⟩
    cases t with
    | false =>
      simp only [Bool.false_eq_true, if_false] at q ⊢
      exact k.nx e1 C1 φ1 σ' H1 q (st.trans st1) S1
    | true =>
      simp only [if_true] at q ⊢
      refine ⟨fun σ2 H2 => ∃ C' φ' e', Sat Z.K Z.pin C' φ' σ2 H2 e' ∧ Stp C (In φ) H C' (In φ') H2 ∧ whlGo (fun e k => tst (wpE Z.Γ ec e) k) (fun e k => wpS Z.Γ sb e { E with nx := k, ct := k, bk := E.nx }) m e' E.nx, fun σ2 H2 p => ⟨m, Nat.lt_succ_self _, p⟩, C1, φ1, e1, _, S1, q, ?_⟩
      have st2 := st.trans st1
      exact ⟨fun e2 C2 φ2 σ2 H2 q s S2 => ⟨C2, φ2, e2, S2, st2.trans s, q⟩, fun r e2 C2 φ2 ψ σ2 H2 v q s S2 R => k.rt r e2 C2 φ2 ψ σ2 H2 v q (st2.trans s) S2 R, fun e2 C2 φ2 σ2 H2 q s S2 => k.nx e2 C2 φ2 σ2 H2 q (st2.trans s) S2,
        fun e2 C2 φ2 σ2 H2 q s S2 => ⟨C2, φ2, e2, S2, st2.trans s, q⟩, (k.step st2).ex⟩
theorem ss_for {tg iter : Expr} {body : List Stmt} {t : Tg} {it : Ex} {sb : Sm} {pos : Pos} (hp : PassesOwn (model X.prog X.w) X.A X.env X.xe) (hc : X.calm = true) (hi : PI X tg iter (IT Z it)) (hg : PG X tg (GT Z t)) (hb : PSs X body (RS Z sb))
    (hs : ∀ x, foldedSetIterable iter X.env x = pure x) : PS X (.For tg iter body [] pos) (RS Z (.for t it sb)) := (ps_for hp hc hi hg hb hs).imp fun D σ H q => by
  obtain ⟨C, φ, env, E, S, w, k⟩ := q
  simp only [wpS] at w
  refine ⟨C, φ, env, _, S, w, fun items e1 C1 φ1 H1 J q st S1 IO => ?_⟩
  refine ⟨fun i m σ' H' => m = items.length - i ∧ i ≤ items.length ∧ ∃ C' φ' e', Sat Z.K Z.pin C' φ' σ' H' e' ∧ Stp C1 (In φ1) H1 C' (In φ') H' ∧ forGo (fun d e k => tgt Z.Γ.io t d e fun e2 => wpS Z.Γ sb e2 { E with nx := k, ct := k, bk := E.nx }) (items.drop i) e' E.nx,
    ⟨items.length, by simp, Nat.zero_le _, C1, φ1, e1, S1, Stp.refl, by simpa using q⟩, ?_⟩
  rintro i m σ' H' ⟨rfl, hi, C', φ', e', S', st2, go⟩
  have leC : Le C1 H' := st2.le.trans S'.le
  by_cases hlt : i < items.length
  · have ed : items[i]? = some items[i] := List.getElem?_eq_getElem hlt
    rw [List.drop_eq_getElem_cons hlt] at go
    refine .inr ⟨IO.go i H' hlt leC, fun σ2 H2 => i + 1 ≤ items.length ∧ ∃ C' φ' e', Sat Z.K Z.pin C' φ' σ2 H2 e' ∧ Stp C1 (In φ1) H1 C' (In φ') H2 ∧ forGo (fun d e k => tgt Z.Γ.io t d e fun e2 => wpS Z.Γ sb e2 { E with nx := k, ct := k, bk := E.nx }) (items.drop (i + 1)) e' E.nx,
      fun σ2 H2 p => ⟨_, by omega, rfl, p⟩, fun x H2 y => ?_⟩
    obtain ⟨C2, st3, le2, rp⟩ := IO.yld i H' x H2 _ ed leC y C' st2.le S'.le
    have S3 := S'.keep st3 le2 fun _ _ => id
    have st4 : Stp C1 (In φ1) H1 C2 (In φ') H2 := st2.trans ⟨st3.le, fun a o e _ => st3.keep a o e id, fun a h => .inl h, fun a h => (st3.cn a h).imp id fun z => z.elim (fun z => z.elim) .inr⟩
    refine ⟨C2, φ', e', _, _, S3, rp, go, fun e2 φ3 σ2 q3 S4 sub _ => ⟨C2, φ3, e2, _, S4, q3, ?_⟩⟩
    have st5 : Stp C1 (In φ1) H1 C2 (In φ3) H2 := st4.mono (fun _ h => h) sub
    have st6 := st.trans st5
    exact ⟨fun e2 C2 φ2 σ2 H2 q s S2 => ⟨hlt, C2, φ2, e2, S2, st5.trans s, q⟩, fun r e2 C2 φ2 ψ σ2 H2 v q s S2 R => k.rt r e2 C2 φ2 ψ σ2 H2 v q (st6.trans s) S2 R, fun e2 C2 φ2 σ2 H2 q s S2 => k.nx e2 C2 φ2 σ2 H2 q (st6.trans s) S2,
      fun e2 C2 φ2 σ2 H2 q s S2 => ⟨hlt, C2, φ2, e2, S2, st5.trans s, q⟩, (k.step st6).ex⟩
  · have ei : i = items.length := by omega
    subst ei
    simp only [List.drop_length, forGo] at go
    exact .inl ⟨IO.stop H' leC, k.nx e' C' φ' σ' H' go (st.trans st2) S'⟩
theorem ss_bad {s : Stmt} : PS X s (RS Z .bad) := ⟨fun _ _ _ _ _ _ q => by
  obtain ⟨_, _, _, _, _, w, _⟩ := q
  simp only [wpS] at w⟩
/-- what stands ready where a class is raised -/
def XGood (Z : Zt) (X : Cx) : Prop := ∀ c x, Z.xc c = some x → Takes X Z.W ∧ ∃ (fI : Addr) (pre : Str) (k : Nat), PySem.XP.Txt X.prog X.K X.mg c x.2 pre x.1 fI ∧ (x.2 == ("self" : Str)) = false ∧ (x.2 == ("__debug__" : Str)) = false ∧ pre.length ≤ 1000 ∧ Room k X.A
theorem pre_fits {pre : Str} (h : pre.length ≤ 1000) {i : Int} (h0 : 0 ≤ i) (h1 : i < 10000) : (Str.empty ++ pre ++ toString i).length ≤ sizeLine := by
  have e : (toString i : Str).length ≤ 4 := by
    obtain ⟨m, rfl⟩ := Int.eq_ofNat_of_zero_le h0
    show (Str.ofString (toString ((m : Nat) : Int))).length ≤ 4
    rw [show (toString ((m : Nat) : Int)) = toString (Int.ofNat m) from rfl]
    have F := PyProof.Rows.digitsFacts10 m
    have e2 := PyProof.Rows.text_ofNat m
    have e3 : (Str.ofString (toString (Int.ofNat m))).length = (Nat.toDigits 10 m).length := by
      unfold Str.length
      rw [← Array.length_toList, e2, List.length_map]
    rw [e3]
    exact F.lt10000 (by omega)
  rw [strLen_append, strLen_append, sizeLine_eq]
  show 0 + pre.length + _ ≤ _
  omega
theorem ss_rai {cn : Str} {e : Expr} {ex : Ex} {p pos pos2 : Pos} (hc : X.calm = true) (hx : XGood Z X) (he : PA X [e] (RVs Z [ex])) (hg : Gl X cn) (hcd : (cn == ("__debug__" : Str)) = false) (hs : starEach [e] X.env = [(false, eval e X.env)]) :
    PS X (.Raise (some (.Call (.Name cn p) [e] [] pos)) none pos2) (RS Z (.rai cn ex)) := by
  refine ⟨fun pins s σ H D I q => ?_⟩
  obtain ⟨C, φ, env, E, S, w, k⟩ := q
  simp only [wpS] at w
  obtain ⟨g, eg, w⟩ := w
  obtain ⟨x, ex', kx⟩ := k.ex cn g eg
  obtain ⟨tk, fI, pre, kk, T, h1, h2, h3, hr⟩ := hx cn x ex'
  refine (ps_raiseI hc T h1 h2 h3 hr tk he hg hcd hs rfl).run pins s σ H D I ?_
  refine ⟨C, φ, env, _, S, w, fun ds e1 C1 φ1 H1 vs q st S1 rs => ?_⟩
  · obtain ⟨i, rfl, h0, h1, q⟩ := q
    obtain ⟨v, rfl, rv⟩ := rs.uno
    simp only [Rep] at rv
    subst rv
    exact ⟨i, rfl, by
      rcases Nat.eq_zero_or_pos i.natAbs with z | z
      · rw [z]; decide
      · exact Nat.lt_of_lt_of_le ((Nat.log2_lt (by omega)).mpr (show i.natAbs < 2 ^ 64 by omega)) (by decide), pre_fits h3 h0 h1, fun d hd => kx i e1 C1 φ1 σ H1 q st S1 d hd⟩
end
end TW
end
section
set_option Elab.async false
set_option linter.all false
set_option maxRecDepth 100000
set_option maxHeartbeats 2000000
/-! TW13: from the row's syntax to the small one, and that it means the same: expressions -/
namespace TW
open PySem L2 PySem.Spec

structure CC where
  sc : Scope
  N : List Str
  /-- which names this block may store -/
  st : Str → Bool

def okN (x : Str) : Bool := !(x == ("__debug__" : Str)) && !(x == ("__classdict__" : Str))
def visB (sc : Scope) (x : Str) : Bool := match sc.names.lookup x with
  | some .local => true
  | some .cell => true
  | some .free => true
  | _ => false
def locB (sc : Scope) (x : Str) : Bool := match sc.names.lookup x with
  | some .local => true
  | some .cell => true
  | _ => false
def glB (sc : Scope) (x : Str) : Bool := match sc.names.lookup x with
  | some .globalImplicit => true
  | _ => false
def isIf : Expr → Bool
  | .IfExp .. => true
  | _ => false
def isComp : Expr → Bool
  | .ListComp .. => true
  | .SetComp .. => true
  | .DictComp .. => true
  | _ => false
def isSlice : Expr → Bool
  | .Slice .. => true
  | _ => false
def isSuper : Expr → Bool
  | .Call (.Name _ _) [] [] _ => true
  | _ => false
def isTupE : Expr → Bool
  | .Tuple .. => true
  | _ => false
def opB : Operator → Option Op2
  | .Add => some .add
  | .Sub => some .sub
  | .Mult => some .mul
  | .FloorDiv => some .fdiv
  | .Mod => some .mod
  | .Pow => some .pow
  | _ => none
def cmpB : CmpOp → Option Op2
  | .Eq => some .eq
  | .NotEq => some .ne
  | .Lt => some .lt
  | .LtE => some .le
  | .Gt => some .gt
  | .GtE => some .ge
  | .In => some .isIn
  | .NotIn => some .notIn
  | .Is => some .is
  | .IsNot => some .isNot
def biOf (x : Str) : Option Bi := [Bi.len, .int, .str, .ord, .repr, .all, .any, .list, .tuple].find? fun b => biN b == x
def tyOf (x : Str) : Option Ty := [Ty.int, .str, .bool, .list, .tuple, .dict].find? fun t => Str.ofString (tyN t) == x
def bltNames : List Str := ["len", "int", "str", "ord", "repr", "all", "any", "list", "tuple", "sorted", "isinstance", "range", "bool", "dict", "enumerate"]
def blkCC (cc : CC) (scope : Scope) : CC := ⟨relS scope cc.sc, cc.N, fun x => match scope.names.lookup x with
  | some .local => true
  | some .cell => true
  | _ => false⟩

inductive Src where
  | e (e : Expr) | es (es : List Expr) | fs (es : List Expr) | it (e : Expr) | tg (e : Expr) | tgs (es : List Expr)
inductive Tgs where
  | e (e : Ex) | es (es : List Ex) | fs (es : List Ex) | it (e : Ex) | tg (t : Tg) | tgs (is : List Nat)

/-- a source that wants a written tuple as its target -/
def enOk : Ex → Expr → Bool
  | .it .enum _, .Tuple .. => true
  | .it .enum _, _ => false
  | _, _ => true
inductive CE : CC → Src → Tgs → Prop where
  | var {cc x i p} : okN x = true → visB cc.sc x = true → cc.N[i]? = some x → CE cc (.e (.Name x p)) (.e (.var i))
  | glo {cc x p} : okN x = true → glB cc.sc x = true → CE cc (.e (.Name x p)) (.e (.glo x))
  | int {cc i j p} : CE cc (.e (.Constant (.int i) j p)) (.e (.cst (.int i)))
  | str {cc i j p} : CE cc (.e (.Constant (.str i) j p)) (.e (.cst (.str i)))
  | bl {cc i j p} : CE cc (.e (.Constant (.bool i) j p)) (.e (.cst (.bool i)))
  | non {cc j p} : CE cc (.e (.Constant .none j p)) (.e (.cst .none))
  | bin {cc a b op o a' b' p} : opB op = some o → CE cc (.e a) (.e a') → CE cc (.e b) (.e b') → CE cc (.e (.BinOp a op b p)) (.e (.op2 o a' b'))
  | not {cc a a' p} : isIf a = false → CE cc (.e a) (.e a') → CE cc (.e (.UnaryOp .Not a p)) (.e (.not a'))
  | neg {cc a a' p} : CE cc (.e a) (.e a') → CE cc (.e (.UnaryOp .USub a p)) (.e (.neg a'))
  | and1 {cc a a' p} : isIf a = false → CE cc (.e a) (.e a') → CE cc (.e (.BoolOp .And [a] p)) (.e a')
  | or1 {cc a a' p} : isIf a = false → CE cc (.e a) (.e a') → CE cc (.e (.BoolOp .Or [a] p)) (.e a')
  | and {cc a b r a' b' p} : isIf a = false → CE cc (.e a) (.e a') → CE cc (.e (.BoolOp .And (b :: r) p)) (.e b') → CE cc (.e (.BoolOp .And (a :: b :: r) p)) (.e (.and a' b'))
  | or {cc a b r a' b' p} : isIf a = false → CE cc (.e a) (.e a') → CE cc (.e (.BoolOp .Or (b :: r) p)) (.e b') → CE cc (.e (.BoolOp .Or (a :: b :: r) p)) (.e (.or a' b'))
  | ife {cc c a b c' a' b' p} : isIf c = false → CE cc (.e c) (.e c') → CE cc (.e a) (.e a') → CE cc (.e b) (.e b') → CE cc (.e (.IfExp c a b p)) (.e (.ife c' a' b'))
  | cmp {cc a b op o a' b' p} : cmpB op = some o → behindInMarks op b = false → CE cc (.e a) (.e a') → CE cc (.e b) (.e b') → CE cc (.e (.Compare a [op] [b] p)) (.e (.op2 o a' b'))
  | chain {cc a b c op op' o o' a' b' c' p} : cmpB op = some o → cmpB op' = some o' → lastMarks [op, op'] [b, c] = false → CE cc (.e a) (.e a') → CE cc (.e b) (.e b') → CE cc (.e c) (.e c') → CE cc (.e (.Compare a [op, op'] [b, c] p)) (.e (.chain o o' a' b' c'))
  | idx {cc a b a' b' p} : isSlice b = false → CE cc (.e a) (.e a') → CE cc (.e b) (.e b') → CE cc (.e (.Subscript a b p)) (.e (.idx a' b'))
  | slc {cc a l h a' l' h' p p2} : CE cc (.e a) (.e a') → CE cc (.e l) (.e l') → CE cc (.e h) (.e h') → CE cc (.e (.Subscript a (.Slice (some l) (some h) none p2) p)) (.e (.slc a' l' h'))
  | slcL {cc a l a' l' p p2} : CE cc (.e a) (.e a') → CE cc (.e l) (.e l') → CE cc (.e (.Subscript a (.Slice (some l) none none p2) p)) (.e (.slcL a' l'))
  | slcH {cc a h a' h' p p2} : CE cc (.e a) (.e a') → CE cc (.e h) (.e h') → CE cc (.e (.Subscript a (.Slice none (some h) none p2) p)) (.e (.slcH a' h'))
  | tup {cc es es' k p} : CE cc (.es es) (.es es') → CE cc (.e (.Tuple es k p)) (.e (.tup es'))
  | lst {cc es es' p} : CE cc (.es es) (.es es') → CE cc (.e (.List es p)) (.e (.lst es'))
  | bi {cc b e es es' p p2} : glB cc.sc (biN b) = true → biN b ∈ bltNames → CE cc (.es (e :: es)) (.es es') → CE cc (.e (.Call (.Name (biN b) p) (e :: es) [] p2)) (.e (.bi b es'))
  | isi {cc t a a' p p2 p3} : glB cc.sc "isinstance" = true → glB cc.sc (tyN t) = true → CE cc (.e a) (.e a') → CE cc (.e (.Call (.Name "isinstance" p) [a, .Name (tyN t) p2] [] p3)) (.e (.isi a' t))
  | call {cc f e es es' p p2} : okN f = true → glB cc.sc f = true → CE cc (.es (e :: es)) (.es es') → CE cc (.e (.Call (.Name f p) (e :: es) [] p2)) (.e (.call f es'))
  | call0 {cc f p p2} : okN f = true → glB cc.sc f = true → CE cc (.e (.Call (.Name f p) [] [] p2)) (.e (.call f []))
  | me {cc m o o' e es es' p p2} : isSuper o = false → (p.endLine == p2.line) = true → (e :: es).length < 30 → CE cc (.e o) (.e o') → CE cc (.es (e :: es)) (.es es') → CE cc (.e (.Call (.Attribute o (meN m) p) (e :: es) [] p2)) (.e (.me m o' es'))
  | mu {cc m x i e es es' p0 p p2} : okN x = true → visB cc.sc x = true → cc.N[i]? = some x → m ≠ .pop → (p.endLine == p2.line) = true → (e :: es).length < 30 → CE cc (.es (e :: es)) (.es es') → CE cc (.e (.Call (.Attribute (.Name x p0) (muN m) p) (e :: es) [] p2)) (.e (.mu m i es'))
  | pop {cc x i p0 p p2} : okN x = true → visB cc.sc x = true → cc.N[i]? = some x → (p.endLine == p2.line) = true → CE cc (.e (.Call (.Attribute (.Name x p0) "pop" p) [] [] p2)) (.e (.mu .pop i []))
  | lc {cc elt tg iter scope own elt' tg' it' p} : enOk it' tg = true → blkC cc.N cc.sc scope own = true → (∀ i ∈ tgIx tg', i ∈ own.map (·.2)) → CE cc (.it iter) (.it it') → CE (blkCC cc scope) (.tg tg) (.tg tg') → CE (blkCC cc scope) (.e elt) (.e elt') →
      CE cc (.e (.ListComp elt [⟨tg, iter, [], 0⟩] scope p)) (.e (.lc elt' tg' it' [] (own.map (·.2))))
  | lci {cc elt tg iter c scope own elt' tg' it' c' p} : enOk it' tg = true → blkC cc.N cc.sc scope own = true → (∀ i ∈ tgIx tg', i ∈ own.map (·.2)) → CE cc (.it iter) (.it it') → CE (blkCC cc scope) (.tg tg) (.tg tg') → isIf c = false → CE (blkCC cc scope) (.e c) (.e c') → CE (blkCC cc scope) (.e elt) (.e elt') →
      CE cc (.e (.ListComp elt [⟨tg, iter, [c], 0⟩] scope p)) (.e (.lc elt' tg' it' [c'] (own.map (·.2))))
  | fmt {cc a a' j p p1 p2 p3} : CE cc (.e a) (.e a') → CE cc (.e (.JoinedStr [.FormattedValue a (-1) (some (.JoinedStr [.Constant (.str spec04) j p1] p2)) p3] p)) (.e (.fmt 4 a'))
  | fst {cc v1 v2 rest exs p} : CE cc (.fs (v1 :: v2 :: rest)) (.fs exs) → CE cc (.e (.JoinedStr (v1 :: v2 :: rest) p)) (.e (.fst exs))
  | fs0 {cc} : CE cc (.fs []) (.fs [])
  | fsC {cc x j p es exs} : CE cc (.fs es) (.fs exs) → CE cc (.fs (.Constant (.str x) j p :: es)) (.fs (.cst (.str x) :: exs))
  | fsV {cc a a' p es exs} : CE cc (.e a) (.e a') → CE cc (.fs es) (.fs exs) → CE cc (.fs (.FormattedValue a (-1) none p :: es)) (.fs (.bi .str [a'] :: exs))
  | nil {cc} : CE cc (.es []) (.es [])
  | cons {cc e es e' es'} : CE cc (.e e) (.e e') → CE cc (.es es) (.es es') → CE cc (.es (e :: es)) (.es (e' :: es'))
  | rng1 {cc a es' p p2} : glB cc.sc "range" = true → CE cc (.es [a]) (.es es') → CE cc (.it (.Call (.Name "range" p) [a] [] p2)) (.it (.it .rng1 es'))
  | rng2 {cc a b es' p p2} : glB cc.sc "range" = true → CE cc (.es [a, b]) (.es es') → CE cc (.it (.Call (.Name "range" p) [a, b] [] p2)) (.it (.it .rng2 es'))
  | enum {cc a es' p p2} : glB cc.sc "enumerate" = true → CE cc (.es [a]) (.es es') → CE cc (.it (.Call (.Name "enumerate" p) [a] [] p2)) (.it (.it .enum es'))
  | seq {cc e e'} : CE cc (.e e) (.e e') → CE cc (.it e) (.it (.it .seq [e']))
  | tgn {cc x i p} : locB cc.sc x = true → cc.st x = true → cc.N[i]? = some x → CE cc (.tg (.Name x p)) (.tg (.name i))
  | tgt {cc es is k p} : CE cc (.tgs es) (.tgs is) → CE cc (.tg (.Tuple es k p)) (.tg (.tup is))
  | tgs0 {cc} : CE cc (.tgs []) (.tgs [])
  | tgs {cc x i p es is} : locB cc.sc x = true → cc.st x = true → cc.N[i]? = some x → CE cc (.tgs es) (.tgs is) → CE cc (.tgs (.Name x p :: es)) (.tgs (i :: is))

/-! ### what holds in a block -/
structure Good (Z : Zt) (cc : CC) (X : Cx) : Prop where
  K : X.K = Z.K
  sc : X.env.scope = cc.sc
  N : X.N = cc.N
  nd : cc.N.Nodup
  calm : X.calm = true
  un : X.A.units + 65 < cLine
  st : ∀ x, cc.st x = true → X.fn x = true ∨ cc.sc.names.lookup x = some .local
  bi : ∀ x ∈ bltNames, X.mg x = none
  gl : ∀ x d, Z.Γ.gl x = some d → ∃ u v, X.mg x = some u ∧ RelV v u ∧ ∀ C, Rep Z.K C d v
  fn : ∀ f con, Z.Γ.fn f = some con → FnAt X Z.K f con
  io : ∀ j, j ∉ Z.Γ.io → Z.pin j = none
theorem Good.blk {Z : Zt} {cc : CC} {X : Cx} (G : Good Z cc X) (scope : Scope) (s : Shared) (H : Hp) (C : Addr) (cl : List (Str × Addr)) (fp : List Addr) : Good Z (blkCC cc scope) (X.blk s H scope (compEnvC scope cl C X.env) fp) := by
  refine ⟨G.K, ?_, G.N, G.nd, G.calm, G.un, fun x h => ?_, G.bi, G.gl, fun f con h => ⟨(G.fn f con h).at_⟩, G.io⟩
  · show relS scope X.env.scope = relS scope cc.sc
    rw [G.sc]
  · have h : (match scope.names.lookup x with
      | some .local => true
      | some .cell => true
      | _ => false) = true := h
    show (scope.names.lookup x == some .cell) = true ∨ (relS scope cc.sc).names.lookup x = some .local
    cases q : scope.names.lookup x with
    | none => rw [q] at h; cases h
    | some k =>
      rw [q] at h
      cases k with
      | «local» => exact .inr (lookup_relS_keep (by decide) q)
      | cell => exact .inl rfl
      | free => cases h
      | globalExplicit => cases h
      | globalImplicit => cases h

structure EOk (Z : Zt) (X : Cx) (e : Expr) (ex : Ex) : Prop where
  pe : PE X e (RE Z ex)
  pt : isIf e = false → PT X e (RT Z ex)
  pv : ∀ i, ex = .var i → PE X e (tVar i)
  pw : ∀ op vs p, e = .BoolOp op vs p → PW X e (RT Z ex)
  star : ∀ es, starEach (e :: es) X.env = (false, eval e X.env) :: starEach es X.env
  fold : ∀ x, foldedSetIterable e X.env x = pure x
def POk (Z : Zt) (cc : CC) : Src → Tgs → Prop
  | .e e, .e ex => ∀ X, Good Z cc X → EOk Z X e ex
  | .es es, .es exs => ∀ X, Good Z cc X → PA X es (RVs Z exs) ∧ PA X es (ROs Z exs) ∧ starEach es X.env = (es.map fun e => (false, eval e X.env)) ∧ ∀ e r, es = e :: r → starEach (e :: r) X.env = (false, eval e X.env) :: starEach r X.env ∧ starEach r X.env = r.map fun e => (false, eval e X.env)
  | .fs es, .fs exs => ∀ X, Good Z cc X → PJ X es (exs.map (RF Z))
  | .it e, .it ex => ∀ X, Good Z cc X → (∀ tg, enOk ex tg = true → PI X tg e (IT Z ex)) ∧ ∀ x, foldedSetIterable e X.env x = pure x
  | .tg e, .tg t => ∀ X, Good Z cc X → PG X e (GT Z t)
  | .tgs es, .tgs is => ∀ X, Good Z cc X → PGs X es (gNames is) ∧ (assignEach es X.env).length = is.length ∧ (assignEach es X.env).findIdx? (·.1) = none
  | _, _ => False

section
variable {Z : Zt} {X : Cx} {cc : CC}
theorem EOk.ro {e : Expr} {ex : Ex} (h : EOk Z X e ex) : PE X e (RO Z ex) := pe_RO h.pe h.pv
/-- of a plain form: its test is its value's truth -/
theorem EOk.plain {e : Expr} {ex : Ex} (pe : PE X e (RE Z ex)) (he : ∀ whole, isTrue e X.env whole = (do let v ← whole; standAt e.pos; holding [v] (truthy v))) (pv : ∀ i, ex ≠ .var i) (nb : ∀ op vs p, e ≠ .BoolOp op vs p)
    (star : ∀ es, starEach (e :: es) X.env = (false, eval e X.env) :: starEach es X.env) (fold : ∀ x, foldedSetIterable e X.env x = pure x) : EOk Z X e ex :=
  ⟨pe, fun _ => (pt_val pe he).imp fun σ H Q q => RT_RE q, fun i h => absurd h (pv i), fun op vs p h => absurd h (nb op vs p), star, fold⟩
theorem vis_of {x : Str} (G : Good Z cc X) (h : visB cc.sc x = true) : Vis X.env.scope x := by
  rw [G.sc]
  unfold visB at h
  split at h
  · exact .inl (by assumption)
  · exact .inr (.inl (by assumption))
  · exact .inr (.inr (by assumption))
  · cases h
theorem loc_of {x : Str} (G : Good Z cc X) (h : locB cc.sc x = true) : Loc X.env.scope x := by
  rw [G.sc]
  unfold locB at h
  split at h
  · exact .inl (by assumption)
  · exact .inr (by assumption)
  · cases h
theorem gl_of {x : Str} (G : Good Z cc X) (h : glB cc.sc x = true) : Gl X x := by
  have e : X.env.scope.names.lookup x = some .globalImplicit := by
    rw [G.sc]
    unfold glB at h
    split at h
    · assumption
    · cases h
  exact e
theorem ok_of {x : Str} (h : okN x = true) : (x == ("__debug__" : Str)) = false ∧ (x == ("__classdict__" : Str)) = false := by
  unfold okN at h
  simp only [Bool.and_eq_true, Bool.not_eq_true'] at h
  exact h
theorem var_of {x : Str} {i : Nat} {p : Pos} (G : Good Z cc X) (h1 : okN x = true) (h2 : visB cc.sc x = true) (h3 : cc.N[i]? = some x) : PE X (.Name x p) (tVar i) :=
  pe_var (by rw [G.N]; exact h3) (vis_of G h2) (ok_of h1).1 (ok_of h1).2
theorem opB_bin {op : Operator} {o : Op2} (h : opB op = some o) : binO o = some op := by
  cases op <;> simp only [opB, Option.some.injEq, reduceCtorEq] at h <;> subst h <;> rfl
theorem cmpB_cmp {op : CmpOp} {o : Op2} (h : cmpB op = some o) : cmpO o = some op := by
  cases op <;> simp only [cmpB, Option.some.injEq] at h <;> subst h <;> rfl
theorem star_any {es : List Expr} {env : PySem.Env} {pos : Pos} (h : starEach es env = es.map fun e => (false, eval e env)) : (backTo pos (starEach es env)).any (·.1) = false := by
  rw [h]
  unfold backTo
  induction es with
  | nil => rfl
  | cons e es ih => simp
theorem star_few {es : List Expr} {env : PySem.Env} {pos : Pos} (h : starEach es env = es.map fun e => (false, eval e env)) (hl : es.length < 30) :
    ((backTo pos (starEach es env)).all (fun x => !x.1) && (backToKw pos (keywordEach [] env)).all (fun x => x.1.isSome) && decide (es.length + ([] : List Keyword).length + (if ([] : List Keyword).isEmpty then 0 else 1) < 30)) = true := by
  have h1 : (backTo pos (starEach es env)).all (fun x => !x.1) = true := by
    rw [h]
    unfold backTo
    simp
  have h2 : (backToKw pos (keywordEach [] env)).all (fun x => x.1.isSome) = true := rfl
  rw [h1, h2]
  simpa using hl
theorem attr_base {o : Expr} {a : Str} {env : PySem.Env} (h : isSuper o = false) : attributeBase o a env (eval o env) = eval o env := by
  unfold attributeBase
  cases o <;> first
    | rfl
    | (rename_i f args kws pos
       cases f <;> first
         | rfl
         | (cases args <;> first
             | (cases kws <;> first
                 | (simp [isSuper] at h; done)
                 | rfl)
             | rfl))
theorem plain_ix {b : Expr} (h : isSlice b = false) : PlainIx b := fun o i => by
  cases b <;> first
    | rfl
    | (simp [isSlice] at h; done)

theorem pe_none {e : Expr} : PE X e fun _ _ _ => False := ⟨fun _ _ _ _ _ _ h => h.elim⟩

set_option maxHeartbeats 4000000 in
theorem ce_ok : ∀ {cc : CC} {s : Src} {t : Tgs}, CE cc s t → POk Z cc s t := fun {cc s t} h => by
  induction h with
  | @var cc x i p h1 h2 h3 =>
    intro X G
    have pv := var_of (p := p) G h1 h2 h3
    have pe := s_var G.io pv
    exact ⟨pe, fun _ => (pt_val pe fun _ => rfl).imp fun σ H Q q => RT_RE q, (fun i h => by cases h; exact pv), (fun _ _ _ h => by cases h), (fun _ => rfl), (fun _ => rfl)⟩
  | @glo cc x p h1 h2 =>
    intro X G
    refine EOk.plain ?_ (fun _ => rfl) (fun _ h => by cases h) (fun _ _ _ h => by cases h) (fun _ => rfl) (fun _ => rfl)
    cases hd : Z.Γ.gl x with
    | none =>
      refine pe_none.imp fun σ H Q q => ?_
      obtain ⟨C, φ, env, Qt, S, w, k⟩ := q
      simp only [wpE, hd] at w
      obtain ⟨_, w, _⟩ := w
      cases w
    | some d =>
      obtain ⟨u, v, hm, rv, rp⟩ := G.gl x d hd
      refine (pe_glob (gl_of G h2) hm rv (ok_of h1).1).imp fun σ H Q q => ?_
      obtain ⟨C, φ, env, Qt, S, w, k⟩ := q
      simp only [wpE, hd] at w
      obtain ⟨d', e, w⟩ := w
      cases e
      exact k _ env C φ [] H v w Stp.refl.with S (ResAt.sh (rp C))
  | int => exact fun X G => EOk.plain (s_cst pe_int fun _ _ => by simp only [Rep]) (fun _ => rfl) (fun _ h => by cases h) (fun _ _ _ h => by cases h) (fun _ => rfl) (fun _ => rfl)
  | str => exact fun X G => EOk.plain (s_cst pe_str fun _ _ => by simp only [Rep]) (fun _ => rfl) (fun _ h => by cases h) (fun _ _ _ h => by cases h) (fun _ => rfl) (fun _ => rfl)
  | bl => exact fun X G => EOk.plain (s_cst pe_bl fun _ _ => by simp only [Rep]) (fun _ => rfl) (fun _ h => by cases h) (fun _ _ _ h => by cases h) (fun _ => rfl) (fun _ => rfl)
  | non => exact fun X G => EOk.plain (s_cst pe_non fun _ _ => by simp only [Rep]) (fun _ => rfl) (fun _ h => by cases h) (fun _ _ _ h => by cases h) (fun _ => rfl) (fun _ => rfl)
  | bin ho _ _ iha ihb => exact fun X G => EOk.plain (s_bin G.K (iha X G).ro (ihb X G).ro (opB_bin ho)) (fun _ => rfl) (fun _ h => by cases h) (fun _ _ _ h => by cases h) (fun _ => rfl) (fun _ => rfl)
  | @not cc a a' p hi _ iha =>
    intro X G
    have A := iha X G
    have q := s_not (pos := p) A.pe (A.pt hi)
    exact ⟨q.1, fun _ => q.2, (fun _ h => by cases h), (fun _ _ _ h => by cases h), (fun _ => rfl), (fun _ => rfl)⟩
  | neg _ iha => exact fun X G => EOk.plain (s_neg (iha X G).pe) (fun _ => rfl) (fun _ h => by cases h) (fun _ _ _ h => by cases h) (fun _ => rfl) (fun _ => rfl)
  | @and1 cc a a' p hi _ iha =>
    intro X G
    have A := iha X G
    have pw := pw_and1 (pos := p) (A.pt hi)
    exact ⟨pe_one A.pe, fun _ => pw.pt, fun i h => pe_one (A.pv i h), (fun _ _ _ h => by cases h; exact pw), (fun _ => rfl), (fun _ => rfl)⟩
  | @or1 cc a a' p hi _ iha =>
    intro X G
    have A := iha X G
    have pw := pw_or1 (pos := p) (A.pt hi)
    exact ⟨pe_one A.pe, fun _ => pw.pt, fun i h => pe_one (A.pv i h), (fun _ _ _ h => by cases h; exact pw), (fun _ => rfl), (fun _ => rfl)⟩
  | @and cc a b r a' b' p hi _ _ iha ihb =>
    intro X G
    have A := iha X G
    have B := ihb X G
    have q := s_and A.pe (A.pt hi) B.pe (B.pw _ _ _ rfl)
    exact ⟨q.1, fun _ => q.2.pt, (fun _ h => by cases h), (fun _ _ _ h => by cases h; exact q.2), (fun _ => rfl), (fun _ => rfl)⟩
  | @or cc a b r a' b' p hi _ _ iha ihb =>
    intro X G
    have A := iha X G
    have B := ihb X G
    have q := s_or A.pe (A.pt hi) B.pe (B.pw _ _ _ rfl)
    exact ⟨q.1, fun _ => q.2.pt, (fun _ h => by cases h), (fun _ _ _ h => by cases h; exact q.2), (fun _ => rfl), (fun _ => rfl)⟩
  | ife hi _ _ _ ihc iha ihb =>
    intro X G
    exact ⟨s_ife ((ihc X G).pt hi) (iha X G).pe (ihb X G).pe, fun h => by simp [isIf] at h, (fun _ h => by cases h), (fun _ _ _ h => by cases h), (fun _ => rfl), (fun _ => rfl)⟩
  | @cmp cc a b op o a' b' p ho hm _ _ iha ihb =>
    intro X G
    have q := s_cmp (pos := p) G.K G.un (iha X G).ro (ihb X G).ro (cmpB_cmp ho) hm
    exact ⟨q.1, fun _ => q.2, (fun _ h => by cases h), (fun _ _ _ h => by cases h), (fun _ => rfl), (fun _ => rfl)⟩
  | @chain cc a b c op op' o o' a' b' c' p ho ho' hm _ _ _ iha ihb ihc =>
    intro X G
    have q := s_chain (pos := p) G.K G.un (iha X G).ro (ihb X G).ro (ihc X G).ro (cmpB_cmp ho) (cmpB_cmp ho') hm
    exact ⟨q.1, fun _ => q.2, (fun _ h => by cases h), (fun _ _ _ h => by cases h), (fun _ => rfl), (fun _ => rfl)⟩
  | idx hs _ _ iha ihb => exact fun X G => EOk.plain (s_idx G.K (iha X G).ro (ihb X G).ro (plain_ix hs)) (fun _ => rfl) (fun _ h => by cases h) (fun _ _ _ h => by cases h) (fun _ => rfl) (fun _ => rfl)
  | slc _ _ _ iha ihl ihh => exact fun X G => EOk.plain (s_slc G.K (iha X G).ro (ihl X G).pe (ihh X G).pe) (fun _ => rfl) (fun _ h => by cases h) (fun _ _ _ h => by cases h) (fun _ => rfl) (fun _ => rfl)
  | slcL _ _ iha ihl => exact fun X G => EOk.plain (s_slcL G.K (iha X G).ro (ihl X G).pe) (fun _ => rfl) (fun _ h => by cases h) (fun _ _ _ h => by cases h) (fun _ => rfl) (fun _ => rfl)
  | slcH _ _ iha ihh => exact fun X G => EOk.plain (s_slcH G.K (iha X G).ro (ihh X G).pe) (fun _ => rfl) (fun _ h => by cases h) (fun _ _ _ h => by cases h) (fun _ => rfl) (fun _ => rfl)
  | tup _ ih => exact fun X G => EOk.plain (s_tup (ih X G).1) (fun _ => rfl) (fun _ h => by cases h) (fun _ _ _ h => by cases h) (fun _ => rfl) (fun _ => rfl)
  | lst _ ih => exact fun X G => EOk.plain (s_lst (ih X G).1) (fun _ => rfl) (fun _ h => by cases h) (fun _ _ _ h => by cases h) (fun _ => rfl) (fun _ => rfl)
  | @bi cc b e es es' p p2 hg hb _ ih =>
    intro X G
    obtain ⟨_, ro, st, st1⟩ := ih X G
    have st1 := st1 e es rfl
    exact EOk.plain (s_bi G.K G.calm (gl_of G hg) (G.bi _ hb) ro st1.1 (star_any st1.2)) (fun _ => rfl) (fun _ h => by cases h) (fun _ _ _ h => by cases h) (fun _ => rfl) (fun _ => rfl)
  | @isi cc t a a' p p2 p3 hg hg2 _ ih =>
    intro X G
    have A := ih X G
    have hm2 : X.mg (tyN t) = none := G.bi _ (by cases t <;> decide)
    exact EOk.plain (s_isi G.K (gl_of G hg) (G.bi _ (by decide)) (gl_of G hg2) hm2 A.ro (A.star _) rfl) (fun _ => rfl) (fun _ h => by cases h) (fun _ _ _ h => by cases h) (fun _ => rfl) (fun _ => rfl)
  | @call cc f e es es' p p2 h1 hg _ ih =>
    intro X G
    obtain ⟨_, ro, st, st1⟩ := ih X G
    have st1 := st1 e es rfl
    refine EOk.plain ?_ (fun _ => rfl) (fun _ h => by cases h) (fun _ _ _ h => by cases h) (fun _ => rfl) (fun _ => rfl)
    cases hf : Z.Γ.fn f with
    | none =>
      refine pe_none.imp fun σ H Q q => ?_
      obtain ⟨C, φ, env, Qt, S, w, k⟩ := q
      simp only [wpE, hf] at w
      obtain ⟨con, e, w⟩ := w
      cases e
    | some con => exact s_call G.io (gl_of G hg) (G.fn f con hf) hf ro (ok_of h1).1 st1.1 (star_any st1.2)
  | @call0 cc f p p2 h1 hg =>
    intro X G
    refine EOk.plain ?_ (fun _ => rfl) (fun _ h => by cases h) (fun _ _ _ h => by cases h) (fun _ => rfl) (fun _ => rfl)
    cases hf : Z.Γ.fn f with
    | none =>
      refine pe_none.imp fun σ H Q q => ?_
      obtain ⟨C, φ, env, Qt, S, w, k⟩ := q
      simp only [wpE, hf] at w
      obtain ⟨con, e, w⟩ := w
      cases e
    | some con => exact s_call0 G.io (gl_of G hg) (G.fn f con hf) hf (ok_of h1).1
  | @me cc m o o' e es es' p p2 hs hl h30 _ _ iho ih =>
    intro X G
    obtain ⟨_, ro, st, st1⟩ := ih X G
    have st2 := st1 e es rfl
    exact EOk.plain (s_me G.un G.K (iho X G).ro ro (attr_base hs) (star_few st h30) hl st2.1 (star_any st2.2)) (fun _ => rfl) (fun _ h => by cases h) (fun _ _ _ h => by cases h) (fun _ => rfl) (fun _ => rfl)
  | @mu cc m x i e es es' p0 p p2 h1 h2 h3 hm hl h30 _ ih =>
    intro X G
    obtain ⟨rv, _, st, st1⟩ := ih X G
    have st2 := st1 e es rfl
    exact EOk.plain (s_mu G.K (var_of (p := p0) G h1 h2 h3) rv hm (attr_base rfl) (star_few st h30) hl st2.1 (star_any st2.2)) (fun _ => rfl) (fun _ h => by cases h) (fun _ _ _ h => by cases h) (fun _ => rfl) (fun _ => rfl)
  | @pop cc x i p0 p p2 h1 h2 h3 hl =>
    intro X G
    exact EOk.plain (s_pop G.K (var_of (p := p0) G h1 h2 h3) (attr_base rfl) hl) (fun _ => rfl) (fun _ h => by cases h) (fun _ _ _ h => by cases h) (fun _ => rfl) (fun _ => rfl)
  | @lc cc elt tg iter scope own elt' tg' it' p hen hb htg _ _ _ iit itg iel =>
    intro X G
    obtain ⟨pi, fo⟩ := iit X G
    have blk : BlkOk X.N X.env.scope scope own := by rw [G.N, G.sc]; exact blkOk_by hb
    refine EOk.plain ?_ (fun _ => rfl) (fun _ h => by cases h) (fun _ _ _ h => by cases h) (fun _ => rfl) (fun _ => rfl)
    exact (pe_lc G.calm (by rw [G.N]; exact G.nd) (pi tg hen) blk (fun s H C cl fp => itg _ (G.blk scope s H C cl fp)) (fun s H C cl fp => s_tests0) (fun s H C cl fp => pe_RV (iel _ (G.blk scope s H C cl fp)).pe) fo).imp fun σ H Q q => lc_go G.io htg q
  | @lci cc elt tg iter c scope own elt' tg' it' c' p hen hb htg _ _ hc _ _ iit itg icc iel =>
    intro X G
    obtain ⟨pi, fo⟩ := iit X G
    have blk : BlkOk X.N X.env.scope scope own := by rw [G.N, G.sc]; exact blkOk_by hb
    refine EOk.plain ?_ (fun _ => rfl) (fun _ h => by cases h) (fun _ _ _ h => by cases h) (fun _ => rfl) (fun _ => rfl)
    exact (pe_lc G.calm (by rw [G.N]; exact G.nd) (pi tg hen) blk (fun s H C cl fp => itg _ (G.blk scope s H C cl fp)) (fun s H C cl fp => s_tests1 ((icc _ (G.blk scope s H C cl fp)).pt hc)) (fun s H C cl fp => pe_RV (iel _ (G.blk scope s H C cl fp)).pe) fo).imp fun σ H Q q => lc_go G.io htg q
  | fmt _ iha => exact fun X G => EOk.plain (s_fmt (iha X G).pe) (fun _ => rfl) (fun _ h => by cases h) (fun _ _ _ h => by cases h) (fun _ => rfl) (fun _ => rfl)
  | fst _ ih => exact fun X G => EOk.plain (s_fst (ih X G)) (fun _ => rfl) (fun _ h => by cases h) (fun _ _ _ h => by cases h) (fun _ => rfl) (fun _ => rfl)
  | fs0 => exact fun X G => .nil
  | fsC _ ih => exact fun X G => .cons (pe_RF (s_cst pe_str fun _ _ => by simp only [Rep])) (ih X G)
  | fsV _ _ iha ih => exact fun X G => .cons (s_fpart (iha X G).ro) (ih X G)
  | nil => exact fun X G => ⟨pa_RVs_nil, pa_ROs_nil, rfl, fun _ _ h => by cases h⟩
  | @cons cc e es e' es' _ _ ih ihs =>
    intro X G
    have A := ih X G
    obtain ⟨rv, ro, st, _⟩ := ihs X G
    refine ⟨pa_RVs_cons A.pe rv (A.star es), pa_ROs_cons A.ro ro (A.star es), by rw [A.star es, st]; rfl, fun e1 r1 h => ?_⟩
    cases h
    exact ⟨A.star es, st⟩
  | @rng1 cc a es' p p2 hg _ ih =>
    intro X G
    obtain ⟨rv, _, st, _⟩ := ih X G
    exact ⟨fun tg _ => s_rng1 (gl_of G hg) (G.bi _ (by decide)) rv st, fun _ => rfl⟩
  | @rng2 cc a b es' p p2 hg _ ih =>
    intro X G
    obtain ⟨rv, _, st, st1⟩ := ih X G
    exact ⟨fun tg _ => s_rng2 (gl_of G hg) (G.bi _ (by decide)) rv st (st1 a [b] rfl).2, fun _ => rfl⟩
  | @enum cc a es' p p2 hg _ ih =>
    intro X G
    obtain ⟨rv, _, st, _⟩ := ih X G
    refine ⟨fun tg ht => ?_, fun _ => rfl⟩
    cases tg <;> first
      | exact s_enum G.K (gl_of G hg) (G.bi _ (by decide)) rv st
      | (simp [enOk] at ht; done)
  | seq _ ih =>
    intro X G
    have A := ih X G
    exact ⟨fun tg _ => s_seq G.K A.pe, A.fold⟩
  | tgn h1 h2 h3 =>
    intro X G
    exact s_tgname G.io (pg_name (by rw [G.N]; exact G.nd) (by rw [G.N]; exact h3) (loc_of G h1) ((G.st _ h2).imp id fun z => by rw [G.sc]; exact z))
  | tgt _ ih =>
    intro X G
    obtain ⟨pgs, hl, hf⟩ := ih X G
    exact s_tgtup G.K G.io (pg_tup G.calm pgs hl hf)
  | tgs0 => exact fun X G => ⟨pgs_nil, rfl, rfl⟩
  | @tgs cc x i p es is h1 h2 h3 _ ih =>
    intro X G
    obtain ⟨pgs, hl, hf⟩ := ih X G
    have e1 : assignEach (.Name x p :: es) X.env = (false, assign (.Name x p) X.env) :: assignEach es X.env := rfl
    refine ⟨pgs_cons (pg_name (by rw [G.N]; exact G.nd) (by rw [G.N]; exact h3) (loc_of G h1) ((G.st _ h2).imp id fun z => by rw [G.sc]; exact z)) pgs rfl, by rw [e1]; simp [hl], ?_⟩
    rw [e1, List.findIdx?_cons]
    simp [hf]
end
end TW
end
section
set_option Elab.async false
set_option linter.all false
set_option maxRecDepth 100000
set_option maxHeartbeats 2000000
/-! TW14: statements and defs from the row's syntax -/
namespace TW
open PySem L2 PySem.Spec

inductive Src2 where
  | s (s : Stmt) | ss (s : List Stmt)
/-- a list comprehension that is stored at once -/
def swapOn (cc : CC) (x : Str) (p : Pos) (e : Expr) : Bool := match e with
  | .ListComp _ _ sc pos => (match cc.sc.names.lookup x with
    | some .local => true
    | _ => false) && p.line == pos.line && !(sc.names.any fun (n, k) => n == x && (k == .local || k == .cell))
  | _ => false
def isLc : Expr → Bool
  | .ListComp .. => true
  | _ => false
def isSD : Expr → Bool
  | .SetComp .. => true
  | .DictComp .. => true
  | _ => false
def localB (sc : Scope) (x : Str) : Bool := match sc.names.lookup x with
  | some .local => true
  | _ => false
def noStar : Expr → Bool
  | .Starred .. => false
  | _ => true
inductive CS : CC → Src2 → Sm → Prop where
  | asg {cc x i e e' p p2} : locB cc.sc x = true → cc.st x = true → cc.N[i]? = some x → isSD e = false → swapOn cc x p e = false → CE cc (.e e) (.e e') → CS cc (.s (.Assign [.Name x p] e p2)) (.asg i e')
  | asgL {cc x i e e' p p2} : locB cc.sc x = true → cc.st x = true → cc.N[i]? = some x → isLc e = true → swapOn cc x p e = true → CE cc (.e e) (.e e') → CS cc (.s (.Assign [.Name x p] e p2)) (.asg i e')
  | unp {cc ts is k p e e' p2} : CE cc (.tg (.Tuple ts k p)) (.tg (.tup is)) → isTupE e = false → CE cc (.e e) (.e e') → CS cc (.s (.Assign [.Tuple ts k p] e p2)) (.unp is e')
  | par {cc x y i j px py pt kt a b k2 pt2 a' b' p2} : localB cc.sc x = true → localB cc.sc y = true → cc.N[i]? = some x → cc.N[j]? = some y → i ≠ j → (x == y) = false → (px.line == py.line) = true → noStar a = true → noStar b = true → (foldedForSure 8 a && foldedForSure 8 b) = false → (constantsAlone 8 a && constantsAlone 8 b) = false →
      CE cc (.e a) (.e a') → CE cc (.e b) (.e b') → CS cc (.s (.Assign [.Tuple [.Name x px, .Name y py] kt pt] (.Tuple [a, b] k2 pt2) p2)) (.par i j a' b')
  | seti {cc x i k k' e e' p0 p p2} : okN x = true → visB cc.sc x = true → cc.N[i]? = some x → isSlice k = false → isTupE e = false → CE cc (.e k) (.e k') → CE cc (.e e) (.e e') → CS cc (.s (.Assign [.Subscript (.Name x p0) k p] e p2)) (.seti i k' e')
  | augA {cc x i e e' p p2} : locB cc.sc x = true → cc.st x = true → cc.N[i]? = some x → CE cc (.e e) (.e e') → CS cc (.s (.AugAssign (.Name x p) .Add e p2)) (.aug i .add e')
  | augS {cc x i e e' p p2} : locB cc.sc x = true → cc.st x = true → cc.N[i]? = some x → CE cc (.e e) (.e e') → CS cc (.s (.AugAssign (.Name x p) .Sub e p2)) (.aug i .sub e')
  | exp {cc e e' p} : isComp e = false → CE cc (.e e) (.e e') → CS cc (.s (.Expr e p)) (.exp e')
  | ret {cc e e' p} : CE cc (.e e) (.e e') → CS cc (.s (.Return (some e) p)) (.ret e')
  | retN {cc p} : CS cc (.s (.Return none p)) .retN
  | ife {cc c c' a b a' b' p} : isIf c = false → CE cc (.e c) (.e c') → CS cc (.ss a) a' → CS cc (.ss b) b' → CS cc (.s (.If c a b p)) (.ife c' a' b')
  | for {cc tg tg' it it' b b' p} : enOk it' tg = true → CE cc (.tg tg) (.tg tg') → CE cc (.it it) (.it it') → CS cc (.ss b) b' → CS cc (.s (.For tg it b [] p)) (.for tg' it' b')
  | whl {cc c c' b b' p} : isIf c = false → CE cc (.e c) (.e c') → CS cc (.ss b) b' → CS cc (.s (.While c b [] p)) (.whl c' b')
  | brk {cc p} : CS cc (.s (.Break p)) .brk
  | cnt {cc p} : CS cc (.s (.Continue p)) .cnt
  | rai {cc cn e e' p pos pos2} : okN cn = true → glB cc.sc cn = true → CE cc (.es [e]) (.es [e']) → CS cc (.s (.Raise (some (.Call (.Name cn p) [e] [] pos)) none pos2)) (.rai cn e')
  | bad {cc e c p} : CS cc (.s (.Raise e c p)) .bad
  | pass {cc p} : CS cc (.s (.Pass p)) .skip
  | nil {cc} : CS cc (.ss []) .skip
  | cons {cc s ss s' ss'} : CS cc (.s s) s' → CS cc (.ss ss) ss' → CS cc (.ss (s :: ss)) (.seq s' ss')

section
variable {Z : Zt} {X : Cx} {cc : CC}
theorem swaps_no {e : Expr} {t : Option Expr} {l : Nat} {env : PySem.Env} (h : isComp e = false) : swapsWith e t l env = pure false := by
  cases e <;> first
    | rfl
    | (simp [isComp] at h; done)
theorem fn_kind (G : Good Z cc X) (hk : cc.sc.kind = .function) : X.env.blockKind = .function := by
  unfold Env.blockKind
  rw [G.sc, hk]
  rfl
theorem swaps_name {x : Str} {p : Pos} {e : Expr} {l : Nat} (G : Good Z cc X) (hk : cc.sc.kind = .function) (h : isSD e = false) : swapsWith e (some (.Name x p)) l X.env = pure (swapOn cc x p e) := by
  cases e <;> first
    | rfl
    | (simp [isSD] at h; done)
    | skip
  rename_i elt gens sc pos
  have hb := fn_kind G hk
  have hkx : X.env.kindOf x = cc.sc.names.lookup x := by
    show X.env.scope.names.lookup x = _
    rw [G.sc]
  unfold swapsWith swapOn
  simp only [hb, hkx, Expr.pos]
  cases cc.sc.names.lookup x with
  | none => rfl
  | some k => cases k <;> rfl
theorem swaps_tup {ts : List Expr} {k : Nat} {p : Pos} {e : Expr} {l : Nat} {env : PySem.Env} : swapsWithSole [.Tuple ts k p] e l env = pure false := by
  show swapsWith e (some (.Tuple ts k p)) l env = pure false
  cases e <;> rfl
theorem swaps_sub {o i : Expr} {p : Pos} {e : Expr} {l : Nat} {env : PySem.Env} : swapsWithSole [.Subscript o i p] e l env = pure false := by
  show swapsWith e (some (.Subscript o i p)) l env = pure false
  cases e <;> rfl
theorem stores_no {t e : Expr} {env : PySem.Env} (h : isTupE e = false) : swappedStores [t] e env = pure none := by
  unfold swappedStores
  cases t <;> cases e <;> first
    | rfl
    | (simp [isTupE] at h; done)
theorem asg_slc {o i : Expr} {p : Pos} {env : PySem.Env} (h : isSlice i = false) : ∀ v, assign (.Subscript o i p) env v = (do
      let ov ← holding [v] (eval o env)
      let iv ← holding [v, ov] (eval i env)
      standAt p
      holding [v, ov, iv] (setItem ov iv v)
      release [v, ov, iv] []) := fun v => by
  cases i <;> first
    | rfl
    | (simp [isSlice] at h; done)
theorem stores_par {x y : Str} {px py pt pt2 : Pos} {kt k2 : Nat} {a b : Expr} (G : Good Z cc X) (hk : cc.sc.kind = .function) (hx : localB cc.sc x = true) (hy : localB cc.sc y = true) (hxy : (x == y) = false) (hl : (px.line == py.line) = true) (ha : noStar a = true) (hb : noStar b = true)
    (hf : (foldedForSure 8 a && foldedForSure 8 b) = false) (hc : (constantsAlone 8 a && constantsAlone 8 b) = false) :
    swappedStores [.Tuple [.Name x px, .Name y py] kt pt] (.Tuple [a, b] k2 pt2) X.env = pure (some [x, y]) := by
  have hb0 := fn_kind G hk
  have kx : X.env.kindOf x = some .local := by
    show X.env.scope.names.lookup x = _
    rw [G.sc]
    unfold localB at hx
    split at hx
    · assumption
    · cases hx
  have ky : X.env.kindOf y = some .local := by
    show X.env.scope.names.lookup y = _
    rw [G.sc]
    unfold localB at hy
    split at hy
    · assumption
    · cases hy
  have hl1 : py.line = px.line := (beq_iff_eq.mp hl).symm
  have hne : ¬ x = y := fun e => by subst e; simp at hxy
  have hne2 : ¬ y = x := fun e => hne e.symm
  have hs : ([a, b].any fun | .Starred .. => true | _ => false) = false := by
    cases a <;> cases b <;> first
      | rfl
      | (simp [noStar] at ha; done)
      | (simp [noStar] at hb; done)
  have hf2 : ([a, b].all (foldedForSure 8)) = false := by simpa using hf
  have hc2 : ([a, b].all (constantsAlone 8)) = false := by simpa using hc
  unfold swappedStores
  simp only [hs, hf2, hc2, hb0]
  simp [kx, ky, hl1, List.filterMap_cons, Expr.pos, List.eraseDups_cons, hne, hne2]
  intro h
  exfalso
  rcases h with h | h
  · cases a <;> first
      | (simp at h; done)
      | (simp [noStar] at ha; done)
  · cases b <;> first
      | (simp at h; done)
      | (simp [noStar] at hb; done)

def SOk (Z : Zt) (cc : CC) : Src2 → Sm → Prop
  | .s s, t => ∀ X, Good Z cc X → PassesOwn (model X.prog X.w) X.A X.env X.xe → XGood Z X → PS X s (RS Z t)
  | .ss s, t => ∀ X, Good Z cc X → PassesOwn (model X.prog X.w) X.A X.env X.xe → XGood Z X → PSs X s (RS Z t)
theorem fn_of_st {x : Str} (G : Good Z cc X) (h : cc.st x = true) : X.fn x = true ∨ X.env.scope.names.lookup x = some .local := (G.st _ h).imp id fun z => by rw [G.sc]; exact z
theorem ix_of {x : Str} {i : Nat} (G : Good Z cc X) (h : cc.N[i]? = some x) : X.N[i]? = some x := by rw [G.N]; exact h
theorem nd_of (G : Good Z cc X) : X.N.Nodup := by rw [G.N]; exact G.nd
theorem lookup_local {x : Str} (G : Good Z cc X) (hx : localB cc.sc x = true) : X.env.scope.names.lookup x = some .local := by
  rw [G.sc]
  unfold localB at hx
  split at hx
  · assumption
  · cases hx
theorem asgL_ok {x : Str} {i : Nat} {e : Expr} {e' : Ex} {p p2 : Pos} (hk : cc.sc.kind = .function) (h1 : locB cc.sc x = true) (h2 : cc.st x = true) (h3 : cc.N[i]? = some x) (hlc : isLc e = true) (hs : swapOn cc x p e = true) (h : CE cc (.e e) (.e e')) (G : Good Z cc X) : PS X (.Assign [.Name x p] e p2) (RS Z (.asg i e')) := by
  have hsw : swapsWith e (some (.Name x p)) p2.line X.env = pure true := by
    rw [swaps_name G hk (by cases e <;> first | rfl | (simp [isLc] at hlc; done)), hs]
  have hloc : X.env.scope.names.lookup x = some .local := by
    rw [G.sc]
    cases e <;> first
      | (simp [isLc] at hlc; done)
      | skip
    simp only [swapOn, Bool.and_eq_true] at hs
    obtain ⟨⟨hs, _⟩, _⟩ := hs
    split at hs
    · assumption
    · cases hs
  cases h with
  | @lc _ elt tg iter scope own elt' tg' it' pp hen hb htg hit htgt hel =>
    obtain ⟨pi, fo⟩ := ce_ok hit X G
    have blk : BlkOk X.N X.env.scope scope own := by rw [G.N, G.sc]; exact blkOk_by hb
    exact (ps_setLc G.calm (nd_of G) (ix_of G h3) hloc hsw (pi tg hen) blk (fun s H C cl fp => ce_ok htgt _ (G.blk scope s H C cl fp)) (fun s H C cl fp => s_tests0) (fun s H C cl fp => pe_RV (EOk.pe (ce_ok hel _ (G.blk scope s H C cl fp)))) fo).imp fun D σ H q => asg_go G.io (fun σ H Q h => lc_go G.io htg h) q
  | @lci _ elt tg iter c scope own elt' tg' it' c' pp hen hb htg hit htgt hc hcc hel =>
    obtain ⟨pi, fo⟩ := ce_ok hit X G
    have blk : BlkOk X.N X.env.scope scope own := by rw [G.N, G.sc]; exact blkOk_by hb
    exact (ps_setLc G.calm (nd_of G) (ix_of G h3) hloc hsw (pi tg hen) blk (fun s H C cl fp => ce_ok htgt _ (G.blk scope s H C cl fp)) (fun s H C cl fp => s_tests1 (EOk.pt (ce_ok hcc _ (G.blk scope s H C cl fp)) hc)) (fun s H C cl fp => pe_RV (EOk.pe (ce_ok hel _ (G.blk scope s H C cl fp)))) fo).imp fun D σ H q => asg_go G.io (fun σ H Q h => lc_go G.io htg h) q
  | _ => simp [isLc] at hlc

theorem cs_ok (hk : cc.sc.kind = .function) {s : Src2} {t : Sm} (h : CS cc s t) : SOk Z cc s t := by
  induction h with
  | asg h1 h2 h3 hsd hs h => exact fun X G po xg => ss_asg G.io (nd_of G) (ix_of G h3) (loc_of G h1) (EOk.pe (ce_ok h X G)) (by rw [swaps_name G hk hsd, hs]) (fn_of_st G h2)
  | asgL h1 h2 h3 hlc hs h => exact fun X G po xg => asgL_ok hk h1 h2 h3 hlc hs h G
  | unp ht he h => exact fun X G po xg => ss_unp (EOk.pe (ce_ok h X G)) (ce_ok ht X G) swaps_tup (stores_no he) rfl
  | par h1 h2 h3 h4 hij hxy hl ha hb hf hc hea heb =>
    intro X G po xg
    have A : EOk Z X _ _ := ce_ok hea X G
    have B : EOk Z X _ _ := ce_ok heb X G
    exact ss_par G.io G.calm (nd_of G) (ix_of G h3) (ix_of G h4) hij (lookup_local G h1) (lookup_local G h2) A.pe B.pe (A.star _) (B.star _) (stores_par G hk h1 h2 hxy hl ha hb hf hc) swaps_tup
  | seti h1 h2 h3 hs ht hek he => exact fun X G po xg => ss_seti (var_of G h1 h2 h3) (EOk.pe (ce_ok hek X G)) (EOk.pe (ce_ok he X G)) (asg_slc hs) swaps_sub (stores_no ht) rfl
  | augA h1 h2 h3 h => exact fun X G po xg => ss_aug G.K G.io (nd_of G) (ix_of G h3) (loc_of G h1) (EOk.pe (ce_ok h X G)) va_add (fn_of_st G h2)
  | augS h1 h2 h3 h => exact fun X G po xg => ss_aug G.K G.io (nd_of G) (ix_of G h3) (loc_of G h1) (EOk.pe (ce_ok h X G)) va_sub (fn_of_st G h2)
  | exp hc h => exact fun X G po xg => ss_exp (EOk.pe (ce_ok h X G)) (swaps_no hc)
  | ret h => exact fun X G po xg => ss_ret (EOk.pe (ce_ok h X G)) (EOk.pv (ce_ok h X G))
  | retN => exact fun X G po xg => ss_retN
  | ife hi hc _ _ iha ihb => exact fun X G po xg => ss_ife (EOk.pt (ce_ok hc X G) hi) (iha X G po xg) (ihb X G po xg)
  | «for» hen ht hi _ ihb =>
    intro X G po xg
    obtain ⟨pi, fo⟩ := ce_ok hi X G
    exact ss_for po G.calm (pi _ hen) (ce_ok ht X G) (ihb X G po xg) fo
  | whl hi hc _ ihb => exact fun X G po xg => ss_whl po (EOk.pt (ce_ok hc X G) hi) (ihb X G po xg)
  | brk => exact fun X G po xg => ss_brk
  | cnt => exact fun X G po xg => ss_cnt
  | rai h1 hg he =>
    intro X G po xg
    obtain ⟨rv, _, st, _⟩ := ce_ok he X G
    exact ss_rai G.calm xg rv (gl_of G hg) (ok_of h1).1 st
  | bad => exact fun X G po xg => ss_bad
  | pass => exact fun X G po xg => ss_pass
  | nil => exact fun X G po xg => ss_skip
  | cons _ _ ih ihs => exact fun X G po xg => ss_seq (ih X G po xg) (ihs X G po xg)
end
end TW
end
section
set_option Elab.async false
set_option linter.all false
set_option maxRecDepth 100000
set_option maxHeartbeats 2000000
/-! TW15: a def keeps the promise that its body means on trees -/
namespace TW
open PySem L2 PySem.Spec
section
variable {P : Program} {w : World} {K : PySem.W.Frag} {mg : Str → Option Value} {base : Heap}

/-- a def that is called stands ready -/
structure FnOf (P : Program) (w : World) (K : PySem.W.Frag) (mg : Str → Option Value) (base : Heap) (k : Nat) (f : Str) (con : Con) : Prop where
  ex : ∃ (a : Addr) (fd : FuncData) (ps : List Str), mg f = some (.ref a) ∧ FnOk P w K mg base CX0 k a fd ps (spC K con) ∧ PySem.W.keepIn K (.ref a) = true ∧ Binds K fd ps []
theorem FnOf.mono {j k : Nat} {f : Str} {con : Con} (h : FnOf P w K mg base j f con) (hk : j ≤ k) : FnOf P w K mg base k f con := by
  obtain ⟨a, fd, ps, h1, h2, h3⟩ := h.ex
  exact ⟨a, fd, ps, h1, h2.mono hk, h3⟩
/-- the module's own names -/
structure Mods (K : PySem.W.Frag) (mg : Str → Option Value) (gl : Str → Option TW.D) : Prop where
  bi : ∀ x ∈ bltNames, mg x = none
  gl : ∀ x d, gl x = some d → ∃ u v, mg x = some u ∧ RelV v u ∧ ∀ C, Rep K C d v

theorem ioIx_mem : ∀ (io : List Bool) (k i : Nat), i ∈ ioIx k io ↔ k ≤ i ∧ io[i - k]? = some true
  | [], k, i => by simp [ioIx]
  | true :: bs, k, i => by
    simp only [ioIx, List.mem_cons, ioIx_mem bs (k + 1) i]
    constructor
    · rintro (rfl | ⟨h1, h2⟩)
      · simp
      · refine ⟨by omega, ?_⟩
        rw [show i - k = (i - (k + 1)) + 1 by omega]
        simpa using h2
    · rintro ⟨h1, h2⟩
      by_cases e : i = k
      · exact .inl e
      · refine .inr ⟨by omega, ?_⟩
        rw [show i - k = (i - (k + 1)) + 1 by omega] at h2
        simpa using h2
  | false :: bs, k, i => by
    simp only [ioIx, ioIx_mem bs (k + 1) i]
    constructor
    · rintro ⟨h1, h2⟩
      refine ⟨by omega, ?_⟩
      rw [show i - k = (i - (k + 1)) + 1 by omega]
      simpa using h2
    · rintro ⟨h1, h2⟩
      by_cases e : i = k
      · subst e; simp at h2
      · refine ⟨by omega, ?_⟩
        rw [show i - k = (i - (k + 1)) + 1 by omega] at h2
        simpa using h2
theorem outs_at : ∀ (io : List Bool) (k : Nat) (env : Env) (outs : List OT), outsAt env (ioIx k io) = some outs → (outEnv io outs).length = io.length ∧ ∀ j t, (outEnv io outs)[j]? = some (some t) → io[j]? = some true ∧ env[k + j]? = some (some t)
  | [], k, env, outs, h => ⟨rfl, fun j t e => by simp [outEnv] at e⟩
  | true :: bs, k, env, outs, h => by
    simp only [ioIx, outsAt] at h
    split at h
    · rename_i t ts e1 e2
      cases h
      obtain ⟨l, g⟩ := outs_at bs (k + 1) env ts e2
      refine ⟨by simp [outEnv, l], fun j t' e => ?_⟩
      cases j with
      | zero =>
        simp only [outEnv, List.getElem?_cons_zero, Option.some.injEq] at e
        subst e
        exact ⟨rfl, e1⟩
      | succ j =>
        simp only [outEnv, List.getElem?_cons_succ] at e
        obtain ⟨g1, g2⟩ := g j t' e
        exact ⟨by simpa using g1, by rw [show k + (j + 1) = k + 1 + j by omega]; exact g2⟩
    · cases h
  | false :: bs, k, env, outs, h => by
    simp only [ioIx] at h
    obtain ⟨l, g⟩ := outs_at bs (k + 1) env outs h
    refine ⟨by simp [outEnv, l], fun j t' e => ?_⟩
    cases j with
    | zero => simp [outEnv] at e
    | succ j =>
      simp only [outEnv, List.getElem?_cons_succ] at e
      obtain ⟨g1, g2⟩ := g j t' e
      exact ⟨by simpa using g1, by rw [show k + (j + 1) = k + 1 + j by omega]; exact g2⟩
theorem args_io : ∀ {io : List Bool} {args : List OT}, argsOk io args → io.length = args.length ∧ ∀ (i : Nat) (t : OT), args[i]? = some t → io[i]? = some (isOwn t)
  | [], [], _ => ⟨rfl, fun _ _ h => by simp at h⟩
  | b :: bs, t :: ts, h => by
    obtain ⟨l, g⟩ := args_io h.2
    refine ⟨by simp [l], fun i t' e => ?_⟩
    cases i with
    | zero =>
      simp only [List.getElem?_cons_zero, Option.some.injEq] at e
      subst e
      simp [h.1]
    | succ i => simpa using g i t' (by simpa using e)
  | [], _ :: _, h => h.elim
  | _ :: _, [], h => h.elim
def pinOf (io : List Bool) (vs : List V) : Nat → Option Addr := fun i => if io[i]? = some true then (match vs[i]? with
  | some (.ref a) => some a
  | _ => none) else none

theorem pad_get {α : Type} {l : List α} {n i : Nat} {x : α} : (l.map some ++ List.replicate n none)[i]? = some (some x) ↔ l[i]? = some x := by
  by_cases h : i < l.length
  · rw [List.getElem?_append_left (by simpa using h), List.getElem?_map]
    cases l[i]? <;> simp
  · rw [List.getElem?_append_right (by simpa using h), List.getElem?_eq_none (by omega : l.length ≤ i)]
    simp only [List.getElem?_replicate]
    constructor
    · intro e; split at e <;> simp at e
    · intro e; cases e
/-- a def's body begins -/
theorem Sat.start {C H : Hp} {φ : Nat → List Addr} {io : List Bool} {vs : List V} {args : List OT} {n : Nat} (S : Sat K pin0 C φ (vs.map some) H (args.map some)) (ao : argsOk io args) : Sat K (pinOf io vs) C φ (vs.map some ++ List.replicate n none) H (args.map some ++ List.replicate n none) := by
  have hl : args.length = vs.length := by simpa using S.len
  refine ⟨S.le, by simp [hl], fun i t e => ?_, fun i e => ?_, S.dis, S.sep, fun i a h => ?_⟩
  · have e := pad_get.mp e
    obtain ⟨v, e1, o⟩ := S.slot i t (by rw [List.getElem?_map, e]; rfl)
    refine ⟨v, pad_get.mpr ?_, o⟩
    rw [List.getElem?_map] at e1
    cases q : vs[i]? with
    | none => rw [q] at e1; cases e1
    | some u => rw [q] at e1; simpa using e1
  · refine S.emp i (.inr ?_)
    by_cases h : i < args.length
    · rw [List.getElem?_append_left (by simpa using h), List.getElem?_map, List.getElem?_eq_getElem h] at e
      rcases e with e | e <;> simp at e
    · exact List.getElem?_eq_none (by simpa using h)
  · unfold pinOf at h
    split at h
    · split at h
      · rename_i b eb
        cases h
        exact pad_get.mpr eb
      · cases h
    · cases h
/-- a changed parameter is an object -/
theorem pin_of {C H : Hp} {φ : Nat → List Addr} {io : List Bool} {vs : List V} {args : List OT} (S : Sat K pin0 C φ (vs.map some) H (args.map some)) (ao : argsOk io args) {i : Nat} (h : io[i]? = some true) : ∃ a, vs[i]? = some (.ref a) ∧ pinOf io vs i = some a := by
  obtain ⟨l, g⟩ := args_io ao
  have hi : i < args.length := by
    rw [← l]
    by_cases z : i < io.length
    · exact z
    · rw [List.getElem?_eq_none (by omega)] at h; cases h
  have ei : args[i]? = some args[i] := List.getElem?_eq_getElem hi
  have ow : isOwn args[i] = true := by
    have := g i _ ei
    rw [h] at this
    simpa using this.symm
  obtain ⟨v, e1, o⟩ := S.slot i args[i] (by rw [List.getElem?_map, ei]; rfl)
  have ev : vs[i]? = some v := by
    rw [List.getElem?_map] at e1
    cases q : vs[i]? with
    | none => rw [q] at e1; cases e1
    | some u => rw [q] at e1; simpa using e1
  have : ∃ a, v = .ref a := by
    cases ht : args[i] with
    | sh d => rw [ht] at ow; cases ow
    | lst ds => rw [ht] at o; obtain ⟨a, _, e, _⟩ := o; exact ⟨a, e⟩
    | dic ds => rw [ht] at o; obtain ⟨a, _, e, _⟩ := o; exact ⟨a, e⟩
  obtain ⟨a, rfl⟩ := this
  exact ⟨a, ev, by unfold pinOf; rw [if_pos h, ev]⟩
/-- .. and ends -/
theorem Sat.finish {C C' H H' : Hp} {φ φ' : Nat → List Addr} {io : List Bool} {vs : List V} {args outs : List OT} {σ : L2.St} {env : Env} (S : Sat K pin0 C φ (vs.map some) H (args.map some)) (ao : argsOk io args) (S' : Sat K (pinOf io vs) C' φ' σ H' env) (h : outsAt env (ioIx 0 io) = some outs) :
    ∃ φ2, Sat K pin0 C' φ2 (vs.map some) H' (outEnv io outs) ∧ ∀ a, In φ2 a → In φ' a := by
  obtain ⟨l, g⟩ := outs_at io 0 env outs h
  have hl : args.length = vs.length := by simpa using S.len
  have hl2 := (args_io ao).1
  refine ⟨fun i => if io[i]? = some true then φ' i else [], ⟨S'.le, by rw [l]; simp [hl2, hl], fun i t e => ?_, fun i e => ?_, fun i j a h1 h2 => ?_, fun i a h => ?_, fun _ _ h => nomatch h⟩, fun a ⟨i, h⟩ => ?_⟩
  · obtain ⟨g1, g2⟩ := g i t e
    obtain ⟨a, ev, ep⟩ := pin_of S ao g1
    obtain ⟨v, e1, o⟩ := S'.slot i t (by simpa using g2)
    have e2 := S'.pin i a ep
    rw [e1] at e2
    cases e2
    exact ⟨_, by rw [List.getElem?_map, ev]; rfl, by rw [if_pos g1]; exact o⟩
  · split
    · rename_i g1
      exfalso
      -- the place of a changed parameter holds what it became
      have key : ∀ (io : List Bool) (k : Nat) (env : Env) (outs : List OT), outsAt env (ioIx k io) = some outs → ∀ (i : Nat), io[i]? = some true → ∃ t, (outEnv io outs)[i]? = some (some t) := by
        intro io
        induction io with
        | nil => intro k env outs h i hi; simp at hi
        | cons b bs ih =>
          intro k env outs h i hi
          cases b with
          | true =>
            simp only [ioIx, outsAt] at h
            split at h
            · rename_i t ts e1 e2
              cases h
              cases i with
              | zero => exact ⟨t, rfl⟩
              | succ i =>
                obtain ⟨t', e'⟩ := ih (k + 1) env ts e2 i (by simpa using hi)
                exact ⟨t', by simpa [outEnv] using e'⟩
            · cases h
          | false =>
            simp only [ioIx] at h
            cases i with
            | zero => simp at hi
            | succ i =>
              obtain ⟨t', e'⟩ := ih (k + 1) env outs h i (by simpa using hi)
              exact ⟨t', by simpa [outEnv] using e'⟩
      obtain ⟨t, et⟩ := key io 0 env outs h i g1
      rw [et] at e
      rcases e with e | e <;> cases e
    · rfl
  · split at h1
    · split at h2
      · exact S'.dis i j a h1 h2
      · simp at h2
    · simp at h1
  · split at h
    · exact S'.sep i a h
    · simp at h
  · have h : a ∈ (if io[i]? = some true then φ' i else []) := h
    split at h
    · exact ⟨i, h⟩
    · simp at h

theorem fn_ok {x qual : Str} {st : Stmt} {f : Addr} {fd : FuncData} {N ps : List Str} {k : Nat} {Γ : Ctx} {io : List Bool} {body : Sm} (F : Fun K x qual st f fd) (S : FnScope N ps (defScope st)) (hio : io.length = ps.length) (hN : ps.length ≤ N.length)
    (M : Mods K mg Γ.gl) (Fs : ∀ g con, Γ.fn g = some con → FnOf P w K mg base k g con)
    (cs : CS ⟨defScope st, N, fun _ => true⟩ (.ss (defBody st)) body) : FnOk P w K mg base CX0 (k + 1) f fd ps (spC K ⟨io, wpF Γ ⟨io, N.length, body⟩⟩) := by
  refine F.ok S (fun vs H Q E h => by rw [h.1]; exact hio) (fun cdv A outer s H vs Q E hr h => ?_)
  obtain ⟨hl, C, φ, args, Qc, ao, Sa, run, kk⟩ := h
  have hl : vs.length = io.length := hl
  have ao : argsOk io args := ao
  obtain ⟨_, run⟩ := run
  have la : args.length = vs.length := by simpa using Sa.len
  let Z : Zt := { K := K, Γ := { Γ with io := ioIx 0 io }, pin := pinOf io vs }
  have G : Good Z ⟨defScope st, N, fun _ => true⟩ (cxOf CX0 P w K mg base N qual (defScope st) f cdv A outer s H E).nox := by
    refine ⟨rfl, rfl, rfl, S.nd, rfl, ?_, fun _ _ => .inl rfl, M.bi, M.gl, fun g con hg => ?_, fun j hj => ?_⟩
    · have := hr.un
      show (A.deeper (PyProof.Rows.envOfC qual (defScope st) s.heap.objs.size f cdv)).units + 65 < cLine
      omega
    · obtain ⟨a, fd, ps, h1, h2, h3, h4⟩ := (Fs g con hg).ex
      exact ⟨a, fd, ps, k, h1, h2, hr, h3, h4⟩
    · show pinOf io vs j = none
      unfold pinOf
      rw [if_neg]
      intro h
      exact hj ((ioIx_mem io 0 j).mpr ⟨Nat.zero_le _, by simpa using h⟩)
  refine ⟨RS Z body, cs_ok S.kind cs _ G PassesOwn.never (fun _ _ h => by cases h), C, φ, _, _, ?_, run, ?_⟩
  · have e : L2.start N vs = vs.map some ++ List.replicate (N.length - args.length) none := by unfold L2.start; rw [la]
    rw [e]
    exact Sa.start ao
  · have fin : ∀ r env' C' φ' ψ σ' H' v, (∃ outs, outsAt env' (ioIx 0 io) = some outs ∧ Qc r outs) → Stp C (In φ) H C' (fun a => In φ' a ∨ a ∈ ψ) H' → Sat K (pinOf io vs) C' φ' σ' H' env' → ResAt K C' φ' ψ H' v r → Q v H' := fun r env' C' φ' ψ σ' H' v q st S' R => by
      obtain ⟨outs, ho, q⟩ := q
      obtain ⟨φ2, S2, sub⟩ := Sa.finish ao S' ho
      exact kk r outs C' φ2 ψ H' v q (st.mono (fun _ h => h) fun a h => h.imp (sub a) id) S2 ⟨R.own, fun a h => ⟨(R.sep a h).1, (R.sep a h).2.1, fun z => (R.sep a h).2.2 (sub a z)⟩⟩
    refine ⟨fun env' C' φ' σ' H' q st S' => ?_, fun r env' C' φ' ψ σ' H' v q st S' R => fin r env' C' φ' ψ σ' H' v q st S' R, fun _ _ _ _ _ q => q.elim, fun _ _ _ _ _ q => q.elim, fun _ _ h => by cases h⟩
    exact fin (.sh .none) env' C' φ' [] σ' H' .non q st.with S' (ResAt.sh (by simp only [Rep]))
/-- where a def raises: no argument is changed, one of the known classes leaves, with a number -/
def spX (K : PySem.W.Frag) (xc : Str → Option (Addr × Str)) (n : Nat) (run : List OT → (Str → Option (Int → Prop)) → Prop) : Sp := fun vs H Q E => vs.length = n ∧ ∃ C φ args ex, argsOk (List.replicate n false) args ∧ Sat K pin0 C φ (vs.map some) H (args.map some) ∧ run args ex ∧
  ∀ c k, ex c = some k → ∃ x, xc c = some x ∧ ∀ i C' H', k i → Stp C (In φ) H C' (fun _ => False) H' → Le C' H' → ∀ dd, H' dd = none → E (.ref x.1) (some dd) (upd H' dd (.xd [(x.2, .int i)]))
def wpX (Γ : Ctx) (n m : Nat) (body : Sm) (args : List OT) (ex : Str → Option (Int → Prop)) : Prop :=
  wpS { Γ with io := [] } body (args.map some ++ List.replicate (m - n) none) { nx := fun _ => False, rt := fun _ _ => False, ex := fun c => (ex c).map fun k i _ => k i }
theorem ioIx_rep : ∀ (n k : Nat), ioIx k (List.replicate n false) = []
  | 0, _ => rfl
  | n + 1, k => by rw [List.replicate_succ, ioIx, ioIx_rep n (k + 1)]
theorem fn_okX {x qual : Str} {st : Stmt} {f : Addr} {fd : FuncData} {N ps : List Str} {k : Nat} {Γ : Ctx} {body : Sm} {xc : Str → Option (Addr × Str)} (F : Fun K x qual st f fd) (S : FnScope N ps (defScope st)) (hN : ps.length ≤ N.length)
    (M : Mods K mg Γ.gl) (Fs : ∀ g con, Γ.fn g = some con → FnOf P w K mg base k g con)
    (hx : ∀ c x, xc c = some x → ∃ (fI : Addr) (pre : Str), PySem.XP.Txt P K mg c x.2 pre x.1 fI ∧ (x.2 == ("self" : Str)) = false ∧ (x.2 == ("__debug__" : Str)) = false ∧ pre.length ≤ 1000)
    (cs : CS ⟨defScope st, N, fun _ => true⟩ (.ss (defBody st)) body) : FnOk P w K mg base (L2.CX P w) (k + 1) f fd ps (spX K xc ps.length (wpX Γ ps.length N.length body)) := by
  refine F.okX S (fun vs H Q E h => h.1) (fun cdv A outer s H vs Q E hr h => ?_)
  obtain ⟨hl, C, φ, args, ex, ao, Sa, run, kk⟩ := h
  have la : args.length = vs.length := by simpa using Sa.len
  let Z : Zt := ⟨K, { Γ with io := [] }, pinOf (List.replicate ps.length false) vs, xc, fun cls d _ H => E cls d H⟩
  have G : Good Z ⟨defScope st, N, fun _ => true⟩ (cxOf (L2.CX P w) P w K mg base N qual (defScope st) f cdv A outer s H E) := by
    refine ⟨rfl, rfl, rfl, S.nd, rfl, ?_, fun _ _ => .inl rfl, M.bi, M.gl, fun g con hg => ?_, fun j hj => ?_⟩
    · have := hr.un
      show (A.deeper (PyProof.Rows.envOfC qual (defScope st) s.heap.objs.size f cdv)).units + 65 < cLine
      omega
    · obtain ⟨a, fd, ps, h1, h2, h3, h4⟩ := (Fs g con hg).ex
      exact ⟨a, fd, ps, k, h1, h2, hr, h3, h4⟩
    · show pinOf (List.replicate ps.length false) vs j = none
      unfold pinOf
      rw [if_neg]
      intro h
      rw [List.getElem?_replicate] at h
      split at h <;> cases h
  have tk : Takes (cxOf (L2.CX P w) P w K mg base N qual (defScope st) f cdv A outer s H E) (fun cls d _ H => E cls d H) := takes_of rfl rfl rfl rfl
  refine ⟨RS Z body, cs_ok S.kind cs _ G (passes_of rfl) (fun c x h => ?_), C, φ, _, _, ?_, run, ?_⟩
  · obtain ⟨fI, pre, T, h1, h2, h3⟩ := hx c x h
    exact ⟨tk, fI, pre, k, T, h1, h2, h3, hr⟩
  · have e : L2.start N vs = vs.map some ++ List.replicate (N.length - ps.length) none := by unfold L2.start; rw [hl]
    rw [e]
    have e2 := Sa.start (n := N.length - ps.length) ao
    exact e2
  · refine ⟨fun _ _ _ _ _ q => q.elim, fun _ _ _ _ _ _ _ _ q => q.elim, fun _ _ _ _ _ q => q.elim, fun _ _ _ _ _ q => q.elim, fun c g hg => ?_⟩
    have hg : (ex c).map (fun k i _ => k i) = some g := hg
    rw [Option.map_eq_some_iff] at hg
    obtain ⟨k0, hk0, rfl⟩ := hg
    obtain ⟨x, ex', hh⟩ := kk c k0 hk0
    exact ⟨x, ex', fun i env' C' φ' σ' H' q st S' dd hd => hh i C' H' q (st.mono (fun _ h => h) fun _ h => h.elim) S'.le dd hd⟩
end
end TW
end
section
set_option Elab.async false
set_option linter.all false
set_option maxRecDepth 100000
set_option maxHeartbeats 2000000
/-! TW16: the compiler as a function that brings its own proof -/
namespace TW
open PySem L2
/-- a name's slot -/
def ixB (N : List Str) (x : Str) : Option { i : Nat // N[i]? = some x } :=
  let i := N.idxOf x
  if h : N[i]? = some x then some ⟨i, h⟩ else none
def isEq {α : Type} [DecidableEq α] (a b : α) : Option (PLift (a = b)) := if h : a = b then some ⟨h⟩ else none
abbrev RE1 (cc : CC) (e : Expr) := { x : Ex // CE cc (.e e) (.e x) }
abbrev REs (cc : CC) (es : List Expr) := { x : List Ex // CE cc (.es es) (.es x) }
abbrev RFs (cc : CC) (es : List Expr) := { x : List Ex // CE cc (.fs es) (.fs x) }
abbrev RIt (cc : CC) (e : Expr) := { x : Ex // CE cc (.it e) (.it x) }
abbrev RTg (cc : CC) (e : Expr) := { x : Tg // CE cc (.tg e) (.tg x) }
abbrev RTgs (cc : CC) (es : List Expr) := { x : List Nat // CE cc (.tgs es) (.tgs x) }
def meOf (x : Str) : Option { m : Me // x = meN m } :=
  if h : x = meN .split then some ⟨.split, h⟩ else if h : x = meN .join then some ⟨.join, h⟩ else if h : x = meN .index then some ⟨.index, h⟩ else none
def muOf (x : Str) : Option { m : Mu // x = muN m ∧ m ≠ .pop } :=
  if h : x = muN .append then some ⟨.append, h, by decide⟩ else if h : x = muN .popAt then some ⟨.popAt, h, by decide⟩ else if h : x = muN .extend then some ⟨.extend, h, by decide⟩ else if h : x = muN .insert then some ⟨.insert, h, by decide⟩ else none
def biOf' (x : Str) : Option { b : Bi // x = biN b ∧ biN b ∈ bltNames } :=
  let go (b : Bi) : Option { b : Bi // x = biN b ∧ biN b ∈ bltNames } := if h : x = biN b ∧ biN b ∈ bltNames then some ⟨b, h⟩ else none
  (go .len).or ((go .int).or ((go .str).or ((go .ord).or ((go .repr).or ((go .all).or ((go .any).or ((go .list).or (go .tuple))))))))
def tyOf' (x : Str) : Option { t : Ty // x = Str.ofString (tyN t) } :=
  let go (t : Ty) : Option { t : Ty // x = Str.ofString (tyN t) } := if h : x = Str.ofString (tyN t) then some ⟨t, h⟩ else none
  (go .int).or ((go .str).or ((go .bool).or ((go .list).or ((go .tuple).or (go .dict)))))
def cTgs (cc : CC) : (es : List Expr) → Option (RTgs cc es)
  | [] => some ⟨[], .tgs0⟩
  | .Name x p :: es => do
    let ⟨i, hi⟩ ← ixB cc.N x
    let ⟨is, h⟩ ← cTgs cc es
    if h1 : locB cc.sc x = true ∧ cc.st x = true then some ⟨i :: is, .tgs h1.1 h1.2 hi h⟩ else none
  | _ => none
def cTg (cc : CC) : (e : Expr) → Option (RTg cc e)
  | .Name x p => do
    let ⟨i, hi⟩ ← ixB cc.N x
    if h1 : locB cc.sc x = true ∧ cc.st x = true then some ⟨.name i, .tgn h1.1 h1.2 hi⟩ else none
  | .Tuple es k p => do
    let ⟨is, h⟩ ← cTgs cc es
    some ⟨.tup is, .tgt h⟩
  | _ => none
/-- the own names of a comprehension's block -/
def ownOf (N : List Str) (scope : Scope) : List (Str × Nat) := scope.names.filterMap fun (x, k) => match k with
  | .local => (ixB N x).map fun i => (x, i.1)
  | .cell => (ixB N x).map fun i => (x, i.1)
  | _ => none
mutual
def cE : (n : Nat) → (cc : CC) → (e : Expr) → Option (RE1 cc e)
  | 0, _, _ => none
  | n + 1, cc, .Name x p =>
    if h : okN x = true then
      if h2 : visB cc.sc x = true then do
        let ⟨i, hi⟩ ← ixB cc.N x
        some ⟨.var i, .var h h2 hi⟩
      else if h2 : glB cc.sc x = true then some ⟨.glo x, .glo h h2⟩ else none
    else none
  | n + 1, cc, .Constant (.int i) j p => some ⟨.cst (.int i), .int⟩
  | n + 1, cc, .Constant (.str i) j p => some ⟨.cst (.str i), .str⟩
  | n + 1, cc, .Constant (.bool i) j p => some ⟨.cst (.bool i), .bl⟩
  | n + 1, cc, .Constant .none j p => some ⟨.cst .none, .non⟩
  | n + 1, cc, .BinOp a op b p => match ho : opB op with
    | some o => do
      let ⟨a', ha⟩ ← cE n cc a
      let ⟨b', hb⟩ ← cE n cc b
      some ⟨.op2 o a' b', .bin ho ha hb⟩
    | none => none
  | n + 1, cc, .UnaryOp .Not a p => do
    let ⟨a', ha⟩ ← cE n cc a
    if h : isIf a = false then some ⟨.not a', .not h ha⟩ else none
  | n + 1, cc, .UnaryOp .USub a p => do
    let ⟨a', ha⟩ ← cE n cc a
    some ⟨.neg a', .neg ha⟩
  | n + 1, cc, .BoolOp .And [a] p => do
    let ⟨a', ha⟩ ← cE n cc a
    if h : isIf a = false then some ⟨a', .and1 h ha⟩ else none
  | n + 1, cc, .BoolOp .Or [a] p => do
    let ⟨a', ha⟩ ← cE n cc a
    if h : isIf a = false then some ⟨a', .or1 h ha⟩ else none
  | n + 1, cc, .BoolOp .And (a :: b :: r) p => do
    let ⟨a', ha⟩ ← cE n cc a
    let ⟨b', hb⟩ ← cE n cc (.BoolOp .And (b :: r) p)
    if h : isIf a = false then some ⟨.and a' b', .and h ha hb⟩ else none
  | n + 1, cc, .BoolOp .Or (a :: b :: r) p => do
    let ⟨a', ha⟩ ← cE n cc a
    let ⟨b', hb⟩ ← cE n cc (.BoolOp .Or (b :: r) p)
    if h : isIf a = false then some ⟨.or a' b', .or h ha hb⟩ else none
  | n + 1, cc, .IfExp c a b p => do
    let ⟨c', hc⟩ ← cE n cc c
    let ⟨a', ha⟩ ← cE n cc a
    let ⟨b', hb⟩ ← cE n cc b
    if h : isIf c = false then some ⟨.ife c' a' b', .ife h hc ha hb⟩ else none
  | n + 1, cc, .Compare a [op] [b] p => match ho : cmpB op with
    | some o => do
      let ⟨a', ha⟩ ← cE n cc a
      let ⟨b', hb⟩ ← cE n cc b
      if h : behindInMarks op b = false then some ⟨.op2 o a' b', .cmp ho h ha hb⟩ else none
    | none => none
  | n + 1, cc, .Compare a [op, op'] [b, c] p => match ho : cmpB op, ho' : cmpB op' with
    | some o, some o' => do
      let ⟨a', ha⟩ ← cE n cc a
      let ⟨b', hb⟩ ← cE n cc b
      let ⟨c', hc⟩ ← cE n cc c
      if h : lastMarks [op, op'] [b, c] = false then some ⟨.chain o o' a' b' c', .chain ho ho' h ha hb hc⟩ else none
    | _, _ => none
  | n + 1, cc, .Subscript a (.Slice (some l) (some h) none p2) p => do
    let ⟨a', ha⟩ ← cE n cc a
    let ⟨l', hl⟩ ← cE n cc l
    let ⟨h', hh⟩ ← cE n cc h
    some ⟨.slc a' l' h', .slc ha hl hh⟩
  | n + 1, cc, .Subscript a (.Slice (some l) none none p2) p => do
    let ⟨a', ha⟩ ← cE n cc a
    let ⟨l', hl⟩ ← cE n cc l
    some ⟨.slcL a' l', .slcL ha hl⟩
  | n + 1, cc, .Subscript a (.Slice none (some h) none p2) p => do
    let ⟨a', ha⟩ ← cE n cc a
    let ⟨h', hh⟩ ← cE n cc h
    some ⟨.slcH a' h', .slcH ha hh⟩
  | n + 1, cc, .Subscript a b p => do
    let ⟨a', ha⟩ ← cE n cc a
    let ⟨b', hb⟩ ← cE n cc b
    if h : isSlice b = false then some ⟨.idx a' b', .idx h ha hb⟩ else none
  | n + 1, cc, .JoinedStr [.FormattedValue a (-1) (some (.JoinedStr [.Constant (.str x) j p1] p2)) p3] p => do
    let ⟨a', ha⟩ ← cE n cc a
    if h : x = spec04 then some ⟨.fmt 4 a', by rw [h]; exact .fmt ha⟩ else none
  | n + 1, cc, .JoinedStr (v1 :: v2 :: rest) p => do
    let ⟨es', h⟩ ← cFs n cc (v1 :: v2 :: rest)
    some ⟨.fst es', .fst h⟩
  | n + 1, cc, .Tuple es k p => do
    let ⟨es', h⟩ ← cEs n cc es
    some ⟨.tup es', .tup h⟩
  | n + 1, cc, .List es p => do
    let ⟨es', h⟩ ← cEs n cc es
    some ⟨.lst es', .lst h⟩
  | n + 1, cc, .Call (.Name f p) [] [] p2 =>
    if h : okN f = true ∧ glB cc.sc f = true then some ⟨.call f [], .call0 h.1 h.2⟩ else none
  | n + 1, cc, .Call (.Name f p) (e :: es) [] p2 =>
    match biOf' f with
    | some ⟨b, hb⟩ => do
      let ⟨es', h⟩ ← cEs n cc (e :: es)
      if hg : glB cc.sc (biN b) = true then some ⟨.bi b es', by rw [hb.1]; exact .bi hg hb.2 h⟩ else none
    | none =>
      if hf : f = "isinstance" then match es with
        | [.Name t p3] => match tyOf' t with
          | some ⟨ty, ht⟩ => do
            let ⟨a', ha⟩ ← cE n cc e
            if hg : glB cc.sc "isinstance" = true ∧ glB cc.sc (tyN ty) = true then some ⟨.isi a' ty, by rw [hf, ht]; exact .isi hg.1 hg.2 ha⟩ else none
          | none => none
        | _ => none
      else do
        let ⟨es', h⟩ ← cEs n cc (e :: es)
        if hg : okN f = true ∧ glB cc.sc f = true then some ⟨.call f es', .call hg.1 hg.2 h⟩ else none
  | n + 1, cc, .Call (.Attribute (.Name x p0) m p) [] [] p2 => do
    let ⟨i, hi⟩ ← ixB cc.N x
    if h : (okN x = true ∧ visB cc.sc x = true) ∧ (p.endLine == p2.line) = true ∧ m = "pop" then some ⟨.mu .pop i [], by rw [h.2.2]; exact .pop h.1.1 h.1.2 hi h.2.1⟩ else none
  | n + 1, cc, .Call (.Attribute o m p) (e :: es) [] p2 =>
    match meOf m with
    | some ⟨me, hm⟩ => do
      let ⟨o', ho⟩ ← cE n cc o
      let ⟨es', h⟩ ← cEs n cc (e :: es)
      if hh : isSuper o = false ∧ (p.endLine == p2.line) = true ∧ (e :: es).length < 30 then some ⟨.me me o' es', by rw [hm]; exact .me hh.1 hh.2.1 hh.2.2 ho h⟩ else none
    | none => match muOf m, o with
      | some ⟨mu, hm⟩, .Name x p0 => do
        let ⟨i, hi⟩ ← ixB cc.N x
        let ⟨es', h⟩ ← cEs n cc (e :: es)
        if hh : (okN x = true ∧ visB cc.sc x = true) ∧ (p.endLine == p2.line) = true ∧ (e :: es).length < 30 then some ⟨.mu mu i es', by rw [hm.1]; exact .mu hh.1.1 hh.1.2 hi hm.2 hh.2.1 hh.2.2 h⟩ else none
      | _, _ => none
  | n + 1, cc, .ListComp elt [⟨tg, iter, [], 0⟩] scope p => do
    let ⟨it', hi⟩ ← cI n cc iter
    let ⟨tg', ht⟩ ← cTg (blkCC cc scope) tg
    let ⟨e', he⟩ ← cE n (blkCC cc scope) elt
    if h : enOk it' tg = true ∧ blkC cc.N cc.sc scope (ownOf cc.N scope) = true ∧ ∀ i ∈ tgIx tg', i ∈ (ownOf cc.N scope).map (·.2) then some ⟨.lc e' tg' it' [] ((ownOf cc.N scope).map (·.2)), .lc h.1 h.2.1 h.2.2 hi ht he⟩ else none
  | n + 1, cc, .ListComp elt [⟨tg, iter, [c], 0⟩] scope p => do
    let ⟨it', hi⟩ ← cI n cc iter
    let ⟨tg', ht⟩ ← cTg (blkCC cc scope) tg
    let ⟨c', hc⟩ ← cE n (blkCC cc scope) c
    let ⟨e', he⟩ ← cE n (blkCC cc scope) elt
    if h : (enOk it' tg = true ∧ blkC cc.N cc.sc scope (ownOf cc.N scope) = true) ∧ (∀ i ∈ tgIx tg', i ∈ (ownOf cc.N scope).map (·.2)) ∧ isIf c = false then some ⟨.lc e' tg' it' [c'] ((ownOf cc.N scope).map (·.2)), .lci h.1.1 h.1.2 h.2.1 hi ht h.2.2 hc he⟩ else none
  | _, _, _ => none
def cFs : (n : Nat) → (cc : CC) → (es : List Expr) → Option (RFs cc es)
  | 0, _, _ => none
  | n + 1, cc, [] => some ⟨[], .fs0⟩
  | n + 1, cc, .Constant (.str x) j p :: es => do
    let ⟨es', h⟩ ← cFs n cc es
    some ⟨.cst (.str x) :: es', .fsC h⟩
  | n + 1, cc, .FormattedValue a (-1) none p :: es => do
    let ⟨a', ha⟩ ← cE n cc a
    let ⟨es', h⟩ ← cFs n cc es
    some ⟨.bi .str [a'] :: es', .fsV ha h⟩
  | n + 1, cc, _ => none
def cEs : (n : Nat) → (cc : CC) → (es : List Expr) → Option (REs cc es)
  | 0, _, _ => none
  | n + 1, cc, [] => some ⟨[], .nil⟩
  | n + 1, cc, e :: es => do
    let ⟨e', h⟩ ← cE n cc e
    let ⟨es', hs⟩ ← cEs n cc es
    some ⟨e' :: es', .cons h hs⟩
def cI : (n : Nat) → (cc : CC) → (e : Expr) → Option (RIt cc e)
  | 0, _, _ => none
  | n + 1, cc, .Call (.Name f p) [a] [] p2 =>
    if hf : f = "range" then do
      let ⟨es', h⟩ ← cEs n cc [a]
      if hg : glB cc.sc "range" = true then some ⟨.it .rng1 es', by rw [hf]; exact .rng1 hg h⟩ else none
    else if hf : f = "enumerate" then do
      let ⟨es', h⟩ ← cEs n cc [a]
      if hg : glB cc.sc "enumerate" = true then some ⟨.it .enum es', by rw [hf]; exact .enum hg h⟩ else none
    else do
      let ⟨e', h⟩ ← cE n cc (.Call (.Name f p) [a] [] p2)
      some ⟨.it .seq [e'], .seq h⟩
  | n + 1, cc, .Call (.Name f p) [a, b] [] p2 =>
    if hf : f = "range" then do
      let ⟨es', h⟩ ← cEs n cc [a, b]
      if hg : glB cc.sc "range" = true then some ⟨.it .rng2 es', by rw [hf]; exact .rng2 hg h⟩ else none
    else do
      let ⟨e', h⟩ ← cE n cc (.Call (.Name f p) [a, b] [] p2)
      some ⟨.it .seq [e'], .seq h⟩
  | n + 1, cc, e => do
    let ⟨e', h⟩ ← cE n cc e
    some ⟨.it .seq [e'], .seq h⟩
end
end TW
end
section
set_option Elab.async false
set_option linter.all false
set_option maxRecDepth 100000
set_option maxHeartbeats 2000000
/-! TW17: the compiler of statements -/
namespace TW
open PySem L2
abbrev RS1 (cc : CC) (s : Stmt) := { x : Sm // CS cc (.s s) x }
abbrev RSs (cc : CC) (s : List Stmt) := { x : Sm // CS cc (.ss s) x }
mutual
def cS : (n : Nat) → (cc : CC) → (s : Stmt) → Option (RS1 cc s)
  | 0, _, _ => none
  | n + 1, cc, .Assign [.Name x p] e p2 => do
    let ⟨i, hi⟩ ← ixB cc.N x
    let ⟨e', he⟩ ← cE 60 cc e
    if h : locB cc.sc x = true ∧ cc.st x = true then
      if h2 : isSD e = false ∧ swapOn cc x p e = false then some ⟨.asg i e', .asg h.1 h.2 hi h2.1 h2.2 he⟩
      else if h2 : isLc e = true ∧ swapOn cc x p e = true then some ⟨.asg i e', .asgL h.1 h.2 hi h2.1 h2.2 he⟩ else none
    else none
  | n + 1, cc, .Assign [.Tuple [.Name x px, .Name y py] kt pt] (.Tuple [a, b] k2 pt2) p2 => do
    let ⟨i, hi⟩ ← ixB cc.N x
    let ⟨j, hj⟩ ← ixB cc.N y
    let ⟨a', ha⟩ ← cE 60 cc a
    let ⟨b', hb⟩ ← cE 60 cc b
    if h : (localB cc.sc x = true ∧ localB cc.sc y = true) ∧ i ≠ j ∧ (x == y) = false ∧ (px.line == py.line) = true ∧ (noStar a = true ∧ noStar b = true) ∧ (foldedForSure 8 a && foldedForSure 8 b) = false ∧ (constantsAlone 8 a && constantsAlone 8 b) = false then
      some ⟨.par i j a' b', .par h.1.1 h.1.2 hi hj h.2.1 h.2.2.1 h.2.2.2.1 h.2.2.2.2.1.1 h.2.2.2.2.1.2 h.2.2.2.2.2.1 h.2.2.2.2.2.2 ha hb⟩
    else none
  | n + 1, cc, .Assign [.Tuple ts k p] e p2 => do
    let ⟨is, ht⟩ ← cTgs cc ts
    let ⟨e', he⟩ ← cE 60 cc e
    if h : isTupE e = false then some ⟨.unp is e', .unp (.tgt ht) h he⟩ else none
  | n + 1, cc, .Assign [.Subscript (.Name x p0) k p] e p2 => do
    let ⟨i, hi⟩ ← ixB cc.N x
    let ⟨k', hk⟩ ← cE 60 cc k
    let ⟨e', he⟩ ← cE 60 cc e
    if h : (okN x = true ∧ visB cc.sc x = true) ∧ isSlice k = false ∧ isTupE e = false then some ⟨.seti i k' e', .seti h.1.1 h.1.2 hi h.2.1 h.2.2 hk he⟩ else none
  | n + 1, cc, .AugAssign (.Name x p) .Add e p2 => do
    let ⟨i, hi⟩ ← ixB cc.N x
    let ⟨e', he⟩ ← cE 60 cc e
    if h : locB cc.sc x = true ∧ cc.st x = true then some ⟨.aug i .add e', .augA h.1 h.2 hi he⟩ else none
  | n + 1, cc, .AugAssign (.Name x p) .Sub e p2 => do
    let ⟨i, hi⟩ ← ixB cc.N x
    let ⟨e', he⟩ ← cE 60 cc e
    if h : locB cc.sc x = true ∧ cc.st x = true then some ⟨.aug i .sub e', .augS h.1 h.2 hi he⟩ else none
  | n + 1, cc, .Expr e p => do
    let ⟨e', he⟩ ← cE 60 cc e
    if h : isComp e = false then some ⟨.exp e', .exp h he⟩ else none
  | n + 1, cc, .Return (some e) p => do
    let ⟨e', he⟩ ← cE 60 cc e
    some ⟨.ret e', .ret he⟩
  | n + 1, cc, .Return none p => some ⟨.retN, .retN⟩
  | n + 1, cc, .If c a b p => do
    let ⟨c', hc⟩ ← cE 60 cc c
    let ⟨a', ha⟩ ← cSs n cc a
    let ⟨b', hb⟩ ← cSs n cc b
    if h : isIf c = false then some ⟨.ife c' a' b', .ife h hc ha hb⟩ else none
  | n + 1, cc, .For tg it b [] p => do
    let ⟨tg', ht⟩ ← cTg cc tg
    let ⟨it', hi⟩ ← cI 60 cc it
    let ⟨b', hb⟩ ← cSs n cc b
    if h : enOk it' tg = true then some ⟨.for tg' it' b', .for h ht hi hb⟩ else none
  | n + 1, cc, .While c b [] p => do
    let ⟨c', hc⟩ ← cE 60 cc c
    let ⟨b', hb⟩ ← cSs n cc b
    if h : isIf c = false then some ⟨.whl c' b', .whl h hc hb⟩ else none
  | n + 1, cc, .Raise (some (.Call (.Name cn p) [e] [] pos)) none pos2 =>
    match cEs 60 cc [e] with
    | some ⟨[e'], he⟩ => if h : okN cn = true ∧ glB cc.sc cn = true then some ⟨.rai cn e', .rai h.1 h.2 he⟩ else some ⟨.bad, .bad⟩
    | _ => some ⟨.bad, .bad⟩
  | n + 1, cc, .Raise e c p => some ⟨.bad, .bad⟩
  | n + 1, cc, .Break p => some ⟨.brk, .brk⟩
  | n + 1, cc, .Continue p => some ⟨.cnt, .cnt⟩
  | n + 1, cc, .Pass p => some ⟨.skip, .pass⟩
  | _, _, _ => none
def cSs : (n : Nat) → (cc : CC) → (s : List Stmt) → Option (RSs cc s)
  | 0, _, _ => none
  | n + 1, cc, [] => some ⟨.skip, .nil⟩
  | n + 1, cc, s :: ss => do
    let ⟨s', h⟩ ← cS n cc s
    let ⟨ss', hs⟩ ← cSs n cc ss
    some ⟨.seq s' ss', .cons h hs⟩
end
theorem cs_of {n : Nat} {cc : CC} {s : List Stmt} {b : Sm} (h : (cSs n cc s).map (·.1) = some b) : CS cc (.ss s) b := by
  rw [Option.map_eq_some_iff] at h
  obtain ⟨x, _, rfl⟩ := h
  exact x.2
/-- a def's body in the small syntax (nothing, where it has none) -/
def bodyOf (N : List Str) (st : Stmt) : Sm := ((cSs 200 ⟨defScope st, N, fun _ => true⟩ (defBody st)).map (·.1)).getD .skip
end TW
end
section
set_option Elab.async false
set_option linter.all false
set_option maxRecDepth 100000
set_option maxHeartbeats 2000000
/-! TW18: defs by their promises; a def of two written replaces -/
namespace TW
open PySem L2 PySem.Spec
section
variable {P : Program} {w : World} {K : PySem.W.Frag} {mg : Str → Option Value} {base : Heap}

theorem spC_imp {con con' : Con} (hio : con.io = con'.io) (h : ∀ args Q, con'.run args Q → con.run args Q) {vs : List V} {H : Hp} {Q : VK} {E : XK} (q : spC K con' vs H Q E) : spC K con vs H Q E := by
  obtain ⟨hl, C, φ, args, Qc, ao, S, run, k⟩ := q
  exact ⟨by rw [hio]; exact hl, C, φ, args, Qc, by rw [hio]; exact ao, S, h _ _ run, by rw [hio]; exact k⟩
/-- a def by its promise -/
theorem FnOf.of_def {x : Str} {st : Stmt} {f : Addr} {fd : FuncData} {N ps : List Str} {k : Nat} {Γ : Ctx} {con : Con} {body : Sm} (F : Fun K x x st f fd) (hmg : mg x = some (.ref f)) (S : FnScope N ps (defScope st)) (hio : con.io.length = ps.length) (hN : ps.length ≤ N.length)
    (b : Binds K fd ps []) (M : Mods K mg Γ.gl) (Fs : ∀ g con, Γ.fn g = some con → FnOf P w K mg base k g con)
    (cs : CS ⟨defScope st, N, fun _ => true⟩ (.ss (defBody st)) body) (h : ∀ args Q, con.run args Q → wpF Γ ⟨con.io, N.length, body⟩ args Q) : FnOf P w K mg base (k + 1) x con := by
  refine ⟨f, fd, ps, hmg, ?_, F.kp, b⟩
  exact (fn_ok F S hio hN M Fs cs).imp fun vs H Q E q => spC_imp (con := ⟨con.io, wpF Γ ⟨con.io, N.length, body⟩⟩) (con' := con) rfl h q

/-- def f(text): return text.replace(y, z).replace(u, v) -/
def conR2 (y z u v : Str) : Con := ⟨[false], fun args Q => ∃ x, args = [.sh (.str x)] ∧ x.length ≤ 100000 ∧ Q (.sh (.str (Txt.replace (Txt.replace x y z) u v))) []⟩
theorem FnOf.repl2 {x a : Str} {st : Stmt} {f : Addr} {fd : FuncData} {y z u v : Str} {j1 j2 j3 j4 : Nat} {p p0 c1 c2 c3 c4 ap1 ap2 cp1 cp2 : Pos} (F : Fun K x x st f fd) (hmg : mg x = some (.ref f)) (S : FnScope [a] [a] (defScope st)) (b : Binds K fd [a] [])
    (hnc : ∀ y ∈ (defScope st).names, y.2 ≠ .cell) (hv : (defScope st).names.lookup a = some .local) (ha : okN a = true)
    (hb : defBody st = [.Return (some (.Call (.Attribute (.Call (.Attribute (.Name a p0) "replace" ap1) [.Constant (.str y) j1 c1, .Constant (.str z) j2 c2] [] cp1) "replace" ap2) [.Constant (.str u) j3 c3, .Constant (.str v) j4 c4] [] cp2)) p])
    (h1 : (y == z) = false) (h2 : (u == v) = false) (l1 : (ap1.endLine == cp1.line) = true) (l2 : (ap2.endLine == cp2.line) = true) (z1 : z.length ≤ 2) (z2 : v.length ≤ 2) : FnOf P w K mg base 1 x (conR2 y z u v) := by
  obtain ⟨oc, od, kV, doc, pm, an, cdv, ct, osl, rfl, lk, hcd⟩ := F.ex
  refine ⟨f, _, [a], hmg, ?_, F.kp, b⟩
  refine fn_ofT lk hcd S hnc (Nat.le_refl 1) (fun vs H Q E q => q.1) fun A outer s H vs Q E hr q => ?_
  obtain ⟨hl, C, φ, args, Qc, ao, Sa, ⟨t, rfl, ht, run⟩, k⟩ := q
  obtain ⟨w0, e0, o⟩ := Sa.slot 0 (.sh (.str t)) rfl
  have e1 : vs = [.str t] := by
    match vs, hl with
    | [c], _ =>
      have hc : c = w0 := by simpa using e0
      subst hc
      have : c = .str t := by simpa [Own, Rep] using o.2
      rw [this]
  subst e1
  have hq : Q (.str (Txt.replace (Txt.replace t y z) u v)) H := by
    refine k _ [] C (fun _ => []) [] H _ run ?_ ?_ (ResAt.sh (by simp only [Rep]))
    · exact ⟨Le.refl _, fun _ _ h _ => h, fun a h => h.elim (fun ⟨i, h⟩ => by simp at h) fun h => by simp at h, fun a h => .inl h⟩
    · refine ⟨Sa.le, rfl, fun i t e => ?_, fun _ _ => rfl, fun i j a h => by simp at h, fun i a h => by simp at h, fun i a h => by simp [pin0] at h⟩
      match i, e with
      | 0, e => simp [outEnv, conR2] at e
      | i + 1, e => simp [outEnv, conR2] at e
  have hlen := TK.replace_len t y z
  refine ⟨_, by rw [hb]; exact CwR.psst_one (CwR.pst_ret (CwR.pet_replT (CwR.pet_replC (pe_var (i := 0) rfl (.inl hv) (ok_of ha).1 (ok_of ha).2) h1 rfl rfl l1) h2 rfl rfl l2)), ?_⟩
  refine ⟨_, rfl, t, rfl, ?_, _, rfl, ?_, hq⟩
  · have : (t.length + 1) * z.length ≤ (t.length + 1) * 2 := Nat.mul_le_mul_left _ z1
    omega
  · have e2 : (t.length + 1) * z.length ≤ (t.length + 1) * 2 := Nat.mul_le_mul_left _ z1
    have e3 : ((Txt.replace t y z).length + 1) * v.length ≤ ((Txt.replace t y z).length + 1) * 2 := Nat.mul_le_mul_left _ z2
    omega
end
end TW
end
section
set_option Elab.async false
set_option linter.all false
set_option maxRecDepth 100000
set_option maxHeartbeats 2000000
/-! TW19: a law's end -/
namespace TW
open PySem L2 PySem.Spec
/-- a def's own thing in the written part -/
structure DefIn (K : PySem.W.Frag) (mg : Str → Option Value) (x : Str) (st : Stmt) : Prop where
  ex : ∃ (f : Addr) (fd : FuncData), Fun K x x st f fd ∧ mg x = some (.ref f)
theorem DefIn.mk' {K : PySem.W.Frag} {h : Heap} {mg : Str → Option Value} {x : Str} {st : Stmt} (X : K.In h) (G : h.Ns mainGlobals mg) {f : Addr} {od an : Option Addr} {sl : Array (Option Value)} {oc kV dc pm cd ct : Value}
    (a : PySem.W.nsIn K mainGlobals x = some (some (.ref f))) (l : K.lookup f = some ⟨oc, od, .func (PySem.W.fnOf x x (defArgs st) (defBody st) (defScope st) .none kV dc pm an cd ct), sl⟩) (c : PySem.W.codeIn K cd x = true) (k : PySem.W.keepIn K (.ref f) = true) : DefIn K mg x st :=
  ⟨f, _, fun_mk (st := st) l c k, PySem.W.mg_of X G a⟩
/-- a constant of the module -/
theorem mgAt {α : Type} {K : PySem.W.Frag} {h : Heap} {mg : Str → Option Value} {x : Str} {v : Value} {u : α → Value} (X : K.In h) (G : h.Ns mainGlobals mg) (e : PySem.W.nsIn K mainGlobals x = some (some v)) (c : ∃ t, v = u t) : ∃ t, mg x = some (u t) :=
  c.imp fun t z => by rw [← z]; exact PySem.W.mg_of X G e
/-- how its arguments bind -/
def BindA (x : Str) (st : Stmt) (ps : List Str) : Prop := ∀ (kV doc pm : Value) (an : Option Addr) (cdv ct : Value) (us : List Value), us.length = ps.length → bindArgs (PySem.W.fnOf x x (defArgs st) (defBody st) (defScope st) .none kV doc pm an cdv ct) ⟨us, []⟩ = pure (ps.zip us)
section
variable {P : Program} {w : World} {K : PySem.W.Frag} {mg : Str → Option Value} {base : Heap}
theorem FnOf.of_in {x : Str} {st : Stmt} {N ps : List Str} {k : Nat} {Γ : Ctx} {con : Con} {body : Sm} (D : DefIn K mg x st) (S : FnScope N ps (defScope st)) (b : BindA x st ps) (hio : con.io.length = ps.length) (hN : ps.length ≤ N.length)
    (M : Mods K mg Γ.gl) (Fs : ∀ g con, Γ.fn g = some con → FnOf P w K mg base k g con)
    (cs : CS ⟨defScope st, N, fun _ => true⟩ (.ss (defBody st)) body) (h : ∀ args Q, con.run args Q → wpF Γ ⟨con.io, N.length, body⟩ args Q) : FnOf P w K mg base (k + 1) x con := by
  obtain ⟨f, fd, F, hmg⟩ := D.ex
  exact FnOf.of_def F hmg S hio hN (F.binds b) M Fs cs h
/-- the names in reach of a def, each with its promise -/
def tbl (l : List (Str × Con)) : Str → Option Con := fun g => l.lookup g
theorem tbl_nil {P w K mg base k} : ∀ g con, tbl [] g = some con → FnOf P w K mg base k g con := fun g con h => by cases h
theorem tbl_cons {P w K mg base k} {x : Str} {c : Con} {l : List (Str × Con)} (h : FnOf P w K mg base k x c) (r : ∀ g con, tbl l g = some con → FnOf P w K mg base k g con) : ∀ g con, tbl ((x, c) :: l) g = some con → FnOf P w K mg base k g con := fun g con e => by
  unfold tbl at e
  rw [List.lookup_cons] at e
  split at e
  · rename_i he
    cases e
    have : g = x := by simpa using he
    rw [this]
    exact h
  · exact r g con e
end
/-- what a law promises -/
def conLaw : Con := ⟨[false], fun args Q => ∃ ns : List Int, ns.length ≤ 63 ∧ args = [.sh (.list (ns.map .int))] ∧ Q (.sh (.bool true)) []⟩
theorem repL_ints {K : PySem.W.Frag} {C : Hp} : ∀ ns : List Int, RepL K C (ns.map .int) (ns.map V.int)
  | [] => by simp only [List.map_nil, RepL]
  | n :: ns => by
    simp only [List.map_cons, RepL]
    exact ⟨.int n, ns.map V.int, rfl, by simp only [Rep], repL_ints ns⟩
theorem spLaw_ok (K : PySem.W.Frag) (H : Hp) (a : Addr) (ns : List Int) (hl : ns.length ≤ 63) (hS : SqL K H a (ns.map V.int)) : spC K conLaw [.ref a] H (fun v _ => v = .bl true) fun _ _ _ => False := by
  refine ⟨rfl, H, fun _ => [], [.sh (.list (ns.map .int))], fun r _ => r = .sh (.bool true), ⟨rfl, trivial⟩, ?_, ⟨ns, hl, rfl, rfl⟩, ?_⟩
  · refine ⟨Le.refl _, rfl, fun i t e => ?_, fun _ _ => rfl, fun i j a h => by simp at h, fun i a h => by simp at h, fun i a h => by simp [pin0] at h⟩
    match i, e with
    | 0, e =>
      cases e
      exact ⟨.ref a, rfl, rfl, by simp only [Rep]; exact ⟨a, _, rfl, hS, repL_ints ns⟩⟩
    | i + 1, e => cases e
  · rintro r outs C' φ' ψ H' v rfl _ _ R
    obtain ⟨e, rp⟩ := R.own
    simp only [Rep] at rp
    exact rp
theorem law_walk {l : PySem.W.OpenLaw} {k : Nat} {q : Program} {loose : List Str} {XP : (Str → Option Value) → Heap → Prop} {YP : World → Heap → Prop} {d : DefRec} {K : Params → PySem.W.Frag} {st : Stmt}
    (hn : l.most = some 63) (hdf : d.params.defaults = []) (hr : Room k callerA) (hY : ∀ (w : World) (h : Heap), YP w h → (K w.params).In h)
    (b : BindA d.name st ["script"])
    (F : ∀ (w : World) (mg : Str → Option Value) (h : Heap), (K w.params).In h → h.Ns mainGlobals mg → DefIn (K w.params) mg d.name st ∧
      ∀ (f : Addr) (fd : FuncData), Fun (K w.params) d.name d.name st f fd → ∀ base : Heap, FnOk l.prog w (K w.params) mg base CX0 k f fd ["script"] (spC (K w.params) conLaw)) :
    PySem.W.WalkO q loose XP YP l.row.toRowW d [] (fun f vs => PySem.call f vs) := by
  refine walk_ofK (n := 63) (k := k) (x := "script") (CX := CX0) (sp := fun K => spC K conLaw) hn (by decide) hdf hr hY ?_ (fun K H a ns hl _ hS => spLaw_ok K H a ns hl hS) fun _ _ _ _ z => z
  intro w mg fa h X G hfa
  obtain ⟨D, F⟩ := F w mg h X G
  obtain ⟨f, fd, Fd, hmg⟩ := D.ex
  rw [hfa] at hmg
  cases hmg
  refine ⟨fd, fun s v => ?_, fun base _ _ => F _ _ Fd base⟩
  obtain ⟨oc, od, kV, doc, pm, an, cdv, ct, osl, rfl, _, _⟩ := Fd.ex
  exact .of_eq (b kV doc pm an cdv ct [v] rfl)
end TW
end
section
set_option Elab.async false
set_option linter.all false
set_option maxRecDepth 100000
set_option maxHeartbeats 4000000
/-! EX2: try: return (c, g(x)) / except R as e: return (c, e.f) if isinstance(e, C) else (c, 0) -/
namespace PySem.XP
open PySem PySem.W PySem.Spec PySem.Calls PyProof.Rows
theorem findObj_bound {K : Frag} {C : Addr} {od : Option Obj} {n : Str} {a g : Value} (hc : (clsIn K C).isSome = true) (ha : findIn K (.ref C) n = some (some a)) (hg : specialIn K a "__get__" = some (some g)) (ht : takesIn K a = some true) : findObj K C od n = some (.bind g a) := by
  obtain ⟨cd, hc⟩ := Option.isSome_iff_exists.mp hc
  simp only [findObj, hc, ha, hg, ht, Option.bind_some]
section
variable {P : Program} {w : World} {A : Around} {E : Value → Shared → Prop} {s : Shared} {K : Frag} {x D : Addr} {ox : Obj} {od : Option Obj}
/-- e.__class__ of an exception that has a dict -/
theorem class_of_exc {Q : Option Value → Shared → Prop} (T : L2.ExcC K D) (X : K.In s.heap) (I : InstAt s.heap x ox D od) (h : Q (some (.ref D)) { s with toks := s.toks + 1 }) : wpAny (model P w) A (getAttr? (.ref x) "__class__") Q E s := by
  have hf : findObj K D od "__class__" = some (.bind (.builtin "getset_descriptor.__get__") (.builtin "object.__class__")) := findObj_bound (by obtain ⟨cd, hc, _⟩ := any_some T.hd; rw [hc]; rfl) T.ha T.hn T.ht
  obtain ⟨hp, g, d, t, os⟩ := s
  have L0 := I.type (M := model P w); have L1 := looks_findIn (M := model P w) X T.hg
  have L2' := looks_findIn (M := model P w) X T.hk; have L3 := looks_find (M := model P w) X I hf
  have sub : Looks (model P w) hp (isInstance (.ref x) (.type "BaseException")) true := L0.andThen (looks_subIn X T.hs)
  have z2 : (Value.builtin "BaseException.__getattribute__" == Value.builtin "object.__getattribute__") = false := by decide +kernel
  have z1 : (onTheHeap (Value.ref D) && Value.builtin "BaseException.__getattribute__" == Value.builtin "object.__getattribute__") = false := by rw [z2]; rfl
  unfold getAttr? getAttrBy? getAttrBy; refine wpAny_bind ?_
  refine wpAny_mkText (wpAny_bind (wpAny_attempt (wpAny_holding ?_)))
  refine wpAny_bind (L0.at (wpAny_bind (L1.at ?_)))
  show wpAny _ _ (if (onTheHeap (.ref D) && Value.builtin "BaseException.__getattribute__" == .builtin "object.__getattribute__") = true then _ else _) _ _ _
  rw [z1, if_neg (by decide)]; unfold getAttrByItsOwn hookBefore
  refine wpAny_bind ?_; rw [if_pos (show onTheHeap (.ref D) = true from rfl)]
  refine L2'.at (wpAny_bind (wpAny_attempt (wpAny_holding ?_)))
  unfold callGetattribute; rw [show (false && onTheHeap (.builtin "BaseException.__getattribute__")) = false from rfl, if_neg (by decide)]
  unfold boundAndCalled; rw [PySem.F.excAttr_ValueError.ga.bind (.ref x)]; refine wpAny_bind (wpAny_pure ?_)
  show wpAny _ _ (call (.builtin "BaseException.__getattribute__") [.ref x, Value.str "__class__" t]) _ _ _
  refine wpAny_call (codeAny_call_builtin F.excAttr_ValueError.ga.plain F.entry_bexc_ga ?_)
  refine @check_slot (model P w) _ _ ⟨hp, g, d, t + 1, os⟩ "BaseException.__getattribute__" "BaseException" "__getattribute__" (.ref x) [.str "__class__" t] [] _ (by decide +kernel) (by decide +kernel) sub (F.args_bexc_ga (.ref x) (.str "__class__" t)) ?_
  unfold Builtin.«object.__getattribute__»; refine wpAny_bind (wpAny_of_eq (a := ((Value.ref x : Value), [Value.str "__class__" t])) (by first | rfl | (simp only [slotArgs]; rfl)) ?_)
  refine wpAny_bind (wpAny_pure (wpAny_bind (L0.at (wpAny_bind (L3.at ?_)))))
  show wpAny _ _ (holding [Value.builtin "object.__class__"] (call (.builtin "getset_descriptor.__get__") [.builtin "object.__class__", .ref x, Value.ref D]) >>= ret) _ _ _
  refine wpAny_bind (wpAny_holding (wpAny_call (class_get (s := ⟨hp, g, d, t + 1, os⟩) (ox := ox) (od := od) X I T.hm ?_)))
  refine wpAny_pure ?_; show wpAny _ _ (handedOut (.ref D)) _ _ _
  rw [handedOut_of (v := .ref D) rfl]
  first
    | exact wpAny_pure (wpAny_pure h)
    | exact wpAny_pure h
    | exact wpAny_pure (wpAny_bind (wpAny_pure (wpAny_pure h)))
theorem kit_excD (T : L2.ExcC K D) : KitX K (.ref x) (.ref D) (fun h => ∃ od, InstAt h x ox D od) where
  ty := fun _ _ _ ⟨_, I⟩ => I.type
  it := fun _ _ X _ => by
    obtain ⟨cdD, hcD, _⟩ := any_some T.hd; unfold clsIn at hcD; split at hcD
    · rename_i c' d' cd' sl' ho; intro A' Q' E' s' k q
      unfold isType loadHead; exact wpAny_bind (wpAny_loadPart (k _ _ (X _ _ ho)) (wpAny_pure q))
    · cases hcD
  ne := fun h tp dd its n sl X htp => by
    obtain ⟨cdD, hcD, _⟩ := any_some T.hd
    refine Bool.eq_false_iff.mpr fun q => ?_
    obtain rfl : D = tp := Value.ref.inj (beq_iff_eq.mp q)
    unfold clsIn at hcD; split at hcD
    · rename_i c' d' cd' sl' ho; cases (X _ _ ho).symm.trans htp
    · cases hcD
  ca := fun X ⟨_, I⟩ k => class_of_exc T X I k
end
end PySem.XP
namespace L2
open PySem PySem.Spec PyProof.Rows
/-- isinstance(e, c), e the exception that the suite holds, its dict at dd -/
def rIsD (K : PySem.W.Frag) (D a dd : Addr) : List V → Hp → VK → Prop := fun xs H Q => ∃ (c : V) (cv : Value) (b : Bool) (fs : List (Str × V)), xs = [.ref a, c] ∧ H dd = some (.xd fs) ∧ (∀ u, RelV c u → u = cv) ∧ PySem.W.kitOne K (.ref D) cv = some b ∧ Q (.bl b) H
theorem call_isD {X : Cx} {a D dd : Addr} {oe : Obj} {pn : List (Addr × Obj)} (T : ExcC X.K D) (hz : Zc (.ref D) (some dd) oe) (hf : ∃ vs, oe.data = .fields vs) : CallR (X.suite a ((a, oe) :: pn)) (.builtin "isinstance") (rIsD X.K D a dd) := by
  intro pins s σ H xs us Q I r h
  obtain ⟨c, cv, b, fs, rfl, hd, hcv, e, q⟩ := h
  match r with
  | .cons rx (.cons rt .nil) =>
    cases rx
    obtain rfl := hcv _ rt
    obtain ⟨hget, _⟩ := I.pin (a, oe) (List.mem_append_left _ List.mem_cons_self)
    obtain ⟨vs, hv⟩ := hf
    have hxd : ObjOk X.prog X.w H s.heap dd (.xd fs) := I.hok dd _ hd
    obtain ⟨mA, hns, hr⟩ := hxd
    obtain ⟨o2, es, ep, ho2, _⟩ := hns
    have J : ∃ od, PySem.W.InstAt s.heap a oe D od := ⟨some o2, hget, hz.1, by unfold PySem.W.notCls; rw [hv] <;> rfl, by rw [hz.2]; exact ho2⟩
    exact PySem.W.kia_one (PySem.XP.kit_excD T) I.kIn J e (fun z => nomatch z) fun tk => ⟨.bl b, H, I.kept (t' := tk) fun _ _ z => z, rfl, q⟩
end L2
namespace TW
open PySem L2 PySem.Spec PyProof.Rows
section
variable {P : Program} {w : World} {K : PySem.W.Frag} {mg : Str → Option Value} {base : Heap}
/-- a def whose body is one try: either the body runs through, or the call in it raises the class at aC with the number j -/
theorem FnOf.tryT {x g a n RE C fld s1 s2 pg : Str} {st : Stmt} {tb : List Stmt} {e3 : Expr} {np p1 p2 p3 p4 p5 p6 p7 p8 p9 p10 hp tp q1 q2 q3 q4 q5 q6 : Pos} {j1 j2 k1 k2 : Nat} {k : Nat} {Γ : Ctx} {con : Con} {body : Sm} {aR aC : Addr}
    {runX : List OT → (Str → Option (Int → Prop)) → Prop}
    (DI : DefIn K mg x st) (S : FnScope [a, n] [a] (defScope st)) (b : BindA x st [a]) (hio : con.io = [false])
    (hbd : defBody st = [.Try tb [.ExceptHandler (some (.Name RE np)) (some n) [.Return (some (.IfExp (.Call (.Name "isinstance" p1) [.Name n p2, .Name C p3] [] p4) (.Tuple [.Constant (.str s2) j1 p5, .Attribute (.Name n p6) fld p7] k1 p8) e3 p9)) p10] hp] [] [] tp])
    (htb : tb = [.Return (some (.Tuple [.Constant (.str s1) j2 q1, .Call (.Name g q2) [.Name a q3] [] q4] k2 q5)) q6])
    (cs : CS ⟨defScope st, [a, n], fun _ => true⟩ (.ss tb) body) (M : Mods K mg Γ.gl) (Fs : ∀ g con, Γ.fn g = some con → FnOf P w K mg base k g con)
    (la : (defScope st).names.lookup a = some .local) (ln : (defScope st).names.lookup n = some .local) (lg : (defScope st).names.lookup g = some .globalImplicit) (lR : (defScope st).names.lookup RE = some .globalImplicit) (lC : (defScope st).names.lookup C = some .globalImplicit)
    (li : (defScope st).names.lookup ("isinstance" : Str) = some .globalImplicit) (oa : okN a = true) (on : okN n = true) (og : okN g = true) (oR : okN RE = true) (oC : okN C = true)
    (hR : mg RE = some (.ref aR)) (exR : PySem.W.exmOne K (.ref aC) (.ref aR) = some true) (hC : mg C = some (.ref aC)) (TX : ExcC K aC) (XF : XfC K aC) (noF : PySem.W.findIn K (.ref aC) fld = some none)
    (FG : ∃ (fG : Addr) (fdG : FuncData), mg g = some (.ref fG) ∧ FnOk P w K mg base (L2.CX P w) k fG fdG [pg] (spX K (fun c => if c = C then some (aC, fld) else none) 1 runX) ∧ PySem.W.keepIn K (.ref fG) = true ∧ Binds K fdG [pg] [])
    (h : ∀ args Q, con.run args Q → wpF Γ ⟨[false], 2, body⟩ args Q ∨ ∃ d j, args = [.sh d] ∧ runX args (fun c => if c = C then some (fun i => i = j) else none) ∧ Q (.sh (.tuple [.str s2, .int j])) []) :
    FnOf P w K mg base (k + 1) x con := by
  obtain ⟨f, fd, F, hmg⟩ := DI.ex
  refine ⟨f, fd, [a], hmg, ?_, F.kp, F.binds b⟩
  refine F.ok S (fun vs H Q E q => by rw [q.1, hio]; rfl) (fun cdv A outer s H vs Q E hr q => ?_)
  obtain ⟨hl, C0, φ, args, Qc, ao, Sa, run, kk⟩ := q
  have la' : args.length = vs.length := by simpa using Sa.len
  rw [hio] at hl ao
  have hl : vs.length = 1 := hl
  rcases h args Qc run with run | ⟨d, j, rfl, rX, qX⟩
  · -- it runs through
    let Z : Zt := { K := K, Γ := { Γ with io := [] }, pin := pinOf [false] vs }
    have G : Good Z ⟨defScope st, [a, n], fun _ => true⟩ (cxOf CX0 P w K mg base [a, n] x (defScope st) f cdv A outer s H E).nox := by
      refine ⟨rfl, rfl, rfl, S.nd, rfl, ?_, fun _ _ => .inl rfl, M.bi, M.gl, fun g con hg => ?_, fun j hj => ?_⟩
      · have := hr.un
        show (A.deeper (PyProof.Rows.envOfC x (defScope st) s.heap.objs.size f cdv)).units + 65 < cLine
        omega
      · obtain ⟨a, fd, ps, h1, h2, h3, h4⟩ := (Fs g con hg).ex
        exact ⟨a, fd, ps, k, h1, h2, hr, h3, h4⟩
      · show pinOf [false] vs j = none
        unfold pinOf
        rw [if_neg]
        intro h
        cases j <;> simp at h
    rw [hbd]
    refine ⟨RS Z body, pss_one (ps_try_thru0 (cs_ok S.kind cs _ G PassesOwn.never (fun _ _ h => by cases h))), C0, φ, _, _, ?_, run.2, ?_⟩
    · have e : L2.start [a, n] vs = vs.map some ++ List.replicate ([a, n].length - args.length) none := by unfold L2.start; rw [la']
      rw [e]
      exact Sa.start ao
    · have fin : ∀ r env' C' φ' ψ σ' H' v, (∃ outs, outsAt env' (ioIx 0 [false]) = some outs ∧ Qc r outs) → Stp C0 (In φ) H C' (fun a => In φ' a ∨ a ∈ ψ) H' → Sat K (pinOf [false] vs) C' φ' σ' H' env' → ResAt K C' φ' ψ H' v r → Q v H' := fun r env' C' φ' ψ σ' H' v q st S' R => by
        obtain ⟨outs, ho, q⟩ := q
        obtain ⟨φ2, S2, sub⟩ := Sa.finish ao S' ho
        rw [hio] at kk
        exact kk r outs C' φ2 ψ H' v q (st.mono (fun _ h => h) fun a h => h.imp (sub a) id) S2 ⟨R.own, fun a h => ⟨(R.sep a h).1, (R.sep a h).2.1, fun z => (R.sep a h).2.2 (sub a z)⟩⟩
      refine ⟨fun env' C' φ' σ' H' q st S' => ?_, fun r env' C' φ' ψ σ' H' v q st S' R => fin r env' C' φ' ψ σ' H' v q st S' R, fun _ _ _ _ _ q => q.elim, fun _ _ _ _ _ q => q.elim, fun _ _ h => by cases h⟩
      exact fin (.sh .none) env' C' φ' [] σ' H' .non q st.with S' (ResAt.sh (by simp only [Rep]))
  · -- it raises
    let X : Cx := (cxOf CX0 P w K mg base [a, n] x (defScope st) f cdv A outer s H E).nox
    obtain ⟨fG, fdG, gG, kG, keG, bG⟩ := FG
    let ex : Str → Option (Int → Prop) := fun c => if c = C then some (fun i => i = j) else none
    let tb2 : WX → TS := fun W => tRet (tTup (tCons (tC (.str s1)) (tCons (tCallS (spX K (fun c => if c = C then some (aC, fld) else none) 1 runX) (WE W) (tCons (tVar 0) tNil)) tNil)))
    let t0 : Addr → Addr → TS := fun a dd => tRet (tIf (tB (fun σ H Q => tCons (tVar 1) (tCons (tC (.ref aC)) tNil) σ H fun vs H1 => rIsD K aC a dd vs H1 Q)) (tTup (tCons (tC (.str s2)) (tCons (tXf a (.ref aC) (some dd) aC fld (tVar 1)) tNil))) fun _ _ _ => False)
    let ts : Addr → Value → Option Addr → TS := fun a cls d D σ H => ∃ dd, cls = .ref aC ∧ d = some dd ∧ t0 a dd D σ H
    have hbody : PSs X (defBody st) (fun D σ H => tb2 (wAs K (.ref aR) 1 ts (fun _ _ _ _ => False) D) D σ H) := by
      rw [hbd, htb]
      refine pss_one (ps_try_as (X := X) (i := 1) (c := .ref aR) (tb := tb2) (ts := ts) (Wout := fun _ _ _ _ => False) rfl rfl S.nd rfl ln ⟨lR, (ok_of oR).1, .inl hR⟩ takes0 (fun W pn xe tk _ => ?_) (fun a2 oe cls d pn hz hf => ?_))
      · exact pss_one (ps_ret (pe_tup (pa_cons pe_str (pa_cons (pe_callS kG hr lg gG keG bG (fun σ => passAt tk σ) (pa_cons (pe_var (i := 0) rfl (.inl la) (ok_of oa).1 (ok_of oa).2) pa_nil) (ok_of og).1) pa_nil))))
      · refine ⟨fun pins s σ H D I q => ?_⟩
        obtain ⟨dd, rfl, rfl, q⟩ := q
        have pn1 : ∀ p : Pos, PE (X.suite a2 ((a2, oe) :: pn)) (.Name n p) (tVar 1) := fun p => pe_var (i := 1) rfl (.inl ln) (ok_of on).1 (ok_of on).2
        have pc : ∀ p : Pos, PE (X.suite a2 ((a2, oe) :: pn)) (.Name C p) (tC (.ref aC)) := fun p => pe_glob lC hC rfl (ok_of oC).1
        have pis := pe_callB (call_isD (X := X) (pn := pn) TX hz hf) li (M.bi "isinstance" (by decide)) (by decide +kernel) (pa_cons (pn1 p2) (pa_cons (pc p3) pa_nil)) (p := p1) (pos := p4) (by decide) (by decide)
        have px := pe_xf (X := X) (pn := pn) (pos := p7) XF noF hz hf (pn1 p6)
        exact (pss_one (ps_ret (pe_ifExp (pt_val pis) (pe_tup (pa_cons pe_str (pa_cons px pa_nil))) pe_none))).run pins s σ H D I q
    refine ⟨_, hbody, ?_⟩
    match vs, hl with
    | [v], _ =>
      have kit : PySem.W.kitOne K (.ref aC) (.ref aC) = some true := by
        unfold PySem.W.kitOne
        rw [if_pos (by simp)]
      refine ⟨v, rfl, rfl, C0, φ, [.sh d], ex, ⟨rfl, trivial⟩, Sa, rX, fun c g hg => ?_⟩
      have hg : (if c = C then some (fun i => i = j) else none) = some g := hg
      by_cases hc : c = C
      · rw [if_pos hc] at hg
        have hg := Option.some.inj hg
        subst hg
        refine ⟨(aC, fld), if_pos hc, fun i C' H' hij st leC dd hdd => ?_⟩
        subst hij
        refine ⟨true, exR, fun _ a2 ha2 => ⟨dd, rfl, rfl, ?_⟩, fun z => by cases z⟩
        refine ⟨_, rfl, .ref aC, .ref aC, true, _, rfl, upd_same, fun u hu => hu, kit, true, rfl, ?_⟩
        refine ⟨_, rfl, rfl, rfl, dd, _, .int i, rfl, upd_same, by simp [List.lookup], (by show 2 ≤ sizeLine; decide), fun p hp => ?_⟩
        -- the pair that is handed out
        rw [hio] at kk
        have nd : p ≠ dd := by
          rintro rfl
          rw [upd_same] at hp
          cases hp
        have hp' : H' p = none := by rw [upd_ne nd] at hp; exact hp
        have cp : C' p = none := by
          cases e : C' p with
          | none => rfl
          | some o => rw [leC p o e] at hp'; cases hp'
        have l1 : Le C' (upd C' p (.tup [.str s2, .int i])) := fun b o e => by
          rw [upd_ne]
          · exact e
          · rintro rfl; rw [cp] at e; cases e
        have l2 : Le (upd C' p (.tup [.str s2, .int i])) (upd (upd H' dd (.xd [(fld, .int i)])) p (.tup [.str s2, .int i])) := fun b o e => by
          by_cases z : b = p
          · subst z; rw [upd_same] at e ⊢; exact e
          · rw [upd_ne z] at e ⊢
            rw [upd_ne]
            · exact leC b o e
            · rintro rfl; rw [leC _ o e] at hdd; cases hdd
        refine kk _ [] (upd C' p (.tup [.str s2, .int i])) (fun _ => []) [] _ _ qX ⟨st.le.trans l1, fun b o e nf => ?_, fun b hb => ?_, fun b hb => ?_⟩ ⟨l2, rfl, fun i t e => ?_, fun _ _ => rfl, fun i j a h => by simp at h, fun i a h => by simp at h, fun i a h => by simp [pin0] at h⟩ (ResAt.sh ?_)
        · have e' := st.keep b o e nf
          rw [upd_ne, upd_ne]
          · exact e'
          · rintro rfl; rw [e'] at hdd; cases hdd
          · rintro rfl; rw [e'] at hp'; cases hp'
        · rcases hb with ⟨_, hb⟩ | hb <;> simp at hb
        · by_cases z : b = p
          · subst z
            by_cases hf : In φ b
            · exact .inr (.inl hf)
            · refine .inr (.inr ?_)
              cases e : H b with
              | none => rfl
              | some o => rw [st.keep b o e hf] at hp'; cases hp'
          · rw [upd_ne z] at hb
            exact st.cn b hb
        · match i, e with
          | 0, e => simp [outEnv] at e
          | i + 1, e => simp [outEnv] at e
        · simp only [Rep]
          exact ⟨p, [.str s2, .int i], rfl, SqT.of upd_same, by simp only [RepL, Rep]; exact ⟨_, _, rfl, rfl, _, _, rfl, rfl, rfl⟩⟩
      · rw [if_neg hc] at hg
        cases hg
end
end TW
end
section
set_option Elab.async false
set_option linter.all false
set_option maxRecDepth 100000
set_option maxHeartbeats 2000000
/-! TW20: reckoning with the meaning on trees -/
namespace TW
open PySem L2
/-- a text by its signs -/
def mk (l : List Nat) : Str := ⟨l.toArray⟩
theorem mk_cps (l : List Nat) : (mk l).cps = l.toArray := rfl
theorem mk_list (l : List Nat) : (mk l).cps.toList = l := by simp [mk]
theorem mk_of (x : Str) : x = mk x.cps.toList := by cases x; simp [mk]
theorem mk_len (l : List Nat) : (mk l).length = l.length := by simp [mk, Str.length]
theorem mk_app (a b : List Nat) : mk a ++ mk b = mk (a ++ b) := by
  apply Str.ext'
  rw [Str.cps_append]
  simp [mk]
theorem mk_inj {a b : List Nat} : mk a = mk b ↔ a = b := ⟨fun h => by simpa [mk] using congrArg (fun x : Str => x.cps.toList) h, fun h => by rw [h]⟩
theorem mk_one (c : Nat) : (⟨#[c]⟩ : Str) = mk [c] := rfl
theorem chars_mk (l : List Nat) : chars (mk l) = l.map fun c => .str (mk [c]) := by unfold chars; rw [mk_list]; rfl
theorem getD_one (c : Nat) : (mk [c]).cps.getD 0 0 = c := rfl

/-! ### one step at a time: only on values that are known -/
theorem frz_sh (d : D) : (OT.sh d).frz = d := rfl
theorem frz_lst (xs : List D) : (OT.lst xs).frz = .list xs := rfl
theorem own_sh (d : D) : isOwn (.sh d) = false := rfl
theorem own_lst (xs : List D) : isOwn (.lst xs) = true := rfl
def resO : Option (Option OT) → Option D
  | some (some t) => some t.frz
  | _ => none
theorem resO_some (t : OT) : resO (some (some t)) = some t.frz := rfl
theorem res_va (d : D) (env : Env) : (Opd.va d).res env = some d := rfl
theorem res_pl (i : Nat) (env : Env) : (Opd.pl i).res env = resO env[i]? := by
  unfold resO
  simp only [Opd.res]
  all_goals rfl
theorem resL_nil (env : Env) : resL env [] = some [] := rfl
def consO : Option D → Option (List D) → Option (List D)
  | some d, some ds => some (d :: ds)
  | _, _ => none
theorem consO_some (d : D) (ds : List D) : consO (some d) (some ds) = some (d :: ds) := rfl
theorem resL_cons (env : Env) (o : Opd) (os : List Opd) : resL env (o :: os) = consO (o.res env) (resL env os) := by
  unfold consO
  simp only [resL]
  all_goals rfl
def digs (i : Int) : List Nat := (Str.ofString (toString i)).cps.toList
section
variable (i j : Int) (x y : Str) (xs ys : List D) (Q : KO) (d : D) (b : Bool)
theorem add_int : op2 .add (.int i) (.int j) Q = Q (.sh (.int (i + j))) := rfl
theorem add_str : op2 .add (.str x) (.str y) Q = (x.length + y.length ≤ sizeLine ∧ Q (.sh (.str (x ++ y)))) := rfl
theorem add_list : op2 .add (.list xs) (.list ys) Q = (xs.length + ys.length ≤ sizeLine ∧ Q (.lst (xs ++ ys))) := rfl
theorem add_tuple : op2 .add (.tuple xs) (.tuple ys) Q = (xs.length + ys.length ≤ sizeLine ∧ Q (.sh (.tuple (xs ++ ys)))) := rfl
theorem sub_int : op2 .sub (.int i) (.int j) Q = Q (.sh (.int (i - j))) := rfl
theorem mul_int : op2 .mul (.int i) (.int j) Q = (CMul i j ∧ Q (.sh (.int (i * j)))) := rfl
theorem fdiv_int : op2 .fdiv (.int i) (.int j) Q = (CDiv i j ∧ Q (.sh (.int (i / j)))) := rfl
theorem mod_int : op2 .mod (.int i) (.int j) Q = (0 < j ∧ Q (.sh (.int (i % j)))) := rfl
theorem pow_int : op2 .pow (.int i) (.int j) Q = (CPow i j ∧ Q (.sh (.int (i ^ j.toNat)))) := rfl
theorem lt_int : op2 .lt (.int i) (.int j) Q = Q (.sh (.bool (decide (i < j)))) := rfl
theorem le_int : op2 .le (.int i) (.int j) Q = Q (.sh (.bool (decide (i ≤ j)))) := rfl
theorem gt_int : op2 .gt (.int i) (.int j) Q = Q (.sh (.bool (decide (j < i)))) := rfl
theorem ge_int : op2 .ge (.int i) (.int j) Q = Q (.sh (.bool (decide (j ≤ i)))) := rfl
theorem eq_int : op2 .eq (.int i) (.int j) Q = Q (.sh (.bool (i == j))) := by
  show (_ ∧ _ ∧ Q (.sh (.bool (PyData.eqv (.int i) (.int j))))) = _
  rw [eq_iff_iff]
  exact ⟨fun h => by simpa only [PyData.eqv] using h.2.2, fun h => ⟨rfl, rfl, by simpa only [PyData.eqv] using h⟩⟩
theorem ne_int : op2 .ne (.int i) (.int j) Q = Q (.sh (.bool (!(i == j)))) := by
  show (_ ∧ _ ∧ Q (.sh (.bool (!PyData.eqv (.int i) (.int j))))) = _
  rw [eq_iff_iff]
  exact ⟨fun h => by simpa only [PyData.eqv] using h.2.2, fun h => ⟨rfl, rfl, by simpa only [PyData.eqv] using h⟩⟩
/-- the signs that a text may have -/
def okT (l : List Nat) : Bool := l.all (· < 0x110000)
theorem shaped_str (l : List Nat) : SeqAt.shaped (.str (mk l)) = okT l := by
  unfold SeqAt.shaped okT
  simp [PyData.canLay0, PyData.strOk, PyData.depth, mk]
theorem eq_mk (a b : List Nat) : (mk a == mk b) = decide (a = b) := by
  rw [Bool.eq_iff_iff]
  simp [mk_inj]
theorem eq_str (a b : List Nat) : op2 .eq (.str (mk a)) (.str (mk b)) Q = (okT a = true ∧ okT b = true ∧ Q (.sh (.bool (decide (a = b))))) := by
  show (SeqAt.shaped _ = true ∧ SeqAt.shaped _ = true ∧ Q (.sh (.bool (PyData.eqv _ _)))) = _
  rw [shaped_str, shaped_str, PyData.eqv, eq_mk]
theorem ne_str (a b : List Nat) : op2 .ne (.str (mk a)) (.str (mk b)) Q = (okT a = true ∧ okT b = true ∧ Q (.sh (.bool (!decide (a = b))))) := by
  show (SeqAt.shaped _ = true ∧ SeqAt.shaped _ = true ∧ Q (.sh (.bool (!PyData.eqv _ _)))) = _
  rw [shaped_str, shaped_str, PyData.eqv, eq_mk]
theorem strIn_one (c : Nat) (l : List Nat) : strIn (mk [c]) (mk l) = decide (c ∈ l) := by
  have h := StrLaws.found_one (mk l) c
  rw [mk_list] at h
  exact h
theorem in_str1 (c : Nat) (l : List Nat) : op2 .isIn (.str (mk [c])) (.str (mk l)) Q = Q (.sh (.bool (decide (c ∈ l)))) := by
  show Q (.sh (.bool (strIn _ _))) = _
  rw [strIn_one]
theorem nin_str1 (c : Nat) (l : List Nat) : op2 .notIn (.str (mk [c])) (.str (mk l)) Q = Q (.sh (.bool (!decide (c ∈ l)))) := by
  show Q (.sh (.bool (!strIn _ _))) = _
  rw [strIn_one]
theorem is_none : op2 .is d .none Q = Q (.sh (.bool (isNon d))) := rfl
theorem isnot_none : op2 .isNot d .none Q = Q (.sh (.bool (!isNon d))) := rfl
theorem is_bool : op2 .is d (.bool b) Q = Q (.sh (.bool (isBool b d))) := rfl
theorem len_list : biS .len [.list xs] Q = Q (.sh (.int xs.length)) := rfl
theorem len_tuple : biS .len [.tuple xs] Q = Q (.sh (.int xs.length)) := rfl
theorem len_str : biS .len [.str x] Q = (x.length ≤ sizeLine ∧ Q (.sh (.int x.length))) := rfl
theorem int_int : biS .int [.int i] Q = Q (.sh (.int i)) := rfl
theorem int_str : biS .int [.str x] Q = (x.length ≤ 640 ∧ ∃ n, intText? x = some n ∧ Q (.sh (.int n))) := rfl
/-- a number's text -/
theorem str_int : biS .str [.int i] Q = (i.natAbs.log2 < 1920 ∧ Q (.sh (.str (mk (digs i))))) := by
  show (_ ∧ Q (.sh (.str (Str.ofString (toString i))))) = _
  rw [show Str.ofString (toString i) = mk (digs i) from mk_of _]
theorem str_str : biS .str [.str x] Q = Q (.sh (.str x)) := rfl
theorem ord_str (c : Nat) : biS .ord [.str (mk [c])] Q = Q (.sh (.int c)) := by
  show (_ ∧ _) = _
  rw [eq_iff_iff]
  exact ⟨fun h => h.2, fun h => ⟨rfl, h⟩⟩
theorem repr_int : biS .repr [.int i] Q = (i.natAbs.log2 < 1920 ∧ Q (.sh (.str (mk (digs i))))) := by
  show (_ ∧ Q (.sh (.str (Str.ofString (toString i))))) = _
  rw [show Str.ofString (toString i) = mk (digs i) from mk_of _]
theorem in_tuple : op2 .isIn d (.tuple xs) Q = (SeqAt.shaped d = true ∧ SeqAt.shaped (.tuple xs) = true ∧ Q (.sh (.bool (xs.any fun z => PyData.eqv z d)))) := by cases d <;> rfl
theorem nin_tuple : op2 .notIn d (.tuple xs) Q = (SeqAt.shaped d = true ∧ SeqAt.shaped (.tuple xs) = true ∧ Q (.sh (.bool (!xs.any fun z => PyData.eqv z d)))) := by cases d <;> rfl
theorem repr_str : biS .repr [.str x] Q = ((reprText x).length ≤ sizeLine ∧ Q (.sh (.str (reprText x)))) := rfl
theorem all_list : biS .all [.list xs] Q = ∃ bs, boolsD xs = some bs ∧ Q (.sh (.bool (bs.all id))) := rfl
theorem any_list : biS .any [.list xs] Q = ∃ bs, boolsD xs = some bs ∧ Q (.sh (.bool (bs.any id))) := rfl
theorem idx_list (K : D → Prop) : idxS (.list xs) (.int i) K = ∃ d, atI xs i = some d ∧ K d := rfl
theorem idx_tuple (K : D → Prop) : idxS (.tuple xs) (.int i) K = ∃ d, atI xs i = some d ∧ K d := rfl
theorem idx_str (l : List Nat) (K : D → Prop) : idxS (.str (mk l)) (.int i) K = (l.length ≤ sizeLine ∧ ∃ c, atI l i = some c ∧ K (.str (mk [c]))) := by
  show ((mk l).length ≤ sizeLine ∧ ∃ c, atI (mk l).cps.toList i = some c ∧ K (.str ⟨#[c]⟩)) = _
  rw [mk_len, mk_list]; rfl
/-- a text's part -/
def subN (l : List Nat) (lo hi : Option Int) : List Nat := (l.drop (HT.sIx l.length 0 lo)).take (HT.sIx l.length l.length hi - HT.sIx l.length 0 lo)
theorem slc_str (l : List Nat) (lo hi : Option Int) : slcI (.str (mk l)) lo hi Q = (l.length ≤ sizeLine ∧ Q (.sh (.str (mk (subN l lo hi))))) := by
  show ((mk l).length ≤ sizeLine ∧ Q (.sh (.str (cutS (mk l) lo hi)))) = _
  unfold cutS subN
  rw [mk_len, mk_list]; rfl
theorem slc_list (lo hi : Option Int) : slcI (.list xs) lo hi Q = Q (.lst (cutD xs lo hi)) := rfl
theorem slc_tuple (lo hi : Option Int) : slcI (.tuple xs) lo hi Q = Q (.sh (.tuple (cutD xs lo hi))) := rfl
theorem seq_list (K : List D → Prop) : itS .seq [.list xs] K = K xs := rfl
theorem seq_tuple (K : List D → Prop) : itS .seq [.tuple xs] K = K xs := rfl
theorem seq_str (l : List Nat) (K : List D → Prop) : itS .seq [.str (mk l)] K = K (l.map fun c => .str (mk [c])) := by
  show K (chars (mk l)) = _
  rw [chars_mk]
theorem it_enum (K : List D → Prop) : itS .enum [.list xs] K = K (enumD xs) := rfl
theorem it_rng1 (K : List D → Prop) : itS .rng1 [.int j] K = (-(2 ^ 62) ≤ j ∧ j < 2 ^ 62 ∧ K (rangeD 0 j.toNat)) := rfl
theorem it_rng2 (K : List D → Prop) : itS .rng2 [.int i, .int j] K = ((-(2 ^ 62) ≤ i ∧ i < 2 ^ 62 ∧ -(2 ^ 62) ≤ j ∧ j < 2 ^ 62) ∧ K (rangeD i (j - i).toNat)) := rfl
theorem aug_add_int (K : D → Prop) : augS .add (.int i) (.int j) K = K (.int (i + j)) := rfl
theorem aug_sub_int (K : D → Prop) : augS .sub (.int i) (.int j) K = K (.int (i - j)) := rfl
theorem aug_add_str (K : D → Prop) : augS .add (.str x) (.str y) K = (x.length + y.length ≤ sizeLine ∧ K (.str (x ++ y))) := rfl
theorem seti_lst (K : OT → Prop) : setiS (.lst xs) (.int i) d K = ∃ j, ixN xs.length i = some j ∧ K (.lst (xs.set j d)) := rfl
theorem mu_append (K : OT → D → Prop) : muS .append (.lst xs) [d] K = (xs.length < sizeLine ∧ K (.lst (xs ++ [d])) .none) := rfl
theorem tgt_name (io : List Nat) (n : Nat) (env : Env) (k : Env → Prop) : tgt io (.name n) d env k = (n ∉ io ∧ k (env.set n (some (.sh d)))) := rfl
theorem me_join (ds : List D) : meS .join (.str x) [.list ds] Q = ∃ ys, strsD ds = some ys ∧ (ys.map (·.length)).sum + ys.length * x.length ≤ 16777216 ∧ Q (.sh (.str (Txt.join x ys))) := rfl
theorem meT_str (m : Me) : (meT m (.str x) = true) = True := by cases m <;> simp [meT]
theorem meT_list : (meT .index (.list xs) = true) = True := by simp [meT]
theorem mu_insert (K : OT → D → Prop) : muS .insert (.lst xs) [.int i, d] K = (xs.length < sizeLine ∧ 0 ≤ i ∧ i < 2 ^ 63 ∧ K (.lst (xs.take i.toNat ++ [d] ++ xs.drop i.toNat)) .none) := rfl
theorem me_index : meS .index (.str x) [.str y] Q = ∃ i rest, Builtin.Str.occurrences x y 0 x.length 1 = i :: rest ∧ Q (.sh (.int (i : Nat))) := rfl
theorem isN_str : isNon (.str x) = false := rfl
theorem isN_int : isNon (.int i) = false := rfl
theorem isN_bool : isNon (.bool b) = false := rfl
theorem isN_list : isNon (.list xs) = false := rfl
theorem isN_tuple : isNon (.tuple xs) = false := rfl
theorem isN_none : isNon .none = true := rfl
end
/-! ### repr of a text -/
theorem char_lt (x : Char) : x.toNat < 0x110000 := by
  have h := x.valid
  rcases h with h | h
  · exact Nat.lt_trans h (by decide)
  · exact h.2
theorem reprChar_ok {q c : Nat} (hc : c < 0x110000) : ∀ d ∈ Builtin.Str.reprChar q c, d < 0x110000 := by
  have hx : ∀ (w d : Nat), d ∈ List.replicate (w - ((Nat.toDigits 16 c).map Char.toNat).length) 48 ++ (Nat.toDigits 16 c).map Char.toNat → d < 0x110000 := fun w d hd => by
    rw [List.mem_append] at hd
    rcases hd with hd | hd
    · rw [List.mem_replicate] at hd; omega
    · rw [List.mem_map] at hd
      obtain ⟨x, _, rfl⟩ := hd
      exact char_lt x
  intro d hd
  unfold Builtin.Str.reprChar at hd
  dsimp only at hd
  repeat' split at hd
  all_goals first
    | (simp only [List.mem_cons, List.not_mem_nil, or_false] at hd; omega)
    | (rw [List.cons_append, List.cons_append, List.nil_append, List.mem_cons, List.mem_cons] at hd
       rcases hd with hd | hd | hd
       · omega
       · omega
       · exact hx _ d hd)
theorem fold_ok {q : Nat} : ∀ (l : List Nat) (acc : Array Nat), (∀ c ∈ l, c < 0x110000) → (∀ c ∈ acc.toList, c < 0x110000) → ∀ c ∈ (l.foldl (fun out c => out ++ (Builtin.Str.reprChar q c).toArray) acc).toList, c < 0x110000
  | [], acc, _, h => h
  | a :: l, acc, hl, h => fold_ok l _ (fun c hc => hl c (by simp [hc])) fun c hc => by
    simp only [Array.toList_append, List.mem_append] at hc
    rcases hc with hc | hc
    · exact h c hc
    · exact reprChar_ok (hl a (by simp)) c hc
theorem repr_shaped {l : List Nat} (h : okT l = true) : SeqAt.shaped (.str (reprText (mk l))) = true := by
  have h' : ∀ c ∈ l, c < 0x110000 := fun c hc => by
    unfold okT at h
    rw [List.all_eq_true] at h
    exact of_decide_eq_true (h c hc)
  have hq : reprQuote (mk l) < 0x110000 := by unfold reprQuote; split <;> decide
  have e : ∀ c ∈ (reprText (mk l)).cps.toList, c < 0x110000 := by
    unfold reprText
    intro c hc
    simp only [Array.toList_push, List.mem_append, List.mem_singleton] at hc
    rcases hc with hc | rfl
    · rw [← Array.foldl_toList] at hc
      refine fold_ok (mk l).cps.toList _ (by rw [mk_list]; exact h') (fun c hc => ?_) c hc
      simp at hc
      rw [hc]; exact hq
    · exact hq
  rw [mk_of (reprText (mk l)), shaped_str]
  unfold okT
  rw [List.all_eq_true]
  exact fun c hc => decide_eq_true (e c hc)
theorem eq_self {d : D} (h : SeqAt.shaped d = true) {Q : KO} : op2 .eq d d Q = Q (.sh (.bool true)) := by
  show (_ ∧ _ ∧ Q (.sh (.bool (PyData.eqv d d)))) = _
  have e : PyData.eqv d d = true := SeqAt.eqv_refl d (SeqAt.canLay_of_shaped h)
  rw [e, h]
  simp
theorem depthAll_le : ∀ (xs : List D) (n : Nat), (∀ d ∈ xs, PyData.depth d ≤ n) → PyData.depthAll xs ≤ n
  | [], n, _ => Nat.zero_le _
  | x :: xs, n, h => by
    rw [PyData.depthAll]
    exact Nat.max_le.mpr ⟨h x (by simp), depthAll_le xs n fun d hd => h d (by simp [hd])⟩
theorem layAll_of : ∀ xs : List D, (∀ d ∈ xs, PyData.canLay0 d = true) → PyData.canLayAll0 xs = true
  | [], _ => rfl
  | x :: xs, h => by
    rw [PyData.canLayAll0, h x (by simp), layAll_of xs fun d hd => h d (by simp [hd])]
    rfl
theorem shaped_list {xs : List D} (h : ∀ d ∈ xs, PyData.canLay0 d = true ∧ PyData.depth d ≤ 60) : SeqAt.shaped (.list xs) = true := by
  have h1 := depthAll_le xs 60 fun d hd => (h d hd).2
  unfold SeqAt.shaped
  rw [PyData.canLay0, layAll_of xs fun d hd => (h d hd).1, PyData.depth, decide_eq_true (show PyData.depthAll xs + 1 ≤ 64 by omega)]
  rfl
theorem shaped_ints (ns : List Int) : SeqAt.shaped (.list (ns.map .int)) = true := shaped_list fun d hd => by
  rw [List.mem_map] at hd
  obtain ⟨i, _, rfl⟩ := hd
  exact ⟨rfl, by simp [PyData.depth]⟩
theorem shaped_strs {l : List Nat} (h : okT l = true) : SeqAt.shaped (.list (l.map fun c => .str (mk [c]))) = true := shaped_list fun d hd => by
  rw [List.mem_map] at hd
  obtain ⟨c, hc, rfl⟩ := hd
  unfold okT at h
  rw [List.all_eq_true] at h
  have := h c hc
  refine ⟨?_, by simp [PyData.depth]⟩
  have e := shaped_str [c]
  have : okT [c] = true := by simpa [okT] using h c hc
  rw [this] at e
  exact SeqAt.canLay_of_shaped e
theorem eq_list_nil (xs : List D) (Q : KO) : op2 .eq (.list xs) (.list []) Q = (SeqAt.shaped (.list xs) = true ∧ Q (.sh (.bool xs.isEmpty))) := by
  show (_ ∧ _ ∧ Q (.sh (.bool (PyData.eqv _ _)))) = _
  rw [PyData.eqv, eq_iff_iff]
  have e : PyData.eqvAll xs [] = xs.isEmpty := by cases xs <;> simp [PyData.eqvAll]
  rw [e]
  exact ⟨fun h => ⟨h.1, h.2.2⟩, fun h => ⟨h.1, rfl, h.2⟩⟩
/-- a choice by a bool (no instance in it that grows stale) -/
def cnd (b : Bool) (p q : Prop) : Prop := match b with
  | true => p
  | false => q
theorem ite_cnd {b : Bool} {p q : Prop} [inst : Decidable (b = true)] : (if b = true then p else q) = cnd b p q := by cases b <;> simp [cnd]
theorem cnd_t {p q : Prop} : cnd true p q = p := rfl
theorem cnd_f {p q : Prop} : cnd false p q = q := rfl
theorem cnd_n {b : Bool} {p q : Prop} : cnd (!b) p q = cnd b q p := by cases b <;> rfl
theorem cnd_pos {b : Bool} {p q : Prop} (h : b = true) (hp : p) : cnd b p q := by subst h; exact hp
theorem cnd_neg {b : Bool} {p q : Prop} (h : b = false) (hq : q) : cnd b p q := by subst h; exact hq
theorem cnd_dec {P : Prop} [Decidable P] {p q : Prop} (h1 : P → p) (h2 : ¬P → q) : cnd (decide P) p q := by
  by_cases h : P
  · exact cnd_pos (decide_eq_true h) (h1 h)
  · exact cnd_neg (decide_eq_false h) (h2 h)
theorem atI_nat {α : Type} (xs : List α) (n : Nat) : atI xs (n : Int) = xs[n]? := by
  unfold atI ixN
  rw [if_pos (by omega)]
  by_cases h : n < xs.length
  · rw [if_pos (by omega)]; simp
  · rw [if_neg (by omega)]; simp; omega
theorem at_drop {α : Type} {xs : List α} {n : Nat} {c : α} {r : List α} (h : xs.drop n = c :: r) : xs[n]? = some c ∧ n < xs.length ∧ r = xs.drop (n + 1) := by
  have hn : n < xs.length := by
    by_cases z : n < xs.length
    · exact z
    · rw [List.drop_eq_nil_of_le (by omega)] at h; cases h
  rw [List.drop_eq_getElem_cons hn] at h
  cases h
  exact ⟨by simp [hn], hn, rfl⟩
theorem atI_of {α : Type} {xs : List α} {i : Int} (h0 : 0 ≤ i) (h : i.toNat < xs.length) : atI xs i = some xs[i.toNat] := by
  have e := atI_nat xs i.toNat
  rw [Int.toNat_of_nonneg h0] at e
  rw [e]
  simp [h]
theorem nodup1 {a : Nat} : [a].Nodup = True := by simp
theorem atI_0 {α : Type} (a : α) (xs : List α) : atI (a :: xs) 0 = some a := by
  have := atI_nat (a :: xs) 0
  simpa using this
theorem atI_1 {α : Type} (a b : α) (xs : List α) : atI (a :: b :: xs) 1 = some b := by
  have := atI_nat (a :: b :: xs) 1
  simpa using this
theorem atI_2 {α : Type} (a b c : α) (xs : List α) : atI (a :: b :: c :: xs) 2 = some c := by
  have := atI_nat (a :: b :: c :: xs) 2
  simpa using this
theorem atI_3 {α : Type} (a b c d : α) (xs : List α) : atI (a :: b :: c :: d :: xs) 3 = some d := by
  have := atI_nat (a :: b :: c :: d :: xs) 3
  simpa using this
theorem ixN_0 (n : Nat) : ixN (n + 1) 0 = some 0 := by
  unfold ixN
  rw [if_pos (by omega), if_pos (by omega)]; rfl
theorem ixN_1 (n : Nat) : ixN (n + 2) 1 = some 1 := by
  unfold ixN
  rw [if_pos (by omega), if_pos (by omega)]; rfl
theorem ixN_2 (n : Nat) : ixN (n + 3) 2 = some 2 := by
  unfold ixN
  rw [if_pos (by omega), if_pos (by omega)]; rfl
theorem atI_nat1 {α : Type} (xs : List α) (n : Nat) : atI xs ((n : Int) + 1) = xs[n + 1]? := by rw [show ((n : Int) + 1) = ((n + 1 : Nat) : Int) by omega, atI_nat]
theorem subN_nat (l : List Nat) (a b : Nat) : subN l (some (a : Int)) (some (b : Int)) = (l.take b).drop a := by
  unfold subN
  rw [HT.sIx_nat, HT.sIx_nat]
  by_cases ha : a ≤ l.length
  · rw [Nat.min_eq_left ha]
    by_cases hb : b ≤ l.length
    · rw [Nat.min_eq_left hb, List.drop_take]
    · rw [Nat.min_eq_right (by omega), List.take_of_length_le (by simp), List.take_of_length_le (by omega)]
  · rw [Nat.min_eq_right (show l.length ≤ a by omega), List.drop_eq_nil_of_le (Nat.le_refl _), List.take_nil, List.drop_eq_nil_of_le]
    simp
    omega
theorem subN_lo (l : List Nat) (a : Nat) : subN l (some (a : Int)) none = l.drop a := by
  unfold subN
  rw [HT.sIx_nat, HT.sIx_none]
  by_cases ha : a ≤ l.length
  · rw [Nat.min_eq_left ha, List.take_of_length_le (by simp)]
  · rw [Nat.min_eq_right (by omega), List.drop_eq_nil_of_le (Nat.le_refl _), List.take_nil, List.drop_eq_nil_of_le (by omega)]
theorem subN_tail (c : Nat) (l : List Nat) : subN (c :: l) (some 1) none = l := subN_lo (c :: l) 1
theorem subN_lo4 (l : List Nat) : subN l (some 4) none = l.drop 4 := subN_lo l 4
theorem subN_lo5 (l : List Nat) : subN l (some 5) none = l.drop 5 := subN_lo l 5
theorem subN_hi (l : List Nat) (b : Nat) : subN l none (some (b : Int)) = l.take b := by
  unfold subN
  rw [HT.sIx_nat, HT.sIx_none]
  simp
theorem subN_hi4 (l : List Nat) : subN l none (some 4) = l.take 4 := subN_hi l 4
theorem subN_hi3 (l : List Nat) : subN l none (some 3) = l.take 3 := subN_hi l 3
theorem boolsD_map : ∀ bs : List Bool, boolsD (bs.map .bool) = some bs
  | [] => rfl
  | b :: bs => by simp [boolsD, boolsD_map bs]
theorem subN_one {l : List Nat} {i : Nat} (h : i ≤ l.length) : subN l (some (i : Int)) (some ((i : Int) + 1)) = (l.drop i).take 1 := by
  unfold subN
  rw [HT.sIx_nat, show ((i : Int) + 1) = ((i + 1 : Nat) : Int) by omega, HT.sIx_nat, Nat.min_eq_left h]
  by_cases z : i < l.length
  · rw [Nat.min_eq_left (by omega), show i + 1 - i = 1 by omega]
  · rw [List.drop_eq_nil_of_le (by omega)]; simp
theorem log_small {i : Int} (h : -(2 ^ 64) < i) (h1 : i < 2 ^ 64) : i.natAbs.log2 < 1920 := by
  rcases Nat.eq_zero_or_pos i.natAbs with h0 | h0
  · rw [h0]; decide
  · exact Nat.lt_of_lt_of_le ((Nat.log2_lt (by omega)).mpr (show i.natAbs < 2 ^ 64 by omega)) (by decide)
/-- loops by what stays true; k: what is behind -/
theorem forGo_inv {step : D → Env → (Env → Prop) → Prop} (I : List D → Env → Prop) (k : Env → Prop) (h : ∀ d ds env (k' : Env → Prop), I (d :: ds) env → (∀ e1, I ds e1 → k' e1) → step d env k') (hk : ∀ env, I [] env → k env) : ∀ (ds : List D) (env : Env), I ds env → forGo step ds env k
  | [], env, i => by simp only [forGo]; exact hk env i
  | d :: ds, env, i => by
    simp only [forGo]
    exact h d ds env _ i fun e1 i1 => forGo_inv I k h hk ds e1 i1
theorem lcGo_inv {step : D → Env → (Option D → Env → Prop) → Prop} (I : List D → List D → Env → Prop) (k : List D → Env → Prop)
    (h : ∀ d ds acc env (k' : Option D → Env → Prop), I (d :: ds) acc env → (∀ r e1, acc.length < sizeLine → I ds (acc ++ [r]) e1 → k' (some r) e1) → (∀ e1, I ds acc e1 → k' none e1) → step d env k')
    (hz : ∀ ds acc env, I ds acc env → acc.length + ds.length ≤ sizeLine) (hk : ∀ acc env, I [] acc env → k acc env) : ∀ (ds acc : List D) (env : Env), I ds acc env → lcGo step ds acc env k
  | [], acc, env, i => by simp only [lcGo]; exact hk acc env i
  | d :: ds, acc, env, i => by
    simp only [lcGo]
    have hl := hz _ _ _ i
    rw [List.length_cons] at hl
    exact h d ds acc env _ i (fun r e1 h1 i1 => ⟨by omega, lcGo_inv I k h hz hk ds _ e1 i1⟩) fun e1 i1 => lcGo_inv I k h hz hk ds _ e1 i1
theorem whlGo_inv {c : Env → (Bool → Env → Prop) → Prop} {b : Env → (Env → Prop) → Prop} (I : Nat → Env → Prop) (k : Env → Prop)
    (h : ∀ n env (k1 : Bool → Env → Prop), I n env → (∀ e1, (∀ k2 : Env → Prop, (∀ e2 m, m < n → I m e2 → k2 e2) → b e1 k2) → k1 true e1) → (∀ e1, k e1 → k1 false e1) → c env k1) :
    ∀ (fuel n : Nat) (env : Env), n < fuel → I n env → whlGo c b fuel env k
  | 0, n, env, hf, _ => by omega
  | fuel + 1, n, env, hf, i => by
    simp only [whlGo]
    refine h n env _ i (fun e1 hb => ?_) fun e1 hk => ?_
    · rw [if_pos rfl]
      exact hb _ fun e2 m hm im => whlGo_inv I k h fuel m e2 (by omega) im
    · rw [if_neg (by decide)]
      exact hk
/-! ### one equation for each form (printed by tools/eqs.py); loops and comprehensions are left alone -/
section
variable {Γ : Ctx} {env : Env} {Q : KE} {D : EndE}
def varS (io : List Nat) (i : Nat) (env : Env) (Q : KE) : Option (Option OT) → Prop
  | some (some (.sh d)) => Q (.sh d) env
  | some (some t) => i ∉ io ∧ Q (.sh t.frz) (env.set i (some (.sh t.frz)))
  | _ => False
theorem varS_sh (io : List Nat) (i : Nat) (d : TW.D) : varS io i env Q (some (some (.sh d))) = Q (.sh d) env := rfl
theorem varS_lst (io : List Nat) (i : Nat) (xs : List TW.D) : varS io i env Q (some (some (.lst xs))) = (i ∉ io ∧ Q (.sh (.list xs)) (env.set i (some (.sh (.list xs))))) := rfl
theorem wE_var {i} : wpE Γ (.var i) env Q = varS Γ.io i env Q env[i]? := by
  simp only [wpE]
  cases h : env[i]? with
  | none => simp [varS]
  | some o =>
    cases o with
    | none => simp [varS]
    | some t => cases t <;> simp [varS]
theorem wE_cst : wpE Γ (.cst d) env Q = (Q (.sh d) env) := by simp only [wpE]
theorem wE_glo : wpE Γ (.glo x) env Q = (∃ d, Γ.gl x = some d ∧ Q (.sh d) env) := by simp only [wpE]
theorem wE_op2 : wpE Γ (.op2 o a b) env Q = (opd a (wpE Γ a env) env fun oa e1 => opd b (wpE Γ b e1) e1 fun ob e2 =>
    ∃ da db, oa.res e2 = some da ∧ ob.res e2 = some db ∧ op2 o da db fun r => Q r e2) := by simp only [wpE]
theorem wE_neg : wpE Γ (.neg a) env Q = (wpE Γ a env fun r e1 => ∃ i, r = .sh (.int i) ∧ Q (.sh (.int (-i))) e1) := by simp only [wpE]
theorem wE_not : wpE Γ (.not a) env Q = (tst (wpE Γ a env) fun c e1 => Q (.sh (.bool (!c))) e1) := by simp only [wpE]
theorem wE_and : wpE Γ (.and a b) env Q = (tst (wpE Γ a env) fun c e1 => if c = true then wpE Γ b e1 Q else Q (.sh (.bool false)) e1) := by simp only [wpE]
theorem wE_or : wpE Γ (.or a b) env Q = (tst (wpE Γ a env) fun c e1 => if c = true then Q (.sh (.bool true)) e1 else wpE Γ b e1 Q) := by simp only [wpE]
theorem wE_ife : wpE Γ (.ife c a b) env Q = (tst (wpE Γ c env) fun c e1 => if c = true then wpE Γ a e1 Q else wpE Γ b e1 Q) := by simp only [wpE]
theorem wE_chain : wpE Γ (.chain o o' a b c) env Q = (opd a (wpE Γ a env) env fun oa e1 => opd b (wpE Γ b e1) e1 fun ob e2 =>
    ∃ da db, oa.res e2 = some da ∧ ob.res e2 = some db ∧ op2 o da db fun r => ∃ k, r = .sh (.bool k) ∧
      if k = true then opd c (wpE Γ c e2) e2 fun oc e3 => ∃ db' dc, ob.res e3 = some db' ∧ oc.res e3 = some dc ∧ op2 o' db' dc fun r => Q r e3
      else Q (.sh (.bool false)) e2) := by simp only [wpE]
theorem wE_idx : wpE Γ (.idx a b) env Q = (opd a (wpE Γ a env) env fun oa e1 => opd b (wpE Γ b e1) e1 fun ob e2 =>
    ∃ da db, oa.res e2 = some da ∧ ob.res e2 = some db ∧ idxS da db fun d => Q (.sh d) e2) := by simp only [wpE]
theorem wE_slc : wpE Γ (.slc a l h) env Q = (opd a (wpE Γ a env) env fun oa e1 => wpE Γ l e1 fun rl e2 => ∃ lo, rl = .sh (.int lo) ∧ wpE Γ h e2 fun rh e3 => ∃ hi, rh = .sh (.int hi) ∧
    ∃ da, oa.res e3 = some da ∧ slcI da (some lo) (some hi) fun r => Q r e3) := by simp only [wpE]
theorem wE_slcL : wpE Γ (.slcL a l) env Q = (opd a (wpE Γ a env) env fun oa e1 => wpE Γ l e1 fun rl e2 => ∃ lo, rl = .sh (.int lo) ∧
    ∃ da, oa.res e2 = some da ∧ slcI da (some lo) none fun r => Q r e2) := by simp only [wpE]
theorem wE_slcH : wpE Γ (.slcH a h) env Q = (opd a (wpE Γ a env) env fun oa e1 => wpE Γ h e1 fun rl e2 => ∃ hi, rl = .sh (.int hi) ∧
    ∃ da, oa.res e2 = some da ∧ slcI da none (some hi) fun r => Q r e2) := by simp only [wpE]
theorem wE_tup : wpE Γ (.tup es) env Q = (wpVs Γ es env fun ds e1 => ds.length ≤ sizeLine ∧ Q (.sh (.tuple ds)) e1) := by simp only [wpE]
theorem wE_lst : wpE Γ (.lst es) env Q = (wpVs Γ es env fun ds e1 => ds.length ≤ sizeLine ∧ Q (.lst ds) e1) := by simp only [wpE]
theorem wE_call : wpE Γ (.call f es) env Q = (∃ con, Γ.fn f = some con ∧ wpOs Γ es env fun os e1 => ∃ args e2, (ioPl con.io os).Nodup ∧ takeArgs Γ.io con.io os e1 = some (args, e2) ∧
    con.run args fun r outs => Q r (putBack con.io os outs e2)) := by simp only [wpE]
theorem wE_bi : wpE Γ (.bi b es) env Q = (wpOs Γ es env fun os e1 => ∃ ds, resL e1 os = some ds ∧ biS b ds fun r => Q r e1) := by simp only [wpE]
theorem wE_isi : wpE Γ (.isi a t) env Q = (opd a (wpE Γ a env) env fun oa e1 => ∃ d, oa.res e1 = some d ∧ Q (.sh (.bool (isiS t d))) e1) := by simp only [wpE]
theorem wE_me : wpE Γ (.me m o es) env Q = (opd o (wpE Γ o env) env fun oo e1 => (∃ x, oo.res e1 = some x ∧ meT m x = true) ∧ wpOs Γ es e1 fun os e2 => ∃ d ds, oo.res e2 = some d ∧ resL e2 os = some ds ∧ meS m d ds fun r => Q r e2) := by simp only [wpE]
theorem wE_mu : wpE Γ (.mu m i es) env Q = ((∃ xs, env[i]? = some (some (.lst xs))) ∧ wpVs Γ es env fun ds e1 => ∃ t, e1[i]? = some (some t) ∧ muS m t ds fun t' d => Q (.sh d) (e1.set i (some t'))) := by simp only [wpE]
theorem wE_fmt : wpE Γ (.fmt w a) env Q = (wpE Γ a env fun r e1 => ∃ i, r = .sh (.int i) ∧ 0 ≤ i ∧ i < 10000 ∧ Q (.sh (.str (fmtZ w i))) e1) := by simp only [wpE]
theorem wE_fst : wpE Γ (.fst es) env Q = (wpJ Γ es Str.empty env fun x e1 => Q (.sh (.str x)) e1) := by simp only [wpE]
theorem wS_skip : wpS Γ (.skip) env D = (D.nx env) := by simp only [wpS]
theorem wS_seq : wpS Γ (.seq a b) env D = (wpS Γ a env { D with nx := fun e1 => wpS Γ b e1 D }) := by simp only [wpS]
theorem wS_asg : wpS Γ (.asg i e) env D = (i ∉ Γ.io ∧ wpE Γ e env fun r e1 => D.nx (e1.set i (some r))) := by simp only [wpS]
theorem wS_unp : wpS Γ (.unp is e) env D = (wpE Γ e env fun r e1 => tgt Γ.io (.tup is) r.frz e1 D.nx) := by simp only [wpS]
theorem wS_par : wpS Γ (.par i j a b) env D = (i ∉ Γ.io ∧ j ∉ Γ.io ∧ i ≠ j ∧ wpE Γ a env fun r e1 => wpE Γ b e1 fun t e2 => D.nx ((e2.set i (some r)).set j (some t))) := by simp only [wpS]
theorem wS_seti : wpS Γ (.seti i k e) env D = (wpE Γ e env fun r e1 => (∃ t, e1[i]? = some (some t)) ∧ wpE Γ k e1 fun ik e2 => ∃ t, e2[i]? = some (some t) ∧ setiS t ik.frz r.frz fun t' => D.nx (e2.set i (some t'))) := by simp only [wpS]
theorem wS_aug : wpS Γ (.aug i o e) env D = (i ∉ Γ.io ∧ (∃ d, env[i]? = some (some (.sh d)) ∧ wpE Γ e env fun r e1 => augS o d r.frz fun t => D.nx (e1.set i (some (.sh t))))) := by simp only [wpS]
theorem wS_exp : wpS Γ (.exp e) env D = (wpE Γ e env fun _ e1 => D.nx e1) := by simp only [wpS]
theorem wS_ret : wpS Γ (.ret e) env D = (retE Γ e env D.rt) := by simp only [wpS]
theorem wS_retN : wpS Γ (.retN) env D = (D.rt (.sh .none) env) := by simp only [wpS]
theorem wS_ife : wpS Γ (.ife c a b) env D = (tst (wpE Γ c env) fun t e1 => if t = true then wpS Γ a e1 D else wpS Γ b e1 D) := by simp only [wpS]
theorem wS_brk : wpS Γ (.brk) env D = (D.bk env) := by simp only [wpS]
theorem wS_cnt : wpS Γ (.cnt) env D = (D.ct env) := by simp only [wpS]
theorem wS_rai {c : Str} {e : Ex} : wpS Γ (.rai c e) env D = (∃ k, D.ex c = some k ∧ wpVs Γ [e] env fun ds e1 => ∃ i, ds = [.int i] ∧ 0 ≤ i ∧ i < 10000 ∧ k i e1) := by simp only [wpS]
theorem wS_bad : wpS Γ .bad env D = False := by simp only [wpS]
/-- a for-loop, its items known -/
@[irreducible] def forS (Γ : Ctx) (tg : Tg) (b : Sm) (items : List TW.D) (env : Env) (D : EndE) : Prop := forGo (fun d e k => tgt Γ.io tg d e fun e2 => wpS Γ b e2 { D with nx := k, ct := k, bk := D.nx }) items env D.nx
theorem wS_for {tg it b} : wpS Γ (.for tg it b) env D = wpI Γ it env fun items e1 => forS Γ tg b items e1 D := by simp only [wpS, forS]
theorem forS_inv {tg : Tg} {b : Sm} (I : List TW.D → Env → Prop) (h : ∀ d ds env (k : Env → Prop), I (d :: ds) env → (∀ e1, I ds e1 → k e1) → tgt Γ.io tg d env fun e2 => wpS Γ b e2 { D with nx := k, ct := k, bk := D.nx })
    (hk : ∀ env, I [] env → D.nx env) {ds : List TW.D} {env : Env} (i : I ds env) : forS Γ tg b ds env D := by
  unfold forS
  exact forGo_inv I D.nx (fun d ds env k => h d ds env k) hk ds env i
theorem wS_whl_inv {c : Ex} {b : Sm} (I : Nat → Env → Prop) (n : Nat) (i : I n env)
    (h : ∀ n env (k1 : Bool → Env → Prop), I n env → (∀ e1, (∀ k2 : Env → Prop, (∀ e2 m, m < n → I m e2 → k2 e2) → wpS Γ b e1 { D with nx := k2, ct := k2, bk := D.nx }) → k1 true e1) → (∀ e1, D.nx e1 → k1 false e1) → tst (wpE Γ c env) k1) : wpS Γ (.whl c b) env D := by
  simp only [wpS]
  exact ⟨n + 1, whlGo_inv I D.nx h (n + 1) n env (Nat.lt_succ_self n) i⟩
/-- a comprehension, its items known -/
@[irreducible] def lcS (Γ : Ctx) (elt : Ex) (tg : Tg) (ifs : List Ex) (own : List Nat) (items : List TW.D) (e1 : Env) (Q : KE) : Prop :=
  lcGo (fun d e k => tgt Γ.io tg d (wipeE e own) fun e2 => wpTs Γ ifs e2 fun b e3 => if b = true then wpE Γ elt e3 fun r e4 => k (some r.frz) e4 else k none e3) items [] e1 fun acc e2 => Q (.lst acc) (unwipe e1 e2 own)
theorem wE_lc {elt tg it ifs own} : wpE Γ (.lc elt tg it ifs own) env Q = ((∀ i ∈ own, i ∉ Γ.io) ∧ wpI Γ it env fun items e1 => lcS Γ elt tg ifs own items e1 Q) := by simp only [wpE, lcS]
theorem lcS_inv {elt : Ex} {tg : Tg} {ifs : List Ex} {own : List Nat} (I : List TW.D → List TW.D → Env → Prop)
    (h : ∀ d ds acc env (k' : Option TW.D → Env → Prop), I (d :: ds) acc env → (∀ r e1, I ds (acc ++ [r]) e1 → k' (some r) e1) → (∀ e1, I ds acc e1 → k' none e1) →
      tgt Γ.io tg d (wipeE env own) fun e2 => wpTs Γ ifs e2 fun b e3 => if b = true then wpE Γ elt e3 fun r e4 => k' (some r.frz) e4 else k' none e3)
    (hz : ∀ ds acc env, I ds acc env → acc.length + ds.length ≤ sizeLine) {items : List TW.D} {e1 : Env} (hk : ∀ acc e2, I [] acc e2 → Q (.lst acc) (unwipe e1 e2 own)) (i : I items [] e1) : lcS Γ elt tg ifs own items e1 Q := by
  unfold lcS
  exact lcGo_inv I _ (fun d ds acc env k' i k1 k2 => h d ds acc env k' i (fun r e1 j => k1 r e1 (by have := hz _ _ _ i; rw [List.length_cons] at this; omega) j) k2) hz hk items [] e1 i
end

theorem sz {n : Nat} (h : n ≤ 100000) : n ≤ sizeLine := Nat.le_trans h (by decide)
theorem szl {n : Nat} (h : n < 100000) : n < sizeLine := Nat.lt_of_lt_of_le h (by decide)
end TW
end
section
set_option Elab.async false
set_option linter.all false
set_option maxRecDepth 100000
set_option maxHeartbeats 2000000
/-! LB1: what many laws draw with: cells, digits, draws, picks; two alike -/
namespace TW
open PySem L2
local macro_rules
  | `(tactic| simp_arith) => `(tactic| simp_arith [])
  | `(tactic| simp_arith [$ls,*]) => `(tactic| simp only [wpF, argsOk, wE_var, wE_lc, wS_for, wE_cst, wE_glo, wE_op2, wE_neg, wE_not, wE_and, wE_or, wE_ife, wE_chain, wE_idx, wE_slc, wE_slcL, wE_slcH, wE_tup, wE_lst, wE_call, wE_bi, wE_isi, wE_me, wE_mu, wE_fmt, wE_fst, wS_skip, wS_seq, wS_asg, wS_unp, wS_par, wS_seti, wS_aug, wS_exp, wS_ret, wS_retN, wS_ife, wS_brk, wS_cnt, wS_rai, wS_bad, varS_sh, varS_lst, wpOs, wpVs, wpTs, wpI, wpJ, opd, tst, retE, List.map, List.length, ioIx, List.cons_append, List.nil_append, List.getElem?_cons_zero, List.getElem?_cons_succ,
      frz_sh, frz_lst, own_sh, own_lst, resO_some, res_va, res_pl, resL_nil, resL_cons, consO_some, add_int, add_str, add_list, add_tuple, sub_int, mul_int, fdiv_int, mod_int, pow_int, lt_int, le_int, gt_int, ge_int, eq_int, ne_int, eq_str, ne_str, in_str1, nin_str1, in_tuple, nin_tuple,
      is_none, isnot_none, is_bool, len_list, len_tuple, len_str, int_int, int_str, str_int, str_str, ord_str, repr_int, repr_str, all_list, any_list, idx_list, idx_tuple, idx_str, slc_str, slc_list, slc_tuple, seq_list, seq_tuple, seq_str, it_rng1, it_rng2, it_enum,
      aug_add_int, aug_sub_int, aug_add_str, seti_lst, mu_append, mu_insert, meT_str, meT_list, tgt_name, me_join, me_index, isN_str, isN_int, isN_bool, isN_list, isN_tuple, isN_none,
      implies_true, eq_list_nil, subN_lo4, subN_lo5, subN_hi4, subN_hi3, subN_tail, wipeE, unwipe, takeArgs, putBack, ioPl, Option.map_some, List.nodup_nil, nodup1, decide_true, decide_false, Nat.reduceEqDiff, reduceCtorEq, false_and, and_false, Prod.mk.injEq, and_assoc, exists_const,
      outsAt, atI_0, atI_1, atI_2, atI_3, ixN_0, ixN_1, ixN_2, OT.lst.injEq, ite_cnd, cnd_t, cnd_f, cnd_n, true_or, or_true, or_self, List.cons.injEq, Option.some.injEq, exists_eq_left', exists_eq_left, exists_eq', exists_and_left, true_and, and_true, and_self, Nat.zero_add, Nat.reduceAdd, Nat.sub_self, Nat.reduceSub, List.replicate, OT.sh.injEq, PyData.bool.injEq,
      PyData.int.injEq, PyData.str.injEq, List.set_cons_zero, List.set_cons_succ, if_true, if_false, Bool.false_eq_true, Bool.not_true, Bool.not_false, reduceIte, List.length_nil, List.length_cons, List.length_map, mk_len, mk_app, List.not_mem_nil, not_false_eq_true, $ls,*])
local macro_rules | `(tactic| infer_instance) => `(tactic| first
  | assumption | exact log_small (by omega) (by omega) | rfl | omega | decide | exact sz (by omega) | exact szl (by omega) | exact Or.inl ⟨by decide, by decide⟩ | exact Or.inr ⟨by decide, by decide⟩ | exact ⟨by decide, by decide⟩ | exact ⟨by decide, by decide, by decide⟩ | exact ⟨_, rfl⟩)
local macro_rules | `(tactic| and_intros) => `(tactic| repeat ((with_reducible apply And.intro); (focus infer_instance)))
abbrev T (l : List Nat) : D := .str (mk l)
abbrev iD (ns : List Int) : D := .list (ns.map .int)
theorem digs_nat {i : Int} (h : 0 ≤ i) : digs i = (Nat.toDigits 10 i.natAbs).map Char.toNat := by
  obtain ⟨m, rfl⟩ := Int.eq_ofNat_of_zero_le h
  unfold digs
  rw [show (toString ((m : Nat) : Int)) = toString (Int.ofNat m) from rfl, PyProof.Rows.text_ofNat]
  rfl
theorem digs_len {i : Int} (h : 0 ≤ i) (h1 : i < 10000) : 1 ≤ (digs i).length ∧ (digs i).length ≤ 4 := by
  rw [digs_nat h, List.length_map]
  have F := PyProof.Rows.digitsFacts10 i.natAbs
  exact ⟨F.ge1, F.lt10000 (by omega)⟩
theorem toDigits_asc : ∀ n : Nat, ∀ c ∈ (Nat.toDigits 10 n).map Char.toNat, 48 ≤ c ∧ c ≤ 57 := fun n c hc => by
  rw [List.mem_map] at hc
  obtain ⟨d, hd, rfl⟩ := hc
  have h := Nat.isDigit_of_mem_toDigits (b := 10) (by decide) (by decide) hd
  unfold Char.isDigit at h
  simp only [Bool.and_eq_true, decide_eq_true_eq, UInt32.le_iff_toNat_le] at h
  exact h
theorem digs_asc {i : Int} (h : 0 ≤ i) : ∀ c ∈ digs i, 48 ≤ c ∧ c ≤ 57 := by
  rw [digs_nat h]
  exact toDigits_asc _
def val (fig : List Nat) : Nat := fig.foldl (fun n c => n * 10 + (c - 48)) 0
theorem val_digs {n : Int} (h0 : 0 ≤ n) (h1 : n < 10000) : (val (digs n) : Int) = n := by
  have a := PySem.W.KIN.num_reads h0 (show n < 10 ^ 10 by omega)
  have hd := digs_len h0 h1
  have b := PySem.intText_digits (x := Str.ofString (toString n)) (digs_asc h0) (fun z => by
    have e : digs n = [] := z
    rw [e] at hd
    simp at hd) (by
    have e : (Str.ofString (toString n)).length = (digs n).length := by unfold digs; simp [Str.length]
    rw [e]; omega)
  rw [a] at b
  simp only [Option.some.injEq] at b
  exact b.symm
theorem in_figs (c : Nat) : c ∈ [48, 49, 50, 51, 52, 53, 54, 55, 56, 57] ↔ 48 ≤ c ∧ c ≤ 57 := by
  simp only [List.mem_cons, List.not_mem_nil, or_false]
  omega
theorem int_val {fig : List Nat} (h : ∀ c ∈ fig, 48 ≤ c ∧ c ≤ 57) (h1 : 1 ≤ fig.length) (h2 : fig.length ≤ 4) : intText? (mk fig) = some (val fig : Int) := by
  have e := PySem.intText_digits (x := mk fig) (by rw [mk_list]; exact h) (by rw [mk_list]; intro z; rw [z] at h1; simp at h1) (by rw [mk_len]; omega)
  rw [mk_list] at e
  exact e
def b_cell : Sm :=
 (.seq (.ife (.op2 .lt (.var 1) (.bi .len [(.var 0)]))
  (.seq (.ret (.idx (.var 0) (.var 1)))
 .skip)
  .skip)
 (.seq (.ret (.cst (.int 0)))
 .skip))
def b_digits : Sm :=
 (.seq (.asg 3 (.lst []))
 (.seq (.for (.name 4) (.it .rng2 [(.var 1), (.var 2)])
  (.seq (.asg 5 (.call (Str.ofString "_law_cell") [(.var 0), (.var 4)]))
 (.seq (.ife (.op2 .lt (.var 5) (.cst (.int 0)))
  (.seq (.asg 5 (.op2 .sub (.cst (.int 1)) (.op2 .mul (.cst (.int 2)) (.var 5))))
 .skip)
  .skip)
 (.seq (.ife (.op2 .ge (.var 5) (.op2 .pow (.cst (.int 10)) (.cst (.int 18))))
  (.seq (.for (.name 6) (.it .rng1 [(.cst (.int 60))])
  (.seq (.ife (.op2 .gt (.var 5) (.cst (.int 0)))
  (.seq (.exp (.mu .append 3 [(.op2 .mod (.bi .int [(.var 5)]) (.cst (.int 1000)))]))
 (.seq (.asg 5 (.op2 .fdiv (.var 5) (.cst (.int 1000))))
 .skip))
  .skip)
 .skip))
 .skip)
  (.seq (.asg 7 (.op2 .mod (.bi .int [(.op2 .add (.op2 .add (.op2 .mul (.var 5) (.cst (.int 48271))) (.op2 .mul (.var 4) (.cst (.int 69621)))) (.cst (.int 11)))]) (.cst (.int 2147483647))))
 (.seq (.for (.name 6) (.it .rng1 [(.cst (.int 12))])
  (.seq (.asg 7 (.op2 .mod (.bi .int [(.op2 .add (.op2 .add (.op2 .mul (.var 7) (.cst (.int 16807))) (.op2 .mul (.cst (.int 7)) (.var 6))) (.cst (.int 1)))]) (.cst (.int 2147483647))))
 (.seq (.exp (.mu .append 3 [(.op2 .mod (.bi .int [(.op2 .fdiv (.var 7) (.cst (.int 997)))]) (.cst (.int 1000)))]))
 .skip)))
 .skip)))
 .skip))))
 (.seq (.ret (.var 3))
 .skip)))
def b_draw : Sm :=
 (.seq (.seti 0 (.cst (.int 1)) (.op2 .add (.idx (.var 0) (.cst (.int 1))) (.cst (.int 1))))
 (.seq (.ife (.op2 .gt (.idx (.var 0) (.cst (.int 1))) (.bi .len [(.idx (.var 0) (.cst (.int 0)))]))
  (.seq (.ret (.op2 .mod (.bi .int [(.op2 .add (.op2 .mul (.idx (.var 0) (.cst (.int 1))) (.cst (.int 7))) (.cst (.int 3)))]) (.var 1)))
 .skip)
  .skip)
 (.seq (.ret (.op2 .mod (.bi .int [(.idx (.idx (.var 0) (.cst (.int 0))) (.op2 .sub (.idx (.var 0) (.cst (.int 1))) (.cst (.int 1))))]) (.var 1)))
 .skip)))
def b_pick : Sm :=
 (.seq (.ret (.idx (.var 1) (.op2 .mod (.bi .int [(.call (Str.ofString "_law_draw") [(.var 0), (.cst (.int 1000))])]) (.bi .len [(.var 1)]))))
 .skip)
def b_same : Sm :=
 (.seq (.ife (.op2 .is (.var 1) (.cst .none))
  (.seq (.ret (.op2 .is (.var 0) (.cst .none)))
 .skip)
  .skip)
 (.seq (.ife (.op2 .is (.var 1) (.cst (.bool true)))
  (.seq (.ret (.op2 .is (.var 0) (.cst (.bool true))))
 .skip)
  .skip)
 (.seq (.ife (.op2 .is (.var 1) (.cst (.bool false)))
  (.seq (.ret (.op2 .is (.var 0) (.cst (.bool false))))
 .skip)
  .skip)
 (.seq (.ife (.isi (.var 1) .str)
  (.seq (.ret (.and (.isi (.var 0) .str) (.op2 .eq (.bi .repr [(.var 0)]) (.bi .repr [(.var 1)]))))
 .skip)
  .skip)
 (.seq (.ife (.isi (.var 1) .int)
  (.seq (.ret (.and (.isi (.var 0) .int) (.and (.not (.isi (.var 0) .bool)) (.op2 .eq (.bi .repr [(.var 0)]) (.bi .repr [(.var 1)])))))
 .skip)
  .skip)
 (.seq (.ife (.or (.and (.isi (.var 1) .tuple) (.not (.isi (.var 0) .tuple))) (.and (.isi (.var 1) .list) (.not (.isi (.var 0) .list))))
  (.seq (.ret (.cst (.bool false)))
 .skip)
  .skip)
 (.seq (.ife (.op2 .ne (.bi .len [(.var 0)]) (.bi .len [(.var 1)]))
  (.seq (.ret (.cst (.bool false)))
 .skip)
  .skip)
 (.seq (.for (.name 2) (.it .rng1 [(.bi .len [(.var 1)])])
  (.seq (.ife (.not (.call (Str.ofString "_law_same") [(.idx (.var 0) (.var 2)), (.idx (.var 1) (.var 2))]))
  (.seq (.ret (.cst (.bool false)))
 .skip)
  .skip)
 .skip))
 (.seq (.ret (.cst (.bool true)))
 .skip)))))))))
def tx (l : List Nat) : Prop := l.length ≤ 2000 ∧ ∀ c ∈ l, c < 128
theorem tx_ok {l : List Nat} (h : tx l) : okT l = true := by
  unfold okT
  rw [List.all_eq_true]
  exact fun c hc => decide_eq_true (Nat.lt_trans (h.2 c hc) (by decide))
theorem tx_sz {l : List Nat} (h : tx l) : l.length ≤ sizeLine := sz (Nat.le_trans h.1 (by decide))
def gN : Str → Option D := fun _ => none
def G0 : Ctx := ⟨[], tbl [], gN⟩
def con1 (f : List Nat → D) : Con := ⟨[false], fun args Q => ∃ l, args = [.sh (T l)] ∧ tx l ∧ Q (.sh (f l)) []⟩
theorem tx_asc {l : List Nat} (h1 : l.length ≤ 2000) (h2 : ∀ c ∈ l, c < 128) : tx l := ⟨h1, h2⟩
abbrev its (l : List Nat) : List D := l.map fun c => T [c]
def conCell : Con := ⟨[false, false], fun args Q => ∃ (ns : List Int) (k : Int), args = [.sh (iD ns), .sh (.int k)] ∧ 0 ≤ k ∧ ∀ c : Int, Q (.sh (.int c)) []⟩
theorem ok_cell : ∀ args Q, conCell.run args Q → wpF G0 ⟨conCell.io, 2, b_cell⟩ args Q := by
  rintro args Q ⟨ns, k, rfl, hk, q⟩
  simp_arith [conCell, b_cell]
  refine cnd_dec (fun h => ?_) fun h => q 0
  have hl : k.toNat < ns.length := by omega
  refine ⟨.int (ns[k.toNat]), ?_, q _⟩
  simp only [atI, ixN, List.length_map]
  rw [if_pos hk, if_pos h]
  simp [hl]
def conDigits : Con := ⟨[false, false, false], fun args Q => ∃ (ns : List Int), args = [.sh (iD ns), .sh (.int 0), .sh (.int 60)] ∧ ∀ ds : List Int, Q (.lst (ds.map .int)) []⟩
def G_digits : Ctx := ⟨[], tbl [("_law_cell", conCell)], gN⟩
theorem G_digits_1 : G_digits.fn "_law_cell" = some conCell := rfl
theorem rangeD_map (lo : Int) (n : Nat) : rangeD lo n = ((List.range n).map fun i => lo + (i : Nat)).map .int := by unfold rangeD; rw [List.map_map]; rfl
abbrev dEnv (ns xs : List Int) (a b c d : Option OT) : Env := [some (.sh (iD ns)), some (.sh (.int 0)), some (.sh (.int 60)), some (.lst (xs.map .int)), a, b, c, d]
theorem rng_ints (n : Nat) : ∃ ks : List Int, rangeD 0 n = ks.map .int ∧ (∀ k ∈ ks, 0 ≤ k) ∧ ks.length = n := by
  refine ⟨(List.range n).map fun i => 0 + (i : Nat), rangeD_map 0 n, fun k hk => ?_, by simp⟩
  rw [List.mem_map] at hk
  obtain ⟨i, _, rfl⟩ := hk
  omega
theorem digits60 {ns xs : List Int} {c : Int} {a z w : Option OT} {D : EndE} (hl : xs.length ≤ 3600) (h : ∀ (ys : List Int) (a b c d : Option OT), ys.length ≤ xs.length + 60 → D.nx (dEnv ns ys a b c d)) :
    forS ⟨[], G_digits.fn, G_digits.gl⟩ (Tg.name 6) ((Sm.ife (Ex.op2 Op2.gt (Ex.var 5) (Ex.cst (PyData.int 0))) ((Sm.exp (Ex.mu Mu.append 3 [Ex.op2 Op2.mod (Ex.bi Bi.int [Ex.var 5]) (Ex.cst (PyData.int 1000))])).seq ((Sm.asg 5 (Ex.op2 Op2.fdiv (Ex.var 5) (Ex.cst (PyData.int 1000)))).seq Sm.skip)) Sm.skip).seq Sm.skip)
      (rangeD 0 (Int.toNat 60)) (dEnv ns xs a (some (.sh (.int c))) z w) D := by
  obtain ⟨ks, hk, _, hkl⟩ := rng_ints (Int.toNat 60)
  refine forS_inv (fun ds env => ∃ (js ys : List Int) (c : Int) (z : Option OT), ds = js.map .int ∧ ys.length + js.length ≤ xs.length + 60 ∧ env = dEnv ns ys a (some (.sh (.int c))) z w) ?_ ?_ ⟨ks, xs, c, z, hk, by rw [hkl]; exact Nat.le_refl _, rfl⟩
  · rintro d ds env k ⟨js, ys, c, z, hd, hl', rfl⟩ hk
    match js, hd with
    | j :: js, hd =>
      cases hd
      simp only [List.length_cons] at hl'
      simp_arith
      refine cnd_dec (fun _ => ?_) fun _ => hk _ ⟨js, ys, c, _, rfl, by omega, rfl⟩
      and_intros
      refine hk _ ⟨js, ys ++ [c % 1000], c / 1000, some (.sh (.int j)), rfl, by simp; omega, ?_⟩
      simp only [dEnv, List.map_append, List.map_cons, List.map_nil]
  · rintro env ⟨js, ys, c, z, hd, hl', rfl⟩
    exact h ys _ _ _ _ (by omega)
theorem digits12 {ns xs : List Int} {c : Int} {a z w : Option OT} {D : EndE} (hl : xs.length ≤ 3600) (h : ∀ (ys : List Int) (a b c d : Option OT), ys.length ≤ xs.length + 60 → D.nx (dEnv ns ys a b c d)) :
    forS ⟨[], G_digits.fn, G_digits.gl⟩ (Tg.name 6) ((Sm.asg 7 (Ex.op2 Op2.mod (Ex.bi Bi.int [Ex.op2 Op2.add (Ex.op2 Op2.add (Ex.op2 Op2.mul (Ex.var 7) (Ex.cst (PyData.int 16807))) (Ex.op2 Op2.mul (Ex.cst (PyData.int 7)) (Ex.var 6))) (Ex.cst (PyData.int 1))]) (Ex.cst (PyData.int 2147483647)))).seq
        ((Sm.exp (Ex.mu Mu.append 3 [Ex.op2 Op2.mod (Ex.bi Bi.int [Ex.op2 Op2.fdiv (Ex.var 7) (Ex.cst (PyData.int 997))]) (Ex.cst (PyData.int 1000))])).seq Sm.skip))
      (rangeD 0 (Int.toNat 12)) (dEnv ns xs a w z (some (.sh (.int c)))) D := by
  obtain ⟨ks, hk, _, hkl⟩ := rng_ints (Int.toNat 12)
  refine forS_inv (fun ds env => ∃ (js ys : List Int) (c : Int) (z : Option OT), ds = js.map .int ∧ ys.length + js.length ≤ xs.length + 12 ∧ env = dEnv ns ys a w z (some (.sh (.int c)))) ?_ ?_ ⟨ks, xs, c, z, hk, by rw [hkl]; exact Nat.le_refl _, rfl⟩
  · rintro d ds env k ⟨js, ys, c, z, hd, hl', rfl⟩ hk
    match js, hd with
    | j :: js, hd =>
      cases hd
      simp only [List.length_cons] at hl'
      simp_arith
      and_intros
      refine hk _ ⟨js, ys ++ [(c * 16807 + 7 * j + 1) % 2147483647 / 997 % 1000], (c * 16807 + 7 * j + 1) % 2147483647, some (.sh (.int j)), rfl, by simp; omega, ?_⟩
      simp only [dEnv, List.map_append, List.map_cons, List.map_nil]
  · rintro env ⟨js, ys, c, z, hd, hl', rfl⟩
    exact h ys _ _ _ _ (by omega)
theorem ok_digits : ∀ args Q, conDigits.run args Q → wpF G_digits ⟨conDigits.io, 8, b_digits⟩ args Q := by
  rintro args Q ⟨ns, rfl, q⟩
  simp_arith [conDigits, b_digits, G_digits_1]
  refine ⟨by decide, by decide, by decide, by decide, by decide, ?_⟩
  obtain ⟨ks, hks, hk0, hkl⟩ := rng_ints 60
  refine forS_inv (fun ds env => ∃ (ks xs : List Int) (a b c d : Option OT), ds = ks.map .int ∧ (∀ k ∈ ks, 0 ≤ k) ∧ xs.length + 60 * ks.length ≤ 3600 ∧ env = dEnv ns xs a b c d) ?_ ?_ ⟨ks, [], _, _, _, _, hks, hk0, by rw [hkl]; decide, rfl⟩
  · rintro d ds env k ⟨ks, xs, a, b, c, d, hd, hk0, hl, rfl⟩ hk
    match ks, hd with
    | i :: ks, hd =>
      cases hd
      have hi : 0 ≤ i := hk0 i (by simp)
      simp only [List.length_cons] at hl
      simp_arith [G_digits_1, conCell]
      refine ⟨ns, rfl, hi, fun c => ?_⟩
      have fin : ∀ (ys : List Int) (a b c d : Option OT), ys.length ≤ xs.length + 60 → k (dEnv ns ys a b c d) := fun ys a b c d h => hk _ ⟨ks, ys, a, b, c, d, rfl, fun k hk => hk0 k (by simp [hk]), by omega, rfl⟩
      have h60 := fun (c : Int) (a z w : Option OT) (D : EndE) h => digits60 (ns := ns) (xs := xs) (c := c) (a := a) (z := z) (w := w) (D := D) (by omega) h
      have h12 := fun (c : Int) (a z w : Option OT) (D : EndE) h => digits12 (ns := ns) (xs := xs) (c := c) (a := a) (z := z) (w := w) (D := D) (by omega) h
      refine cnd_dec (fun _ => ?_) fun _ => ?_
      all_goals
        and_intros
        refine cnd_dec (fun _ => ?_) fun _ => ?_
        · and_intros
          refine h60 _ _ _ _ _ ?_
          exact fin
        · and_intros
          refine h12 _ _ _ _ _ ?_
          exact fin
  · rintro env ⟨ks, xs, a, b, c, d, hd, hk0, hl, rfl⟩
    simp_arith
    exact q xs
abbrev box (ds : List Int) (n : Int) : OT := .lst [iD ds, .int n]
def conDraw : Con := ⟨[true, false], fun args Q => ∃ (ds : List Int) (n m : Int), args = [box ds n, .sh (.int m)] ∧ 0 ≤ n ∧ 0 < m ∧ ∀ r : Int, 0 ≤ r → r < m → Q (.sh (.int r)) [box ds (n + 1)]⟩
theorem ok_draw : ∀ args Q, conDraw.run args Q → wpF G0 ⟨conDraw.io, 2, b_draw⟩ args Q := by
  rintro args Q ⟨ds, n, m, rfl, hn, hm, q⟩
  simp_arith [conDraw, b_draw]
  refine cnd_dec (fun _ => ?_) fun hle => ?_
  · and_intros
    exact q _ (Int.emod_nonneg _ (by omega)) (Int.emod_lt_of_pos _ hm)
  · have hl : n.toNat < ds.length := by omega
    refine ⟨.int ds[n.toNat], ?_, ?_⟩
    · rw [show n + 1 - 1 = ((n.toNat : Nat) : Int) by omega, atI_nat]
      simp [hl]
    · simp_arith
      and_intros
      exact q _ (Int.emod_nonneg _ (by omega)) (Int.emod_lt_of_pos _ hm)
def rowD : D → Option (List D)
  | .list xs => some xs
  | .str x => some (its x.cps.toList)
  | _ => none
def conPick : Con := ⟨[true, false], fun args Q => ∃ (ds : List Int) (n : Int) (row : D) (xs : List D), args = [box ds n, .sh row] ∧ 0 ≤ n ∧ rowD row = some xs ∧ xs ≠ [] ∧ xs.length ≤ 1000 ∧ ∀ d ∈ xs, Q (.sh d) [box ds (n + 1)]⟩
def G_pick : Ctx := ⟨[], tbl [("_law_draw", conDraw)], gN⟩
theorem G_pick_1 : G_pick.fn "_law_draw" = some conDraw := rfl
theorem ok_pick : ∀ args Q, conPick.run args Q → wpF G_pick ⟨conPick.io, 2, b_pick⟩ args Q := by
  rintro args Q ⟨ds, n, row, xs, rfl, hn, hr, hx, hl, q⟩
  simp_arith [conPick, b_pick, G_pick_1, conDraw]
  refine ⟨ds, rfl, hn, by decide, fun r h0 h1 => ?_⟩
  have hpos : 0 < (xs.length : Int) := by
    have := List.length_pos_iff.mpr hx
    omega
  have hm0 := Int.emod_nonneg r (b := (xs.length : Int)) (by omega)
  have hm1 := Int.emod_lt_of_pos r hpos
  have hj : ((r % (xs.length : Int)).toNat : Int) = r % (xs.length : Int) := Int.toNat_of_nonneg hm0
  have hjl : (r % (xs.length : Int)).toNat < xs.length := by omega
  cases row with
  | list ys =>
    cases hr
    simp_arith
    and_intros
    exact ⟨xs[(r % (xs.length : Int)).toNat], atI_of hm0 hjl, q _ (List.getElem_mem _)⟩
  | str x =>
    rw [mk_of x] at *
    generalize x.cps.toList = l at *
    have e : its l = xs := by simpa [rowD, mk_list] using hr
    subst e
    simp only [List.length_map] at *
    simp_arith
    and_intros
    exact ⟨l[(r % (l.length : Int)).toNat], atI_of hm0 hjl, q _ (List.mem_map.mpr ⟨_, List.getElem_mem hjl, rfl⟩)⟩
  | _ => cases hr
inductive Gd : Nat → D → Prop where
  | non {n} : Gd n .none
  | str {n l} : tx l → Gd n (T l)
  | int {n i} : -(2 ^ 64) < i → i < 2 ^ 64 → Gd n (.int i)
  | tup {n ds} : (∀ d ∈ ds, Gd n d) → ds.length ≤ 10 → Gd (n + 1) (.tuple ds)
  | lst {n ds} : (∀ d ∈ ds, Gd n d) → ds.length ≤ 1000 → Gd (n + 1) (.list ds)
def conSame (n : Nat) : Con := ⟨[false, false], fun args Q => ∃ d, args = [.sh d, .sh d] ∧ Gd n d ∧ Q (.sh (.bool true)) []⟩
def G_same (n : Nat) : Ctx := match n with
  | 0 => ⟨[], tbl [], gN⟩
  | n + 1 => ⟨[], tbl [("_law_same", conSame n)], gN⟩
theorem G_same_1 (n : Nat) : (G_same (n + 1)).fn "_law_same" = some (conSame n) := rfl
theorem repr_sz {l : List Nat} (h : tx l) : (reprText (mk l)).length ≤ sizeLine := by
  have e := StrLaws.reprText_len (mk l) (by rw [mk_list]; exact fun c hc => Nat.lt_trans (h.2 c hc) (by decide))
  rw [mk_len] at e
  have := h.1
  exact sz (by omega)
theorem digs_ok (i : Int) : okT (digs i) = true := by
  unfold okT digs
  rw [List.all_eq_true]
  intro c hc
  rw [Str.ofString_eq_toList] at hc
  simp only [List.mem_map] at hc
  obtain ⟨x, _, rfl⟩ := hc
  exact decide_eq_true (char_lt x)
theorem ok_same (n : Nat) : ∀ args Q, (conSame n).run args Q → wpF (G_same n) ⟨[false, false], 3, b_same⟩ args Q := by
  rintro args Q ⟨d, rfl, hd, q⟩
  cases hd with
  | non =>
    simp_arith [b_same]
    exact q
  | str hl =>
    have h1 := repr_sz hl
    simp_arith [b_same, isBool, isiS, eq_self (repr_shaped (tx_ok hl))]
    and_intros
    exact q
  | @int _ i h1 h2 =>
    simp_arith [b_same, isBool, isiS, digs_ok]
    and_intros
    exact q
  | @tup n ds hd hl =>
    simp_arith [b_same, isBool, isiS, beq_self_eq_true]
    and_intros
    have hr : rangeD 0 (ds.length : Int).toNat = (List.range ds.length).map fun i => .int (i : Nat) := by
      unfold rangeD
      simp
    rw [hr]
    refine forS_inv (fun xs env => ∃ (js : List Nat) (v : Option OT), xs = js.map (fun i => .int (i : Nat)) ∧ (∀ j ∈ js, j < ds.length) ∧ env = [some (.sh (.tuple ds)), some (.sh (.tuple ds)), v]) ?_ ?_ ⟨_, _, rfl, fun j hj => List.mem_range.mp hj, rfl⟩
    · rintro d xs env k ⟨js, v, he, hj, rfl⟩ hk
      match js, he with
      | j :: js, he =>
        cases he
        have hjl := hj j (by simp)
        have hat : ds[j]? = some ds[j] := by simp [hjl]
        simp_arith [atI_nat, hat, G_same_1, conSame]
        exact ⟨hd _ (List.getElem_mem hjl), hk _ ⟨js, _, rfl, fun x hx => hj x (by simp [hx]), rfl⟩⟩
    · rintro env ⟨js, v, he, hj, rfl⟩
      simp_arith
      exact q
  | @lst n ds hd hl =>
    simp_arith [b_same, isBool, isiS, beq_self_eq_true]
    and_intros
    have hr : rangeD 0 (ds.length : Int).toNat = (List.range ds.length).map fun i => .int (i : Nat) := by
      unfold rangeD
      simp
    rw [hr]
    refine forS_inv (fun xs env => ∃ (js : List Nat) (v : Option OT), xs = js.map (fun i => .int (i : Nat)) ∧ (∀ j ∈ js, j < ds.length) ∧ env = [some (.sh (.list ds)), some (.sh (.list ds)), v]) ?_ ?_ ⟨_, _, rfl, fun j hj => List.mem_range.mp hj, rfl⟩
    · rintro d xs env k ⟨js, v, he, hj, rfl⟩ hk
      match js, he with
      | j :: js, he =>
        cases he
        have hjl := hj j (by simp)
        have hat : ds[j]? = some ds[j] := by simp [hjl]
        simp_arith [atI_nat, hat, G_same_1, conSame]
        exact ⟨hd _ (List.getElem_mem hjl), hk _ ⟨js, _, rfl, fun x hx => hj x (by simp [hx]), rfl⟩⟩
    · rintro env ⟨js, v, he, hj, rfl⟩
      simp_arith
      exact q
end TW
end
section
set_option Elab.async false
set_option linter.all false
set_option maxRecDepth 100000
set_option maxHeartbeats 1000000
/-! LB2: comprehensions whose element changes nothing; one of some texts -/
namespace TW
open PySem L2
theorem lcGo_pure {step : D → Env → (Option D → Env → Prop) → Prop} {e1 : Env} {i : Nat} (g : D → Option D) : ∀ (items acc : List D) (v : Option OT) (k : List D → Env → Prop), acc.length + items.length ≤ sizeLine →
    (∀ d ∈ items, ∀ (w : Option OT) (k : Option D → Env → Prop), k (g d) (e1.set i (some (.sh d))) → step d (e1.set i w) k) → (∀ w, k (acc ++ items.filterMap g) (e1.set i w)) → lcGo step items acc (e1.set i v) k
  | [], acc, v, k, hl, h, q => by
    simp only [lcGo]
    have := q v
    rwa [List.filterMap_nil, List.append_nil] at this
  | d :: items, acc, v, k, hl, h, q => by
    simp only [lcGo]
    rw [List.length_cons] at hl
    refine h d (by simp) v _ ?_
    cases hg : g d with
    | none =>
      refine lcGo_pure g items acc _ k (by omega) (fun d hd => h d (by simp [hd])) fun w => ?_
      have := q w
      rwa [List.filterMap_cons_none hg] at this
    | some r =>
      refine ⟨by omega, lcGo_pure g items (acc ++ [r]) _ k (by rw [List.length_append, List.length_singleton]; omega) (fun d hd => h d (by simp [hd])) fun w => ?_⟩
      have := q w
      rw [List.filterMap_cons_some hg] at this
      rw [List.append_assoc]
      exact this
theorem lcS_pure {Γ : Ctx} {elt : Ex} {i : Nat} {ifs : List Ex} {items : List D} {e1 : Env} {Q : KE} (g : D → Option D) (hi : i ∉ Γ.io) (hlt : i < e1.length) (hl : items.length ≤ sizeLine)
    (h : ∀ d ∈ items, ∀ (k : Option D → Env → Prop), k (g d) (e1.set i (some (.sh d))) → wpTs Γ ifs (e1.set i (some (.sh d))) fun b e3 => if b = true then wpE Γ elt e3 fun r e4 => k (some r.frz) e4 else k none e3)
    (q : Q (.lst (items.filterMap g)) e1) : lcS Γ elt (.name i) ifs [i] items e1 Q := by
  unfold lcS
  have e0 : e1 = e1.set i (e1[i]) := by rw [List.set_getElem_self]
  have := lcGo_pure (step := fun d e k => tgt Γ.io (.name i) d (wipeE e [i]) fun e2 => wpTs Γ ifs e2 fun b e3 => if b = true then wpE Γ elt e3 fun r e4 => k (some r.frz) e4 else k none e3) (e1 := e1) (i := i) g items [] (e1[i])
    (fun acc e2 => Q (.lst acc) (unwipe e1 e2 [i])) (by simpa using hl) (fun d hd w k hk => ?_) (fun w => ?_)
  · rw [← e0] at this
    exact this
  · refine ⟨hi, ?_⟩
    simp only [wipeE, List.set_set]
    exact h d hd k hk
  · simp only [unwipe, List.getElem?_eq_getElem hlt, List.set_set]
    rw [← e0]
    exact q
theorem lcS_map {Γ : Ctx} {elt : Ex} {i : Nat} {items : List D} {e1 : Env} {Q : KE} (g : D → D) (hi : i ∉ Γ.io) (hlt : i < e1.length) (hl : items.length ≤ sizeLine)
    (h : ∀ d ∈ items, ∀ (k : D → Env → Prop), k (g d) (e1.set i (some (.sh d))) → wpE Γ elt (e1.set i (some (.sh d))) fun r e4 => k r.frz e4)
    (q : Q (.lst (items.map g)) e1) : lcS Γ elt (.name i) [] [i] items e1 Q := by
  refine lcS_pure (fun d => some (g d)) hi hlt hl (fun d hd k hk => ?_) ?_
  · simp only [wpTs, if_true]
    exact h d hd (fun d e => k (some d) e) hk
  · rw [show items.filterMap (fun d => some (g d)) = items.map g from congrFun (List.filterMap_eq_map (f := g)) items]
    exact q
theorem eqv_T (a b : List Nat) : PyData.eqv (T a) (T b) = decide (a = b) := by rw [PyData.eqv, eq_mk]
theorem any_T (k : List Nat) : ∀ xs : List (List Nat), ((xs.map T).any fun z => PyData.eqv z (T k)) = decide (k ∈ xs)
  | [] => by simp
  | x :: xs => by
    rw [List.map_cons, List.any_cons, any_T k xs, eqv_T, ← Bool.decide_or]
    exact decide_eq_decide.mpr (by rw [List.mem_cons, eq_comm])
theorem shaped_T {l : List Nat} (h : tx l) : SeqAt.shaped (T l) = true := by rw [shaped_str]; exact tx_ok h
theorem lay_T {l : List Nat} (h : ∀ c ∈ l, c < 128) : PyData.canLay0 (T l) = true ∧ PyData.depth (T l) ≤ 60 := by
  refine ⟨?_, by simp [PyData.depth]⟩
  have e : SeqAt.shaped (T l) = true := by
    rw [shaped_str]
    unfold okT
    rw [List.all_eq_true]
    exact fun c hc => decide_eq_true (Nat.lt_trans (h c hc) (by decide))
  unfold SeqAt.shaped at e
  rw [Bool.and_eq_true] at e
  exact e.1
theorem shaped_tuple {xs : List D} (h : ∀ d ∈ xs, PyData.canLay0 d = true ∧ PyData.depth d ≤ 60) : SeqAt.shaped (.tuple xs) = true := by
  have h1 := depthAll_le xs 60 fun d hd => (h d hd).2
  unfold SeqAt.shaped
  rw [PyData.canLay0, layAll_of xs fun d hd => (h d hd).1, PyData.depth, decide_eq_true (show PyData.depthAll xs + 1 ≤ 64 by omega)]
  rfl
theorem strsD_T : ∀ ws : List (List Nat), strsD (ws.map T) = some (ws.map mk)
  | [] => rfl
  | w :: ws => by rw [List.map_cons, strsD, strsD_T ws]; rfl
section
variable {Γ : Ctx} {env : Env} {nx : Env → Prop} {rt : KE} {bk ct : Env → Prop} {ex : Str → Option (Int → Env → Prop)}
theorem seq_ife {c : Ex} {a rest : Sm} (P : Prop) [Decidable P] (hc : ∀ k : Bool → Env → Prop, k (decide P) env → tst (wpE Γ c env) k) (ht : P → wpS Γ a env ⟨fun e => wpS Γ rest e ⟨nx, rt, bk, ct, ex⟩, rt, bk, ct, ex⟩) (hf : ¬P → wpS Γ rest env ⟨nx, rt, bk, ct, ex⟩) : wpS Γ (.seq (.ife c a .skip) rest) env ⟨nx, rt, bk, ct, ex⟩ := by
  rw [wS_seq, wS_ife]
  refine hc _ ?_
  by_cases h : P
  · rw [if_pos (decide_eq_true h)]
    exact ht h
  · rw [if_neg (by simpa using h), wS_skip]
    exact hf h
theorem seq_asg {i : Nat} {e : Ex} {rest : Sm} (r : OT) (hi : i ∉ Γ.io) (he : ∀ k : KE, k r env → wpE Γ e env k) (h : wpS Γ rest (env.set i (some r)) ⟨nx, rt, bk, ct, ex⟩) : wpS Γ (.seq (.asg i e) rest) env ⟨nx, rt, bk, ct, ex⟩ := by
  rw [wS_seq, wS_asg]
  exact ⟨hi, he _ h⟩
theorem ife_val {c : Ex} {a b : Sm} {D : EndE} (P : Prop) [Decidable P] (hc : ∀ k : Bool → Env → Prop, k (decide P) env → tst (wpE Γ c env) k) (ht : P → wpS Γ a env D) (hf : ¬P → wpS Γ b env D) : wpS Γ (.ife c a b) env D := by
  rw [wS_ife]
  refine hc _ ?_
  by_cases h : P
  · rw [if_pos (decide_eq_true h)]
    exact ht h
  · rw [if_neg (by simpa using h)]
    exact hf h
theorem seq_skip {a : Sm} (h : wpS Γ a env ⟨nx, rt, bk, ct, ex⟩) : wpS Γ (.seq a .skip) env ⟨nx, rt, bk, ct, ex⟩ := by
  rw [wS_seq]
  simp only [wS_skip]
  exact h
theorem seq_asgP {i : Nat} {e : Ex} {rest : Sm} (P : OT → Env → Prop) (hi : i ∉ Γ.io) (he : ∀ k : KE, (∀ r e1, P r e1 → k r e1) → wpE Γ e env k) (h : ∀ r e1, P r e1 → wpS Γ rest (e1.set i (some r)) ⟨nx, rt, bk, ct, ex⟩) : wpS Γ (.seq (.asg i e) rest) env ⟨nx, rt, bk, ct, ex⟩ := by
  rw [wS_seq, wS_asg]
  exact ⟨hi, he _ h⟩
theorem seq_cut {a rest : Sm} (k : Env → Prop) (ha : ∀ k' : Env → Prop, (∀ e, k e → k' e) → wpS Γ a env ⟨k', rt, bk, ct, ex⟩) (h : ∀ e, k e → wpS Γ rest e ⟨nx, rt, bk, ct, ex⟩) : wpS Γ (.seq a rest) env ⟨nx, rt, bk, ct, ex⟩ := by
  rw [wS_seq]
  exact ha _ h
theorem seq_par {i j : Nat} {a b : Ex} {rest : Sm} (r t : OT) (hi : i ∉ Γ.io) (hj : j ∉ Γ.io) (hij : i ≠ j) (ha : ∀ k : KE, k r env → wpE Γ a env k) (hb : ∀ k : KE, k t env → wpE Γ b env k) (h : wpS Γ rest ((env.set i (some r)).set j (some t)) ⟨nx, rt, bk, ct, ex⟩) : wpS Γ (.seq (.par i j a b) rest) env ⟨nx, rt, bk, ct, ex⟩ := by
  rw [wS_seq, wS_par]
  exact ⟨hi, hj, hij, ha _ (hb _ h)⟩
theorem seq_ret {e : Ex} {rest : Sm} (h : retE Γ e env rt) : wpS Γ (.seq (.ret e) rest) env ⟨nx, rt, bk, ct, ex⟩ := by
  rw [wS_seq, wS_ret]
  exact h
end
theorem cutD_lo (xs : List D) (n : Nat) : cutD xs (some (n : Int)) none = xs.drop n := by
  unfold cutD
  rw [HT.sIx_nat, HT.sIx_none]
  by_cases ha : n ≤ xs.length
  · rw [Nat.min_eq_left ha, List.take_of_length_le (by simp)]
  · rw [Nat.min_eq_right (by omega), List.drop_eq_nil_of_le (Nat.le_refl _), List.take_nil, List.drop_eq_nil_of_le (by omega)]
theorem cutD_hi (xs : List D) (n : Nat) : cutD xs none (some (n : Int)) = xs.take n := by
  unfold cutD
  rw [HT.sIx_nat, HT.sIx_none]
  simp
theorem cutD_2 (a b : D) (xs : List D) : cutD (a :: b :: xs) (some 2) none = xs := cutD_lo (a :: b :: xs) 2
theorem cast1 : ((1 : Nat) : Int) = 1 := rfl
theorem cast2 : ((2 : Nat) : Int) = 2 := rfl
theorem cast3 : ((3 : Nat) : Int) = 3 := rfl
theorem cast4 : ((4 : Nat) : Int) = 4 := rfl
theorem cast0 : ((0 : Nat) : Int) = 0 := rfl
end TW
end
section
set_option Elab.async false
set_option linter.all false
set_option maxRecDepth 100000
set_option maxHeartbeats 1000000
/-! P97: law_k97 in plain Lean: words and orders -/
namespace TW
open PySem L2
/-- a text cut at each c -/
def sp (c : Nat) : List Nat → List (List Nat)
  | [] => [[]]
  | a :: r => if a = c then [] :: sp c r else match sp c r with
    | w :: ws => (a :: w) :: ws
    | [] => [[a]]
def jn (c : Nat) : List (List Nat) → List Nat
  | [] => []
  | [w] => w
  | w :: v :: ws => w ++ c :: jn c (v :: ws)
theorem sp_ne (c : Nat) : ∀ l, sp c l ≠ []
  | [] => by simp [sp]
  | a :: r => by
    rw [sp]
    split
    · simp
    · split <;> simp
theorem jn_sp (c : Nat) : ∀ l, jn c (sp c l) = l
  | [] => rfl
  | a :: r => by
    have ih := jn_sp c r
    have hn := sp_ne c r
    rw [sp]
    split
    · rename_i h
      subst h
      match hs : sp a r, hn with
      | w :: ws, _ =>
        rw [hs] at ih
        show [] ++ a :: jn a (w :: ws) = _
        rw [ih]; rfl
    · match hs : sp c r, hn with
      | [w], _ =>
        rw [hs] at ih
        simp only [jn] at ih ⊢
        rw [ih]
      | w :: v :: ws, _ =>
        rw [hs] at ih
        simp only [jn] at ih ⊢
        rw [← ih]; rfl
theorem sp_no (c : Nat) : ∀ l, ∀ w ∈ sp c l, c ∉ w
  | [], w, h => by simp [sp] at h; rw [h]; simp
  | a :: r, w, h => by
    have ih := sp_no c r
    rw [sp] at h
    split at h
    · rcases List.mem_cons.mp h with rfl | h
      · simp
      · exact ih w h
    · rename_i hac
      match hs : sp c r, sp_ne c r with
      | v :: ws, _ =>
        rw [hs] at h ih
        rcases List.mem_cons.mp h with rfl | h
        · rw [List.mem_cons]
          rintro (e | e)
          · exact hac e.symm
          · exact ih v (by simp) e
        · exact ih w (by simp [h])
theorem sp_free {c : Nat} : ∀ {w : List Nat}, c ∉ w → sp c w = [w]
  | [], _ => rfl
  | a :: w, h => by
    rw [List.mem_cons, not_or] at h
    rw [sp, if_neg (fun e => h.1 e.symm), sp_free h.2]
theorem sp_app {c : Nat} (r : List Nat) : ∀ {w : List Nat}, c ∉ w → sp c (w ++ c :: r) = w :: sp c r
  | [], _ => by rw [List.nil_append, sp, if_pos rfl]
  | a :: w, h => by
    rw [List.mem_cons, not_or] at h
    rw [List.cons_append, sp, if_neg (fun e => h.1 e.symm), sp_app r h.2]
theorem sp_jn {c : Nat} : ∀ {ws : List (List Nat)}, ws ≠ [] → (∀ w ∈ ws, c ∉ w) → sp c (jn c ws) = ws
  | [], h, _ => absurd rfl h
  | [w], _, h => sp_free (h w (by simp))
  | w :: v :: ws, _, h => by
    rw [jn, sp_app _ (h w (by simp)), sp_jn (by simp) fun u hu => h u (by simp at hu ⊢; exact .inr hu)]
theorem join_mk (c : Nat) : ∀ ws : List (List Nat), Str.join (mk [c]) (ws.map mk) = mk (jn c ws)
  | [] => rfl
  | [w] => rfl
  | w :: v :: ws => by
    have ih := join_mk c (v :: ws)
    show mk w ++ mk [c] ++ Str.join (mk [c]) ((v :: ws).map mk) = _
    rw [ih, mk_app, mk_app, jn, List.append_assoc]; rfl
theorem tjoin_mk (c : Nat) (ws : List (List Nat)) : Txt.join (mk [c]) (ws.map mk) = mk (jn c ws) := by
  show Builtin.Str.glued _ _ = _
  rw [StrLaws.glued_eq_join, join_mk]
theorem tsplit_mk {c : Nat} (hc : c < 256) (l : List Nat) : Txt.split (mk l) (mk [c]) = (sp c l).map mk := by
  have e : mk l = Txt.join (mk [c]) ((sp c l).map mk) := by rw [tjoin_mk, jn_sp]
  rw [e]
  refine TL.split_join (s := c) (S := []) (by show (mk [c]).cps.toList = _; rw [mk_list]) (by simp [mk, hc]) (by simpa using sp_ne c l) fun p hp => ?_
  rw [List.mem_map] at hp
  obtain ⟨w, hw, rfl⟩ := hp
  show c ∉ (mk w).cps.toList
  rw [mk_list]
  exact sp_no c l w hw
theorem jn_mem {c x : Nat} : ∀ {ws : List (List Nat)}, x ∈ jn c ws → x = c ∨ ∃ w ∈ ws, x ∈ w
  | [], h => by simp [jn] at h
  | [w], h => .inr ⟨w, by simp, h⟩
  | w :: v :: ws, h => by
    rw [jn, List.mem_append, List.mem_cons] at h
    rcases h with h | h | h
    · exact .inr ⟨w, by simp, h⟩
    · exact .inl h
    · rcases jn_mem h with h | ⟨u, hu, h⟩
      · exact .inl h
      · exact .inr ⟨u, by simp at hu ⊢; exact .inr hu, h⟩
theorem mem_jn {c x : Nat} : ∀ {ws : List (List Nat)} {w}, w ∈ ws → x ∈ w → x ∈ jn c ws
  | [w], v, hv, hx => by
    simp at hv; subst hv; exact hx
  | w :: v :: ws, u, hu, hx => by
    rw [jn, List.mem_append, List.mem_cons]
    rcases List.mem_cons.mp hu with rfl | hu
    · exact .inl hx
    · exact .inr (.inr (mem_jn hu hx))
theorem jn_len (c : Nat) : ∀ ws : List (List Nat), (jn c ws).length + 1 = (ws.map List.length).sum + ws.length ∨ ws = []
  | [] => .inr rfl
  | [w] => .inl (by simp [jn])
  | w :: v :: ws => by
    left
    rcases jn_len c (v :: ws) with h | h
    · rw [jn, List.length_append, List.length_cons]
      simp only [List.map_cons, List.sum_cons, List.length_cons] at h ⊢
      omega
    · cases h
theorem jn_le (c : Nat) (ws : List (List Nat)) : (jn c ws).length ≤ (ws.map List.length).sum + ws.length := by
  rcases jn_len c ws with h | rfl
  · omega
  · simp [jn]
theorem sp_sum (c : Nat) (l : List Nat) : ((sp c l).map List.length).sum + (sp c l).length = l.length + 1 := by
  rcases jn_len c (sp c l) with h | h
  · rw [jn_sp] at h; exact h.symm
  · exact absurd h (sp_ne c l)
theorem sp_mem {c x : Nat} {l w : List Nat} (h : w ∈ sp c l) (hx : x ∈ w) : x ∈ l := by
  have := mem_jn (c := c) h hx
  rwa [jn_sp] at this
theorem sum_le_mem : ∀ {ns : List Nat} {n}, n ∈ ns → n ≤ ns.sum
  | m :: ns, n, h => by
    rw [List.sum_cons]
    rcases List.mem_cons.mp h with rfl | h
    · omega
    · have := sum_le_mem h; omega
theorem sp_wlen {c : Nat} {l w : List Nat} (h : w ∈ sp c l) : w.length ≤ l.length := by
  have h1 := sp_sum c l
  have h2 := sum_le_mem (List.mem_map_of_mem (f := List.length) h)
  have h3 : 0 < (sp c l).length := List.length_pos_iff.mpr (sp_ne c l)
  omega

/-! orders -/
inductive Pt where
  | s (l : List Nat) | n (i : Int)
  deriving DecidableEq
def Pt.d : Pt → D
  | .s l => T l
  | .n i => .int i
def Pt.t : Pt → List Nat
  | .s l => l
  | .n i => digs i
abbrev Od := List Pt
def oD (o : Od) : D := .tuple (o.map Pt.d)
def wr (o : Od) : List Nat := jn 32 (o.map Pt.t)
def od : Option Od → D
  | none => .none
  | some o => oD o
abbrev small : List Nat := [97, 98, 99, 100, 101, 102, 103, 104, 105, 106, 107, 108, 109, 110, 111, 112, 113, 114, 115, 116, 117, 118, 119, 120, 121, 122]
def isW (w : List Nat) : Bool := (decide (1 ≤ w.length) && decide (w.length ≤ 8)) && w.all fun c => decide (c ∈ small)
abbrev figs : List Nat := [48, 49, 50, 51, 52, 53, 54, 55, 56, 57]
def numW (w : List Nat) : Option Int :=
  if 1 ≤ w.length ∧ w.length ≤ 4 ∧ (∀ c ∈ w, c ∈ figs) then (if 1 < w.length ∧ w[0]? = some 48 then none else some (val w)) else none
def wBooks : List Nat := [98, 111, 111, 107, 115]
def wBegin : List Nat := [98, 101, 103, 105, 110]
def wEnd : List Nat := [101, 110, 100]
def wDrop : List Nat := [100, 114, 111, 112]
def wBook : List Nat := [98, 111, 111, 107]
def wForget : List Nat := [102, 111, 114, 103, 101, 116]
def wUndo : List Nat := [117, 110, 100, 111]
def wAdd : List Nat := [97, 100, 100]
def wTake : List Nat := [116, 97, 107, 101]
def wAsk : List Nat := [97, 115, 107]
def wCopy : List Nat := [99, 111, 112, 121]
def wAlike : List Nat := [97, 108, 105, 107, 101]
def wTell : List Nat := [116, 101, 108, 108]
def asked : List (List Nat) := [[116, 101, 120, 116], [114, 117, 108, 101, 115], [115, 116, 97, 98, 108, 101], [115, 104, 111, 119, 110], [98, 101, 115, 116], [115, 117, 114, 101, 108, 121], [115, 105, 122, 101], [112, 97, 112, 101, 114], [115, 105, 109, 112, 108, 101]]
def rdW : List (List Nat) → Option Od
  | [] => none
  | [k] => if k ∈ [wBooks, wBegin, wEnd, wDrop] then some [.s k] else none
  | [k, a] => if isW a = true ∧ k ∈ [wBook, wForget, wUndo] then some [.s k, .s a] else none
  | k :: a :: b :: r => if isW a = true then
      if k = wAdd then some [.s wAdd, .s a, .s (jn 32 (b :: r))]
      else if r = [] then
        if k = wTake then (numW b).map fun n => [.s wTake, .s a, .n n]
        else if k = wAsk then (if b ∈ asked then some [.s wAsk, .s a, .s b] else none)
        else if k ∈ [wCopy, wAlike] then (if isW b = true then some [.s k, .s a, .s b] else none)
        else if k = wTell ∧ b ≠ [] then some [.s wTell, .s a, .s b] else none
      else none
    else none
def rd (l : List Nat) : Option Od := rdW (sp 32 l)
end TW
end
section
set_option Elab.async false
set_option linter.all false
set_option maxRecDepth 100000
set_option maxHeartbeats 2000000
namespace TW
open PySem L2
def top (i : Nat) : Stmt := PySem.Challenge.pw_ruleyard_k97_orders_read_and_written.main.body.getD i (.Pass ⟨0, 0, 0, 0⟩)

/-! def is_word -/
abbrev st_is_word : Stmt := top 7
abbrev N_is_word : List Str := ["word", "letter"]
theorem sc_is_word : FnScope N_is_word ["word"] (defScope st_is_word) := ⟨rfl, rfl, rfl, by decide +kernel, rfl, by decide +kernel, by decide +kernel⟩
def d_is_word : Sm :=
 (.seq (.ret (.and (.chain .le .le (.cst (.int 1)) (.bi .len [(.var 0)]) (.cst (.int 8))) (.bi .all [(.lc (.op2 .isIn (.var 1) (.glo (Str.ofString "SMALL"))) (.name 1) (.it .seq [(.var 0)]) [] [1])])))
 .skip)
theorem cs_is_word : CS ⟨defScope st_is_word, N_is_word, fun _ => true⟩ (.ss (defBody st_is_word)) d_is_word := cs_of (n := 200) (by kernel_rfl)
/-! def number_of -/
abbrev st_number_of : Stmt := top 8
abbrev N_number_of : List Str := ["word", "figure"]
theorem sc_number_of : FnScope N_number_of ["word"] (defScope st_number_of) := ⟨rfl, rfl, rfl, by decide +kernel, rfl, by decide +kernel, by decide +kernel⟩
def d_number_of : Sm :=
 (.seq (.ife (.or (.not (.chain .le .le (.cst (.int 1)) (.bi .len [(.var 0)]) (.cst (.int 4)))) (.not (.bi .all [(.lc (.op2 .isIn (.var 1) (.cst (.str (mk [48, 49, 50, 51, 52, 53, 54, 55, 56, 57])))) (.name 1) (.it .seq [(.var 0)]) [] [1])])))
  (.seq (.ret (.cst .none))
 .skip)
  .skip)
 (.seq (.ife (.and (.op2 .gt (.bi .len [(.var 0)]) (.cst (.int 1))) (.op2 .eq (.idx (.var 0) (.cst (.int 0))) (.cst (.str (mk [48])))))
  (.seq (.ret (.cst .none))
 .skip)
  .skip)
 (.seq (.ret (.bi .int [(.var 0)]))
 .skip)))
theorem cs_number_of : CS ⟨defScope st_number_of, N_number_of, fun _ => true⟩ (.ss (defBody st_number_of)) d_number_of := cs_of (n := 200) (by kernel_rfl)
/-! def read_order -/
abbrev st_read_order : Stmt := top 9
abbrev N_read_order : List Str := ["line", "words", "kind"]
theorem sc_read_order : FnScope N_read_order ["line"] (defScope st_read_order) := ⟨rfl, rfl, rfl, by decide +kernel, rfl, by decide +kernel, by decide +kernel⟩
def d_read_order : Sm :=
 (.seq (.asg 1 (.me .split (.var 0) [(.cst (.str (mk [32])))]))
 (.seq (.ife (.and (.op2 .eq (.bi .len [(.var 1)]) (.cst (.int 1))) (.op2 .isIn (.idx (.var 1) (.cst (.int 0))) (.glo (Str.ofString "BARE"))))
  (.seq (.ret (.tup [(.idx (.var 1) (.cst (.int 0)))]))
 .skip)
  .skip)
 (.seq (.ife (.or (.op2 .lt (.bi .len [(.var 1)]) (.cst (.int 2))) (.not (.call (Str.ofString "is_word") [(.idx (.var 1) (.cst (.int 1)))])))
  (.seq (.ret (.cst .none))
 .skip)
  .skip)
 (.seq (.asg 2 (.idx (.var 1) (.cst (.int 0))))
 (.seq (.ife (.and (.op2 .eq (.bi .len [(.var 1)]) (.cst (.int 2))) (.op2 .isIn (.var 2) (.tup [(.cst (.str (mk [98, 111, 111, 107]))), (.cst (.str (mk [102, 111, 114, 103, 101, 116]))), (.cst (.str (mk [117, 110, 100, 111])))])))
  (.seq (.ret (.tup [(.var 2), (.idx (.var 1) (.cst (.int 1)))]))
 .skip)
  .skip)
 (.seq (.ife (.and (.op2 .eq (.var 2) (.cst (.str (mk [97, 100, 100])))) (.op2 .gt (.bi .len [(.var 1)]) (.cst (.int 2))))
  (.seq (.ret (.tup [(.cst (.str (mk [97, 100, 100]))), (.idx (.var 1) (.cst (.int 1))), (.me .join (.cst (.str (mk [32]))) [(.slcL (.var 1) (.cst (.int 2)))])]))
 .skip)
  .skip)
 (.seq (.ife (.and (.op2 .eq (.bi .len [(.var 1)]) (.cst (.int 3))) (.and (.op2 .eq (.var 2) (.cst (.str (mk [116, 97, 107, 101])))) (.op2 .isNot (.call (Str.ofString "number_of") [(.idx (.var 1) (.cst (.int 2)))]) (.cst .none))))
  (.seq (.ret (.tup [(.cst (.str (mk [116, 97, 107, 101]))), (.idx (.var 1) (.cst (.int 1))), (.call (Str.ofString "number_of") [(.idx (.var 1) (.cst (.int 2)))])]))
 .skip)
  .skip)
 (.seq (.ife (.and (.op2 .eq (.bi .len [(.var 1)]) (.cst (.int 3))) (.and (.op2 .eq (.var 2) (.cst (.str (mk [97, 115, 107])))) (.op2 .isIn (.idx (.var 1) (.cst (.int 2))) (.glo (Str.ofString "ASKED")))))
  (.seq (.ret (.tup [(.cst (.str (mk [97, 115, 107]))), (.idx (.var 1) (.cst (.int 1))), (.idx (.var 1) (.cst (.int 2)))]))
 .skip)
  .skip)
 (.seq (.ife (.and (.op2 .eq (.bi .len [(.var 1)]) (.cst (.int 3))) (.and (.op2 .isIn (.var 2) (.tup [(.cst (.str (mk [99, 111, 112, 121]))), (.cst (.str (mk [97, 108, 105, 107, 101])))])) (.call (Str.ofString "is_word") [(.idx (.var 1) (.cst (.int 2)))])))
  (.seq (.ret (.tup [(.var 2), (.idx (.var 1) (.cst (.int 1))), (.idx (.var 1) (.cst (.int 2)))]))
 .skip)
  .skip)
 (.seq (.ife (.and (.op2 .eq (.bi .len [(.var 1)]) (.cst (.int 3))) (.op2 .eq (.var 2) (.cst (.str (mk [116, 101, 108, 108])))))
  (.seq (.ret (.ife (.op2 .ne (.idx (.var 1) (.cst (.int 2))) (.cst (.str (mk [])))) (.tup [(.cst (.str (mk [116, 101, 108, 108]))), (.idx (.var 1) (.cst (.int 1))), (.idx (.var 1) (.cst (.int 2)))]) (.cst .none)))
 .skip)
  .skip)
 (.seq (.ret (.cst .none))
 .skip)))))))))))
theorem cs_read_order : CS ⟨defScope st_read_order, N_read_order, fun _ => true⟩ (.ss (defBody st_read_order)) d_read_order := cs_of (n := 200) (by kernel_rfl)
/-! def read_orders -/
abbrev st_read_orders : Stmt := top 10
abbrev N_read_orders : List Str := ["text", "found", "number", "line", "order"]
theorem sc_read_orders : FnScope N_read_orders ["text"] (defScope st_read_orders) := ⟨rfl, rfl, rfl, by decide +kernel, rfl, by decide +kernel, by decide +kernel⟩
def d_read_orders : Sm :=
 (.seq (.asg 1 (.lst []))
 (.seq (.ife (.op2 .eq (.var 0) (.cst (.str (mk []))))
  (.seq (.ret (.var 1))
 .skip)
  .skip)
 (.seq (.for (.tup [2, 3]) (.it .enum [(.me .split (.var 0) [(.cst (.str (mk [10])))])])
  (.seq (.asg 4 (.call (Str.ofString "read_order") [(.var 3)]))
 (.seq (.ife (.op2 .is (.var 4) (.cst .none))
  (.seq (.rai (Str.ofString "BadOrder") (.op2 .add (.var 2) (.cst (.int 1))))
 .skip)
  .skip)
 (.seq (.exp (.mu .append 1 [(.var 4)]))
 .skip))))
 (.seq (.ret (.var 1))
 .skip))))
theorem cs_read_orders : CS ⟨defScope st_read_orders, N_read_orders, fun _ => true⟩ (.ss (defBody st_read_orders)) d_read_orders := cs_of (n := 200) (by kernel_rfl)
/-! def write_order -/
abbrev st_write_order : Stmt := top 11
abbrev N_write_order : List Str := ["order", "part"]
theorem sc_write_order : FnScope N_write_order ["order"] (defScope st_write_order) := ⟨rfl, rfl, rfl, by decide +kernel, rfl, by decide +kernel, by decide +kernel⟩
def d_write_order : Sm :=
 (.seq (.ret (.me .join (.cst (.str (mk [32]))) [(.lc (.bi .str [(.var 1)]) (.name 1) (.it .seq [(.var 0)]) [] [1])]))
 .skip)
theorem cs_write_order : CS ⟨defScope st_write_order, N_write_order, fun _ => true⟩ (.ss (defBody st_write_order)) d_write_order := cs_of (n := 200) (by kernel_rfl)
/-! def write_orders -/
abbrev st_write_orders : Stmt := top 12
abbrev N_write_orders : List Str := ["orders", "order"]
theorem sc_write_orders : FnScope N_write_orders ["orders"] (defScope st_write_orders) := ⟨rfl, rfl, rfl, by decide +kernel, rfl, by decide +kernel, by decide +kernel⟩
def d_write_orders : Sm :=
 (.seq (.ret (.me .join (.cst (.str (mk [10]))) [(.lc (.call (Str.ofString "write_order") [(.var 1)]) (.name 1) (.it .seq [(.var 0)]) [] [1])]))
 .skip)
theorem cs_write_orders : CS ⟨defScope st_write_orders, N_write_orders, fun _ => true⟩ (.ss (defBody st_write_orders)) d_write_orders := cs_of (n := 200) (by kernel_rfl)
/-! def _law_cell -/
abbrev st_law_cell : Stmt := top 14
abbrev N_law_cell : List Str := ["script", "k"]
theorem sc_law_cell : FnScope N_law_cell ["script", "k"] (defScope st_law_cell) := ⟨rfl, rfl, rfl, by decide +kernel, rfl, by decide +kernel, by decide +kernel⟩
def d_law_cell : Sm :=
 (.seq (.ife (.op2 .lt (.var 1) (.bi .len [(.var 0)]))
  (.seq (.ret (.idx (.var 0) (.var 1)))
 .skip)
  .skip)
 (.seq (.ret (.cst (.int 0)))
 .skip))
theorem cs_law_cell : CS ⟨defScope st_law_cell, N_law_cell, fun _ => true⟩ (.ss (defBody st_law_cell)) d_law_cell := cs_of (n := 200) (by kernel_rfl)
/-! def _law_digits -/
abbrev st_law_digits : Stmt := top 15
abbrev N_law_digits : List Str := ["script", "first", "last", "digits", "k", "cell", "turn", "seed"]
theorem sc_law_digits : FnScope N_law_digits ["script", "first", "last"] (defScope st_law_digits) := ⟨rfl, rfl, rfl, by decide +kernel, rfl, by decide +kernel, by decide +kernel⟩
def d_law_digits : Sm :=
 (.seq (.asg 3 (.lst []))
 (.seq (.for (.name 4) (.it .rng2 [(.var 1), (.var 2)])
  (.seq (.asg 5 (.call (Str.ofString "_law_cell") [(.var 0), (.var 4)]))
 (.seq (.ife (.op2 .lt (.var 5) (.cst (.int 0)))
  (.seq (.asg 5 (.op2 .sub (.cst (.int 1)) (.op2 .mul (.cst (.int 2)) (.var 5))))
 .skip)
  .skip)
 (.seq (.ife (.op2 .ge (.var 5) (.op2 .pow (.cst (.int 10)) (.cst (.int 18))))
  (.seq (.for (.name 6) (.it .rng1 [(.cst (.int 60))])
  (.seq (.ife (.op2 .gt (.var 5) (.cst (.int 0)))
  (.seq (.exp (.mu .append 3 [(.op2 .mod (.bi .int [(.var 5)]) (.cst (.int 1000)))]))
 (.seq (.asg 5 (.op2 .fdiv (.var 5) (.cst (.int 1000))))
 .skip))
  .skip)
 .skip))
 .skip)
  (.seq (.asg 7 (.op2 .mod (.bi .int [(.op2 .add (.op2 .add (.op2 .mul (.var 5) (.cst (.int 48271))) (.op2 .mul (.var 4) (.cst (.int 69621)))) (.cst (.int 11)))]) (.cst (.int 2147483647))))
 (.seq (.for (.name 6) (.it .rng1 [(.cst (.int 12))])
  (.seq (.asg 7 (.op2 .mod (.bi .int [(.op2 .add (.op2 .add (.op2 .mul (.var 7) (.cst (.int 16807))) (.op2 .mul (.cst (.int 7)) (.var 6))) (.cst (.int 1)))]) (.cst (.int 2147483647))))
 (.seq (.exp (.mu .append 3 [(.op2 .mod (.bi .int [(.op2 .fdiv (.var 7) (.cst (.int 997)))]) (.cst (.int 1000)))]))
 .skip)))
 .skip)))
 .skip))))
 (.seq (.ret (.var 3))
 .skip)))
theorem cs_law_digits : CS ⟨defScope st_law_digits, N_law_digits, fun _ => true⟩ (.ss (defBody st_law_digits)) d_law_digits := cs_of (n := 200) (by kernel_rfl)
/-! def _law_draw -/
abbrev st_law_draw : Stmt := top 16
abbrev N_law_draw : List Str := ["box", "many"]
theorem sc_law_draw : FnScope N_law_draw ["box", "many"] (defScope st_law_draw) := ⟨rfl, rfl, rfl, by decide +kernel, rfl, by decide +kernel, by decide +kernel⟩
def d_law_draw : Sm :=
 (.seq (.seti 0 (.cst (.int 1)) (.op2 .add (.idx (.var 0) (.cst (.int 1))) (.cst (.int 1))))
 (.seq (.ife (.op2 .gt (.idx (.var 0) (.cst (.int 1))) (.bi .len [(.idx (.var 0) (.cst (.int 0)))]))
  (.seq (.ret (.op2 .mod (.bi .int [(.op2 .add (.op2 .mul (.idx (.var 0) (.cst (.int 1))) (.cst (.int 7))) (.cst (.int 3)))]) (.var 1)))
 .skip)
  .skip)
 (.seq (.ret (.op2 .mod (.bi .int [(.idx (.idx (.var 0) (.cst (.int 0))) (.op2 .sub (.idx (.var 0) (.cst (.int 1))) (.cst (.int 1))))]) (.var 1)))
 .skip)))
theorem cs_law_draw : CS ⟨defScope st_law_draw, N_law_draw, fun _ => true⟩ (.ss (defBody st_law_draw)) d_law_draw := cs_of (n := 200) (by kernel_rfl)
/-! def _law_pick -/
abbrev st_law_pick : Stmt := top 17
abbrev N_law_pick : List Str := ["box", "row"]
theorem sc_law_pick : FnScope N_law_pick ["box", "row"] (defScope st_law_pick) := ⟨rfl, rfl, rfl, by decide +kernel, rfl, by decide +kernel, by decide +kernel⟩
def d_law_pick : Sm :=
 (.seq (.ret (.idx (.var 1) (.op2 .mod (.bi .int [(.call (Str.ofString "_law_draw") [(.var 0), (.cst (.int 1000))])]) (.bi .len [(.var 1)]))))
 .skip)
theorem cs_law_pick : CS ⟨defScope st_law_pick, N_law_pick, fun _ => true⟩ (.ss (defBody st_law_pick)) d_law_pick := cs_of (n := 200) (by kernel_rfl)
/-! def _law_same -/
abbrev st_law_same : Stmt := top 18
abbrev N_law_same : List Str := ["told", "due", "k"]
theorem sc_law_same : FnScope N_law_same ["told", "due"] (defScope st_law_same) := ⟨rfl, rfl, rfl, by decide +kernel, rfl, by decide +kernel, by decide +kernel⟩
def d_law_same : Sm :=
 (.seq (.ife (.op2 .is (.var 1) (.cst .none))
  (.seq (.ret (.op2 .is (.var 0) (.cst .none)))
 .skip)
  .skip)
 (.seq (.ife (.op2 .is (.var 1) (.cst (.bool true)))
  (.seq (.ret (.op2 .is (.var 0) (.cst (.bool true))))
 .skip)
  .skip)
 (.seq (.ife (.op2 .is (.var 1) (.cst (.bool false)))
  (.seq (.ret (.op2 .is (.var 0) (.cst (.bool false))))
 .skip)
  .skip)
 (.seq (.ife (.isi (.var 1) .str)
  (.seq (.ret (.and (.isi (.var 0) .str) (.op2 .eq (.bi .repr [(.var 0)]) (.bi .repr [(.var 1)]))))
 .skip)
  .skip)
 (.seq (.ife (.isi (.var 1) .int)
  (.seq (.ret (.and (.isi (.var 0) .int) (.and (.not (.isi (.var 0) .bool)) (.op2 .eq (.bi .repr [(.var 0)]) (.bi .repr [(.var 1)])))))
 .skip)
  .skip)
 (.seq (.ife (.or (.and (.isi (.var 1) .tuple) (.not (.isi (.var 0) .tuple))) (.and (.isi (.var 1) .list) (.not (.isi (.var 0) .list))))
  (.seq (.ret (.cst (.bool false)))
 .skip)
  .skip)
 (.seq (.ife (.op2 .ne (.bi .len [(.var 0)]) (.bi .len [(.var 1)]))
  (.seq (.ret (.cst (.bool false)))
 .skip)
  .skip)
 (.seq (.for (.name 2) (.it .rng1 [(.bi .len [(.var 1)])])
  (.seq (.ife (.not (.call (Str.ofString "_law_same") [(.idx (.var 0) (.var 2)), (.idx (.var 1) (.var 2))]))
  (.seq (.ret (.cst (.bool false)))
 .skip)
  .skip)
 .skip))
 (.seq (.ret (.cst (.bool true)))
 .skip)))))))))
theorem cs_law_same : CS ⟨defScope st_law_same, N_law_same, fun _ => true⟩ (.ss (defBody st_law_same)) d_law_same := cs_of (n := 200) (by kernel_rfl)
/-! def _law_is_word -/
abbrev st_law_is_word : Stmt := top 19
abbrev N_law_is_word : List Str := ["word", "letter"]
theorem sc_law_is_word : FnScope N_law_is_word ["word"] (defScope st_law_is_word) := ⟨rfl, rfl, rfl, by decide +kernel, rfl, by decide +kernel, by decide +kernel⟩
def d_law_is_word : Sm :=
 (.seq (.ret (.and (.chain .le .le (.cst (.int 1)) (.bi .len [(.var 0)]) (.cst (.int 8))) (.op2 .eq (.lc (.var 1) (.name 1) (.it .seq [(.var 0)]) [(.op2 .notIn (.var 1) (.cst (.str (mk [97, 98, 99, 100, 101, 102, 103, 104, 105, 106, 107, 108, 109, 110, 111, 112, 113, 114, 115, 116, 117, 118, 119, 120, 121, 122]))))] [1]) (.lst []))))
 .skip)
theorem cs_law_is_word : CS ⟨defScope st_law_is_word, N_law_is_word, fun _ => true⟩ (.ss (defBody st_law_is_word)) d_law_is_word := cs_of (n := 200) (by kernel_rfl)
/-! def _law_number -/
abbrev st_law_number : Stmt := top 20
abbrev N_law_number : List Str := ["word", "fine", "worth", "sign"]
theorem sc_law_number : FnScope N_law_number ["word"] (defScope st_law_number) := ⟨rfl, rfl, rfl, by decide +kernel, rfl, by decide +kernel, by decide +kernel⟩
def d_law_number : Sm :=
 (.seq (.asg 1 (.and (.chain .le .le (.cst (.int 1)) (.bi .len [(.var 0)]) (.cst (.int 4))) (.op2 .eq (.lc (.var 3) (.name 3) (.it .seq [(.var 0)]) [(.op2 .notIn (.var 3) (.cst (.str (mk [48, 49, 50, 51, 52, 53, 54, 55, 56, 57]))))] [3]) (.lst []))))
 (.seq (.ife (.or (.not (.var 1)) (.and (.op2 .eq (.idx (.var 0) (.cst (.int 0))) (.cst (.str (mk [48])))) (.op2 .gt (.bi .len [(.var 0)]) (.cst (.int 1)))))
  (.seq (.ret (.cst .none))
 .skip)
  .skip)
 (.seq (.asg 2 (.cst (.int 0)))
 (.seq (.for (.name 3) (.it .seq [(.var 0)])
  (.seq (.asg 2 (.op2 .add (.op2 .mul (.var 2) (.cst (.int 10))) (.me .index (.cst (.str (mk [48, 49, 50, 51, 52, 53, 54, 55, 56, 57]))) [(.var 3)])))
 .skip))
 (.seq (.ret (.var 2))
 .skip)))))
theorem cs_law_number : CS ⟨defScope st_law_number, N_law_number, fun _ => true⟩ (.ss (defBody st_law_number)) d_law_number := cs_of (n := 200) (by kernel_rfl)
/-! def _law_asked -/
abbrev st_law_asked : Stmt := top 21
abbrev N_law_asked : List Str := []
theorem sc_law_asked : FnScope N_law_asked [] (defScope st_law_asked) := ⟨rfl, rfl, rfl, by decide +kernel, rfl, by decide +kernel, by decide +kernel⟩
def d_law_asked : Sm :=
 (.seq (.ret (.lst [(.cst (.str (mk [116, 101, 120, 116]))), (.cst (.str (mk [114, 117, 108, 101, 115]))), (.cst (.str (mk [115, 116, 97, 98, 108, 101]))), (.cst (.str (mk [115, 104, 111, 119, 110]))), (.cst (.str (mk [98, 101, 115, 116]))), (.cst (.str (mk [115, 117, 114, 101, 108, 121]))), (.cst (.str (mk [115, 105, 122, 101]))), (.cst (.str (mk [112, 97, 112, 101, 114]))), (.cst (.str (mk [115, 105, 109, 112, 108, 101])))]))
 .skip)
theorem cs_law_asked : CS ⟨defScope st_law_asked, N_law_asked, fun _ => true⟩ (.ss (defBody st_law_asked)) d_law_asked := cs_of (n := 200) (by kernel_rfl)
/-! def _law_read -/
abbrev st_law_read : Stmt := top 22
abbrev N_law_read : List Str := ["text_row", "words", "kind", "many"]
theorem sc_law_read : FnScope N_law_read ["text_row"] (defScope st_law_read) := ⟨rfl, rfl, rfl, by decide +kernel, rfl, by decide +kernel, by decide +kernel⟩
def d_law_read : Sm :=
 (.seq (.asg 1 (.me .split (.var 0) [(.cst (.str (mk [32])))]))
 (.seq (.par 2 3 (.idx (.var 1) (.cst (.int 0))) (.bi .len [(.var 1)]))
 (.seq (.ife (.op2 .eq (.var 3) (.cst (.int 1)))
  (.seq (.ret (.ife (.op2 .isIn (.var 2) (.lst [(.cst (.str (mk [98, 111, 111, 107, 115]))), (.cst (.str (mk [98, 101, 103, 105, 110]))), (.cst (.str (mk [101, 110, 100]))), (.cst (.str (mk [100, 114, 111, 112])))])) (.tup [(.var 2)]) (.cst .none)))
 .skip)
  .skip)
 (.seq (.ife (.not (.call (Str.ofString "_law_is_word") [(.idx (.var 1) (.cst (.int 1)))]))
  (.seq (.ret (.cst .none))
 .skip)
  .skip)
 (.seq (.ife (.and (.op2 .eq (.var 2) (.cst (.str (mk [97, 100, 100])))) (.op2 .gt (.var 3) (.cst (.int 2))))
  (.seq (.ret (.tup [(.cst (.str (mk [97, 100, 100]))), (.idx (.var 1) (.cst (.int 1))), (.slcL (.var 0) (.op2 .add (.bi .len [(.idx (.var 1) (.cst (.int 1)))]) (.cst (.int 5))))]))
 .skip)
  .skip)
 (.seq (.ife (.and (.op2 .eq (.var 3) (.cst (.int 2))) (.op2 .isIn (.var 2) (.lst [(.cst (.str (mk [98, 111, 111, 107]))), (.cst (.str (mk [102, 111, 114, 103, 101, 116]))), (.cst (.str (mk [117, 110, 100, 111])))])))
  (.seq (.ret (.tup [(.var 2), (.idx (.var 1) (.cst (.int 1)))]))
 .skip)
  .skip)
 (.seq (.ife (.op2 .ne (.var 3) (.cst (.int 3)))
  (.seq (.ret (.cst .none))
 .skip)
  .skip)
 (.seq (.ife (.op2 .eq (.var 2) (.cst (.str (mk [116, 97, 107, 101]))))
  (.seq (.ret (.ife (.op2 .is (.call (Str.ofString "_law_number") [(.idx (.var 1) (.cst (.int 2)))]) (.cst .none)) (.cst .none) (.tup [(.cst (.str (mk [116, 97, 107, 101]))), (.idx (.var 1) (.cst (.int 1))), (.call (Str.ofString "_law_number") [(.idx (.var 1) (.cst (.int 2)))])])))
 .skip)
  .skip)
 (.seq (.ife (.op2 .eq (.var 2) (.cst (.str (mk [97, 115, 107]))))
  (.seq (.ret (.ife (.op2 .isIn (.idx (.var 1) (.cst (.int 2))) (.call (Str.ofString "_law_asked") [])) (.tup [(.cst (.str (mk [97, 115, 107]))), (.idx (.var 1) (.cst (.int 1))), (.idx (.var 1) (.cst (.int 2)))]) (.cst .none)))
 .skip)
  .skip)
 (.seq (.ife (.op2 .isIn (.var 2) (.lst [(.cst (.str (mk [99, 111, 112, 121]))), (.cst (.str (mk [97, 108, 105, 107, 101])))]))
  (.seq (.ret (.ife (.call (Str.ofString "_law_is_word") [(.idx (.var 1) (.cst (.int 2)))]) (.tup [(.var 2), (.idx (.var 1) (.cst (.int 1))), (.idx (.var 1) (.cst (.int 2)))]) (.cst .none)))
 .skip)
  .skip)
 (.seq (.ret (.ife (.and (.op2 .eq (.var 2) (.cst (.str (mk [116, 101, 108, 108])))) (.op2 .ne (.idx (.var 1) (.cst (.int 2))) (.cst (.str (mk []))))) (.tup [(.cst (.str (mk [116, 101, 108, 108]))), (.idx (.var 1) (.cst (.int 1))), (.idx (.var 1) (.cst (.int 2)))]) (.cst .none)))
 .skip)))))))))))
theorem cs_law_read : CS ⟨defScope st_law_read, N_law_read, fun _ => true⟩ (.ss (defBody st_law_read)) d_law_read := cs_of (n := 200) (by kernel_rfl)
/-! def _law_word -/
abbrev st_law_word : Stmt := top 23
abbrev N_law_word : List Str := ["box", "k"]
theorem sc_law_word : FnScope N_law_word ["box"] (defScope st_law_word) := ⟨rfl, rfl, rfl, by decide +kernel, rfl, by decide +kernel, by decide +kernel⟩
def d_law_word : Sm :=
 (.seq (.ret (.me .join (.cst (.str (mk []))) [(.lc (.call (Str.ofString "_law_pick") [(.var 0), (.cst (.str (mk [97, 98, 99, 100, 101, 102, 103, 104, 105, 106, 107, 108, 109, 110, 111, 112, 113, 114, 115, 116, 117, 118, 119, 120, 121, 122])))]) (.name 1) (.it .rng1 [(.call (Str.ofString "_law_pick") [(.var 0), (.lst [(.cst (.int 1)), (.cst (.int 2)), (.cst (.int 3)), (.cst (.int 5)), (.cst (.int 8))])])]) [] [1])]))
 .skip)
theorem cs_law_word : CS ⟨defScope st_law_word, N_law_word, fun _ => true⟩ (.ss (defBody st_law_word)) d_law_word := cs_of (n := 200) (by kernel_rfl)
/-! def _law_order -/
abbrev st_law_order : Stmt := top 24
abbrev N_law_order : List Str := ["box", "one", "kind"]
theorem sc_law_order : FnScope N_law_order ["box"] (defScope st_law_order) := ⟨rfl, rfl, rfl, by decide +kernel, rfl, by decide +kernel, by decide +kernel⟩
def d_law_order : Sm :=
 (.seq (.asg 1 (.call (Str.ofString "_law_word") [(.var 0)]))
 (.seq (.asg 2 (.call (Str.ofString "_law_draw") [(.var 0), (.cst (.int 8))]))
 (.seq (.ife (.op2 .eq (.var 2) (.cst (.int 0)))
  (.seq (.ret (.tup [(.call (Str.ofString "_law_pick") [(.var 0), (.lst [(.cst (.str (mk [98, 111, 111, 107, 115]))), (.cst (.str (mk [98, 101, 103, 105, 110]))), (.cst (.str (mk [101, 110, 100]))), (.cst (.str (mk [100, 114, 111, 112])))])])]))
 .skip)
  .skip)
 (.seq (.ife (.op2 .eq (.var 2) (.cst (.int 1)))
  (.seq (.ret (.tup [(.call (Str.ofString "_law_pick") [(.var 0), (.lst [(.cst (.str (mk [98, 111, 111, 107]))), (.cst (.str (mk [102, 111, 114, 103, 101, 116]))), (.cst (.str (mk [117, 110, 100, 111])))])]), (.var 1)]))
 .skip)
  .skip)
 (.seq (.ife (.op2 .eq (.var 2) (.cst (.int 2)))
  (.seq (.ret (.tup [(.cst (.str (mk [116, 97, 107, 101]))), (.var 1), (.call (Str.ofString "_law_pick") [(.var 0), (.lst [(.cst (.int 0)), (.cst (.int 1)), (.cst (.int 10)), (.cst (.int 9999)), (.cst (.int 305))])])]))
 .skip)
  .skip)
 (.seq (.ife (.op2 .eq (.var 2) (.cst (.int 3)))
  (.seq (.ret (.tup [(.cst (.str (mk [97, 115, 107]))), (.var 1), (.call (Str.ofString "_law_pick") [(.var 0), (.call (Str.ofString "_law_asked") [])])]))
 .skip)
  .skip)
 (.seq (.ife (.op2 .eq (.var 2) (.cst (.int 4)))
  (.seq (.ret (.tup [(.cst (.str (mk [116, 101, 108, 108]))), (.var 1), (.call (Str.ofString "_law_pick") [(.var 0), (.lst [(.cst (.str (mk [97]))), (.cst (.str (mk [112, 40, 49, 44, 97, 41]))), (.cst (.str (mk [45, 98]))), (.cst (.str (mk [35, 49]))), (.slcH (.cst (.str (mk [120, 32, 121]))) (.cst (.int 1)))])])]))
 .skip)
  .skip)
 (.seq (.ife (.op2 .eq (.var 2) (.cst (.int 5)))
  (.seq (.ret (.tup [(.call (Str.ofString "_law_pick") [(.var 0), (.lst [(.cst (.str (mk [99, 111, 112, 121]))), (.cst (.str (mk [97, 108, 105, 107, 101])))])]), (.var 1), (.call (Str.ofString "_law_word") [(.var 0)])]))
 .skip)
  .skip)
 (.seq (.ret (.tup [(.cst (.str (mk [97, 100, 100]))), (.var 1), (.call (Str.ofString "_law_pick") [(.var 0), (.lst [(.cst (.str (mk [97, 46]))), (.cst (.str (mk [97, 32, 58, 45, 32, 110, 111, 116, 32, 98, 46]))), (.cst (.str (mk [32, 97, 46]))), (.cst (.str (mk [97, 46, 32]))), (.cst (.str (mk []))), (.cst (.str (mk [32]))), (.cst (.str (mk [97, 32, 32, 58, 45, 32, 98, 46, 32, 97, 115, 107, 32, 99]))), (.cst (.str (mk [112, 40, 88, 41, 32, 58, 45, 32, 113, 40, 88, 41, 44, 32, 88, 32, 60, 32, 51, 46])))])])]))
 .skip)))))))))
theorem cs_law_order : CS ⟨defScope st_law_order, N_law_order, fun _ => true⟩ (.ss (defBody st_law_order)) d_law_order := cs_of (n := 200) (by kernel_rfl)
/-! def _law_bent -/
abbrev st_law_bent : Stmt := top 25
abbrev N_law_bent : List Str := ["box", "text_row", "words", "at", "way"]
theorem sc_law_bent : FnScope N_law_bent ["box", "text_row"] (defScope st_law_bent) := ⟨rfl, rfl, rfl, by decide +kernel, rfl, by decide +kernel, by decide +kernel⟩
def d_law_bent : Sm :=
 (.seq (.asg 2 (.me .split (.var 1) [(.cst (.str (mk [32])))]))
 (.seq (.asg 3 (.call (Str.ofString "_law_draw") [(.var 0), (.bi .len [(.var 2)])]))
 (.seq (.asg 4 (.call (Str.ofString "_law_draw") [(.var 0), (.cst (.int 8))]))
 (.seq (.ife (.op2 .eq (.var 4) (.cst (.int 0)))
  (.seq (.asg 2 (.op2 .add (.slcH (.var 2) (.var 3)) (.slcL (.var 2) (.op2 .add (.var 3) (.cst (.int 1))))))
 .skip)
  (.seq (.ife (.op2 .eq (.var 4) (.cst (.int 1)))
  (.seq (.asg 2 (.op2 .add (.op2 .add (.slcH (.var 2) (.var 3)) (.lst [(.idx (.var 2) (.var 3))])) (.slcL (.var 2) (.var 3))))
 .skip)
  (.seq (.ife (.op2 .eq (.var 4) (.cst (.int 2)))
  (.seq (.seti 2 (.var 3) (.call (Str.ofString "_law_pick") [(.var 0), (.lst [(.cst (.str (mk []))), (.op2 .add (.cst (.str (mk [48]))) (.idx (.var 2) (.var 3))), (.op2 .add (.cst (.str (mk [45]))) (.idx (.var 2) (.var 3))), (.op2 .add (.idx (.var 2) (.var 3)) (.cst (.str (mk [48])))), (.op2 .add (.idx (.var 2) (.var 3)) (.cst (.str (mk [9]))))])]))
 .skip)
  (.seq (.ife (.op2 .eq (.var 4) (.cst (.int 3)))
  (.seq (.seti 2 (.var 3) (.call (Str.ofString "_law_pick") [(.var 0), (.lst [(.cst (.str (mk [57, 57, 57, 57]))), (.cst (.str (mk [49, 48, 48, 48, 48]))), (.cst (.str (mk [48]))), (.cst (.str (mk [48, 49]))), (.cst (.str (mk [45, 49]))), (.cst (.str (mk [48, 48]))), (.cst (.str (mk [49, 120])))])]))
 .skip)
  (.seq (.ife (.op2 .eq (.var 4) (.cst (.int 4)))
  (.seq (.seti 2 (.var 3) (.call (Str.ofString "_law_pick") [(.var 0), (.lst [(.cst (.str (mk [97, 115, 107]))), (.cst (.str (mk [97, 100, 100]))), (.cst (.str (mk [116, 97, 107, 101]))), (.cst (.str (mk [116, 101, 108, 108]))), (.cst (.str (mk [99, 111, 112, 121]))), (.cst (.str (mk [97, 108, 105, 107, 101]))), (.cst (.str (mk [98, 111, 111, 107]))), (.cst (.str (mk [98, 111, 111, 107, 115]))), (.cst (.str (mk [115, 116, 97, 98, 108, 101]))), (.cst (.str (mk [116, 101, 120, 116]))), (.cst (.str (mk [98, 101, 103, 105, 110])))])]))
 .skip)
  (.seq (.ife (.op2 .eq (.var 4) (.cst (.int 5)))
  (.seq (.seti 2 (.var 3) (.call (Str.ofString "_law_pick") [(.var 0), (.lst [(.cst (.str (mk [97, 98, 99, 100, 101, 102, 103, 104]))), (.cst (.str (mk [97, 98, 99, 100, 101, 102, 103, 104, 105]))), (.cst (.str (mk [97, 66]))), (.cst (.str (mk [97, 49]))), (.cst (.str (mk [122]))), (.cst (.str (mk [55])))])]))
 .skip)
  (.seq (.ife (.op2 .eq (.var 4) (.cst (.int 6)))
  (.seq (.exp (.mu .insert 2 [(.var 3), (.cst (.str (mk [])))]))
 .skip)
  (.seq (.exp (.mu .append 2 [(.call (Str.ofString "_law_pick") [(.var 0), (.lst [(.cst (.str (mk [49]))), (.cst (.str (mk [120]))), (.cst (.str (mk []))), (.cst (.str (mk [51])))])])]))
 .skip))
 .skip))
 .skip))
 .skip))
 .skip))
 .skip))
 .skip))
 (.seq (.ret (.me .join (.cst (.str (mk [32]))) [(.var 2)]))
 .skip)))))
theorem cs_law_bent : CS ⟨defScope st_law_bent, N_law_bent, fun _ => true⟩ (.ss (defBody st_law_bent)) d_law_bent := cs_of (n := 200) (by kernel_rfl)
/-! def _law_text -/
abbrev st_law_text : Stmt := top 26
abbrev N_law_text : List Str := ["text", "e"]
theorem sc_law_text : FnScope N_law_text ["text"] (defScope st_law_text) := ⟨rfl, rfl, rfl, by decide +kernel, rfl, by decide +kernel, by decide +kernel⟩
/-! def law -/
abbrev st_law : Stmt := top 27
abbrev N_law : List Str := ["script", "box", "orders", "lines", "k", "text", "turn", "mixed", "told", "due", "order", "bent", "text_row", "part"]
theorem sc_law : FnScope N_law ["script"] (defScope st_law) := ⟨rfl, rfl, rfl, by decide +kernel, rfl, by decide +kernel, by decide +kernel⟩
def d_law : Sm :=
 (.seq (.asg 1 (.lst [(.call (Str.ofString "_law_digits") [(.var 0), (.cst (.int 0)), (.cst (.int 60))]), (.cst (.int 0))]))
 (.seq (.asg 2 (.lc (.call (Str.ofString "_law_order") [(.var 1)]) (.name 6) (.it .rng1 [(.op2 .add (.cst (.int 1)) (.call (Str.ofString "_law_draw") [(.var 1), (.cst (.int 8))]))]) [] [6]))
 (.seq (.asg 3 (.lc (.me .join (.cst (.str (mk [32]))) [(.lc (.bi .str [(.var 13)]) (.name 13) (.it .seq [(.var 10)]) [] [13])]) (.name 10) (.it .seq [(.var 2)]) [] [10]))
 (.seq (.for (.name 4) (.it .rng1 [(.bi .len [(.var 2)])])
  (.seq (.ife (.or (.not (.call (Str.ofString "_law_same") [(.call (Str.ofString "write_order") [(.idx (.var 2) (.var 4))]), (.idx (.var 3) (.var 4))])) (.not (.call (Str.ofString "_law_same") [(.call (Str.ofString "read_order") [(.idx (.var 3) (.var 4))]), (.idx (.var 2) (.var 4))])))
  (.seq (.ret (.cst (.bool false)))
 .skip)
  .skip)
 (.seq (.ife (.op2 .ne (.call (Str.ofString "_law_read") [(.idx (.var 3) (.var 4))]) (.idx (.var 2) (.var 4)))
  (.seq (.ret (.cst (.bool false)))
 .skip)
  .skip)
 (.seq (.for (.name 6) (.it .rng1 [(.cst (.int 3))])
  (.seq (.asg 11 (.call (Str.ofString "_law_bent") [(.var 1), (.idx (.var 3) (.var 4))]))
 (.seq (.ife (.not (.call (Str.ofString "_law_same") [(.call (Str.ofString "read_order") [(.var 11)]), (.call (Str.ofString "_law_read") [(.var 11)])]))
  (.seq (.ret (.cst (.bool false)))
 .skip)
  .skip)
 .skip)))
 .skip))))
 (.seq (.asg 5 (.me .join (.cst (.str (mk [10]))) [(.var 3)]))
 (.seq (.ife (.or (.not (.call (Str.ofString "_law_same") [(.call (Str.ofString "write_orders") [(.bi .list [(.var 2)])]), (.var 5)])) (.not (.call (Str.ofString "_law_same") [(.call (Str.ofString "_law_text") [(.var 5)]), (.tup [(.cst (.str (mk [116, 111, 108, 100]))), (.var 2)])])))
  (.seq (.ret (.cst (.bool false)))
 .skip)
  .skip)
 (.seq (.for (.name 6) (.it .rng1 [(.cst (.int 3))])
  (.seq (.asg 7 (.lc (.ife (.op2 .eq (.call (Str.ofString "_law_draw") [(.var 1), (.cst (.int 3))]) (.cst (.int 0))) (.call (Str.ofString "_law_bent") [(.var 1), (.var 12)]) (.var 12)) (.name 12) (.it .seq [(.var 3)]) [] [12]))
 (.seq (.asg 8 (.lc (.call (Str.ofString "_law_read") [(.var 12)]) (.name 12) (.it .seq [(.var 7)]) [] [12]))
 (.seq (.asg 9 (.ife (.op2 .isIn (.cst .none) (.var 8)) (.tup [(.cst (.str (mk [119, 114, 111, 110, 103]))), (.op2 .add (.me .index (.var 8) [(.cst .none)]) (.cst (.int 1)))]) (.tup [(.cst (.str (mk [116, 111, 108, 100]))), (.var 8)])))
 (.seq (.ife (.and (.op2 .ne (.var 7) (.lst [(.cst (.str (mk [])))])) (.not (.call (Str.ofString "_law_same") [(.call (Str.ofString "_law_text") [(.me .join (.cst (.str (mk [10]))) [(.var 7)])]), (.var 9)])))
  (.seq (.ret (.cst (.bool false)))
 .skip)
  .skip)
 .skip)))))
 (.seq (.ife (.not (.call (Str.ofString "_law_same") [(.call (Str.ofString "_law_text") [(.op2 .add (.var 5) (.cst (.str (mk [10]))))]), (.tup [(.cst (.str (mk [119, 114, 111, 110, 103]))), (.op2 .add (.bi .len [(.var 3)]) (.cst (.int 1)))])]))
  (.seq (.ret (.cst (.bool false)))
 .skip)
  .skip)
 (.seq (.ret (.call (Str.ofString "_law_same") [(.call (Str.ofString "_law_text") [(.cst (.str (mk [])))]), (.tup [(.cst (.str (mk [116, 111, 108, 100]))), (.lst [])])]))
 .skip)))))))))
theorem cs_law : CS ⟨defScope st_law, N_law, fun _ => true⟩ (.ss (defBody st_law)) d_law := cs_of (n := 200) (by kernel_rfl)
end TW
end
section
set_option Elab.async false
set_option linter.all false
set_option maxRecDepth 100000
set_option maxHeartbeats 2000000
/-! L97: law_k97: words, numbers, orders read -/
namespace TW
open PySem L2
local macro_rules
  | `(tactic| simp_arith) => `(tactic| simp_arith [])
  | `(tactic| simp_arith [$ls,*]) => `(tactic| simp only [wpF, argsOk, wE_var, wE_lc, wS_for, wE_cst, wE_glo, wE_op2, wE_neg, wE_not, wE_and, wE_or, wE_ife, wE_chain, wE_idx, wE_slc, wE_slcL, wE_slcH, wE_tup, wE_lst, wE_call, wE_bi, wE_isi, wE_me, wE_mu, wE_fmt, wE_fst, wS_skip, wS_seq, wS_asg, wS_unp, wS_par, wS_seti, wS_aug, wS_exp, wS_ret, wS_retN, wS_ife, wS_brk, wS_cnt, wS_rai, wS_bad, varS_sh, varS_lst, wpOs, wpVs, wpTs, wpI, wpJ, opd, tst, retE, List.map, List.length, ioIx, List.cons_append, List.nil_append, List.getElem?_cons_zero, List.getElem?_cons_succ,
      frz_sh, frz_lst, own_sh, own_lst, resO_some, res_va, res_pl, resL_nil, resL_cons, consO_some, add_int, add_str, add_list, add_tuple, sub_int, mul_int, fdiv_int, mod_int, pow_int, lt_int, le_int, gt_int, ge_int, eq_int, ne_int, eq_str, ne_str, in_str1, nin_str1, in_tuple, nin_tuple,
      is_none, isnot_none, is_bool, len_list, len_tuple, len_str, int_int, int_str, str_int, str_str, ord_str, repr_int, repr_str, all_list, any_list, idx_list, idx_tuple, idx_str, slc_str, slc_list, slc_tuple, seq_list, seq_tuple, seq_str, it_rng1, it_rng2, it_enum,
      aug_add_int, aug_sub_int, aug_add_str, seti_lst, mu_append, mu_insert, meT_str, meT_list, tgt_name, me_join, me_index, isN_str, isN_int, isN_bool, isN_list, isN_tuple, isN_none,
      implies_true, eq_list_nil, subN_lo4, subN_lo5, subN_hi4, subN_hi3, subN_tail, wipeE, unwipe, takeArgs, putBack, ioPl, Option.map_some, List.nodup_nil, nodup1, decide_true, decide_false, Nat.reduceEqDiff, reduceCtorEq, false_and, and_false, Prod.mk.injEq, and_assoc, exists_const,
      outsAt, atI_0, atI_1, atI_2, atI_3, ixN_0, ixN_1, ixN_2, OT.lst.injEq, ite_cnd, cnd_t, cnd_f, cnd_n, true_or, or_true, or_self, List.cons.injEq, Option.some.injEq, exists_eq_left', exists_eq_left, exists_eq', exists_and_left, true_and, and_true, and_self, Nat.zero_add, Nat.reduceAdd, Nat.sub_self, Nat.reduceSub, List.replicate, OT.sh.injEq, PyData.bool.injEq,
      PyData.int.injEq, PyData.str.injEq, List.set_cons_zero, List.set_cons_succ, if_true, if_false, Bool.false_eq_true, Bool.not_true, Bool.not_false, reduceIte, List.length_nil, List.length_cons, List.length_map, mk_len, mk_app, List.not_mem_nil, not_false_eq_true, $ls,*])
local macro_rules | `(tactic| infer_instance) => `(tactic| first
  | assumption | exact log_small (by omega) (by omega) | rfl | omega | decide | exact sz (by omega) | exact szl (by omega) | exact Or.inl ⟨by decide, by decide⟩ | exact Or.inr ⟨by decide, by decide⟩ | exact ⟨by decide, by decide⟩ | exact ⟨by decide, by decide, by decide⟩ | exact ⟨_, rfl⟩)
local macro_rules | `(tactic| and_intros) => `(tactic| repeat ((with_reducible apply And.intro); (focus infer_instance)))
local macro_rules | `(tactic| ac_nf) => `(tactic| simp only [List.map_cons, List.map_nil, List.cons_append, List.nil_append, List.set_cons_zero, List.set_cons_succ, List.replicate, List.length_cons, List.length_nil, Nat.zero_add, Nat.reduceAdd, Nat.reduceSub])
local macro_rules
  | `(tactic| simp_all_arith) => `(tactic| simp_all_arith [])
  | `(tactic| simp_all_arith [$ls,*]) => `(tactic| simp_arith [cast0, cast1, cast2, cast3, cast4, beq_self_eq_true, Int.reduceBEq, Int.reduceLT, Int.reduceLE, Int.reduceAdd, Bool.not_true, Bool.not_false, $ls,*])
def gl97 : Str → Option D := fun x => [(("SMALL" : Str), T small), ("BARE", .tuple ([wBooks, wBegin, wEnd, wDrop].map T)), ("ASKED", .tuple (asked.map T))].lookup x
def G97 : Ctx := ⟨[], tbl [], gl97⟩
theorem G97_1 : G97.gl "SMALL" = some (T small) := rfl
theorem tx_one {l : List Nat} (h : tx l) {c : Nat} (hc : c ∈ l) : okT [c] = true := by
  have := h.2 c hc
  simp [okT]; omega
def conIsW : Con := con1 fun l => .bool (isW l)
theorem its_all (p : Nat → Bool) (l : List Nat) : ((its l).map fun d => match d with | .str x => PyData.bool (p (x.cps.getD 0 0)) | d => d) = (l.map p).map .bool := by
  simp [List.map_map]; intro a _; rfl
def bI (p : Nat → Bool) : D → D
  | .str x => .bool (p (x.cps.getD 0 0))
  | d => d
theorem its_bI (p : Nat → Bool) (l : List Nat) : (its l).map (bI p) = (l.map p).map .bool := by
  simp [List.map_map]; intro a _; rfl
theorem ok_is_word : ∀ args Q, conIsW.run args Q → wpF G97 ⟨conIsW.io, N_is_word.length, d_is_word⟩ args Q := by
  rintro args Q ⟨l, rfl, hl, q⟩
  have h1 := hl.1
  simp_arith [d_is_word, conIsW, con1, G97_1]
  refine ⟨tx_sz hl, cnd_dec (fun ha => ?_) fun ha => ?_⟩
  · refine cnd_dec (fun hb => ?_) fun hb => ?_
    · refine lcS_map (bI fun c => decide (c ∈ small)) (by simp) (by simp) (by simp; exact tx_sz hl) (fun d hd k hk => ?_) ?_
      · rw [List.mem_map] at hd
        obtain ⟨c, hc, rfl⟩ := hd
        simp_arith [G97_1]
        exact hk
      · rw [its_bI]
        simp_arith [boolsD_map]
        refine Eq.mp (congrArg (fun b => Q (.sh (.bool b)) []) ?_) q
        simp only [isW, List.all_map]
        rw [decide_eq_true (show 1 ≤ l.length by omega), decide_eq_true (show l.length ≤ 8 by omega)]
        rfl
    · refine Eq.mp (congrArg (fun b => Q (.sh (.bool b)) []) ?_) q
      simp only [isW]
      rw [decide_eq_false (show ¬ l.length ≤ 8 by omega)]; simp
  · refine Eq.mp (congrArg (fun b => Q (.sh (.bool b)) []) ?_) q
    simp only [isW]
    rw [decide_eq_false (show ¬ 1 ≤ l.length by omega)]; simp
def keepI (p : Nat → Bool) : D → Option D
  | .str x => if p (x.cps.getD 0 0) then some (.str x) else none
  | _ => none
theorem keepI_T (p : Nat → Bool) (c : Nat) : keepI p (T [c]) = if p c = true then some (T [c]) else none := rfl
theorem keepI_y {p : Nat → Bool} {c : Nat} (h : p c = true) : keepI p (T [c]) = some (T [c]) := by rw [keepI_T, if_pos h]
theorem keepI_n {p : Nat → Bool} {c : Nat} (h : p c = false) : keepI p (T [c]) = none := by rw [keepI_T, if_neg (by simp [h])]
theorem its_keep (p : Nat → Bool) (l : List Nat) : (its l).filterMap (keepI p) = its (l.filter p) := by
  induction l with
  | nil => rfl
  | cons c l ih =>
    simp only [its] at ih ⊢
    by_cases h : p c = true
    · rw [List.filter_cons_of_pos h, List.map_cons, List.map_cons, List.filterMap_cons_some (b := T [c]), ih]
      show keepI p (T [c]) = _
      simp only [keepI, getD_one, h, if_true]
    · rw [List.filter_cons_of_neg h, List.map_cons, List.filterMap_cons_none, ih]
      show keepI p (T [c]) = _
      simp only [keepI, getD_one, h, Bool.false_eq_true, if_false]
theorem filter_ok {p : Nat → Bool} {l : List Nat} (h : ∀ c ∈ l, c < 128) : okT (l.filter p) = true := by
  unfold okT
  rw [List.all_eq_true]
  exact fun c hc => decide_eq_true (Nat.lt_trans (h c (List.mem_filter.mp hc).1) (by decide))
theorem its_empty (l : List Nat) : (its l).isEmpty = l.isEmpty := by cases l <;> rfl
theorem filter_none (p : Nat → Bool) (l : List Nat) : (l.filter fun c => !p c).isEmpty = l.all p := by
  induction l with
  | nil => rfl
  | cons c l ih =>
    rw [List.all_cons]
    by_cases h : p c = true
    · rw [List.filter_cons_of_neg (by simp [h]), ih, h]; rfl
    · rw [List.filter_cons_of_pos (by simp [h])]
      simp [h]
theorem ok_law_is_word : ∀ args Q, conIsW.run args Q → wpF G97 ⟨conIsW.io, N_law_is_word.length, d_law_is_word⟩ args Q := by
  rintro args Q ⟨l, rfl, hl, q⟩
  have h1 := hl.1
  simp_arith [d_law_is_word, conIsW, con1, G97_1]
  refine ⟨tx_sz hl, cnd_dec (fun ha => ?_) fun ha => ?_⟩
  · refine cnd_dec (fun hb => ?_) fun hb => ?_
    · refine lcS_pure (keepI fun c => !decide (c ∈ small)) (by simp) (by simp) (by simp; exact tx_sz hl) (fun d hd k hk => ?_) ?_
      · rw [List.mem_map] at hd
        obtain ⟨c, hc, rfl⟩ := hd
        simp_arith [G97_1]
        refine cnd_dec (fun h => ?_) fun h => ?_
        · rw [keepI_n (by show (!decide (c ∈ small)) = false; rw [decide_eq_true h]; rfl)] at hk
          exact hk
        · rw [keepI_y (by show (!decide (c ∈ small)) = true; rw [decide_eq_false h]; rfl)] at hk
          exact hk
      · rw [its_keep]
        simp_arith
        refine ⟨by decide, shaped_strs (filter_ok hl.2), ?_⟩
        refine Eq.mp (congrArg (fun b => Q (.sh (.bool b)) []) ?_) q
        rw [its_empty, filter_none]
        simp only [isW]
        rw [decide_eq_true (show 1 ≤ l.length by omega), decide_eq_true (show l.length ≤ 8 by omega)]
        rfl
    · refine Eq.mp (congrArg (fun b => Q (.sh (.bool b)) []) ?_) q
      simp only [isW]
      rw [decide_eq_false (show ¬ l.length ≤ 8 by omega)]; simp
  · refine Eq.mp (congrArg (fun b => Q (.sh (.bool b)) []) ?_) q
    simp only [isW]
    rw [decide_eq_false (show ¬ 1 ≤ l.length by omega)]; simp
def oi : Option Int → D
  | none => .none
  | some n => .int n
def conNum : Con := con1 fun l => oi (numW l)
theorem ok_number_of : ∀ args Q, conNum.run args Q → wpF G97 ⟨conNum.io, N_number_of.length, d_number_of⟩ args Q := by
  rintro args Q ⟨l, rfl, hl, q⟩
  have h1 := hl.1
  have bad : ¬(1 ≤ l.length ∧ l.length ≤ 4 ∧ (∀ c ∈ l, c ∈ figs)) → Q (.sh .none) [] := fun h => by
    have q : Q (.sh (oi (numW l))) [] := q
    unfold numW at q
    rw [if_neg h] at q
    exact q
  simp_arith [d_number_of, conNum, con1]
  refine ⟨tx_sz hl, cnd_dec (fun ha => ?_) fun ha => ?_⟩
  · refine cnd_dec (fun hb => ?_) fun hb => ?_
    · refine lcS_map (bI fun c => decide (c ∈ figs)) (by simp) (by simp) (by simp; exact tx_sz hl) (fun d hd k hk => ?_) ?_
      · rw [List.mem_map] at hd
        obtain ⟨c, hc, rfl⟩ := hd
        simp_arith
        exact hk
      · rw [its_bI]
        simp_arith [boolsD_map]
        rw [List.all_map]
        by_cases hf : ∀ c ∈ l, c ∈ figs
        · rw [show (l.all (id ∘ fun c => decide (c ∈ figs))) = true from List.all_eq_true.mpr fun c hc => decide_eq_true (hf c hc)]
          simp_arith
          have q : Q (.sh (oi (numW l))) [] := q
          unfold numW at q
          rw [if_pos ⟨by omega, by omega, hf⟩] at q
          have hi := int_val (fig := l) (fun c hc => (in_figs c).mp (hf c hc)) (by omega) (by omega)
          have fin : ¬(1 < l.length ∧ l[0]? = some 48) → Q (.sh (.int (val l))) [] := fun z => by
            rw [if_neg z] at q; exact q
          refine ⟨tx_sz hl, cnd_dec (fun hg => ?_) fun hg => ?_⟩
          · refine ⟨tx_sz hl, l[0], by rw [atI_of (by decide) (by simp; omega)]; rfl, ?_⟩
            have h48 := (in_figs _).mp (hf _ (List.getElem_mem (show 0 < l.length by omega)))
            refine ⟨by simp [okT]; omega, by decide, cnd_dec (fun hz => ?_) fun hz => ?_⟩
            · rw [if_pos ⟨by omega, by rw [List.getElem?_eq_getElem (by omega)]; simpa using hz⟩] at q
              exact q
            · refine ⟨by omega, _, hi, fin fun z => hz ?_⟩
              have := z.2
              rw [List.getElem?_eq_getElem (by omega)] at this
              simpa using this
          · exact ⟨by omega, _, hi, fin fun z => hg (by omega)⟩
        · rw [show (l.all (id ∘ fun c => decide (c ∈ figs))) = false from Bool.eq_false_iff.mpr fun h => hf fun c hc => of_decide_eq_true (List.all_eq_true.mp h c hc)]
          simp_arith
          exact bad fun z => hf z.2.2
    · exact bad fun z => hb (by omega)
  · exact bad fun z => ha (by omega)
theorem occ_fig {a : Nat} (h : 48 ≤ a ∧ a ≤ 57) : Builtin.Str.occurrences (mk [48, 49, 50, 51, 52, 53, 54, 55, 56, 57]) (mk [a]) 0 10 1 = [a - 48] := by
  have g : ∀ i : Fin 10, Builtin.Str.occurrences (mk [48, 49, 50, 51, 52, 53, 54, 55, 56, 57]) (mk [48 + i.val]) 0 10 1 = [i.val] := by decide +kernel
  have := g ⟨a - 48, by omega⟩
  simp only [show 48 + (a - 48) = a by omega] at this
  exact this
theorem val_snoc (l : List Nat) (c : Nat) : val (l ++ [c]) = val l * 10 + (c - 48) := by unfold val; rw [List.foldl_append]; rfl
theorem val_lt : ∀ l : List Nat, (∀ c ∈ l, c < 58) → val l < 10 ^ l.length := fun l => by
  have gen : ∀ (l : List Nat) (n : Nat) (k : Nat), (∀ c ∈ l, c < 58) → n < 10 ^ k → l.foldl (fun n c => n * 10 + (c - 48)) n < 10 ^ (k + l.length) := by
    intro l
    induction l with
    | nil => intro n k _ h; exact h
    | cons c l ih =>
      intro n k hc h
      rw [List.foldl_cons, List.length_cons, show k + (l.length + 1) = (k + 1) + l.length by omega]
      have := hc c (by simp)
      exact ih _ _ (fun d hd => hc d (by simp [hd])) (by rw [Nat.pow_succ]; omega)
  intro h
  have := gen l 0 0 h (by decide)
  simpa [val] using this
theorem num_loop {l : List Nat} {D : EndE} (hl : l.length ≤ 4) (hc : ∀ c ∈ l, 48 ≤ c ∧ c ≤ 57) (h : ∀ v, D.nx [some (.sh (T l)), some (.sh (.bool true)), some (.sh (.int (val l))), v]) :
    forS ⟨[], G97.fn, G97.gl⟩ (Tg.name 3) ((Sm.asg 2 (Ex.op2 Op2.add (Ex.op2 Op2.mul (Ex.var 2) (Ex.cst (PyData.int 10))) (Ex.me Me.index (Ex.cst (PyData.str (mk [48, 49, 50, 51, 52, 53, 54, 55, 56, 57]))) [Ex.var 3]))).seq Sm.skip)
      (its l) [some (.sh (T l)), some (.sh (.bool true)), some (.sh (.int 0)), none] D := by
  refine forS_inv (fun ds env => ∃ (done rest : List Nat) (v : Option OT), l = done ++ rest ∧ ds = its rest ∧ env = [some (.sh (T l)), some (.sh (.bool true)), some (.sh (.int (val done))), v]) ?_ ?_ ⟨[], l, _, rfl, rfl, rfl⟩
  · rintro d ds env k ⟨done, rest, v, e, hd, rfl⟩ hk
    match rest, hd with
    | c :: rest, hd =>
      cases hd
      have h48 := hc c (by rw [e]; simp)
      simp_arith [occ_fig h48]
      refine ⟨.inr ⟨by decide, by decide⟩, ?_⟩
      · refine hk _ ⟨done ++ [c], rest, some (.sh (T [c])), by simp [e], rfl, ?_⟩
        rw [val_snoc]
        simp
  · rintro env ⟨done, rest, v, e, hd, rfl⟩
    have : rest = [] := by simpa using hd.symm
    subst this
    rw [List.append_nil] at e
    subst e
    exact h v
theorem ok_law_number : ∀ args Q, conNum.run args Q → wpF G97 ⟨conNum.io, N_law_number.length, d_law_number⟩ args Q := by
  rintro args Q ⟨l, rfl, hl, q⟩
  have h1 := hl.1
  have bad : ¬(1 ≤ l.length ∧ l.length ≤ 4 ∧ (∀ c ∈ l, c ∈ figs)) → Q (.sh .none) [] := fun h => by
    have q : Q (.sh (oi (numW l))) [] := q
    unfold numW at q
    rw [if_neg h] at q
    exact q
  simp_arith [d_law_number, conNum, con1]
  refine ⟨tx_sz hl, cnd_dec (fun ha => ?_) fun ha => ?_⟩
  · refine cnd_dec (fun hb => ?_) fun hb => ?_
    · refine lcS_pure (keepI fun c => !decide (c ∈ figs)) (by simp) (by simp) (by simp; exact tx_sz hl) (fun d hd k hk => ?_) ?_
      · rw [List.mem_map] at hd
        obtain ⟨c, hc, rfl⟩ := hd
        simp_arith
        refine cnd_dec (fun h => ?_) fun h => ?_
        · rw [keepI_n (by show (!decide (c ∈ figs)) = false; rw [decide_eq_true h]; rfl)] at hk
          exact hk
        · rw [keepI_y (by show (!decide (c ∈ figs)) = true; rw [decide_eq_false h]; rfl)] at hk
          exact hk
      · rw [its_keep]
        simp_arith
        refine ⟨by decide, shaped_strs (filter_ok hl.2), ?_⟩
        rw [its_empty, filter_none]
        by_cases hf : ∀ c ∈ l, c ∈ figs
        · rw [show (l.all fun c => decide (c ∈ figs)) = true from List.all_eq_true.mpr fun c hc => decide_eq_true (hf c hc)]
          simp_arith
          have q : Q (.sh (oi (numW l))) [] := q
          unfold numW at q
          rw [if_pos ⟨by omega, by omega, hf⟩] at q
          have h48 := (in_figs _).mp (hf _ (List.getElem_mem (show 0 < l.length by omega)))
          have fin : ¬(1 < l.length ∧ l[0]? = some 48) → Q (.sh (.int (val l))) [] := fun z => by
            rw [if_neg z] at q; exact q
          refine ⟨tx_sz hl, l[0], by rw [atI_of (by decide) (by simp; omega)]; rfl, ?_⟩
          refine ⟨by simp [okT]; omega, by decide, cnd_dec (fun hz => ?_) fun hz => ?_⟩
          · refine ⟨tx_sz hl, cnd_dec (fun hg => ?_) fun hg => ?_⟩
            · rw [if_pos ⟨by omega, by rw [List.getElem?_eq_getElem (by omega)]; simpa using hz⟩] at q
              exact q
            · refine num_loop (by omega) (fun c hc => (in_figs c).mp (hf c hc)) fun v => ?_
              simp_arith
              exact fin fun z => hg (by omega)
          · refine num_loop (by omega) (fun c hc => (in_figs c).mp (hf c hc)) fun v => ?_
            simp_arith
            refine fin fun z => hz ?_
            have := z.2
            rw [List.getElem?_eq_getElem (by omega)] at this
            simpa using this
        · rw [show (l.all fun c => decide (c ∈ figs)) = false from Bool.eq_false_iff.mpr fun h => hf fun c hc => of_decide_eq_true (List.all_eq_true.mp h c hc)]
          simp_arith
          exact bad fun z => hf z.2.2
    · exact bad fun z => hb (by omega)
  · exact bad fun z => ha (by omega)
end TW
end
section
set_option Elab.async false
set_option linter.all false
set_option maxRecDepth 100000
set_option maxHeartbeats 4000000
/-! M97: law_k97: an order read -/
namespace TW
open PySem L2
local macro_rules
  | `(tactic| simp_arith) => `(tactic| simp_arith [])
  | `(tactic| simp_arith [$ls,*]) => `(tactic| simp only [wpF, argsOk, wE_var, wE_lc, wS_for, wE_cst, wE_glo, wE_op2, wE_neg, wE_not, wE_and, wE_or, wE_ife, wE_chain, wE_idx, wE_slc, wE_slcL, wE_slcH, wE_tup, wE_lst, wE_call, wE_bi, wE_isi, wE_me, wE_mu, wE_fmt, wE_fst, wS_skip, wS_seq, wS_asg, wS_unp, wS_par, wS_seti, wS_aug, wS_exp, wS_ret, wS_retN, wS_ife, wS_brk, wS_cnt, wS_rai, wS_bad, varS_sh, varS_lst, wpOs, wpVs, wpTs, wpI, wpJ, opd, tst, retE, List.map, List.length, ioIx, List.cons_append, List.nil_append, List.getElem?_cons_zero, List.getElem?_cons_succ,
      frz_sh, frz_lst, own_sh, own_lst, resO_some, res_va, res_pl, resL_nil, resL_cons, consO_some, add_int, add_str, add_list, add_tuple, sub_int, mul_int, fdiv_int, mod_int, pow_int, lt_int, le_int, gt_int, ge_int, eq_int, ne_int, eq_str, ne_str, in_str1, nin_str1, in_tuple, nin_tuple,
      is_none, isnot_none, is_bool, len_list, len_tuple, len_str, int_int, int_str, str_int, str_str, ord_str, repr_int, repr_str, all_list, any_list, idx_list, idx_tuple, idx_str, slc_str, slc_list, slc_tuple, seq_list, seq_tuple, seq_str, it_rng1, it_rng2, it_enum,
      aug_add_int, aug_sub_int, aug_add_str, seti_lst, mu_append, mu_insert, meT_str, meT_list, tgt_name, me_join, me_index, isN_str, isN_int, isN_bool, isN_list, isN_tuple, isN_none,
      implies_true, eq_list_nil, subN_lo4, subN_lo5, subN_hi4, subN_hi3, subN_tail, wipeE, unwipe, takeArgs, putBack, ioPl, Option.map_some, List.nodup_nil, nodup1, decide_true, decide_false, Nat.reduceEqDiff, reduceCtorEq, false_and, and_false, Prod.mk.injEq, and_assoc, exists_const,
      outsAt, atI_0, atI_1, atI_2, atI_3, ixN_0, ixN_1, ixN_2, OT.lst.injEq, ite_cnd, cnd_t, cnd_f, cnd_n, true_or, or_true, or_self, List.cons.injEq, Option.some.injEq, exists_eq_left', exists_eq_left, exists_eq', exists_and_left, true_and, and_true, and_self, Nat.zero_add, Nat.reduceAdd, Nat.sub_self, Nat.reduceSub, List.replicate, OT.sh.injEq, PyData.bool.injEq,
      PyData.int.injEq, PyData.str.injEq, List.set_cons_zero, List.set_cons_succ, if_true, if_false, Bool.false_eq_true, Bool.not_true, Bool.not_false, reduceIte, List.length_nil, List.length_cons, List.length_map, mk_len, mk_app, List.not_mem_nil, not_false_eq_true, $ls,*])
local macro_rules | `(tactic| infer_instance) => `(tactic| first
  | assumption | exact log_small (by omega) (by omega) | rfl | omega | decide | exact sz (by omega) | exact szl (by omega) | exact Or.inl ⟨by decide, by decide⟩ | exact Or.inr ⟨by decide, by decide⟩ | exact ⟨by decide, by decide⟩ | exact ⟨by decide, by decide, by decide⟩ | exact ⟨_, rfl⟩)
local macro_rules | `(tactic| and_intros) => `(tactic| repeat ((with_reducible apply And.intro); (focus infer_instance)))
local macro_rules | `(tactic| ac_nf) => `(tactic| simp only [List.map_cons, List.map_nil, List.cons_append, List.nil_append, List.set_cons_zero, List.set_cons_succ, List.replicate, List.length_cons, List.length_nil, Nat.zero_add, Nat.reduceAdd, Nat.reduceSub])
local macro_rules
  | `(tactic| simp_all_arith) => `(tactic| simp_all_arith [])
  | `(tactic| simp_all_arith [$ls,*]) => `(tactic| simp_arith [cast0, cast1, cast2, cast3, cast4, beq_self_eq_true, Int.reduceBEq, Int.reduceLT, Int.reduceLE, Int.reduceAdd, Bool.not_true, Bool.not_false, $ls,*])
theorem in_list_T (l : List Nat) (xs : List D) (Q : KO) : op2 .isIn (.str (mk l)) (.list xs) Q = (SeqAt.shaped (T l) = true ∧ SeqAt.shaped (.list xs) = true ∧ Q (.sh (.bool (xs.any fun z => PyData.eqv z (T l))))) := rfl
theorem in_T (l : List Nat) (ws : List (List Nat)) : (((ws.map T)).any fun z => PyData.eqv z (T l)) = decide (l ∈ ws) := any_T l ws
def conRd : Con := con1 fun l => od (rd l)
def G_rd : Ctx := ⟨[], tbl [("is_word", conIsW), ("number_of", conNum)], gl97⟩
theorem G_rd_1 : G_rd.fn "is_word" = some conIsW := rfl
theorem G_rd_2 : G_rd.fn "number_of" = some conNum := rfl
theorem G_rd_3 : G_rd.gl "BARE" = some (.tuple ([wBooks, wBegin, wEnd, wDrop].map T)) := rfl
theorem G_rd_4 : G_rd.gl "ASKED" = some (.tuple (asked.map T)) := rfl
theorem split_T {l : List Nat} (h : tx l) (Q : KO) : meS .split (.str (mk l)) [.str (mk [32])] Q = Q (.lst ((sp 32 l).map T)) := by
  show (_ ∧ _ ∧ Q (.lst ((Txt.split (mk l) (mk [32])).map .str))) = _
  rw [tsplit_mk (by decide), List.map_map, eq_iff_iff]
  exact ⟨fun z => z.2.2, fun z => ⟨rfl, by rw [mk_len]; exact sz (by have := h.1; omega), z⟩⟩
theorem tx_sp {l w : List Nat} (h : tx l) (hw : w ∈ sp 32 l) : tx w := ⟨Nat.le_trans (sp_wlen hw) h.1, fun c hc => h.2 c (sp_mem hw hc)⟩
theorem ok_read_order : ∀ args Q, conRd.run args Q → wpF G_rd ⟨conRd.io, N_read_order.length, d_read_order⟩ args Q := by
  rintro args Q ⟨l, rfl, hl, q⟩
  have h1 := hl.1
  have q : Q (.sh (od (rdW (sp 32 l)))) [] := q
  have hsum := sp_sum 32 l
  have htx : ∀ w ∈ sp 32 l, tx w := fun w hw => tx_sp hl hw
  simp only [wpF, argsOk, d_read_order, conRd, con1, ioIx]
  refine ⟨⟨rfl, trivial⟩, ?_⟩
  refine seq_asg (.lst ((sp 32 l).map T)) (by simp) (fun k hk => ?_) ?_
  · simp_arith [split_T hl]
    exact hk
  match hs : sp 32 l, sp_ne 32 l with
  | [k], _ =>
    rw [hs] at q htx
    have hk := htx k (by simp)
    ac_nf
    refine seq_ife (k ∈ [wBooks, wBegin, wEnd, wDrop]) (fun kk hkk => ?_) (fun hm => seq_ret ?_) (fun hm => ?_)
    · simp_all_arith [G_rd_3, tx_ok hk]
      exact ⟨shaped_T hk, by decide +kernel, Eq.mp (congrArg (fun b => kk b _) (any_T k [wBooks, wBegin, wEnd, wDrop]).symm) hkk⟩
    · simp_all_arith
      rw [rdW, if_pos hm] at q
      exact ⟨sz (by decide), q⟩
    refine seq_ife True (fun kk hkk => ?_) (fun _ => seq_ret ?_) (fun hm => absurd trivial hm)
    · simp_all_arith
      exact hkk
    · simp_all_arith
      rw [rdW, if_neg hm] at q
      exact q
  | [k, a], _ =>
    rw [hs] at q htx
    have hk := htx k (by simp)
    have ha := htx a (by simp)
    ac_nf
    refine seq_ife False (fun kk hkk => ?_) (fun hm => hm.elim) (fun _ => ?_)
    · simp_all_arith [G_rd_3, tx_ok hk]
      exact hkk
    refine seq_ife (isW a = false) (fun kk hkk => ?_) (fun hm => seq_ret ?_) (fun hm => ?_)
    · simp_all_arith [G_rd_1, conIsW, con1]
      exact ⟨a, rfl, ha, Eq.mp (congrArg (fun b => kk b _) (by cases isW a <;> rfl)) hkk⟩
    · simp_all_arith
      rw [rdW, if_neg (by simp [hm])] at q
      exact q
    have hw : isW a = true := by simpa using hm
    refine seq_asg (.sh (T k)) (by simp) (fun kk hkk => ?_) ?_
    · simp_all_arith
      exact hkk
    ac_nf
    refine seq_ife (k ∈ [wBook, wForget, wUndo]) (fun kk hkk => ?_) (fun hm => seq_ret ?_) (fun hm => ?_)
    · simp_all_arith
      exact ⟨sz (by decide), shaped_T hk, by decide +kernel, Eq.mp (congrArg (fun b => kk b _) (any_T k [wBook, wForget, wUndo]).symm) hkk⟩
    · simp_all_arith
      rw [rdW, if_pos ⟨hw, hm⟩] at q
      exact ⟨sz (by decide), q⟩
    rw [rdW, if_neg (fun z => hm z.2)] at q
    refine seq_ife False (fun kk hkk => ?_) (fun hm => hm.elim) (fun _ => ?_)
    · simp_all_arith
      exact ⟨tx_ok hk, by decide, by first | exact hkk | exact cnd_dec (fun _ => hkk) fun _ => hkk⟩
    refine seq_ife False (fun kk hkk => ?_) (fun hm => hm.elim) (fun _ => ?_)
    · simp_all_arith
      exact hkk
    refine seq_ife False (fun kk hkk => ?_) (fun hm => hm.elim) (fun _ => ?_)
    · simp_all_arith
      exact hkk
    refine seq_ife False (fun kk hkk => ?_) (fun hm => hm.elim) (fun _ => ?_)
    · simp_all_arith
      exact hkk
    refine seq_ife False (fun kk hkk => ?_) (fun hm => hm.elim) (fun _ => ?_)
    · simp_all_arith
      exact hkk
    refine seq_ret ?_
    simp_all_arith
    exact q
  | k :: a :: b :: r, _ =>
    rw [hs] at q htx hsum
    have hk := htx k (by simp)
    have ha := htx a (by simp)
    have hb := htx b (by simp)
    have hlen : (k :: a :: b :: r).length = r.length + 3 := rfl
    have hrl : r.length + 3 ≤ 2001 := by
      have h : ((k :: a :: b :: r).map List.length).sum + (k :: a :: b :: r).length = l.length + 1 := hsum
      rw [hlen] at h
      omega
    ac_nf
    refine seq_ife False (fun kk hkk => ?_) (fun hm => hm.elim) (fun _ => ?_)
    · simp_all_arith [G_rd_3, tx_ok hk]
      exact cnd_neg (by simp; omega) hkk
    refine seq_ife (isW a = false) (fun kk hkk => ?_) (fun hm => seq_ret ?_) (fun hm => ?_)
    · simp_all_arith [G_rd_1, conIsW, con1]
      refine cnd_dec (fun z => by omega) fun _ => ?_
      exact ⟨a, rfl, ha, Eq.mp (congrArg (fun b => kk b _) (by cases isW a <;> rfl)) hkk⟩
    · simp_all_arith
      rw [rdW, if_neg (by simp [hm])] at q
      exact q
    have hw : isW a = true := by simpa using hm
    rw [rdW, if_pos hw] at q
    refine seq_asg (.sh (T k)) (by simp) (fun kk hkk => ?_) ?_
    · simp_all_arith
      exact hkk
    ac_nf
    refine seq_ife False (fun kk hkk => ?_) (fun hm => hm.elim) (fun _ => ?_)
    · simp_all_arith
      exact cnd_neg (by simp; omega) hkk
    refine seq_ife (k = wAdd) (fun kk hkk => ?_) (fun hm => seq_ret ?_) (fun hm => ?_)
    · simp_all_arith
      refine ⟨tx_ok hk, by decide, cnd_dec (fun z => ?_) fun z => ?_⟩
      · rw [decide_eq_true (show (2 : Int) < ((r.length + 1 + 1 + 1 : Nat) : Int) by omega)]
        rw [decide_eq_true (show k = wAdd from z)] at hkk
        exact hkk
      · rw [decide_eq_false (show ¬ k = wAdd from z)] at hkk
        exact hkk
    · rw [if_pos hm] at q
      have hj := jn_le 32 (b :: r)
      have hsum : ((k :: a :: b :: r).map List.length).sum + (k :: a :: b :: r).length = l.length + 1 := hsum
      have hj2 : ((b :: r).map List.length).sum ≤ 2001 := by
        simp only [List.map_cons, List.sum_cons, List.length_cons] at hsum ⊢
        omega
      have e := strsD_T (b :: r)
      simp only [List.map_cons] at e
      have e2 := tjoin_mk 32 (b :: r)
      simp only [List.map_cons] at e2
      simp_all_arith [cutD_2, e, e2]
      have e3 : ((List.map mk r).map (·.length)).sum = (r.map List.length).sum := by
        rw [List.map_map]
        exact congrArg List.sum (List.map_congr_left fun w _ => mk_len w)
      simp only [List.map_cons, List.sum_cons] at hj2
      refine ⟨?_, sz (by decide), q⟩
      simp only [List.map_cons, List.sum_cons, e3, mk_len, List.length_map, List.length_cons, List.length_nil]
      omega
    rw [if_neg hm] at q
    have fin0 : ∀ {e : Env}, Q (.sh .none) [] → True := fun _ => trivial
    match r, hlen, hrl with
    | c :: r, _, hrl =>
      rw [if_neg (by simp)] at q
      simp only [List.length_cons] at hrl
      ac_nf
      refine seq_ife False (fun kk hkk => ?_) (fun hm => hm.elim) (fun _ => ?_)
      · simp_all_arith
        exact cnd_neg (by simp; omega) hkk
      refine seq_ife False (fun kk hkk => ?_) (fun hm => hm.elim) (fun _ => ?_)
      · simp_all_arith
        exact cnd_neg (by simp; omega) hkk
      refine seq_ife False (fun kk hkk => ?_) (fun hm => hm.elim) (fun _ => ?_)
      · simp_all_arith
        exact cnd_neg (by simp; omega) hkk
      refine seq_ife False (fun kk hkk => ?_) (fun hm => hm.elim) (fun _ => ?_)
      · simp_all_arith
        exact cnd_neg (by simp; omega) hkk
      refine seq_ret ?_
      simp_all_arith
      exact q
    | [], _, _ =>
      rw [if_pos rfl] at q
      ac_nf
      refine seq_ife (k = wTake ∧ numW b ≠ none) (fun kk hkk => ?_) (fun hm => seq_ret ?_) (fun hm => ?_)
      · simp_all_arith [G_rd_2, conNum, con1]
        refine ⟨tx_ok hk, by decide, cnd_dec (fun z => ?_) fun z => ?_⟩
        · refine ⟨b, rfl, hb, ?_⟩
          cases hn : numW b with
          | none =>
            rw [hn, decide_eq_false (by simp)] at hkk
            simp_all_arith [oi]
            exact hkk
          | some n =>
            rw [hn, decide_eq_true ⟨z, by simp⟩] at hkk
            simp_all_arith [oi]
            exact hkk
        · rw [decide_eq_false (fun y => z y.1)] at hkk
          exact hkk
      · rw [if_pos hm.1] at q
        simp_all_arith [G_rd_2, conNum, con1]
        refine ⟨b, rfl, hb, sz (by decide), ?_⟩
        cases hn : numW b with
        | none => exact absurd hn hm.2
        | some n =>
          rw [hn] at q
          exact q
      have q : Q (.sh (od (if k = wAsk then (if b ∈ asked then some [.s wAsk, .s a, .s b] else none)
        else if k ∈ [wCopy, wAlike] then (if isW b = true then some [.s k, .s a, .s b] else none)
        else if k = wTell ∧ b ≠ [] then some [.s wTell, .s a, .s b] else none))) [] := by
        by_cases ht : k = wTake
        · rw [if_pos ht] at q
          have hn : numW b = none := by
            cases hn : numW b with
            | none => rfl
            | some n => exact absurd ⟨ht, by simp [hn]⟩ hm
          rw [hn] at q
          rw [if_neg (by rw [ht]; decide), if_neg (by rw [ht]; decide), if_neg (fun z => absurd (ht.symm.trans z.1) (by decide))]
          exact q
        · rw [if_neg ht] at q
          exact q
      refine seq_ife (k = wAsk ∧ b ∈ asked) (fun kk hkk => ?_) (fun hm => seq_ret ?_) (fun hm => ?_)
      · simp_all_arith [G_rd_4]
        refine ⟨tx_ok hk, by decide, cnd_dec (fun z => ?_) fun z => ?_⟩
        · refine ⟨shaped_T hb, by decide +kernel, Eq.mp (congrArg (fun b => kk b _) ?_) hkk⟩
          refine Eq.trans ?_ (any_T b asked).symm
          exact decide_eq_decide.mpr ⟨fun y => y.2, fun y => ⟨z, y⟩⟩
        · rw [decide_eq_false (fun y => z y.1)] at hkk
          exact hkk
      · rw [if_pos hm.1, if_pos hm.2] at q
        simp_all_arith
        exact ⟨sz (by decide), q⟩
      have q : Q (.sh (od (if k ∈ [wCopy, wAlike] then (if isW b = true then some [.s k, .s a, .s b] else none)
        else if k = wTell ∧ b ≠ [] then some [.s wTell, .s a, .s b] else none))) [] := by
        by_cases ht : k = wAsk
        · rw [if_pos ht, if_neg (fun z => hm ⟨ht, z⟩)] at q
          rw [if_neg (by rw [ht]; decide), if_neg (fun z => absurd (ht.symm.trans z.1) (by decide))]
          exact q
        · rw [if_neg ht] at q
          exact q
      refine seq_ife (k ∈ [wCopy, wAlike] ∧ isW b = true) (fun kk hkk => ?_) (fun hm => seq_ret ?_) (fun hm => ?_)
      · simp_all_arith [G_rd_1, conIsW, con1]
        refine ⟨sz (by decide), shaped_T hk, by decide +kernel, ?_⟩
        refine Eq.mpr (congrArg (fun b => cnd b _ _) (any_T k [wCopy, wAlike])) ?_
        refine cnd_dec (fun z => ?_) fun z => ?_
        · refine ⟨b, rfl, hb, Eq.mp (congrArg (fun b => kk b _) ?_) hkk⟩
          cases isW b <;> simp [z]
        · rw [decide_eq_false (fun y => z y.1)] at hkk
          exact hkk
      · rw [if_pos hm.1, if_pos hm.2] at q
        simp_all_arith
        exact ⟨sz (by decide), q⟩
      have q : Q (.sh (od (if k = wTell ∧ b ≠ [] then some [.s wTell, .s a, .s b] else none))) [] := by
        by_cases ht : k ∈ [wCopy, wAlike]
        · rw [if_pos ht, if_neg (fun z => hm ⟨ht, z⟩)] at q
          rw [if_neg (fun z => by rw [z.1] at ht; exact absurd ht (by decide))]
          exact q
        · rw [if_neg ht] at q
          exact q
      refine seq_ife (k = wTell) (fun kk hkk => ?_) (fun hm => seq_ret ?_) (fun hm => ?_)
      · simp_all_arith
        exact ⟨tx_ok hk, by decide, hkk⟩
      · simp_all_arith
        refine ⟨tx_ok hb, by decide, ?_⟩
        refine cnd_dec (fun z => ?_) fun z => ?_
        · rw [if_neg (fun y => y.2 z)] at q
          exact q
        · rw [if_pos ⟨hm, z⟩] at q
          exact ⟨sz (by decide), q⟩
      refine seq_ret ?_
      simp_all_arith
      rw [if_neg (fun z => hm z.1)] at q
      exact q
end TW
end
section
set_option Elab.async false
set_option linter.all false
set_option maxRecDepth 100000
set_option maxHeartbeats 4000000
/-! N97: law_k97: an order read by the law's own words -/
namespace TW
open PySem L2
local macro_rules
  | `(tactic| simp_arith) => `(tactic| simp_arith [])
  | `(tactic| simp_arith [$ls,*]) => `(tactic| simp only [wpF, argsOk, wE_var, wE_lc, wS_for, wE_cst, wE_glo, wE_op2, wE_neg, wE_not, wE_and, wE_or, wE_ife, wE_chain, wE_idx, wE_slc, wE_slcL, wE_slcH, wE_tup, wE_lst, wE_call, wE_bi, wE_isi, wE_me, wE_mu, wE_fmt, wE_fst, wS_skip, wS_seq, wS_asg, wS_unp, wS_par, wS_seti, wS_aug, wS_exp, wS_ret, wS_retN, wS_ife, wS_brk, wS_cnt, wS_rai, wS_bad, varS_sh, varS_lst, wpOs, wpVs, wpTs, wpI, wpJ, opd, tst, retE, List.map, List.length, ioIx, List.cons_append, List.nil_append, List.getElem?_cons_zero, List.getElem?_cons_succ,
      frz_sh, frz_lst, own_sh, own_lst, resO_some, res_va, res_pl, resL_nil, resL_cons, consO_some, add_int, add_str, add_list, add_tuple, sub_int, mul_int, fdiv_int, mod_int, pow_int, lt_int, le_int, gt_int, ge_int, eq_int, ne_int, eq_str, ne_str, in_str1, nin_str1, in_tuple, nin_tuple,
      is_none, isnot_none, is_bool, len_list, len_tuple, len_str, int_int, int_str, str_int, str_str, ord_str, repr_int, repr_str, all_list, any_list, idx_list, idx_tuple, idx_str, slc_str, slc_list, slc_tuple, seq_list, seq_tuple, seq_str, it_rng1, it_rng2, it_enum,
      aug_add_int, aug_sub_int, aug_add_str, seti_lst, mu_append, mu_insert, meT_str, meT_list, tgt_name, me_join, me_index, isN_str, isN_int, isN_bool, isN_list, isN_tuple, isN_none,
      implies_true, eq_list_nil, subN_lo4, subN_lo5, subN_hi4, subN_hi3, subN_tail, wipeE, unwipe, takeArgs, putBack, ioPl, Option.map_some, List.nodup_nil, nodup1, decide_true, decide_false, Nat.reduceEqDiff, reduceCtorEq, false_and, and_false, Prod.mk.injEq, and_assoc, exists_const,
      outsAt, atI_0, atI_1, atI_2, atI_3, ixN_0, ixN_1, ixN_2, OT.lst.injEq, ite_cnd, cnd_t, cnd_f, cnd_n, true_or, or_true, or_self, List.cons.injEq, Option.some.injEq, exists_eq_left', exists_eq_left, exists_eq', exists_and_left, true_and, and_true, and_self, Nat.zero_add, Nat.reduceAdd, Nat.sub_self, Nat.reduceSub, List.replicate, OT.sh.injEq, PyData.bool.injEq,
      PyData.int.injEq, PyData.str.injEq, List.set_cons_zero, List.set_cons_succ, if_true, if_false, Bool.false_eq_true, Bool.not_true, Bool.not_false, reduceIte, List.length_nil, List.length_cons, List.length_map, mk_len, mk_app, List.not_mem_nil, not_false_eq_true, $ls,*])
local macro_rules | `(tactic| infer_instance) => `(tactic| first
  | assumption | exact log_small (by omega) (by omega) | rfl | omega | decide | exact sz (by omega) | exact szl (by omega) | exact Or.inl ⟨by decide, by decide⟩ | exact Or.inr ⟨by decide, by decide⟩ | exact ⟨by decide, by decide⟩ | exact ⟨by decide, by decide, by decide⟩ | exact ⟨_, rfl⟩)
local macro_rules | `(tactic| and_intros) => `(tactic| repeat ((with_reducible apply And.intro); (focus infer_instance)))
local macro_rules | `(tactic| ac_nf) => `(tactic| simp only [List.map_cons, List.map_nil, List.cons_append, List.nil_append, List.set_cons_zero, List.set_cons_succ, List.replicate, List.length_cons, List.length_nil, Nat.zero_add, Nat.reduceAdd, Nat.reduceSub])
local macro_rules
  | `(tactic| simp_all_arith) => `(tactic| simp_all_arith [])
  | `(tactic| simp_all_arith [$ls,*]) => `(tactic| simp_arith [cast0, cast1, cast2, cast3, cast4, beq_self_eq_true, Int.reduceBEq, Int.reduceLT, Int.reduceLE, Int.reduceAdd, Bool.not_true, Bool.not_false, $ls,*])
def conAsked : Con := ⟨[], fun args Q => args = [] ∧ Q (.lst (asked.map T)) []⟩
theorem ok_law_asked : ∀ args Q, conAsked.run args Q → wpF G97 ⟨conAsked.io, N_law_asked.length, d_law_asked⟩ args Q := by
  rintro args Q ⟨rfl, q⟩
  simp_arith [d_law_asked, conAsked]
  exact ⟨sz (by decide), q⟩
def G_lrd : Ctx := ⟨[], tbl [("_law_is_word", conIsW), ("_law_number", conNum), ("_law_asked", conAsked)], gl97⟩
theorem G_lrd_1 : G_lrd.fn "_law_is_word" = some conIsW := rfl
theorem G_lrd_2 : G_lrd.fn "_law_number" = some conNum := rfl
theorem G_lrd_3 : G_lrd.fn "_law_asked" = some conAsked := rfl
theorem ok_law_read : ∀ args Q, conRd.run args Q → wpF G_lrd ⟨conRd.io, N_law_read.length, d_law_read⟩ args Q := by
  rintro args Q ⟨l, rfl, hl, q⟩
  have h1 := hl.1
  have q : Q (.sh (od (rdW (sp 32 l)))) [] := q
  have hsum := sp_sum 32 l
  have htx : ∀ w ∈ sp 32 l, tx w := fun w hw => tx_sp hl hw
  have hjn := jn_sp 32 l
  simp only [wpF, argsOk, d_law_read, conRd, con1, ioIx]
  refine ⟨⟨rfl, trivial⟩, ?_⟩
  refine seq_asg (.lst ((sp 32 l).map T)) (by simp) (fun k hk => ?_) ?_
  · simp_arith [split_T hl]
    exact hk
  match hs : sp 32 l, sp_ne 32 l with
  | [k], _ =>
    rw [hs] at q htx
    have hk := htx k (by simp)
    refine seq_par (.sh (T k)) (.sh (.int 1)) (by simp) (by simp) (by decide) (fun kk hkk => ?_) (fun kk hkk => ?_) ?_
    · simp_all_arith
      exact hkk
    · simp_all_arith
      exact hkk
    ac_nf
    refine seq_ife True (fun kk hkk => ?_) (fun _ => seq_ret ?_) (fun hm => absurd trivial hm)
    · simp_all_arith
      exact hkk
    · simp_all_arith [in_list_T]
      refine ⟨sz (by decide), shaped_T hk, by decide +kernel, Eq.mpr (congrArg (fun b => cnd b _ _) (any_T k [wBooks, wBegin, wEnd, wDrop])) ?_⟩
      refine cnd_dec (fun z => ?_) fun z => ?_
      · rw [rdW, if_pos z] at q
        exact ⟨sz (by decide), q⟩
      · rw [rdW, if_neg z] at q
        exact q
  | [k, a], _ =>
    rw [hs] at q htx
    have hk := htx k (by simp)
    have ha := htx a (by simp)
    refine seq_par (.sh (T k)) (.sh (.int 2)) (by simp) (by simp) (by decide) (fun kk hkk => ?_) (fun kk hkk => ?_) ?_
    · simp_all_arith
      exact hkk
    · simp_all_arith
      exact hkk
    ac_nf
    refine seq_ife False (fun kk hkk => ?_) (fun hm => hm.elim) (fun _ => ?_)
    · simp_all_arith
      exact hkk
    refine seq_ife (isW a = false) (fun kk hkk => ?_) (fun hm => seq_ret ?_) (fun hm => ?_)
    · simp_all_arith [G_lrd_1, conIsW, con1]
      exact ⟨a, rfl, ha, Eq.mp (congrArg (fun b => kk b _) (by cases isW a <;> rfl)) hkk⟩
    · simp_all_arith
      rw [rdW, if_neg (by simp [hm])] at q
      exact q
    have hw : isW a = true := by simpa using hm
    refine seq_ife False (fun kk hkk => ?_) (fun hm => hm.elim) (fun _ => ?_)
    · simp_all_arith
      exact ⟨tx_ok hk, by decide, cnd_dec (fun _ => hkk) fun _ => hkk⟩
    refine seq_ife (k ∈ [wBook, wForget, wUndo]) (fun kk hkk => ?_) (fun hm => seq_ret ?_) (fun hm => ?_)
    · simp_all_arith [in_list_T]
      exact ⟨sz (by decide), shaped_T hk, by decide +kernel, Eq.mp (congrArg (fun b => kk b _) (any_T k [wBook, wForget, wUndo]).symm) hkk⟩
    · simp_all_arith
      rw [rdW, if_pos ⟨hw, hm⟩] at q
      exact ⟨sz (by decide), q⟩
    rw [rdW, if_neg (fun z => hm z.2)] at q
    refine seq_ife True (fun kk hkk => ?_) (fun _ => seq_ret ?_) (fun hm => absurd trivial hm)
    · simp_all_arith
      exact hkk
    · simp_all_arith
      exact q
  | k :: a :: b :: r, _ =>
    rw [hs] at q htx hsum hjn
    have hk := htx k (by simp)
    have ha := htx a (by simp)
    have hb := htx b (by simp)
    have hlen : (k :: a :: b :: r).length = r.length + 3 := rfl
    have hrl : r.length + 3 ≤ 2001 := by
      have h : ((k :: a :: b :: r).map List.length).sum + (k :: a :: b :: r).length = l.length + 1 := hsum
      rw [hlen] at h
      omega
    refine seq_par (.sh (T k)) (.sh (.int ((r.length + 3 : Nat)))) (by simp) (by simp) (by decide) (fun kk hkk => ?_) (fun kk hkk => ?_) ?_
    · simp_all_arith
      exact hkk
    · simp_all_arith
      exact hkk
    ac_nf
    refine seq_ife False (fun kk hkk => ?_) (fun hm => hm.elim) (fun _ => ?_)
    · simp_all_arith
      exact Eq.mp (congrArg (fun b => kk b _) (by simp; omega)) hkk
    refine seq_ife (isW a = false) (fun kk hkk => ?_) (fun hm => seq_ret ?_) (fun hm => ?_)
    · simp_all_arith [G_lrd_1, conIsW, con1]
      exact ⟨a, rfl, ha, Eq.mp (congrArg (fun b => kk b _) (by cases isW a <;> rfl)) hkk⟩
    · simp_all_arith
      rw [rdW, if_neg (by simp [hm])] at q
      exact q
    have hw : isW a = true := by simpa using hm
    rw [rdW, if_pos hw] at q
    refine seq_ife (k = wAdd) (fun kk hkk => ?_) (fun hm => seq_ret ?_) (fun hm => ?_)
    · simp_all_arith
      refine ⟨tx_ok hk, by decide, cnd_dec (fun z => ?_) fun z => ?_⟩
      · rw [decide_eq_true (show (2 : Int) < ((r.length + 3 : Nat) : Int) by omega)]
        rw [decide_eq_true (show k = wAdd from z)] at hkk
        exact hkk
      · rw [decide_eq_false (show ¬ k = wAdd from z)] at hkk
        exact hkk
    · rw [if_pos hm] at q
      have e : l.drop (a.length + 5) = jn 32 (b :: r) := by
        rw [← hjn, hm]
        show List.drop _ (wAdd ++ 32 :: (a ++ 32 :: jn 32 (b :: r))) = _
        rw [show wAdd ++ 32 :: (a ++ 32 :: jn 32 (b :: r)) = (wAdd ++ [32] ++ a ++ [32]) ++ jn 32 (b :: r) by simp]
        rw [List.drop_append_of_le_length (by simp [wAdd]), List.drop_eq_nil_of_le (by simp [wAdd]), List.nil_append]
      simp_all_arith
      have e2 : subN l (some ((a.length : Int) + 5)) none = jn 32 (b :: r) := by rw [← e]; exact subN_lo l (a.length + 5)
      rw [e2]
      exact ⟨tx_sz ha, tx_sz hl, sz (by decide), q⟩
    rw [if_neg hm] at q
    refine seq_ife False (fun kk hkk => ?_) (fun hm => hm.elim) (fun _ => ?_)
    · simp_all_arith
      exact cnd_neg (by simp; omega) hkk
    match r, hlen, hrl with
    | c :: r, _, hrl =>
      rw [if_neg (by simp)] at q
      refine seq_ife True (fun kk hkk => ?_) (fun _ => seq_ret ?_) (fun hm => absurd trivial hm)
      · simp_all_arith
        exact Eq.mp (congrArg (fun b => kk b _) (by simp; omega)) hkk
      · simp_all_arith
        exact q
    | [], _, _ =>
      rw [if_pos rfl] at q
      ac_nf
      refine seq_ife False (fun kk hkk => ?_) (fun hm => hm.elim) (fun _ => ?_)
      · simp_all_arith
        exact hkk
      refine seq_ife (k = wTake) (fun kk hkk => ?_) (fun hm => seq_ret ?_) (fun hm => ?_)
      · simp_all_arith
        exact ⟨tx_ok hk, by decide, hkk⟩
      · rw [if_pos hm] at q
        simp_all_arith [G_lrd_2, conNum, con1]
        refine ⟨b, rfl, hb, ?_⟩
        cases hn : numW b with
        | none =>
          rw [hn] at q
          simp_all_arith [oi]
          exact q
        | some n =>
          rw [hn] at q
          simp_all_arith [oi]
          exact ⟨b, rfl, hb, sz (by decide), by rw [hn]; exact q⟩
      rw [if_neg hm] at q
      refine seq_ife (k = wAsk) (fun kk hkk => ?_) (fun hm => seq_ret ?_) (fun hm => ?_)
      · simp_all_arith
        exact ⟨tx_ok hk, by decide, hkk⟩
      · rw [if_pos hm] at q
        simp_all_arith [G_lrd_3, conAsked, in_list_T]
        refine ⟨shaped_T hb, by decide +kernel, Eq.mpr (congrArg (fun b => cnd b _ _) (any_T b asked)) ?_⟩
        refine cnd_dec (fun z => ?_) fun z => ?_
        · rw [if_pos z] at q
          exact ⟨sz (by decide), q⟩
        · rw [if_neg z] at q
          exact q
      rw [if_neg hm] at q
      refine seq_ife (k ∈ [wCopy, wAlike]) (fun kk hkk => ?_) (fun hm => seq_ret ?_) (fun hm => ?_)
      · simp_all_arith [in_list_T]
        exact ⟨sz (by decide), shaped_T hk, by decide +kernel, Eq.mp (congrArg (fun b => kk b _) (any_T k [wCopy, wAlike]).symm) hkk⟩
      · rw [if_pos hm] at q
        simp_all_arith [G_lrd_1, conIsW, con1]
        refine ⟨b, rfl, hb, ?_⟩
        cases hn : isW b with
        | true =>
          rw [if_pos hn] at q
          exact ⟨sz (by decide), q⟩
        | false =>
          rw [if_neg (by simp [hn])] at q
          exact q
      rw [if_neg hm] at q
      refine seq_ret ?_
      simp_all_arith
      refine ⟨tx_ok hk, by decide, cnd_dec (fun y => ?_) fun y => ?_⟩
      · refine ⟨tx_ok hb, by decide, cnd_dec (fun z => ?_) fun z => ?_⟩
        · rw [if_neg (fun y => y.2 z)] at q
          exact q
        · rw [if_pos ⟨y, z⟩] at q
          exact ⟨sz (by decide), q⟩
      · rw [if_neg (fun z => y z.1)] at q
        exact q
end TW
end
section
set_option Elab.async false
set_option linter.all false
set_option maxRecDepth 100000
set_option maxHeartbeats 4000000
/-! O97: law_k97: orders written and drawn -/
namespace TW
open PySem L2
local macro_rules
  | `(tactic| simp_arith) => `(tactic| simp_arith [])
  | `(tactic| simp_arith [$ls,*]) => `(tactic| simp only [wpF, argsOk, wE_var, wE_lc, wS_for, wE_cst, wE_glo, wE_op2, wE_neg, wE_not, wE_and, wE_or, wE_ife, wE_chain, wE_idx, wE_slc, wE_slcL, wE_slcH, wE_tup, wE_lst, wE_call, wE_bi, wE_isi, wE_me, wE_mu, wE_fmt, wE_fst, wS_skip, wS_seq, wS_asg, wS_unp, wS_par, wS_seti, wS_aug, wS_exp, wS_ret, wS_retN, wS_ife, wS_brk, wS_cnt, wS_rai, wS_bad, varS_sh, varS_lst, wpOs, wpVs, wpTs, wpI, wpJ, opd, tst, retE, List.map, List.length, ioIx, List.cons_append, List.nil_append, List.getElem?_cons_zero, List.getElem?_cons_succ,
      frz_sh, frz_lst, own_sh, own_lst, resO_some, res_va, res_pl, resL_nil, resL_cons, consO_some, add_int, add_str, add_list, add_tuple, sub_int, mul_int, fdiv_int, mod_int, pow_int, lt_int, le_int, gt_int, ge_int, eq_int, ne_int, eq_str, ne_str, in_str1, nin_str1, in_tuple, nin_tuple,
      is_none, isnot_none, is_bool, len_list, len_tuple, len_str, int_int, int_str, str_int, str_str, ord_str, repr_int, repr_str, all_list, any_list, idx_list, idx_tuple, idx_str, slc_str, slc_list, slc_tuple, seq_list, seq_tuple, seq_str, it_rng1, it_rng2, it_enum,
      aug_add_int, aug_sub_int, aug_add_str, seti_lst, mu_append, mu_insert, meT_str, meT_list, tgt_name, me_join, me_index, isN_str, isN_int, isN_bool, isN_list, isN_tuple, isN_none,
      implies_true, eq_list_nil, subN_lo4, subN_lo5, subN_hi4, subN_hi3, subN_tail, wipeE, unwipe, takeArgs, putBack, ioPl, Option.map_some, List.nodup_nil, nodup1, decide_true, decide_false, Nat.reduceEqDiff, reduceCtorEq, false_and, and_false, Prod.mk.injEq, and_assoc, exists_const,
      outsAt, atI_0, atI_1, atI_2, atI_3, ixN_0, ixN_1, ixN_2, OT.lst.injEq, ite_cnd, cnd_t, cnd_f, cnd_n, true_or, or_true, or_self, List.cons.injEq, Option.some.injEq, exists_eq_left', exists_eq_left, exists_eq', exists_and_left, true_and, and_true, and_self, Nat.zero_add, Nat.reduceAdd, Nat.sub_self, Nat.reduceSub, List.replicate, OT.sh.injEq, PyData.bool.injEq,
      PyData.int.injEq, PyData.str.injEq, List.set_cons_zero, List.set_cons_succ, if_true, if_false, Bool.false_eq_true, Bool.not_true, Bool.not_false, reduceIte, List.length_nil, List.length_cons, List.length_map, mk_len, mk_app, List.not_mem_nil, not_false_eq_true, $ls,*])
local macro_rules | `(tactic| infer_instance) => `(tactic| first
  | assumption | exact log_small (by omega) (by omega) | rfl | omega | decide | exact sz (by omega) | exact szl (by omega) | exact Or.inl ⟨by decide, by decide⟩ | exact Or.inr ⟨by decide, by decide⟩ | exact ⟨by decide, by decide⟩ | exact ⟨by decide, by decide, by decide⟩ | exact ⟨_, rfl⟩)
local macro_rules | `(tactic| and_intros) => `(tactic| repeat ((with_reducible apply And.intro); (focus infer_instance)))
local macro_rules | `(tactic| ac_nf) => `(tactic| simp only [List.map_cons, List.map_nil, List.cons_append, List.nil_append, List.set_cons_zero, List.set_cons_succ, List.replicate, List.length_cons, List.length_nil, Nat.zero_add, Nat.reduceAdd, Nat.reduceSub])
local macro_rules
  | `(tactic| simp_all_arith) => `(tactic| simp_all_arith [])
  | `(tactic| simp_all_arith [$ls,*]) => `(tactic| simp_arith [cast0, cast1, cast2, cast3, cast4, beq_self_eq_true, Int.reduceBEq, Int.reduceLT, Int.reduceLE, Int.reduceAdd, Bool.not_true, Bool.not_false, $ls,*])
/-- the orders that are drawn -/
def tells : List (List Nat) := [[97], [112, 40, 49, 44, 97, 41], [45, 98], [35, 49], [120]]
def adds : List (List Nat) := [[97, 46], [97, 32, 58, 45, 32, 110, 111, 116, 32, 98, 46], [32, 97, 46], [97, 46, 32], [], [32], [97, 32, 32, 58, 45, 32, 98, 46, 32, 97, 115, 107, 32, 99], [112, 40, 88, 41, 32, 58, 45, 32, 113, 40, 88, 41, 44, 32, 88, 32, 60, 32, 51, 46]]
inductive GO : Od → Prop where
  | bare {k} : k ∈ [wBooks, wBegin, wEnd, wDrop] → GO [.s k]
  | one {k a} : k ∈ [wBook, wForget, wUndo] → isW a = true → GO [.s k, .s a]
  | take {a n} : n ∈ [(0 : Int), 1, 10, 9999, 305] → isW a = true → GO [.s wTake, .s a, .n n]
  | ask {a b} : b ∈ asked → isW a = true → GO [.s wAsk, .s a, .s b]
  | tell {a b} : b ∈ tells → isW a = true → GO [.s wTell, .s a, .s b]
  | two {k a b} : k ∈ [wCopy, wAlike] → isW a = true → isW b = true → GO [.s k, .s a, .s b]
  | add {a b} : b ∈ adds → isW a = true → GO [.s wAdd, .s a, .s b]
theorem isW_len {w : List Nat} (h : isW w = true) : 1 ≤ w.length ∧ w.length ≤ 8 := by
  unfold isW at h
  simp only [Bool.and_eq_true, decide_eq_true_eq] at h
  exact h.1
theorem isW_mem {w : List Nat} (h : isW w = true) : ∀ c ∈ w, 97 ≤ c ∧ c ≤ 122 := fun c hc => by
  unfold isW at h
  simp only [Bool.and_eq_true, List.all_eq_true, decide_eq_true_eq] at h
  have := h.2 c hc
  simp only [List.mem_cons, List.not_mem_nil, or_false] at this
  omega
theorem isW_no {w : List Nat} (h : isW w = true) {c : Nat} (hc : c < 97) : c ∉ w := fun z => by have := isW_mem h c z; omega
theorem nums_ok : ∀ n ∈ [(0 : Int), 1, 10, 9999, 305], numW (digs n) = some n ∧ 32 ∉ digs n ∧ 10 ∉ digs n ∧ (digs n).length ≤ 8 ∧ (∀ c ∈ digs n, c < 128) := by decide +kernel
theorem bare_ok : ∀ k ∈ [wBooks, wBegin, wEnd, wDrop], 32 ∉ k ∧ 10 ∉ k ∧ k.length ≤ 30 ∧ (∀ c ∈ k, c < 128) := by decide +kernel
theorem ones_ok : ∀ k ∈ [wBook, wForget, wUndo], 32 ∉ k ∧ 10 ∉ k ∧ k.length ≤ 30 ∧ (∀ c ∈ k, c < 128) := by decide +kernel
theorem twos_ok : ∀ k ∈ [wCopy, wAlike], 32 ∉ k ∧ 10 ∉ k ∧ k.length ≤ 30 ∧ (∀ c ∈ k, c < 128) ∧ k ≠ wAdd ∧ k ≠ wTake ∧ k ≠ wAsk := by decide +kernel
theorem asked_ok : ∀ k ∈ asked, 32 ∉ k ∧ 10 ∉ k ∧ k.length ≤ 30 ∧ (∀ c ∈ k, c < 128) := by decide +kernel
theorem tells_ok : ∀ k ∈ tells, 32 ∉ k ∧ 10 ∉ k ∧ k.length ≤ 30 ∧ (∀ c ∈ k, c < 128) ∧ k ≠ [] := by decide +kernel
theorem adds_ok : ∀ k ∈ adds, 10 ∉ k ∧ k.length ≤ 30 ∧ (∀ c ∈ k, c < 128) := by decide +kernel
theorem go_rd {o : Od} (h : GO o) : rd (wr o) = some o := by
  unfold rd wr
  cases h with
  | @bare k hk =>
    rw [sp_jn (by simp) (by simpa [Pt.t] using (bare_ok k hk).1)]
    exact if_pos hk
  | @one k a hk ha =>
    rw [sp_jn (by simp) (by simpa [Pt.t] using ⟨(ones_ok k hk).1, isW_no ha (by decide)⟩)]
    exact if_pos ⟨ha, hk⟩
  | @take a n hn ha =>
    have hh := nums_ok n hn
    rw [sp_jn (by simp) (by simpa [Pt.t] using ⟨by decide, isW_no ha (by decide), hh.2.1⟩)]
    show rdW [wTake, a, digs n] = _
    rw [rdW, if_pos ha, if_neg (by decide), if_pos rfl, if_pos rfl, hh.1]; rfl
  | @ask a b hb ha =>
    rw [sp_jn (by simp) (by simpa [Pt.t] using ⟨by decide, isW_no ha (by decide), (asked_ok b hb).1⟩)]
    show rdW [wAsk, a, b] = _
    rw [rdW, if_pos ha, if_neg (by decide), if_pos rfl, if_neg (by decide), if_pos rfl, if_pos hb]
  | @tell a b hb ha =>
    rw [sp_jn (by simp) (by simpa [Pt.t] using ⟨by decide, isW_no ha (by decide), (tells_ok b hb).1⟩)]
    show rdW [wTell, a, b] = _
    rw [rdW, if_pos ha, if_neg (by decide), if_pos rfl, if_neg (by decide), if_neg (by decide), if_neg (by decide), if_pos ⟨rfl, (tells_ok b hb).2.2.2.2⟩]
  | @two k a b hk ha hb =>
    have hh := twos_ok k hk
    rw [sp_jn (by simp) (by simpa [Pt.t] using ⟨hh.1, isW_no ha (by decide), isW_no hb (by decide)⟩)]
    show rdW [k, a, b] = _
    rw [rdW, if_pos ha, if_neg hh.2.2.2.2.1, if_pos rfl, if_neg hh.2.2.2.2.2.1, if_neg hh.2.2.2.2.2.2, if_pos hk, if_pos hb]
  | @add a b hb ha =>
    show rdW (sp 32 (wAdd ++ 32 :: (a ++ 32 :: b))) = _
    rw [sp_app _ (by decide), sp_app _ (isW_no ha (by decide))]
    have hn := sp_ne 32 b
    have hj := jn_sp 32 b
    match hs : sp 32 b, hn with
    | w :: ws, _ =>
      rw [hs] at hj
      rw [rdW, if_pos ha, if_pos rfl, hj]
/-- a row's signs -/
def row (l : List Nat) : Prop := ∀ c ∈ l, c < 128 ∧ c ≠ 10
theorem row_of' {l : List Nat} (h1 : 10 ∉ l) (h2 : ∀ c ∈ l, c < 128) : row l := fun c hc => ⟨h2 c hc, fun e => h1 (e ▸ hc)⟩
theorem row_w {w : List Nat} (h : isW w = true) : row w := fun c hc => by have := isW_mem h c hc; omega
theorem row_app {a b : List Nat} (ha : row a) (hb : row b) : row (a ++ b) := fun c hc => (List.mem_append.mp hc).elim (ha c) (hb c)
theorem row_cons {c : Nat} {b : List Nat} (h1 : c < 128) (h2 : c ≠ 10) (hb : row b) : row (c :: b) := fun d hd => (List.mem_cons.mp hd).elim (fun e => by subst e; exact ⟨h1, h2⟩) (hb d)
theorem row_jn {ws : List (List Nat)} (h : ∀ w ∈ ws, row w) : row (jn 32 ws) := fun c hc => by
  rcases jn_mem hc with rfl | ⟨w, hw, hc⟩
  · decide
  · exact h w hw c hc
def PtOk (p : Pt) : Prop := row p.t ∧ p.t.length ≤ 30
theorem pok {l : List Nat} (h : 10 ∉ l ∧ l.length ≤ 30 ∧ (∀ c ∈ l, c < 128)) : PtOk (.s l) := ⟨row_of' h.1 h.2.2, h.2.1⟩
theorem pokW {l : List Nat} (h : isW l = true) : PtOk (.s l) := ⟨row_w h, by have := isW_len h; show l.length ≤ 30; omega⟩
theorem all1 {P : Pt → Prop} {a : Pt} (h : P a) : ∀ p ∈ [a], P p := fun p hp => by simp at hp; subst hp; exact h
theorem all2 {P : Pt → Prop} {a b : Pt} (h : P a) (h2 : P b) : ∀ p ∈ [a, b], P p := fun p hp => by
  simp at hp
  rcases hp with rfl | rfl
  · exact h
  · exact h2
theorem all3 {P : Pt → Prop} {a b c : Pt} (h : P a) (h2 : P b) (h3 : P c) : ∀ p ∈ [a, b, c], P p := fun p hp => by
  simp at hp
  rcases hp with rfl | rfl | rfl
  · exact h
  · exact h2
  · exact h3
theorem go_parts {o : Od} (h : GO o) : (∀ p ∈ o, PtOk p) ∧ o.length ≤ 3 := by
  cases h with
  | @bare k hk => exact ⟨all1 (pok (bare_ok k hk).2), by simp⟩
  | @one k a hk ha => exact ⟨all2 (pok (ones_ok k hk).2) (pokW ha), by simp⟩
  | @take a n hn ha =>
    have hh := nums_ok n hn
    exact ⟨all3 (pok (by decide)) (pokW ha) ⟨row_of' hh.2.2.1 hh.2.2.2.2, by have := hh.2.2.2.1; show (digs n).length ≤ 30; omega⟩, by simp⟩
  | @ask a b hb ha => exact ⟨all3 (pok (by decide)) (pokW ha) (pok (asked_ok b hb).2), by simp⟩
  | @tell a b hb ha => exact ⟨all3 (pok (by decide)) (pokW ha) (pok ⟨(tells_ok b hb).2.1, (tells_ok b hb).2.2.1, (tells_ok b hb).2.2.2.1⟩), by simp⟩
  | @two k a b hk ha hb => exact ⟨all3 (pok ⟨(twos_ok k hk).2.1, (twos_ok k hk).2.2.1, (twos_ok k hk).2.2.2.1⟩) (pokW ha) (pokW hb), by simp⟩
  | @add a b hb ha => exact ⟨all3 (pok (by decide)) (pokW ha) (pok (adds_ok b hb)), by simp⟩
theorem sum_le {k : Nat} : ∀ {xs : List Nat}, (∀ n ∈ xs, n ≤ k) → xs.sum ≤ xs.length * k
  | [], _ => by simp
  | x :: xs, h => by
    have := sum_le (k := k) (xs := xs) fun n hn => h n (by simp [hn])
    have := h x (by simp)
    rw [List.sum_cons, List.length_cons, Nat.add_mul]
    omega
theorem go_row {o : Od} (h : GO o) : row (wr o) ∧ (wr o).length ≤ 100 := by
  have ⟨h1, h2⟩ := go_parts h
  refine ⟨row_jn fun w hw => ?_, ?_⟩
  · rw [List.mem_map] at hw
    obtain ⟨p, hp, rfl⟩ := hw
    exact (h1 p hp).1
  · have a := jn_le 32 (o.map Pt.t)
    have b : ((o.map Pt.t).map List.length).sum ≤ ((o.map Pt.t).map List.length).length * 30 := sum_le fun n hn => by
      rw [List.map_map, List.mem_map] at hn
      obtain ⟨p, hp, rfl⟩ := hn
      exact (h1 p hp).2
    rw [List.length_map, List.length_map] at b
    rw [List.length_map] at a
    unfold wr
    omega
theorem row_tx {l : List Nat} (h : row l) (h2 : l.length ≤ 2000) : tx l := ⟨h2, fun c hc => (h c hc).1⟩
def ptN : Pt → Prop
  | .s _ => True
  | .n i => 0 ≤ i ∧ i < 10000
theorem go_nums {o : Od} (h : GO o) : ∀ p ∈ o, ptN p := by
  cases h with
  | bare _ => exact all1 trivial
  | one _ _ => exact all2 trivial trivial
  | @take a n hn _ => exact all3 trivial trivial (by
      have : ∀ n ∈ [(0 : Int), 1, 10, 9999, 305], 0 ≤ n ∧ n < 10000 := by decide
      exact this n hn)
  | ask _ _ => exact all3 trivial trivial trivial
  | tell _ _ => exact all3 trivial trivial trivial
  | two _ _ _ => exact all3 trivial trivial trivial
  | add _ _ => exact all3 trivial trivial trivial
theorem go_gd {o : Od} (h : GO o) (n : Nat) : Gd (n + 1) (oD o) := by
  refine .tup (fun d hd => ?_) (by rw [List.length_map]; have := (go_parts h).2; omega)
  rw [List.mem_map] at hd
  obtain ⟨p, hp, rfl⟩ := hd
  have h1 := (go_parts h).1 p hp
  have h2 := go_nums h p hp
  cases p with
  | s l => exact .str (row_tx h1.1 (by have := h1.2; simp only [Pt.t] at this; omega))
  | n i => exact .int (by have := h2.1; omega) (by have := h2.2; omega)

/-! written -/
def conWr : Con := ⟨[false], fun args Q => ∃ o, args = [.sh (oD o)] ∧ GO o ∧ Q (.sh (T (wr o))) []⟩
def txt : D → D
  | .int i => T (digs i)
  | d => d
theorem txt_pt (p : Pt) : txt p.d = T p.t := by cases p <;> rfl
theorem ok_write_order : ∀ args Q, conWr.run args Q → wpF G97 ⟨conWr.io, N_write_order.length, d_write_order⟩ args Q := by
  rintro args Q ⟨o, rfl, ho, q⟩
  have hp := go_parts ho
  have hn := go_nums ho
  have hr := go_row ho
  simp_arith [d_write_order, conWr, oD]
  refine lcS_map txt (by simp) (by simp) (by simp; exact sz (by omega)) (fun d hd k hk => ?_) ?_
  · rw [List.mem_map] at hd
    obtain ⟨p, hpm, rfl⟩ := hd
    cases p with
    | s l =>
      simp_arith [Pt.d]
      exact hk
    | n i =>
      have := hn _ hpm
      simp_arith [Pt.d]
      exact ⟨log_small (by have := this.1; omega) (by have := this.2; omega), hk⟩
  · have e : (o.map Pt.d).map txt = (o.map Pt.t).map T := by
      rw [List.map_map, List.map_map]
      exact List.map_congr_left fun p _ => txt_pt p
    rw [e]
    simp_arith [strsD_T, tjoin_mk]
    refine ⟨?_, q⟩
    have b : ((o.map Pt.t).map List.length).sum ≤ ((o.map Pt.t).map List.length).length * 30 := sum_le fun n hn => by
      rw [List.map_map, List.mem_map] at hn
      obtain ⟨p, hp', rfl⟩ := hn
      exact (hp.1 p hp').2
    rw [List.length_map, List.length_map] at b
    have e3 : (((o.map Pt.t).map mk).map (·.length)).sum = ((o.map Pt.t).map List.length).sum := by
      rw [List.map_map]
      exact congrArg List.sum (List.map_congr_left fun w _ => mk_len w)
    rw [e3]
    omega
def conWrs : Con := ⟨[false], fun args Q => ∃ os : List Od, args = [.sh (.list (os.map oD))] ∧ os.length ≤ 100 ∧ (∀ o ∈ os, GO o) ∧ Q (.sh (T (jn 10 (os.map wr)))) []⟩
def G_wrs : Ctx := ⟨[], tbl [("write_order", conWr)], gl97⟩
theorem G_wrs_1 : G_wrs.fn "write_order" = some conWr := rfl
theorem lens (ws : List (List Nat)) : ((ws.map mk).map (·.length)).sum = (ws.map List.length).sum := by
  rw [List.map_map]
  exact congrArg List.sum (List.map_congr_left fun w _ => mk_len w)
/-- the order that is this tree, if one of these -/
theorem oD_inj : ∀ {o o' : Od}, oD o = oD o' → o = o'
  | [], [], _ => rfl
  | [], _ :: _, h => by simp [oD] at h
  | _ :: _, [], h => by simp [oD] at h
  | p :: o, p' :: o', h => by
    simp only [oD, PyData.tuple.injEq, List.map_cons, List.cons.injEq] at h
    have e := oD_inj (o := o) (o' := o') (by simp only [oD, h.2])
    rw [e]
    cases p <;> cases p' <;> simp [Pt.d, mk_inj] at h <;> simp [h]
theorem ok_write_orders : ∀ args Q, conWrs.run args Q → wpF G_wrs ⟨conWrs.io, N_write_orders.length, d_write_orders⟩ args Q := by
  rintro args Q ⟨os, rfl, hl, ho, q⟩
  simp_arith [d_write_orders, conWrs]
  have hex : ∀ d ∈ os.map oD, ∃ o, d = oD o ∧ GO o := fun d hd => by
    rw [List.mem_map] at hd
    obtain ⟨o, h, rfl⟩ := hd
    exact ⟨o, rfl, ho o h⟩
  refine lcS_inv (fun items acc env => ∃ (done rest : List Od) (v : Option OT), os = done ++ rest ∧ items = rest.map oD ∧ acc = (done.map wr).map T ∧ env = [some (.sh (.list (os.map oD))), v]) ?_ ?_ ?_ ⟨[], os, _, rfl, rfl, rfl, rfl⟩
  · rintro d items acc env k ⟨done, rest, v, e, hd, rfl, rfl⟩ k1 k2
    match rest, hd with
    | o :: rest, hd =>
      cases hd
      simp_arith [G_wrs_1, conWr]
      exact ⟨o, rfl, ho o (by rw [e]; simp), k1 _ _ ⟨done ++ [o], rest, some (.sh (oD o)), by simp [e], rfl, by simp, rfl⟩⟩
  · rintro ds acc env ⟨done, rest, v, e, rfl, rfl, rfl⟩
    have := congrArg List.length e
    simp at this
    exact sz (by simp; omega)
  · rintro acc env ⟨done, rest, v, e, hd, rfl, rfl⟩
    have : rest = [] := by simpa using hd.symm
    subst this
    rw [List.append_nil] at e
    subst e
    simp_arith [strsD_T, tjoin_mk, lens]
    refine ⟨?_, q⟩
    have b : ((os.map wr).map List.length).sum ≤ ((os.map wr).map List.length).length * 100 := sum_le fun n hn => by
      rw [List.map_map, List.mem_map] at hn
      obtain ⟨p, hp', rfl⟩ := hn
      exact (go_row (ho p hp')).2
    rw [List.length_map, List.length_map] at b
    omega
end TW
end
section
set_option Elab.async false
set_option linter.all false
set_option maxRecDepth 100000
set_option maxHeartbeats 4000000
/-! Q97: law_k97: orders drawn, lines bent -/
namespace TW
open PySem L2
local macro_rules
  | `(tactic| simp_arith) => `(tactic| simp_arith [])
  | `(tactic| simp_arith [$ls,*]) => `(tactic| simp only [wpF, argsOk, wE_var, wE_lc, wS_for, wE_cst, wE_glo, wE_op2, wE_neg, wE_not, wE_and, wE_or, wE_ife, wE_chain, wE_idx, wE_slc, wE_slcL, wE_slcH, wE_tup, wE_lst, wE_call, wE_bi, wE_isi, wE_me, wE_mu, wE_fmt, wE_fst, wS_skip, wS_seq, wS_asg, wS_unp, wS_par, wS_seti, wS_aug, wS_exp, wS_ret, wS_retN, wS_ife, wS_brk, wS_cnt, wS_rai, wS_bad, varS_sh, varS_lst, wpOs, wpVs, wpTs, wpI, wpJ, opd, tst, retE, List.map, List.length, ioIx, List.cons_append, List.nil_append, List.getElem?_cons_zero, List.getElem?_cons_succ,
      frz_sh, frz_lst, own_sh, own_lst, resO_some, res_va, res_pl, resL_nil, resL_cons, consO_some, add_int, add_str, add_list, add_tuple, sub_int, mul_int, fdiv_int, mod_int, pow_int, lt_int, le_int, gt_int, ge_int, eq_int, ne_int, eq_str, ne_str, in_str1, nin_str1, in_tuple, nin_tuple,
      is_none, isnot_none, is_bool, len_list, len_tuple, len_str, int_int, int_str, str_int, str_str, ord_str, repr_int, repr_str, all_list, any_list, idx_list, idx_tuple, idx_str, slc_str, slc_list, slc_tuple, seq_list, seq_tuple, seq_str, it_rng1, it_rng2, it_enum,
      aug_add_int, aug_sub_int, aug_add_str, seti_lst, mu_append, mu_insert, meT_str, meT_list, tgt_name, me_join, me_index, isN_str, isN_int, isN_bool, isN_list, isN_tuple, isN_none,
      implies_true, eq_list_nil, subN_lo4, subN_lo5, subN_hi4, subN_hi3, subN_tail, wipeE, unwipe, takeArgs, putBack, ioPl, Option.map_some, List.nodup_nil, nodup1, decide_true, decide_false, Nat.reduceEqDiff, reduceCtorEq, false_and, and_false, Prod.mk.injEq, and_assoc, exists_const,
      outsAt, atI_0, atI_1, atI_2, atI_3, ixN_0, ixN_1, ixN_2, OT.lst.injEq, ite_cnd, cnd_t, cnd_f, cnd_n, true_or, or_true, or_self, List.cons.injEq, Option.some.injEq, exists_eq_left', exists_eq_left, exists_eq', exists_and_left, true_and, and_true, and_self, Nat.zero_add, Nat.reduceAdd, Nat.sub_self, Nat.reduceSub, List.replicate, OT.sh.injEq, PyData.bool.injEq,
      PyData.int.injEq, PyData.str.injEq, List.set_cons_zero, List.set_cons_succ, if_true, if_false, Bool.false_eq_true, Bool.not_true, Bool.not_false, reduceIte, List.length_nil, List.length_cons, List.length_map, mk_len, mk_app, List.not_mem_nil, not_false_eq_true, $ls,*])
local macro_rules | `(tactic| infer_instance) => `(tactic| first
  | assumption | exact log_small (by omega) (by omega) | rfl | omega | decide | exact sz (by omega) | exact szl (by omega) | exact Or.inl ⟨by decide, by decide⟩ | exact Or.inr ⟨by decide, by decide⟩ | exact ⟨by decide, by decide⟩ | exact ⟨by decide, by decide, by decide⟩ | exact ⟨_, rfl⟩)
local macro_rules | `(tactic| and_intros) => `(tactic| repeat ((with_reducible apply And.intro); (focus infer_instance)))
local macro_rules | `(tactic| ac_nf) => `(tactic| simp only [List.map_cons, List.map_nil, List.cons_append, List.nil_append, List.set_cons_zero, List.set_cons_succ, List.replicate, List.length_cons, List.length_nil, Nat.zero_add, Nat.reduceAdd, Nat.reduceSub])
local macro_rules
  | `(tactic| simp_all_arith) => `(tactic| simp_all_arith [])
  | `(tactic| simp_all_arith [$ls,*]) => `(tactic| simp_arith [cast0, cast1, cast2, cast3, cast4, beq_self_eq_true, Int.reduceBEq, Int.reduceLT, Int.reduceLE, Int.reduceAdd, Bool.not_true, Bool.not_false, $ls,*])
def conWord : Con := ⟨[true], fun args Q => ∃ (ds : List Int) (n : Int), args = [box ds n] ∧ 0 ≤ n ∧ ∀ (l : List Nat) (n' : Int), 0 ≤ n' → isW l = true → Q (.sh (T l)) [box ds n']⟩
def G_word : Ctx := ⟨[], tbl [("_law_pick", conPick)], gl97⟩
theorem G_word_1 : G_word.fn "_law_pick" = some conPick := rfl
theorem tjoin_its (l : List Nat) : Txt.join (mk []) (l.map fun c => mk [c]) = mk l := by
  have gen : ∀ l : List Nat, Str.join (mk []) (l.map fun c => mk [c]) = mk l := by
    intro l
    induction l with
    | nil => rfl
    | cons c l ih =>
      cases l with
      | nil => rfl
      | cons d l =>
        show mk [c] ++ mk [] ++ Str.join (mk []) ((d :: l).map fun c => mk [c]) = _
        rw [ih, mk_app, mk_app]
        rfl
  show Builtin.Str.glued _ _ = _
  rw [StrLaws.glued_eq_join, gen]
theorem strsD_its : ∀ l : List Nat, strsD (its l) = some (l.map fun c => mk [c])
  | [] => rfl
  | c :: l => by simp only [its, List.map_cons, strsD] at *; rw [strsD_its l]; rfl
theorem sum_ones : ∀ l : List Nat, ((l.map fun c => mk [c]).map (·.length)).sum = l.length
  | [] => rfl
  | c :: l => by
    simp only [List.map_cons, List.sum_cons, sum_ones l, List.length_cons, mk_len, List.length_nil]
    omega
theorem ok_law_word : ∀ args Q, conWord.run args Q → wpF G_word ⟨conWord.io, N_law_word.length, d_law_word⟩ args Q := by
  rintro args Q ⟨ds, n, rfl, hn, q⟩
  simp_arith [d_law_word, conWord, G_word_1, conPick]
  refine ⟨by decide, by decide, ds, rfl, hn, _, rfl, by simp, by simp, fun d hd => ?_⟩
  have hm : ∃ m : Int, d = .int m ∧ 1 ≤ m ∧ m ≤ 8 := by
    simp only [List.mem_cons, List.not_mem_nil, or_false] at hd
    rcases hd with rfl | rfl | rfl | rfl | rfl <;> exact ⟨_, rfl, by decide, by decide⟩
  obtain ⟨m, rfl, h0, h1⟩ := hm
  simp_arith
  and_intros
  refine lcS_inv (fun items acc env => ∃ (l : List Nat) (n' : Int) (v : Option OT), acc = its l ∧ l.length + items.length = m.toNat ∧ (∀ c ∈ l, c ∈ small) ∧ 0 ≤ n' ∧ env = [some (box ds n'), v]) ?_ ?_ ?_ ⟨[], n + 1, _, rfl, by simp [rangeD], by simp, by omega, rfl⟩
  · rintro d items acc env k ⟨l, n', v, rfl, hl, ha, hn', rfl⟩ k1 k2
    simp only [List.length_cons] at hl
    simp_arith [G_word_1, conPick]
    refine ⟨by decide, ds, rfl, hn', _, rfl, by rw [mk_list]; simp, by rw [mk_list]; simp, fun x hx => ?_⟩
    rw [mk_list, List.mem_map] at hx
    obtain ⟨c, hc, rfl⟩ := hx
    refine k1 _ _ ⟨l ++ [c], n' + 1, some (.sh d), by simp, by simp; omega, fun x hx => ?_, by omega, rfl⟩
    rcases List.mem_append.mp hx with hx | hx
    · exact ha x hx
    · simp at hx; subst hx; exact hc
  · rintro items acc env ⟨l, n', v, rfl, hl, ha, hn', rfl⟩
    exact sz (by simp; omega)
  · rintro acc env ⟨l, n', v, rfl, hl, ha, hn', rfl⟩
    simp only [List.length_nil] at hl
    simp_arith [strsD_its, sum_ones, tjoin_its]
    refine ⟨by omega, q l n' hn' ?_⟩
    unfold isW
    rw [decide_eq_true (show 1 ≤ l.length by omega), decide_eq_true (show l.length ≤ 8 by omega), List.all_eq_true.mpr fun c hc => decide_eq_true (ha c hc)]
    rfl
def conOrder : Con := ⟨[true], fun args Q => ∃ (ds : List Int) (n : Int), args = [box ds n] ∧ 0 ≤ n ∧ ∀ (o : Od) (n' : Int), 0 ≤ n' → GO o → Q (.sh (oD o)) [box ds n']⟩
def G_order : Ctx := ⟨[], tbl [("_law_word", conWord), ("_law_draw", conDraw), ("_law_pick", conPick), ("_law_asked", conAsked)], gl97⟩
theorem G_order_1 : G_order.fn "_law_word" = some conWord := rfl
theorem G_order_2 : G_order.fn "_law_draw" = some conDraw := rfl
theorem G_order_3 : G_order.fn "_law_pick" = some conPick := rfl
theorem G_order_4 : G_order.fn "_law_asked" = some conAsked := rfl
theorem of_mapT {d : D} {ws : List (List Nat)} (h : d ∈ ws.map T) : ∃ w ∈ ws, d = T w := by
  rw [List.mem_map] at h
  obtain ⟨w, hw, rfl⟩ := h
  exact ⟨w, hw, rfl⟩
theorem ok_law_order : ∀ args Q, conOrder.run args Q → wpF G_order ⟨conOrder.io, N_law_order.length, d_law_order⟩ args Q := by
  rintro args Q ⟨ds, n, rfl, hn, q⟩
  simp only [wpF, argsOk, d_law_order, conOrder, ioIx, box, own_lst]
  refine ⟨⟨trivial, trivial⟩, ?_⟩
  refine seq_asgP (fun r e1 => ∃ a n1, isW a = true ∧ 0 ≤ n1 ∧ r = .sh (T a) ∧ e1 = [some (box ds n1), none, none]) (by simp) (fun k hk => ?_) ?_
  · simp_arith [G_order_1, conWord]
    exact ⟨ds, rfl, hn, fun a n1 hn1 ha => hk _ _ ⟨a, n1, ha, hn1, rfl, rfl⟩⟩
  rintro r e1 ⟨a, n, ha, hn, rfl, rfl⟩
  ac_nf
  refine seq_asgP (fun r e1 => ∃ j n1 : Int, 0 ≤ n1 ∧ r = .sh (.int j) ∧ e1 = [some (box ds n1), some (.sh (T a)), none]) (by simp) (fun k hk => ?_) ?_
  · simp_arith [G_order_2, conDraw]
    exact ⟨ds, rfl, hn, by decide, fun j h0 h1 => hk _ _ ⟨j, n + 1, by omega, rfl, rfl⟩⟩
  rintro r e1 ⟨j, n, hn, rfl, rfl⟩
  ac_nf
  have hn1 : (0 : Int) ≤ n + 1 := by omega
  have htl : ∀ (d : D) (ws : List (List Nat)), d ∈ ws.map T → ∃ w ∈ ws, d = T w := fun _ _ => of_mapT
  refine seq_ife (j = 0) (fun k hk => ?_) (fun _ => seq_ret ?_) (fun _ => ?_)
  · simp_all_arith
    exact hk
  · simp_arith [G_order_3, conPick]
    refine ⟨by decide, ds, rfl, hn, _, rfl, by simp, by simp, fun d hd => ?_⟩
    obtain ⟨w, hw, rfl⟩ := of_mapT (ws := [wBooks, wBegin, wEnd, wDrop]) hd
    exact ⟨by decide, q [.s w] _ hn1 (.bare hw)⟩
  refine seq_ife (j = 1) (fun k hk => ?_) (fun _ => seq_ret ?_) (fun _ => ?_)
  · simp_all_arith
    exact hk
  · simp_arith [G_order_3, conPick]
    refine ⟨by decide, ds, rfl, hn, _, rfl, by simp, by simp, fun d hd => ?_⟩
    obtain ⟨w, hw, rfl⟩ := of_mapT (ws := [wBook, wForget, wUndo]) hd
    exact ⟨by decide, q [.s w, .s a] _ hn1 (.one hw ha)⟩
  refine seq_ife (j = 2) (fun k hk => ?_) (fun _ => seq_ret ?_) (fun _ => ?_)
  · simp_all_arith
    exact hk
  · simp_arith [G_order_3, conPick]
    refine ⟨by decide, ds, rfl, hn, _, rfl, by simp, by simp, fun d hd => ?_⟩
    have hm : ∃ m : Int, d = .int m ∧ m ∈ [(0 : Int), 1, 10, 9999, 305] := by
      simp only [List.mem_cons, List.not_mem_nil, or_false] at hd
      rcases hd with rfl | rfl | rfl | rfl | rfl <;> exact ⟨_, rfl, by decide⟩
    obtain ⟨m, rfl, hm⟩ := hm
    exact ⟨by decide, q [.s wTake, .s a, .n m] _ hn1 (.take hm ha)⟩
  refine seq_ife (j = 3) (fun k hk => ?_) (fun _ => seq_ret ?_) (fun _ => ?_)
  · simp_all_arith
    exact hk
  · simp_arith [G_order_3, G_order_4, conPick, conAsked]
    refine ⟨ds, rfl, hn, _, rfl, by simp [asked], by simp [asked], fun d hd => ?_⟩
    obtain ⟨w, hw, rfl⟩ := of_mapT (ws := asked) hd
    exact ⟨by decide, q [.s wAsk, .s a, .s w] _ hn1 (.ask hw ha)⟩
  refine seq_ife (j = 4) (fun k hk => ?_) (fun _ => seq_ret ?_) (fun _ => ?_)
  · simp_all_arith
    exact hk
  · simp_arith [G_order_3, conPick]
    refine ⟨by decide, by decide, ds, rfl, hn, _, rfl, by simp, by simp, fun d hd => ?_⟩
    obtain ⟨w, hw, rfl⟩ := of_mapT (ws := tells) hd
    exact ⟨by decide, q [.s wTell, .s a, .s w] _ hn1 (.tell hw ha)⟩
  refine seq_ife (j = 5) (fun k hk => ?_) (fun _ => seq_ret ?_) (fun _ => ?_)
  · simp_all_arith
    exact hk
  · simp_arith [G_order_1, G_order_3, conPick, conWord]
    refine ⟨by decide, ds, rfl, hn, _, rfl, by simp, by simp, fun d hd => ?_⟩
    obtain ⟨w, hw, rfl⟩ := of_mapT (ws := [wCopy, wAlike]) hd
    refine ⟨ds, rfl, hn1, fun b n' hn' hb => ?_⟩
    exact ⟨by decide, q [.s w, .s a, .s b] _ hn' (.two hw ha hb)⟩
  refine seq_ret ?_
  simp_arith [G_order_3, conPick]
  refine ⟨by decide, ds, rfl, hn, _, rfl, by simp, by simp, fun d hd => ?_⟩
  obtain ⟨w, hw, rfl⟩ := of_mapT (ws := adds) hd
  exact ⟨by decide, q [.s wAdd, .s a, .s w] _ hn1 (.add hw ha)⟩
end TW
end
section
set_option Elab.async false
set_option linter.all false
set_option maxRecDepth 100000
set_option maxHeartbeats 4000000
/-! R97: law_k97: lines bent -/
namespace TW
open PySem L2
local macro_rules
  | `(tactic| simp_arith) => `(tactic| simp_arith [])
  | `(tactic| simp_arith [$ls,*]) => `(tactic| simp only [wpF, argsOk, wE_var, wE_lc, wS_for, wE_cst, wE_glo, wE_op2, wE_neg, wE_not, wE_and, wE_or, wE_ife, wE_chain, wE_idx, wE_slc, wE_slcL, wE_slcH, wE_tup, wE_lst, wE_call, wE_bi, wE_isi, wE_me, wE_mu, wE_fmt, wE_fst, wS_skip, wS_seq, wS_asg, wS_unp, wS_par, wS_seti, wS_aug, wS_exp, wS_ret, wS_retN, wS_ife, wS_brk, wS_cnt, wS_rai, wS_bad, varS_sh, varS_lst, wpOs, wpVs, wpTs, wpI, wpJ, opd, tst, retE, List.map, List.length, ioIx, List.cons_append, List.nil_append, List.getElem?_cons_zero, List.getElem?_cons_succ,
      frz_sh, frz_lst, own_sh, own_lst, resO_some, res_va, res_pl, resL_nil, resL_cons, consO_some, add_int, add_str, add_list, add_tuple, sub_int, mul_int, fdiv_int, mod_int, pow_int, lt_int, le_int, gt_int, ge_int, eq_int, ne_int, eq_str, ne_str, in_str1, nin_str1, in_tuple, nin_tuple,
      is_none, isnot_none, is_bool, len_list, len_tuple, len_str, int_int, int_str, str_int, str_str, ord_str, repr_int, repr_str, all_list, any_list, idx_list, idx_tuple, idx_str, slc_str, slc_list, slc_tuple, seq_list, seq_tuple, seq_str, it_rng1, it_rng2, it_enum,
      aug_add_int, aug_sub_int, aug_add_str, seti_lst, mu_append, mu_insert, meT_str, meT_list, tgt_name, me_join, me_index, isN_str, isN_int, isN_bool, isN_list, isN_tuple, isN_none,
      implies_true, eq_list_nil, subN_lo4, subN_lo5, subN_hi4, subN_hi3, subN_tail, wipeE, unwipe, takeArgs, putBack, ioPl, Option.map_some, List.nodup_nil, nodup1, decide_true, decide_false, Nat.reduceEqDiff, reduceCtorEq, false_and, and_false, Prod.mk.injEq, and_assoc, exists_const,
      outsAt, atI_0, atI_1, atI_2, atI_3, ixN_0, ixN_1, ixN_2, OT.lst.injEq, ite_cnd, cnd_t, cnd_f, cnd_n, true_or, or_true, or_self, List.cons.injEq, Option.some.injEq, exists_eq_left', exists_eq_left, exists_eq', exists_and_left, true_and, and_true, and_self, Nat.zero_add, Nat.reduceAdd, Nat.sub_self, Nat.reduceSub, List.replicate, OT.sh.injEq, PyData.bool.injEq,
      PyData.int.injEq, PyData.str.injEq, List.set_cons_zero, List.set_cons_succ, if_true, if_false, Bool.false_eq_true, Bool.not_true, Bool.not_false, reduceIte, List.length_nil, List.length_cons, List.length_map, mk_len, mk_app, List.not_mem_nil, not_false_eq_true, $ls,*])
local macro_rules | `(tactic| infer_instance) => `(tactic| first
  | assumption | exact log_small (by omega) (by omega) | rfl | omega | decide | exact sz (by omega) | exact szl (by omega) | exact Or.inl ⟨by decide, by decide⟩ | exact Or.inr ⟨by decide, by decide⟩ | exact ⟨by decide, by decide⟩ | exact ⟨by decide, by decide, by decide⟩ | exact ⟨_, rfl⟩)
local macro_rules | `(tactic| and_intros) => `(tactic| repeat ((with_reducible apply And.intro); (focus infer_instance)))
local macro_rules | `(tactic| ac_nf) => `(tactic| simp only [List.map_cons, List.map_nil, List.cons_append, List.nil_append, List.set_cons_zero, List.set_cons_succ, List.replicate, List.length_cons, List.length_nil, Nat.zero_add, Nat.reduceAdd, Nat.reduceSub])
local macro_rules
  | `(tactic| simp_all_arith) => `(tactic| simp_all_arith [])
  | `(tactic| simp_all_arith [$ls,*]) => `(tactic| simp_arith [cast0, cast1, cast2, cast3, cast4, beq_self_eq_true, Int.reduceBEq, Int.reduceLT, Int.reduceLE, Int.reduceAdd, Bool.not_true, Bool.not_false, $ls,*])
def msr (ws : List (List Nat)) : Nat := (ws.map List.length).sum + ws.length
theorem msr_app (a b : List (List Nat)) : msr (a ++ b) = msr a + msr b := by
  unfold msr
  rw [List.map_append, List.sum_append, List.length_append]; omega
theorem msr_cons (w : List Nat) (b : List (List Nat)) : msr (w :: b) = w.length + 1 + msr b := by
  unfold msr
  rw [List.map_cons, List.sum_cons, List.length_cons]; omega
theorem msr_take (ws : List (List Nat)) (j : Nat) : msr (ws.take j) + msr (ws.drop j) = msr ws := by rw [← msr_app, List.take_append_drop]
theorem msr_drop1 {ws : List (List Nat)} {j : Nat} (h : j < ws.length) : msr (ws.drop j) = ws[j].length + 1 + msr (ws.drop (j + 1)) := by
  rw [List.drop_eq_getElem_cons h, msr_cons]
def goodW (m : Nat) (ws : List (List Nat)) : Prop := (∀ w ∈ ws, row w) ∧ msr ws ≤ m
theorem good_set {m : Nat} {ws : List (List Nat)} {j : Nat} {w : List Nat} (h : goodW m ws) (hj : j < ws.length) (hw : row w) (hl : w.length ≤ 20) : goodW (m + 20) (ws.set j w) := by
  refine ⟨fun v hv => ?_, ?_⟩
  · rcases List.mem_or_eq_of_mem_set hv with hv | rfl
    · exact h.1 v hv
    · exact hw
  · rw [List.set_eq_take_append_cons_drop, if_pos hj, msr_app, msr_cons]
    have h1 := msr_take ws j
    have h2 := msr_drop1 hj
    have := h.2
    omega
theorem good_set1 {m : Nat} {ws : List (List Nat)} {j : Nat} {w : List Nat} (h : goodW m ws) (hj : j < ws.length) (hw : row w) (hl : w.length ≤ ws[j].length + 1) : goodW (m + 20) (ws.set j w) := by
  refine ⟨fun v hv => ?_, ?_⟩
  · rcases List.mem_or_eq_of_mem_set hv with hv | rfl
    · exact h.1 v hv
    · exact hw
  · rw [List.set_eq_take_append_cons_drop, if_pos hj, msr_app, msr_cons]
    have h1 := msr_take ws j
    have h2 := msr_drop1 hj
    have := h.2
    omega
def conBent : Con := ⟨[true, false], fun args Q => ∃ (ds : List Int) (n : Int) (l : List Nat), args = [box ds n, .sh (T l)] ∧ 0 ≤ n ∧ row l ∧ l.length ≤ 200 ∧ ∀ (l' : List Nat) (n' : Int), 0 ≤ n' → row l' → l'.length ≤ 600 → Q (.sh (T l')) [box ds n']⟩
def G_bent : Ctx := ⟨[], tbl [("_law_draw", conDraw), ("_law_pick", conPick)], gl97⟩
theorem G_bent_1 : G_bent.fn "_law_draw" = some conDraw := rfl
theorem G_bent_2 : G_bent.fn "_law_pick" = some conPick := rfl
theorem ok_law_bent : ∀ args Q, conBent.run args Q → wpF G_bent ⟨conBent.io, N_law_bent.length, d_law_bent⟩ args Q := by
  rintro args Q ⟨ds, n, l, rfl, hn, hr, hl, q⟩
  have htx : tx l := row_tx hr (by omega)
  simp only [wpF, argsOk, d_law_bent, conBent, ioIx, box, own_lst]
  refine ⟨⟨trivial, rfl, trivial⟩, ?_⟩
  ac_nf
  refine seq_asg (.lst ((sp 32 l).map T)) (by simp) (fun k hk => ?_) ?_
  · simp_arith [split_T htx]
    exact hk
  ac_nf
  have hg : goodW 201 (sp 32 l) := ⟨fun w hw c hc => hr c (sp_mem hw hc), by have := sp_sum 32 l; unfold msr; omega⟩
  have hpos := List.length_pos_iff.mpr (sp_ne 32 l)
  have hlm : (sp 32 l).length ≤ 201 := by have := hg.2; unfold msr at this; omega
  generalize sp 32 l = ws at hg hpos hlm ⊢
  refine seq_asgP (fun r e1 => ∃ (j : Nat) (n1 : Int), j < ws.length ∧ 0 ≤ n1 ∧ r = .sh (.int (j : Nat)) ∧ e1 = [some (box ds n1), some (.sh (T l)), some (.lst (ws.map T)), none, none]) (by simp) (fun k hk => ?_) ?_
  · simp_arith [G_bent_1, conDraw]
    exact ⟨ds, rfl, hn, by omega, fun j h0 h1 => hk _ _ ⟨j.toNat, n + 1, by omega, by omega, by rw [Int.toNat_of_nonneg h0], rfl⟩⟩
  rintro r e1 ⟨j, n, hj, hn, rfl, rfl⟩
  ac_nf
  refine seq_asgP (fun r e1 => ∃ i n1 : Int, 0 ≤ n1 ∧ r = .sh (.int i) ∧ e1 = [some (box ds n1), some (.sh (T l)), some (.lst (ws.map T)), some (.sh (.int (j : Nat))), none]) (by simp) (fun k hk => ?_) ?_
  · simp_arith [G_bent_1, conDraw]
    exact ⟨ds, rfl, hn, by decide, fun j h0 h1 => hk _ _ ⟨j, n + 1, by omega, rfl, rfl⟩⟩
  rintro r e1 ⟨i, n, hn, rfl, rfl⟩
  ac_nf
  have hn1 : (0 : Int) ≤ n + 1 := by omega
  have hjm : j < (ws.map T).length := by simpa using hj
  have hat : (ws.map T)[j]? = some (T ws[j]) := by rw [List.getElem?_map, List.getElem?_eq_getElem hj]; rfl
  have hrow := hg.1 _ (List.getElem_mem hj)
  have hset : ∀ w, (ws.map T).set j (T w) = (ws.set j w).map T := fun w => by rw [List.map_set]
  refine seq_cut (fun e => ∃ (ws' : List (List Nat)) (n' : Int) (v w : Option OT), goodW 500 ws' ∧ 0 ≤ n' ∧ e = [some (box ds n'), some (.sh (T l)), some (.lst (ws'.map T)), v, w]) (fun k hk => ?_) ?_
  · have hk : ∀ (ws' : List (List Nat)) (n' : Int), goodW 500 ws' → 0 ≤ n' → k [some (box ds n'), some (.sh (T l)), some (.lst (ws'.map T)), some (.sh (.int (j : Nat))), some (.sh (.int i))] := fun ws' n' h1 h2 => hk _ ⟨ws', n', _, _, h1, h2, rfl⟩
    have c1 : cutD (ws.map T) none (some (j : Int)) = (ws.take j).map T := by rw [cutD_hi, List.map_take]
    have c2 : cutD (ws.map T) (some (j : Int)) none = (ws.drop j).map T := by rw [cutD_lo, List.map_drop]
    have c3 : cutD (ws.map T) (some ((j : Int) + 1)) none = (ws.drop (j + 1)).map T := by rw [show ((j : Int) + 1) = ((j + 1 : Nat) : Int) by omega, cutD_lo, List.map_drop]
    have hmt := msr_take ws j
    have hmd := msr_drop1 hj
    have hm := hg.2
    have hix : ixN ws.length (j : Int) = some j := by
      unfold ixN
      rw [if_pos (by omega), if_pos (by omega)]; simp
    have put : ∀ w : List Nat, goodW 221 (ws.set j w) → ∃ j', ixN ws.length (j : Int) = some j' ∧ k [some (box ds (n + 1)), some (.sh (T l)), some (.lst ((ws.map T).set j' (T w))), some (.sh (.int (j : Nat))), some (.sh (.int i))] := fun w hw =>
      ⟨j, hix, by rw [hset]; exact hk _ _ ⟨hw.1, by have := hw.2; omega⟩ hn1⟩
    refine ife_val (i = 0) (fun kk hkk => ?_) (fun _ => seq_skip ?_) (fun _ => seq_skip ?_)
    · simp_all_arith
      exact hkk
    · simp_arith
      refine ⟨by decide, ?_, ?_⟩
      · rw [c1, c3]
        simp only [List.length_map, List.length_take, List.length_drop]
        exact sz (by omega)
      · rw [c1, c3, ← List.map_append]
        exact hk _ _ ⟨fun w hw => hg.1 w ((List.mem_append.mp hw).elim List.mem_of_mem_take List.mem_of_mem_drop), by rw [msr_app]; omega⟩ hn
    refine ife_val (i = 1) (fun kk hkk => ?_) (fun _ => seq_skip ?_) (fun _ => seq_skip ?_)
    · simp_all_arith
      exact hkk
    · simp_arith [atI_nat, hat]
      refine ⟨by decide, by decide, ?_, ?_, ?_⟩
      · rw [c1]
        simp only [List.length_map, List.length_take]
        exact sz (by omega)
      · rw [c1, c2]
        simp only [List.length_append, List.length_map, List.length_take, List.length_drop, List.length_cons, List.length_nil]
        exact sz (by omega)
      · rw [c1, c2]
        have := hk (ws.take j ++ [ws[j]] ++ ws.drop j) n ⟨fun w hw => ?_, ?_⟩ hn
        · rw [List.map_append, List.map_append] at this
          exact this
        · simp only [List.append_assoc, List.mem_append, List.mem_singleton] at hw
          rcases hw with hw | rfl | hw
          · exact hg.1 w (List.mem_of_mem_take hw)
          · exact hrow
          · exact hg.1 w (List.mem_of_mem_drop hw)
        · rw [msr_app, msr_app, msr_cons]
          simp only [msr, List.map_nil, List.sum_nil, List.length_nil] at *
          omega
    refine ife_val (i = 2) (fun kk hkk => ?_) (fun _ => seq_skip ?_) (fun _ => seq_skip ?_)
    · simp_all_arith
      exact hkk
    · have hwl : ws[j].length ≤ 201 := by omega
      simp_arith [atI_nat, hat, G_bent_2, conPick]
      refine ⟨sz (by omega), sz (by omega), sz (by omega), sz (by omega), by decide, ds, rfl, hn, _, rfl, by simp, by simp, fun d hd => ?_⟩
      obtain ⟨w, hw, rfl⟩ := of_mapT (ws := [[], 48 :: ws[j], 45 :: ws[j], ws[j] ++ [48], ws[j] ++ [9]]) hd
      have hh : row w ∧ w.length ≤ ws[j].length + 1 := by
        simp only [List.mem_cons, List.not_mem_nil, or_false] at hw
        rcases hw with rfl | rfl | rfl | rfl | rfl
        · exact ⟨fun c hc => by simp at hc, by simp⟩
        · exact ⟨row_cons (by decide) (by decide) hrow, by simp⟩
        · exact ⟨row_cons (by decide) (by decide) hrow, by simp⟩
        · exact ⟨row_app hrow (row_cons (by decide) (by decide) fun c hc => by simp at hc), by simp⟩
        · exact ⟨row_app hrow (row_cons (by decide) (by decide) fun c hc => by simp at hc), by simp⟩
      exact put w (good_set1 hg hj hh.1 hh.2)
    refine ife_val (i = 3) (fun kk hkk => ?_) (fun _ => seq_skip ?_) (fun _ => seq_skip ?_)
    · simp_all_arith
      exact hkk
    · simp_arith [G_bent_2, conPick]
      refine ⟨by decide, ds, rfl, hn, _, rfl, by simp, by simp, fun d hd => ?_⟩
      obtain ⟨w, hw, rfl⟩ := of_mapT (ws := [[57, 57, 57, 57], [49, 48, 48, 48, 48], [48], [48, 49], [45, 49], [48, 48], [49, 120]]) hd
      have hall : ∀ w ∈ [[57, 57, 57, 57], [49, 48, 48, 48, 48], [48], [48, 49], [45, 49], [48, 48], [49, 120]], 10 ∉ w ∧ w.length ≤ 20 ∧ (∀ c ∈ w, c < 128) := by decide +kernel
      have hh := hall w hw
      exact put w (good_set hg hj (row_of' hh.1 hh.2.2) hh.2.1)
    refine ife_val (i = 4) (fun kk hkk => ?_) (fun _ => seq_skip ?_) (fun _ => seq_skip ?_)
    · simp_all_arith
      exact hkk
    · simp_arith [G_bent_2, conPick]
      refine ⟨by decide, ds, rfl, hn, _, rfl, by simp, by simp, fun d hd => ?_⟩
      obtain ⟨w, hw, rfl⟩ := of_mapT (ws := [[97, 115, 107], [97, 100, 100], [116, 97, 107, 101], [116, 101, 108, 108], [99, 111, 112, 121], [97, 108, 105, 107, 101], [98, 111, 111, 107], [98, 111, 111, 107, 115], [115, 116, 97, 98, 108, 101], [116, 101, 120, 116], [98, 101, 103, 105, 110]]) hd
      have hall : ∀ w ∈ [[97, 115, 107], [97, 100, 100], [116, 97, 107, 101], [116, 101, 108, 108], [99, 111, 112, 121], [97, 108, 105, 107, 101], [98, 111, 111, 107], [98, 111, 111, 107, 115], [115, 116, 97, 98, 108, 101], [116, 101, 120, 116], [98, 101, 103, 105, 110]], 10 ∉ w ∧ w.length ≤ 20 ∧ (∀ c ∈ w, c < 128) := by decide +kernel
      have hh := hall w hw
      exact put w (good_set hg hj (row_of' hh.1 hh.2.2) hh.2.1)
    refine ife_val (i = 5) (fun kk hkk => ?_) (fun _ => seq_skip ?_) (fun _ => seq_skip ?_)
    · simp_all_arith
      exact hkk
    · simp_arith [G_bent_2, conPick]
      refine ⟨by decide, ds, rfl, hn, _, rfl, by simp, by simp, fun d hd => ?_⟩
      obtain ⟨w, hw, rfl⟩ := of_mapT (ws := [[97, 98, 99, 100, 101, 102, 103, 104], [97, 98, 99, 100, 101, 102, 103, 104, 105], [97, 66], [97, 49], [122], [55]]) hd
      have hall : ∀ w ∈ [[97, 98, 99, 100, 101, 102, 103, 104], [97, 98, 99, 100, 101, 102, 103, 104, 105], [97, 66], [97, 49], [122], [55]], 10 ∉ w ∧ w.length ≤ 20 ∧ (∀ c ∈ w, c < 128) := by decide +kernel
      have hh := hall w hw
      exact put w (good_set hg hj (row_of' hh.1 hh.2.2) hh.2.1)
    refine ife_val (i = 6) (fun kk hkk => ?_) (fun _ => seq_skip ?_) (fun _ => seq_skip ?_)
    · simp_all_arith
      exact hkk
    · simp_arith
      refine ⟨szl (by omega), by omega, by omega, ?_⟩
      rw [Int.toNat_natCast]
      have := hk (ws.take j ++ [[]] ++ ws.drop j) n ⟨fun w hw => ?_, ?_⟩ hn
      · rw [List.map_append, List.map_append, List.map_take, List.map_drop] at this
        exact this
      · simp only [List.append_assoc, List.mem_append, List.mem_singleton] at hw
        rcases hw with hw | rfl | hw
        · exact hg.1 w (List.mem_of_mem_take hw)
        · exact fun c hc => by simp at hc
        · exact hg.1 w (List.mem_of_mem_drop hw)
      · rw [msr_app, msr_app, msr_cons]
        simp only [msr, List.map_nil, List.sum_nil, List.length_nil] at *
        omega
    · simp_arith [G_bent_2, conPick]
      refine ⟨by decide, ds, rfl, hn, _, rfl, by simp, by simp, fun d hd => ?_⟩
      obtain ⟨w, hw, rfl⟩ := of_mapT (ws := [[49], [120], [], [51]]) hd
      have hall : ∀ w ∈ [[49], [120], [], [51]], 10 ∉ w ∧ w.length ≤ 20 ∧ (∀ c ∈ w, c < 128) := by decide +kernel
      have hh := hall w hw
      refine ⟨szl (by omega), ?_⟩
      have := hk (ws ++ [w]) (n + 1) ⟨fun v hv => ?_, ?_⟩ hn1
      · rw [List.map_append] at this
        exact this
      · rcases List.mem_append.mp hv with hv | hv
        · exact hg.1 v hv
        · simp at hv; subst hv; exact row_of' hh.1 hh.2.2
      · rw [msr_app, msr_cons]
        have := hh.2.1
        have := hg.2
        simp only [msr, List.map_nil, List.sum_nil, List.length_nil] at *
        omega
  rintro e ⟨ws', n', v, w, hg', hn', rfl⟩
  refine seq_ret ?_
  simp_arith [strsD_T, tjoin_mk, lens]
  have hm := hg'.2
  have hj := jn_le 32 ws'
  unfold msr at hm
  exact ⟨by omega, q _ _ hn' (row_jn hg'.1) (by omega)⟩
end TW
end
section
set_option Elab.async false
set_option linter.all false
set_option maxRecDepth 100000
set_option maxHeartbeats 4000000
/-! S97: law_k97: several lines read -/
namespace TW
open PySem L2
local macro_rules
  | `(tactic| simp_arith) => `(tactic| simp_arith [])
  | `(tactic| simp_arith [$ls,*]) => `(tactic| simp only [wpF, argsOk, wE_var, wE_lc, wS_for, wE_cst, wE_glo, wE_op2, wE_neg, wE_not, wE_and, wE_or, wE_ife, wE_chain, wE_idx, wE_slc, wE_slcL, wE_slcH, wE_tup, wE_lst, wE_call, wE_bi, wE_isi, wE_me, wE_mu, wE_fmt, wE_fst, wS_skip, wS_seq, wS_asg, wS_unp, wS_par, wS_seti, wS_aug, wS_exp, wS_ret, wS_retN, wS_ife, wS_brk, wS_cnt, wS_rai, wS_bad, varS_sh, varS_lst, wpOs, wpVs, wpTs, wpI, wpJ, opd, tst, retE, List.map, List.length, ioIx, List.cons_append, List.nil_append, List.getElem?_cons_zero, List.getElem?_cons_succ,
      frz_sh, frz_lst, own_sh, own_lst, resO_some, res_va, res_pl, resL_nil, resL_cons, consO_some, add_int, add_str, add_list, add_tuple, sub_int, mul_int, fdiv_int, mod_int, pow_int, lt_int, le_int, gt_int, ge_int, eq_int, ne_int, eq_str, ne_str, in_str1, nin_str1, in_tuple, nin_tuple,
      is_none, isnot_none, is_bool, len_list, len_tuple, len_str, int_int, int_str, str_int, str_str, ord_str, repr_int, repr_str, all_list, any_list, idx_list, idx_tuple, idx_str, slc_str, slc_list, slc_tuple, seq_list, seq_tuple, seq_str, it_rng1, it_rng2, it_enum,
      aug_add_int, aug_sub_int, aug_add_str, seti_lst, mu_append, mu_insert, meT_str, meT_list, tgt_name, me_join, me_index, isN_str, isN_int, isN_bool, isN_list, isN_tuple, isN_none,
      implies_true, eq_list_nil, subN_lo4, subN_lo5, subN_hi4, subN_hi3, subN_tail, wipeE, unwipe, takeArgs, putBack, ioPl, Option.map_some, List.nodup_nil, nodup1, decide_true, decide_false, Nat.reduceEqDiff, reduceCtorEq, false_and, and_false, Prod.mk.injEq, and_assoc, exists_const,
      outsAt, atI_0, atI_1, atI_2, atI_3, ixN_0, ixN_1, ixN_2, OT.lst.injEq, ite_cnd, cnd_t, cnd_f, cnd_n, true_or, or_true, or_self, List.cons.injEq, Option.some.injEq, exists_eq_left', exists_eq_left, exists_eq', exists_and_left, true_and, and_true, and_self, Nat.zero_add, Nat.reduceAdd, Nat.sub_self, Nat.reduceSub, List.replicate, OT.sh.injEq, PyData.bool.injEq,
      PyData.int.injEq, PyData.str.injEq, List.set_cons_zero, List.set_cons_succ, if_true, if_false, Bool.false_eq_true, Bool.not_true, Bool.not_false, reduceIte, List.length_nil, List.length_cons, List.length_map, mk_len, mk_app, List.not_mem_nil, not_false_eq_true, $ls,*])
local macro_rules | `(tactic| infer_instance) => `(tactic| first
  | assumption | exact log_small (by omega) (by omega) | rfl | omega | decide | exact sz (by omega) | exact szl (by omega) | exact Or.inl ⟨by decide, by decide⟩ | exact Or.inr ⟨by decide, by decide⟩ | exact ⟨by decide, by decide⟩ | exact ⟨by decide, by decide, by decide⟩ | exact ⟨_, rfl⟩)
local macro_rules | `(tactic| and_intros) => `(tactic| repeat ((with_reducible apply And.intro); (focus infer_instance)))
local macro_rules | `(tactic| ac_nf) => `(tactic| simp only [List.map_cons, List.map_nil, List.cons_append, List.nil_append, List.set_cons_zero, List.set_cons_succ, List.replicate, List.length_cons, List.length_nil, Nat.zero_add, Nat.reduceAdd, Nat.reduceSub])
local macro_rules
  | `(tactic| simp_all_arith) => `(tactic| simp_all_arith [])
  | `(tactic| simp_all_arith [$ls,*]) => `(tactic| simp_arith [cast0, cast1, cast2, cast3, cast4, beq_self_eq_true, Int.reduceBEq, Int.reduceLT, Int.reduceLE, Int.reduceAdd, Bool.not_true, Bool.not_false, $ls,*])
def okR (r : List Nat) : Prop := rd r ≠ none
instance (r : List Nat) : Decidable (okR r) := inferInstanceAs (Decidable (rd r ≠ none))
def goodRows (rows : List (List Nat)) : Prop := rows ≠ [] ∧ rows.length ≤ 20 ∧ ∀ r ∈ rows, row r ∧ r.length ≤ 700
def outs (rows : List (List Nat)) : List D := rows.map fun r => od (rd r)
def G_rds : Ctx := ⟨[], tbl [("read_order", conRd)], gl97⟩
theorem G_rds_1 : G_rds.fn "read_order" = some conRd := rfl
theorem row_no {r : List Nat} (h : row r) : 10 ∉ r := fun z => (h 10 z).2 rfl
theorem sp_rows {rows : List (List Nat)} (h : goodRows rows) : sp 10 (jn 10 rows) = rows := sp_jn h.1 fun r hr => row_no (h.2.2 r hr).1
theorem jn10_asc {rows : List (List Nat)} (h : goodRows rows) : (jn 10 rows).length ≤ 15000 ∧ ∀ c ∈ jn 10 rows, c < 128 := by
  refine ⟨?_, fun c hc => ?_⟩
  · have a := jn_le 10 rows
    have b : (rows.map List.length).sum ≤ (rows.map List.length).length * 700 := sum_le fun n hn => by
      rw [List.mem_map] at hn
      obtain ⟨r, hr, rfl⟩ := hn
      exact (h.2.2 r hr).2
    rw [List.length_map] at b
    have := h.2.1
    omega
  · rcases jn_mem hc with rfl | ⟨w, hw, hc⟩
    · decide
    · exact ((h.2.2 w hw).1 c hc).1
theorem split_rows {rows : List (List Nat)} (h : goodRows rows) (Q : KO) : meS .split (.str (mk (jn 10 rows))) [.str (mk [10])] Q = Q (.lst (rows.map T)) := by
  show (_ ∧ _ ∧ Q (.lst ((Txt.split (mk (jn 10 rows)) (mk [10])).map .str))) = _
  rw [tsplit_mk (by decide), sp_rows h, List.map_map, eq_iff_iff]
  exact ⟨fun z => z.2.2, fun z => ⟨rfl, by rw [mk_len]; exact sz (by have := (jn10_asc h).1; omega), z⟩⟩
theorem okT_asc {l : List Nat} (h : ∀ c ∈ l, c < 128) : okT l = true := by
  unfold okT
  rw [List.all_eq_true]
  exact fun c hc => decide_eq_true (Nat.lt_trans (h c hc) (by decide))
abbrev rEnv (rows : List (List Nat)) (found : List D) (a b c : Option OT) : Env := [some (.sh (T (jn 10 rows))), some (.lst found), a, b, c]
theorem tgt_tup2 (io : List Nat) (i j : Nat) (d e : D) (env : Env) (k : Env → Prop) : tgt io (.tup [i, j]) (.tuple [d, e]) env k = ((∀ x ∈ [i, j], x ∉ io) ∧ k ((env.set i (some (.sh d))).set j (some (.sh e)))) := by
  show (_ ∧ _ ∧ _) = _
  simp [List.zip, List.zipWith]
theorem okR_some {r : List Nat} (h : okR r) : ∃ o, rd r = some o := by
  unfold okR at h
  cases e : rd r with
  | none => exact absurd e h
  | some o => exact ⟨o, rfl⟩
def b_rds : Sm := (.seq (.asg 4 (.call (Str.ofString "read_order") [(.var 3)])) (.seq (.ife (.op2 .is (.var 4) (.cst .none)) (.seq (.rai (Str.ofString "BadOrder") (.op2 .add (.var 2) (.cst (.int 1)))) .skip) .skip) (.seq (.exp (.mu .append 1 [(.var 4)])) .skip)))
theorem rds_loop {rows : List (List Nat)} (hg : goodRows rows) {D : EndE} (hok : (∀ r ∈ rows, okR r) → ∀ a b c, D.nx (rEnv rows (outs rows) a b c))
    (hbad : ∀ done r rest, rows = done ++ r :: rest → (∀ r ∈ done, okR r) → ¬ okR r → ∃ k, D.ex "BadOrder" = some k ∧ ∀ e, k ((done.length : Nat) + 1) e) :
    forS ⟨[], G_rds.fn, G_rds.gl⟩ (.tup [2, 3]) b_rds (enumD (rows.map T)) (rEnv rows [] none none none) D := by
  refine forS_inv (fun ds env => ∃ (done rest : List (List Nat)) (a b c : Option OT), rows = done ++ rest ∧ (∀ r ∈ done, okR r) ∧ ds = (enumD (rows.map T)).drop done.length ∧ env = rEnv rows (outs done) a b c) ?_ ?_ ⟨[], rows, none, none, none, rfl, by simp, rfl, rfl⟩
  · rintro d ds env k ⟨done, rest, a, b, c, e, hd, he, rfl⟩ hk
    have hl : (enumD (rows.map T)).length = rows.length := by rw [enumD_len, List.length_map]
    match rest, e with
    | [], e =>
      rw [List.append_nil] at e
      subst e
      rw [List.drop_eq_nil_of_le (by omega)] at he
      cases he
    | r :: rest, e =>
      have hat : rows[done.length]? = some r := by rw [e]; simp
      have hat2 : (enumD (rows.map T))[done.length]? = some (.tuple [.int (done.length : Nat), T r]) := by
        rw [enumD_get, List.getElem?_map, hat]; rfl
      obtain ⟨e1, _, e2⟩ := at_drop he.symm
      rw [hat2] at e1
      cases e1
      have hr := hg.2.2 r (by rw [e]; simp)
      have htx := row_tx hr.1 (by omega)
      have hdl : done.length ≤ 19 := by
        have := congrArg List.length e
        have := hg.2.1
        simp only [List.length_append, List.length_cons] at *
        omega
      simp only [tgt_tup2, b_rds]
      refine ⟨by simp, ?_⟩
      by_cases ho : okR r
      · obtain ⟨o, eo⟩ := okR_some ho
        simp_arith [G_rds_1, conRd, con1]
        refine ⟨r, rfl, htx, ?_⟩
        rw [eo]
        simp_arith [od, oD]
        refine ⟨szl (by simp [outs]; omega), hk _ ⟨done ++ [r], rest, some (.sh (.int (done.length : Nat))), some (.sh (T r)), some (.sh (oD o)), by simp [e], fun x hx => ?_, by rw [e2]; simp, ?_⟩⟩
        · rcases List.mem_append.mp hx with hx | hx
          · exact hd x hx
          · simp at hx; subst hx; exact ho
        · simp only [outs, List.map_append, List.map_cons, List.map_nil, eo]
          rfl
      · have eo : rd r = none := by
          unfold okR at ho
          cases h : rd r with
          | none => rfl
          | some o => exact absurd (by simp [h]) ho
        simp_arith [G_rds_1, conRd, con1]
        refine ⟨r, rfl, htx, ?_⟩
        rw [eo]
        simp_arith [od]
        obtain ⟨k2, h1, h2⟩ := hbad done r rest e hd ho
        exact ⟨k2, h1, by omega, by omega, h2 _⟩
  · rintro env ⟨done, rest, a, b, c, e, hd, he, rfl⟩
    match rest, e with
    | [], e =>
      rw [List.append_nil] at e
      subst e
      exact hok hd a b c
    | r :: rest, e =>
      have := congrArg List.length he
      have hl : (enumD (rows.map T)).length = rows.length := by rw [enumD_len, List.length_map]
      have h2 := congrArg List.length e
      simp only [List.length_nil, List.length_drop, hl, List.length_append, List.length_cons] at this h2
      omega
/-- read_orders where all is well -/
def conRds : Con := ⟨[false], fun args Q => ∃ rows, args = [.sh (T (jn 10 rows))] ∧ goodRows rows ∧ (jn 10 rows = [] → Q (.lst []) []) ∧ (jn 10 rows ≠ [] → (∀ r ∈ rows, okR r) ∧ Q (.lst (outs rows)) [])⟩
theorem ok_read_orders : ∀ args Q, conRds.run args Q → wpF G_rds ⟨conRds.io, N_read_orders.length, d_read_orders⟩ args Q := by
  rintro args Q ⟨rows, rfl, hg, q1, q2⟩
  have ha := jn10_asc hg
  simp only [wpF, argsOk, d_read_orders, conRds, ioIx]
  refine ⟨⟨rfl, trivial⟩, ?_⟩
  ac_nf
  refine seq_asg (.lst []) (by simp) (fun k hk => ?_) ?_
  · simp_arith
    exact ⟨by decide, hk⟩
  ac_nf
  refine seq_ife (jn 10 rows = []) (fun k hk => ?_) (fun h => seq_ret ?_) (fun h => ?_)
  · simp_arith
    exact ⟨okT_asc ha.2, by decide, hk⟩
  · simp_arith
    exact q1 h
  · rw [wS_seq]
    simp_arith [split_rows hg]
    refine rds_loop hg (fun _ a b c => ?_) fun done r rest e hd hr => absurd ((q2 h).1 r (by rw [e]; simp)) hr
    exact ⟨_, rfl, (q2 h).2⟩
/-- read_orders with a wrong line: the j-th -/
def bad97 (rows : List (List Nat)) (j : Nat) : Prop := ∃ done r rest, rows = done ++ r :: rest ∧ (∀ r ∈ done, okR r) ∧ ¬ okR r ∧ done.length = j
theorem bad_one : ∀ {done done' rest rest' : List (List Nat)} {r r' : List Nat}, done ++ r :: rest = done' ++ r' :: rest' → (∀ r ∈ done, okR r) → (∀ r ∈ done', okR r) → ¬ okR r → ¬ okR r' → done.length = done'.length
  | [], [], _, _, _, _, _, _, _, _, _ => rfl
  | [], x :: xs, _, _, r, _, e, _, h, hr, _ => by
    cases e
    exact absurd (h _ (by simp)) hr
  | x :: xs, [], _, _, _, _, e, h, _, _, hr => by
    cases e
    exact absurd (h _ (by simp)) hr
  | x :: xs, y :: ys, _, _, _, _, e, h, h', hr, hr' => by
    simp only [List.cons_append, List.cons.injEq] at e
    rw [List.length_cons, List.length_cons, bad_one e.2 (fun r hr => h r (by simp [hr])) (fun r hr => h' r (by simp [hr])) hr hr']
theorem okx_read_orders {rows : List (List Nat)} (hg : goodRows rows) (h0 : jn 10 rows ≠ []) {j : Nat} (hb : bad97 rows j) {ex : Str → Option (Int → Prop)} {k : Int → Prop} (hk : ex "BadOrder" = some k) (h : k ((j : Nat) + 1)) :
    wpX G_rds 1 N_read_orders.length d_read_orders [.sh (T (jn 10 rows))] ex := by
  have ha := jn10_asc hg
  obtain ⟨done, r, rest, e, hd, hr, rfl⟩ := hb
  unfold wpX
  simp only [d_read_orders]
  ac_nf
  refine seq_asg (.lst []) (by simp) (fun k hk => ?_) ?_
  · simp_arith
    exact ⟨by decide, hk⟩
  ac_nf
  refine seq_ife False (fun k hk => ?_) (fun h => h.elim) (fun _ => ?_)
  · simp_arith
    rw [decide_eq_false h0]
    exact ⟨okT_asc ha.2, by decide, hk⟩
  · rw [wS_seq]
    simp_arith [split_rows hg]
    refine rds_loop hg (fun hall a b c => absurd (hall r (by rw [e]; simp)) hr) fun done' r' rest' e' hd' hr' => ?_
    have hlen := bad_one (e.symm.trans e') hd hd' hr hr'
    refine ⟨fun i _ => k i, by show Option.map _ (ex "BadOrder") = _; rw [hk]; rfl, fun _ => ?_⟩
    rw [← hlen]
    exact h
end TW
end
section
set_option Elab.async false
set_option linter.all false
set_option maxRecDepth 100000
set_option maxHeartbeats 4000000
/-! T97: law_k97: the law itself -/
namespace TW
open PySem L2
local macro_rules
  | `(tactic| simp_arith) => `(tactic| simp_arith [])
  | `(tactic| simp_arith [$ls,*]) => `(tactic| simp only [wpF, argsOk, wE_var, wE_lc, wS_for, wE_cst, wE_glo, wE_op2, wE_neg, wE_not, wE_and, wE_or, wE_ife, wE_chain, wE_idx, wE_slc, wE_slcL, wE_slcH, wE_tup, wE_lst, wE_call, wE_bi, wE_isi, wE_me, wE_mu, wE_fmt, wE_fst, wS_skip, wS_seq, wS_asg, wS_unp, wS_par, wS_seti, wS_aug, wS_exp, wS_ret, wS_retN, wS_ife, wS_brk, wS_cnt, wS_rai, wS_bad, varS_sh, varS_lst, wpOs, wpVs, wpTs, wpI, wpJ, opd, tst, retE, List.map, List.length, ioIx, List.cons_append, List.nil_append, List.getElem?_cons_zero, List.getElem?_cons_succ,
      frz_sh, frz_lst, own_sh, own_lst, resO_some, res_va, res_pl, resL_nil, resL_cons, consO_some, add_int, add_str, add_list, add_tuple, sub_int, mul_int, fdiv_int, mod_int, pow_int, lt_int, le_int, gt_int, ge_int, eq_int, ne_int, eq_str, ne_str, in_str1, nin_str1, in_tuple, nin_tuple,
      is_none, isnot_none, is_bool, len_list, len_tuple, len_str, int_int, int_str, str_int, str_str, ord_str, repr_int, repr_str, all_list, any_list, idx_list, idx_tuple, idx_str, slc_str, slc_list, slc_tuple, seq_list, seq_tuple, seq_str, it_rng1, it_rng2, it_enum,
      aug_add_int, aug_sub_int, aug_add_str, seti_lst, mu_append, mu_insert, meT_str, meT_list, tgt_name, me_join, me_index, isN_str, isN_int, isN_bool, isN_list, isN_tuple, isN_none,
      implies_true, eq_list_nil, subN_lo4, subN_lo5, subN_hi4, subN_hi3, subN_tail, wipeE, unwipe, takeArgs, putBack, ioPl, Option.map_some, List.nodup_nil, nodup1, decide_true, decide_false, Nat.reduceEqDiff, reduceCtorEq, false_and, and_false, Prod.mk.injEq, and_assoc, exists_const,
      outsAt, atI_0, atI_1, atI_2, atI_3, ixN_0, ixN_1, ixN_2, OT.lst.injEq, ite_cnd, cnd_t, cnd_f, cnd_n, true_or, or_true, or_self, List.cons.injEq, Option.some.injEq, exists_eq_left', exists_eq_left, exists_eq', exists_and_left, true_and, and_true, and_self, Nat.zero_add, Nat.reduceAdd, Nat.sub_self, Nat.reduceSub, List.replicate, OT.sh.injEq, PyData.bool.injEq,
      PyData.int.injEq, PyData.str.injEq, List.set_cons_zero, List.set_cons_succ, if_true, if_false, Bool.false_eq_true, Bool.not_true, Bool.not_false, reduceIte, List.length_nil, List.length_cons, List.length_map, mk_len, mk_app, List.not_mem_nil, not_false_eq_true, $ls,*])
local macro_rules | `(tactic| infer_instance) => `(tactic| first
  | assumption | exact log_small (by omega) (by omega) | rfl | omega | decide | exact sz (by omega) | exact szl (by omega) | exact Or.inl ⟨by decide, by decide⟩ | exact Or.inr ⟨by decide, by decide⟩ | exact ⟨by decide, by decide⟩ | exact ⟨by decide, by decide, by decide⟩ | exact ⟨_, rfl⟩)
local macro_rules | `(tactic| and_intros) => `(tactic| repeat ((with_reducible apply And.intro); (focus infer_instance)))
local macro_rules | `(tactic| ac_nf) => `(tactic| simp only [List.map_cons, List.map_nil, List.cons_append, List.nil_append, List.set_cons_zero, List.set_cons_succ, List.replicate, List.length_cons, List.length_nil, Nat.zero_add, Nat.reduceAdd, Nat.reduceSub])
local macro_rules
  | `(tactic| simp_all_arith) => `(tactic| simp_all_arith [])
  | `(tactic| simp_all_arith [$ls,*]) => `(tactic| simp_arith [cast0, cast1, cast2, cast3, cast4, beq_self_eq_true, Int.reduceBEq, Int.reduceLT, Int.reduceLE, Int.reduceAdd, Bool.not_true, Bool.not_false, $ls,*])
def wTold : List Nat := [116, 111, 108, 100]
def wWrong : List Nat := [119, 114, 111, 110, 103]
def conText : Con := ⟨[false], fun args Q => ∃ rows, args = [.sh (T (jn 10 rows))] ∧ goodRows rows ∧ (jn 10 rows = [] → Q (.sh (.tuple [T wTold, .list []])) []) ∧
  (jn 10 rows ≠ [] → (∀ r ∈ rows, okR r) → Q (.sh (.tuple [T wTold, .list (outs rows)])) []) ∧ (jn 10 rows ≠ [] → ∀ j : Nat, bad97 rows j → Q (.sh (.tuple [T wWrong, .int ((j : Nat) + 1)])) [])⟩
theorem row_sp {rows : List (List Nat)} (h : ∀ r ∈ rows, okR r) : ∀ j, ¬ bad97 rows j := fun j ⟨done, r, rest, e, _, hr, _⟩ => hr (h r (by rw [e]; simp))
/-- all is well, or there is a first wrong line -/
theorem ok_or_bad : ∀ rows : List (List Nat), (∀ r ∈ rows, okR r) ∨ ∃ j, bad97 rows j
  | [] => .inl (by simp)
  | r :: rows => by
    by_cases h : okR r
    · rcases ok_or_bad rows with g | ⟨j, done, x, rest, e, hd, hx, hl⟩
      · exact .inl fun x hx => (List.mem_cons.mp hx).elim (fun e => by rw [e]; exact h) (g x)
      · exact .inr ⟨j + 1, r :: done, x, rest, by rw [e]; rfl, fun y hy => (List.mem_cons.mp hy).elim (fun e => by rw [e]; exact h) (hd y), hx, by rw [List.length_cons, hl]⟩
    · exact .inr ⟨0, [], r, rows, rfl, by simp, h, rfl⟩
/-- the def's one try -/
def tryB (st : Stmt) : List Stmt := match defBody st with
  | [.Try b _ _ _ _] => b
  | _ => []
def d_tryT : Sm := (.seq (.ret (.tup [(.cst (.str (mk [116, 111, 108, 100]))), (.call (Str.ofString "read_orders") [(.var 0)])])) .skip)
theorem cs_tryT : CS ⟨defScope st_law_text, N_law_text, fun _ => true⟩ (.ss (tryB st_law_text)) d_tryT := cs_of (n := 200) (by kernel_rfl)
def G_text : Ctx := ⟨[], tbl [("read_orders", conRds)], gl97⟩
theorem G_text_1 : G_text.fn "read_orders" = some conRds := rfl
theorem ok_text : ∀ args Q, conText.run args Q → wpF G_text ⟨[false], 2, d_tryT⟩ args Q ∨ ∃ d j, args = [.sh d] ∧ (∃ rows, d = T (jn 10 rows) ∧ goodRows rows ∧ jn 10 rows ≠ [] ∧ ∃ j' : Nat, bad97 rows j' ∧ j = (j' : Int) + 1) ∧ Q (.sh (.tuple [T wWrong, .int j])) [] := by
  rintro args Q ⟨rows, rfl, hg, q1, q2, q3⟩
  by_cases h0 : jn 10 rows = []
  · left
    simp_arith [d_tryT, G_text_1, conRds]
    refine ⟨rows, rfl, hg, fun _ => ?_, fun h => absurd h0 h⟩
    exact ⟨by decide, q1 h0⟩
  rcases ok_or_bad rows with h | ⟨j, hj⟩
  · left
    simp_arith [d_tryT, G_text_1, conRds]
    refine ⟨rows, rfl, hg, fun h => absurd h h0, fun _ => ⟨h, ?_⟩⟩
    exact ⟨by decide, q2 h0 h⟩
  · right
    exact ⟨_, _, rfl, ⟨rows, rfl, hg, h0, j, hj, rfl⟩, q3 h0 j hj⟩
abbrev lEnv (sc b o l k t tu m td du or be tr pa : Option OT) : Env := [sc, b, o, l, k, t, tu, m, td, du, or, be, tr, pa]
def G_law97 : Ctx := ⟨[], tbl [("_law_digits", conDigits), ("_law_draw", conDraw), ("_law_order", conOrder), ("write_order", conWr), ("read_order", conRd), ("_law_read", conRd), ("_law_bent", conBent), ("write_orders", conWrs), ("_law_text", conText), ("_law_same", conSame 3)], gl97⟩
theorem Gl_1 : G_law97.fn "_law_digits" = some conDigits := rfl
theorem Gl_2 : G_law97.fn "_law_draw" = some conDraw := rfl
theorem Gl_3 : G_law97.fn "_law_order" = some conOrder := rfl
theorem Gl_4 : G_law97.fn "write_order" = some conWr := rfl
theorem Gl_5 : G_law97.fn "read_order" = some conRd := rfl
theorem Gl_6 : G_law97.fn "_law_read" = some conRd := rfl
theorem Gl_7 : G_law97.fn "_law_bent" = some conBent := rfl
theorem Gl_8 : G_law97.fn "write_orders" = some conWrs := rfl
theorem Gl_9 : G_law97.fn "_law_text" = some conText := rfl
theorem Gl_0 : G_law97.fn "_law_same" = some (conSame 3) := rfl
abbrev oL (os : List Od) : D := .list (os.map oD)
abbrev wL (ws : List (List Nat)) : D := .list (ws.map T)
theorem row_gd {r : List Nat} (h : row r) (hl : r.length ≤ 700) (n : Nat) : Gd n (T r) := .str (row_tx h (by omega))
def ptX (p : Pt) : Prop := match p with
  | .s l => tx l
  | .n i => 0 ≤ i ∧ i < 10000
theorem ptX_gd {p : Pt} (h : ptX p) (n : Nat) : Gd n p.d := by
  cases p with
  | s l => exact .str h
  | n i => exact .int (by have := h.1; omega) (by have := h.2; omega)
theorem numW_lt {w : List Nat} {n : Int} (h : numW w = some n) : 0 ≤ n ∧ n < 10000 := by
  unfold numW at h
  split at h
  · rename_i hw
    split at h
    · cases h
    · cases h
      have e := val_lt w (fun c hc => by have := (in_figs c).mp (hw.2.2 c hc); omega)
      have : 10 ^ w.length ≤ 10 ^ 4 := Nat.pow_le_pow_right (by decide) hw.2.1
      omega
  · cases h
theorem tx_lit {l : List Nat} (h : l.length ≤ 20 ∧ ∀ c ∈ l, c < 128) : tx l := ⟨by omega, h.2⟩
theorem rdW_parts : ∀ {ws : List (List Nat)} {o : Od}, rdW ws = some o → (∀ w ∈ ws, tx w) → tx (jn 32 (ws.drop 2)) → (∀ p ∈ o, ptX p) ∧ o.length ≤ 3
  | [], o, h, _, _ => by simp [rdW] at h
  | [k], o, h, hw, _ => by
    rw [rdW] at h
    split at h
    · cases h
      exact ⟨all1 (hw k (by simp)), by simp⟩
    · cases h
  | [k, a], o, h, hw, _ => by
    rw [rdW] at h
    split at h
    · cases h
      exact ⟨all2 (hw k (by simp)) (hw a (by simp)), by simp⟩
    · cases h
  | k :: a :: b :: r, o, h, hw, hj => by
    have hk := hw k (by simp)
    have ha := hw a (by simp)
    have hb := hw b (by simp)
    rw [rdW] at h
    split at h
    · split at h
      · cases h
        exact ⟨all3 (tx_lit (by decide)) ha hj, by simp⟩
      · split at h
        · split at h
          · rw [Option.map_eq_some_iff] at h
            obtain ⟨n, hn, rfl⟩ := h
            exact ⟨all3 (tx_lit (by decide)) ha (numW_lt hn), by simp⟩
          · split at h
            · split at h
              · cases h
                exact ⟨all3 (tx_lit (by decide)) ha hb, by simp⟩
              · cases h
            · split at h
              · split at h
                · cases h
                  exact ⟨all3 hk ha hb, by simp⟩
                · cases h
              · split at h
                · cases h
                  exact ⟨all3 (tx_lit (by decide)) ha hb, by simp⟩
                · cases h
        · cases h
    · cases h
theorem rd_gd {r : List Nat} (h : tx r) (n : Nat) : Gd (n + 1) (od (rd r)) := by
  cases e : rd r with
  | none => exact .non
  | some o =>
    have hj : tx (jn 32 ((sp 32 r).drop 2)) := by
      refine ⟨?_, fun c hc => ?_⟩
      · have a := jn_le 32 ((sp 32 r).drop 2)
        have b := msr_take (sp 32 r) 2
        have c := sp_sum 32 r
        have d := h.1
        unfold msr at b
        have hpos := List.length_pos_iff.mpr (sp_ne 32 r)
        have h1 : 1 ≤ ((sp 32 r).take 2).length := by rw [List.length_take]; omega
        omega
      · rcases jn_mem hc with rfl | ⟨w, hw, hc⟩
        · decide
        · exact h.2 c (sp_mem (List.mem_of_mem_drop hw) hc)
    have := rdW_parts e (fun w hw => tx_sp h hw) hj
    refine .tup (fun d hd => ?_) (by rw [List.length_map]; omega)
    rw [List.mem_map] at hd
    obtain ⟨p, hp, rfl⟩ := hd
    exact ptX_gd (this.1 p hp) n
theorem ne_self {d : D} (h : SeqAt.shaped d = true) {Q : KO} : op2 .ne d d Q = Q (.sh (.bool false)) := by
  show (_ ∧ _ ∧ Q (.sh (.bool (!PyData.eqv d d)))) = _
  rw [SeqAt.eqv_refl d (SeqAt.canLay_of_shaped h), h]
  simp
theorem lay_pt {p : Pt} (h : ptX p) : PyData.canLay0 p.d = true ∧ PyData.depth p.d ≤ 58 := by
  cases p with
  | s l => exact ⟨(lay_T h.2).1, by show PyData.depth (.str _) ≤ 58; simp [PyData.depth]⟩
  | n i => exact ⟨rfl, by show PyData.depth (.int _) ≤ 58; simp [PyData.depth]⟩
theorem lay_tuple {xs : List D} {n : Nat} (h : ∀ d ∈ xs, PyData.canLay0 d = true ∧ PyData.depth d ≤ n) : PyData.canLay0 (.tuple xs) = true ∧ PyData.depth (.tuple xs) ≤ n + 1 := by
  have h1 := depthAll_le xs n fun d hd => (h d hd).2
  rw [PyData.canLay0, PyData.depth]
  exact ⟨layAll_of xs fun d hd => (h d hd).1, by omega⟩
theorem lay_list {xs : List D} {n : Nat} (h : ∀ d ∈ xs, PyData.canLay0 d = true ∧ PyData.depth d ≤ n) : PyData.canLay0 (.list xs) = true ∧ PyData.depth (.list xs) ≤ n + 1 := by
  have h1 := depthAll_le xs n fun d hd => (h d hd).2
  rw [PyData.canLay0, PyData.depth]
  exact ⟨layAll_of xs fun d hd => (h d hd).1, by omega⟩
theorem shaped_lay {d : D} (h : PyData.canLay0 d = true ∧ PyData.depth d ≤ 60) : SeqAt.shaped d = true := by
  unfold SeqAt.shaped
  rw [h.1, decide_eq_true (show PyData.depth d ≤ 64 by omega)]
  rfl
theorem go_ptX {o : Od} (h : GO o) : ∀ p ∈ o, ptX p := fun p hp => by
  have h1 := (go_parts h).1 p hp
  have h2 := go_nums h p hp
  cases p with
  | s l => exact row_tx h1.1 (by have := h1.2; simp only [Pt.t] at this; omega)
  | n i => exact h2
theorem lay_oD {o : Od} (h : ∀ p ∈ o, ptX p) : PyData.canLay0 (oD o) = true ∧ PyData.depth (oD o) ≤ 59 := lay_tuple fun d hd => by
  rw [List.mem_map] at hd
  obtain ⟨p, hp, rfl⟩ := hd
  exact lay_pt (h p hp)
theorem lay_od {r : List Nat} (h : tx r) : PyData.canLay0 (od (rd r)) = true ∧ PyData.depth (od (rd r)) ≤ 59 := by
  cases e : rd r with
  | none => exact ⟨rfl, by show PyData.depth .none ≤ 59; simp [PyData.depth]⟩
  | some o =>
    have g := rd_gd h 0
    rw [e] at g
    refine lay_tuple fun d hd => ?_
    cases g with
    | tup hd' _ =>
      have := hd' d hd
      cases this with
      | non => exact ⟨rfl, by simp [PyData.depth]⟩
      | str hl => exact ⟨(lay_T hl.2).1, by simp [PyData.depth]⟩
      | int _ _ => exact ⟨rfl, by simp [PyData.depth]⟩
theorem shaped_outs {rows : List (List Nat)} (h : ∀ r ∈ rows, tx r) : SeqAt.shaped (.list (outs rows)) = true := shaped_lay (lay_list fun d hd => by
  unfold outs at hd
  rw [List.mem_map] at hd
  obtain ⟨r, hr, rfl⟩ := hd
  exact lay_od (h r hr))
theorem shaped_wL {rows : List (List Nat)} (h : ∀ r ∈ rows, tx r) : SeqAt.shaped (wL rows) = true := by
  have := lay_list (n := 1) (xs := rows.map T) fun d hd => by
    rw [List.mem_map] at hd
    obtain ⟨r, hr, rfl⟩ := hd
    exact ⟨(lay_T (h r hr).2).1, by simp [PyData.depth]⟩
  exact shaped_lay ⟨this.1, Nat.le_trans this.2 (by decide)⟩
theorem okR_not {r : List Nat} (h : ¬ okR r) : rd r = none := by
  unfold okR at h
  cases e : rd r with
  | none => rfl
  | some o => exact absurd (by simp [e]) h
theorem eqv_non {r : List Nat} : PyData.eqv (od (rd r)) .none = decide (¬ okR r) := by
  by_cases h : okR r
  · rw [decide_eq_false (by simpa using h)]
    obtain ⟨o, eo⟩ := okR_some h
    rw [eo]
    simp [od, oD, PyData.eqv]
  · rw [decide_eq_true h, okR_not h]
    simp [od, PyData.eqv]
theorem any_non : ∀ rows : List (List Nat), ((outs rows).any fun z => PyData.eqv z .none) = decide (¬ ∀ r ∈ rows, okR r)
  | [] => by simp [outs]
  | r :: rows => by
    have ih := any_non rows
    unfold outs at ih ⊢
    rw [List.map_cons, List.any_cons, ih, eqv_non, ← Bool.decide_or]
    refine decide_eq_decide.mpr ?_
    simp only [List.forall_mem_cons, Classical.not_and_iff_not_or_not]
theorem eqv_wL : ∀ (a b : List (List Nat)), PyData.eqvAll (a.map T) (b.map T) = decide (a = b)
  | [], [] => by simp [PyData.eqvAll]
  | [], b :: bs => by simp [PyData.eqvAll]
  | a :: as, [] => by simp [PyData.eqvAll]
  | a :: as, b :: bs => by
    rw [List.map_cons, List.map_cons, PyData.eqvAll, eqv_T, eqv_wL as bs, ← Bool.decide_and]
    exact decide_eq_decide.mpr (by simp)
theorem ne_wL {a b : List (List Nat)} (ha : ∀ r ∈ a, tx r) (hb : ∀ r ∈ b, tx r) (Q : KO) : op2 .ne (wL a) (wL b) Q = Q (.sh (.bool (!decide (a = b)))) := by
  show (SeqAt.shaped (wL a) = true ∧ SeqAt.shaped (wL b) = true ∧ Q (.sh (.bool (!PyData.eqv (.list (a.map T)) (.list (b.map T)))))) = _
  rw [shaped_wL ha, shaped_wL hb, PyData.eqv, eqv_wL]
  simp
theorem go_ne {o : Od} (h : GO o) : wr o ≠ [] := by
  intro z
  have h1 := go_rd h
  rw [z] at h1
  have : rd [] = none := by decide +kernel
  rw [this] at h1
  cases h1
theorem jn_ne {w : List Nat} {ws : List (List Nat)} (h : w ≠ []) : jn 10 (w :: ws) ≠ [] := by
  cases ws with
  | nil => exact h
  | cons v ws => rw [jn]; simp
theorem jn_snoc : ∀ {ws : List (List Nat)}, ws ≠ [] → jn 10 ws ++ [10] = jn 10 (ws ++ [[]])
  | [], h => absurd rfl h
  | [w], _ => rfl
  | w :: v :: ws, _ => by
    have := jn_snoc (ws := v :: ws) (by simp)
    rw [jn, List.append_assoc, List.cons_append, this]
    rfl
theorem jn_nil {ws : List (List Nat)} (h0 : ws ≠ []) (h : jn 10 ws = []) : ws = [[]] := by
  match ws, h0 with
  | [w], _ => simp only [jn] at h; rw [h]
  | w :: v :: ws, _ => rw [jn] at h; simp at h
theorem gd_told {ds : List D} (h : ∀ d ∈ ds, Gd 1 d) (hl : ds.length ≤ 1000) : Gd 3 (.tuple [T wTold, .list ds]) := .tup (fun d hd => by
  simp only [List.mem_cons, List.not_mem_nil, or_false] at hd
  rcases hd with rfl | rfl
  · exact .str (tx_lit (by decide))
  · exact .lst h hl) (by simp)
theorem gd_wrong {j : Nat} (hj : j ≤ 1000) : Gd 3 (.tuple [T wWrong, .int ((j : Nat) + 1)]) := .tup (fun d hd => by
  simp only [List.mem_cons, List.not_mem_nil, or_false] at hd
  rcases hd with rfl | rfl
  · exact .str (tx_lit (by decide))
  · exact .int (by omega) (by omega)) (by simp)
theorem outs_gd {rows : List (List Nat)} (h : ∀ r ∈ rows, tx r) : ∀ d ∈ outs rows, Gd 1 d := fun d hd => by
  unfold outs at hd
  rw [List.mem_map] at hd
  obtain ⟨r, hr, rfl⟩ := hd
  exact rd_gd (h r hr) 0
theorem bad_index {rows : List (List Nat)} {j : Nat} (h : bad97 rows j) : ∃ z, (outs rows)[j]? = some z ∧ PyData.eqv z .none = true ∧ ∀ m z', m < j → (outs rows)[m]? = some z' → PyData.eqv z' .none = false := by
  obtain ⟨done, r, rest, rfl, hd, hr, rfl⟩ := h
  have e1 : outs (done ++ r :: rest) = outs done ++ od (rd r) :: outs rest := by simp [outs]
  have e2 : (outs done).length = done.length := by simp [outs]
  refine ⟨od (rd r), by rw [e1, List.getElem?_append_right (by omega), e2]; simp, by rw [eqv_non]; simpa using hr, fun m z' hm hz => ?_⟩
  rw [e1, List.getElem?_append_left (by omega)] at hz
  unfold outs at hz
  rw [List.getElem?_map, Option.map_eq_some_iff] at hz
  obtain ⟨x, hx, rfl⟩ := hz
  rw [eqv_non]
  have := hd x (List.mem_of_getElem? hx)
  simpa using this
theorem bad_lt {rows : List (List Nat)} {j : Nat} (h : bad97 rows j) : j < rows.length := by
  obtain ⟨done, r, rest, rfl, hd, hr, rfl⟩ := h
  simp
theorem me_indexL (xs : List D) (d : D) (Q : KO) : meS .index (.list xs) [d] Q = (SeqAt.shaped (.list xs) = true ∧ SeqAt.shaped d = true ∧ ∃ (j : Nat) (z : D), xs[j]? = some z ∧ PyData.eqv z d = true ∧ (∀ (m : Nat) (z' : D), m < j → xs[m]? = some z' → PyData.eqv z' d = false) ∧ Q (.sh (.int (j : Nat)))) := by cases d <;> rfl
theorem in_non (xs : List D) (Q : KO) : op2 .isIn .none (.list xs) Q = (SeqAt.shaped .none = true ∧ SeqAt.shaped (.list xs) = true ∧ Q (.sh (.bool (xs.any fun z => PyData.eqv z .none)))) := rfl
/-- what is due -/
def dueR (rows : List (List Nat)) (d : D) : Prop := ((∀ r ∈ rows, okR r) ∧ d = .tuple [T wTold, .list (outs rows)]) ∨ ∃ j, bad97 rows j ∧ d = .tuple [T wWrong, .int ((j : Nat) + 1)]
theorem due_gd {rows : List (List Nat)} {d : D} (h : dueR rows d) (hr : ∀ r ∈ rows, tx r) (hl : rows.length ≤ 100) : Gd 3 d := by
  rcases h with ⟨_, rfl⟩ | ⟨j, hj, rfl⟩
  · exact gd_told (outs_gd hr) (by simp [outs]; omega)
  · exact gd_wrong (by have := bad_lt hj; omega)
theorem bi_list (xs : List D) (Q : KO) : biS .list [.list xs] Q = Q (.lst xs) := rfl
theorem ok_law97 : ∀ args Q, conLaw.run args Q → wpF G_law97 ⟨conLaw.io, N_law.length, d_law⟩ args Q := by
  rintro args Q ⟨ns, hns, rfl, q⟩
  simp only [wpF, argsOk, d_law, conLaw, ioIx]
  refine ⟨⟨rfl, trivial⟩, ?_⟩
  ac_nf
  -- box
  refine seq_asgP (fun r e1 => ∃ ds : List Int, r = box ds 0 ∧ e1 = lEnv (some (.sh (iD ns))) none none none none none none none none none none none none none) (by simp) (fun k hk => ?_) ?_
  · simp_arith [Gl_1, conDigits]
    exact ⟨ns, rfl, fun ds => ⟨by decide, hk _ _ ⟨ds, rfl, rfl⟩⟩⟩
  rintro r e1 ⟨ds, rfl, rfl⟩
  ac_nf
  -- orders
  refine seq_asgP (fun r e1 => ∃ (os : List Od) (n : Int), 0 ≤ n ∧ (∀ o ∈ os, GO o) ∧ 1 ≤ os.length ∧ os.length ≤ 8 ∧ r = .lst (os.map oD) ∧ e1 = lEnv (some (.sh (iD ns))) (some (box ds n)) none none none none none none none none none none none none) (by simp) (fun k hk => ?_) ?_
  · simp_arith [Gl_2, conDraw]
    refine ⟨ds, rfl, by decide, by decide, fun m h0 h1 => ⟨by omega, by omega, ?_⟩⟩
    refine lcS_inv (fun items acc env => ∃ (os : List Od) (n' : Int) (v : Option OT), acc = os.map oD ∧ os.length + items.length = (1 + m).toNat ∧ (∀ o ∈ os, GO o) ∧ 0 ≤ n' ∧
      env = lEnv (some (.sh (iD ns))) (some (box ds n')) none none none none v none none none none none none none) ?_ ?_ ?_ ⟨[], 0 + 1, none, rfl, by simp [rangeD], by simp, by decide, rfl⟩
    · rintro d items acc env k ⟨os, n', v, rfl, hl, ho, hn', rfl⟩ k1 k2
      simp_arith [Gl_3, conOrder]
      refine ⟨ds, rfl, hn', fun o n2 hn2 hg => k1 _ _ ⟨os ++ [o], n2, some (.sh d), by simp, by simp at hl ⊢; omega, fun x hx => ?_, hn2, rfl⟩⟩
      rcases List.mem_append.mp hx with hx | hx
      · exact ho x hx
      · simp at hx; subst hx; exact hg
    · rintro items acc env ⟨os, n', v, rfl, hl, ho, hn', rfl⟩
      exact sz (by simp; omega)
    · rintro acc env ⟨os, n', v, rfl, hl, ho, hn', rfl⟩
      simp only [List.length_nil, Nat.add_zero] at hl
      simp_arith
      exact hk _ _ ⟨os, n', hn', ho, by omega, by omega, rfl, rfl⟩
  rintro r e1 ⟨os, n, hn, ho, hl1, hl8, rfl, rfl⟩
  ac_nf
  have htx : ∀ r ∈ os.map wr, tx r := fun r hr => by
    rw [List.mem_map] at hr
    obtain ⟨o, h, rfl⟩ := hr
    exact row_tx (go_row (ho o h)).1 (by have := (go_row (ho o h)).2; omega)
  -- lines
  refine seq_asgP (fun r e1 => r = .lst ((os.map wr).map T) ∧ e1 = lEnv (some (.sh (iD ns))) (some (box ds n)) (some (.sh (oL os))) none none none none none none none none none none none) (by simp) (fun k hk => ?_) ?_
  · simp_arith
    refine lcS_inv (fun items acc env => ∃ (done rest : List Od) (v : Option OT), os = done ++ rest ∧ items = rest.map oD ∧ acc = (done.map wr).map T ∧
      env = lEnv (some (.sh (iD ns))) (some (box ds n)) (some (.sh (oL os))) none none none none none none none v none none none) ?_ ?_ ?_ ⟨[], os, none, rfl, rfl, rfl, rfl⟩
    · rintro d items acc env k ⟨done, rest, v, e, hd, rfl, rfl⟩ k1 k2
      match rest, hd with
      | o :: rest, hd =>
        cases hd
        have hg := ho o (by rw [e]; simp)
        have hp := go_parts hg
        have hnum := go_nums hg
        have hr := go_row hg
        simp_arith [oD]
        refine lcS_map txt (by simp) (by simp) (by simp; exact sz (by omega)) (fun d hd k hk => ?_) ?_
        · rw [List.mem_map] at hd
          obtain ⟨p, hpm, rfl⟩ := hd
          cases p with
          | s l =>
            simp_arith [Pt.d]
            exact hk
          | n i =>
            have := hnum _ hpm
            simp_arith [Pt.d]
            exact ⟨log_small (by have := this.1; omega) (by have := this.2; omega), hk⟩
        · have e2 : (o.map Pt.d).map txt = (o.map Pt.t).map T := by
            rw [List.map_map, List.map_map]
            exact List.map_congr_left fun p _ => txt_pt p
          rw [e2]
          simp_arith [strsD_T, tjoin_mk, lens]
          refine ⟨?_, k1 _ _ ⟨done ++ [o], rest, some (.sh (oD o)), by simp [e], rfl, by simp [wr], rfl⟩⟩
          have b : ((o.map Pt.t).map List.length).sum ≤ ((o.map Pt.t).map List.length).length * 30 := sum_le fun n hn => by
            rw [List.map_map, List.mem_map] at hn
            obtain ⟨p, hp', rfl⟩ := hn
            exact (hp.1 p hp').2
          simp only [List.length_map] at b ⊢
          omega
    · rintro items acc env ⟨done, rest, v, e, rfl, rfl, rfl⟩
      have := congrArg List.length e
      simp at this
      exact sz (by simp; omega)
    · rintro acc env ⟨done, rest, v, e, hd, rfl, rfl⟩
      have : rest = [] := by simpa using hd.symm
      subst this
      rw [List.append_nil] at e
      subst e
      simp_arith
      exact hk _ _ ⟨rfl, rfl⟩
  rintro r e1 ⟨rfl, rfl⟩
  ac_nf
  -- each order
  refine seq_cut (fun e => ∃ (n' : Int) (a b c : Option OT), 0 ≤ n' ∧ e = lEnv (some (.sh (iD ns))) (some (box ds n')) (some (.sh (oL os))) (some (.lst ((os.map wr).map T))) a none b none none none none c none none) (fun k hk => ?_) ?_
  · rw [wS_for]
    simp_arith
    refine ⟨by omega, by omega, ?_⟩
    have hrg : rangeD 0 (os.length : Int).toNat = (List.range os.length).map fun i => .int (i : Nat) := by
      unfold rangeD
      simp
    rw [hrg]
    refine forS_inv (fun xs env => ∃ (js : List Nat) (n' : Int) (a b c : Option OT), xs = js.map (fun i => .int (i : Nat)) ∧ (∀ j ∈ js, j < os.length) ∧ 0 ≤ n' ∧
      env = lEnv (some (.sh (iD ns))) (some (box ds n')) (some (.sh (oL os))) (some (.lst ((os.map wr).map T))) a none b none none none none c none none) ?_ ?_ ⟨_, n, none, none, none, rfl, fun j hj => List.mem_range.mp hj, hn, rfl⟩
    · rintro d xs env k ⟨js, n', a, b, c, he, hj, hn', rfl⟩ hk
      match js, he with
      | j :: js, he =>
        cases he
        have hjl := hj j (by simp)
        have hg := ho _ (List.getElem_mem hjl)
        have hat : (os.map oD)[j]? = some (oD os[j]) := by rw [List.getElem?_map, List.getElem?_eq_getElem hjl]; rfl
        have hat2 : ((os.map wr).map T)[j]? = some (T (wr os[j])) := by rw [List.getElem?_map, List.getElem?_map, List.getElem?_eq_getElem hjl]; rfl
        have hr := go_row hg
        have hrt := row_tx hr.1 (by omega)
        simp only [tgt_name]
        refine ⟨by simp, ?_⟩
        ac_nf
        refine seq_ife False (fun kk hkk => ?_) (fun h => h.elim) (fun _ => ?_)
        · simp_arith [atI_nat, hat, hat2, Gl_0, Gl_4, Gl_5, conWr, conRd, con1, conSame]
          refine ⟨os[j], rfl, hg, rfl, row_gd hr.1 (by omega) _, ?_⟩
          refine ⟨_, rfl, hrt, ?_⟩
          rw [go_rd hg]
          exact ⟨rfl, go_gd hg 2, hkk⟩
        refine seq_ife False (fun kk hkk => ?_) (fun h => h.elim) (fun _ => ?_)
        · simp_arith [atI_nat, hat, hat2, Gl_6, conRd, con1]
          refine ⟨_, rfl, hrt, ?_⟩
          rw [go_rd hg]
          simp only [od]
          rw [ne_self (shaped_lay ⟨(lay_oD (go_ptX hg)).1, Nat.le_trans (lay_oD (go_ptX hg)).2 (by decide)⟩)]
          simp_arith
          exact hkk
        refine seq_skip ?_
        rw [wS_for]
        simp_arith
        obtain ⟨ks, hks, _, _⟩ := rng_ints (Int.toNat 3)
        rw [hks]
        refine ⟨by decide, by decide, ?_⟩
        refine forS_inv (fun xs env => ∃ (ks : List Int) (n' : Int) (b c : Option OT), xs = ks.map .int ∧ 0 ≤ n' ∧
          env = lEnv (some (.sh (iD ns))) (some (box ds n')) (some (.sh (oL os))) (some (.lst ((os.map wr).map T))) (some (.sh (.int (j : Nat)))) none b none none none none c none none) ?_ ?_ ⟨ks, n', b, c, rfl, hn', rfl⟩
        · rintro d xs env k2 ⟨ks, n2, b, c, he, hn2, rfl⟩ hk2
          match ks, he with
          | i :: ks, he =>
            cases he
            simp only [tgt_name]
            refine ⟨by simp, ?_⟩
            ac_nf
            refine seq_asgP (fun r e1 => ∃ (l : List Nat) (n3 : Int), 0 ≤ n3 ∧ row l ∧ l.length ≤ 600 ∧ r = .sh (T l) ∧ e1 = lEnv (some (.sh (iD ns))) (some (box ds n3)) (some (.sh (oL os))) (some (.lst ((os.map wr).map T))) (some (.sh (.int (j : Nat)))) none (some (.sh (.int i))) none none none none c none none) (by simp) (fun kk hkk => ?_) ?_
            · simp_arith [atI_nat, hat2, Gl_7, conBent]
              exact ⟨ds, rfl, _, rfl, hn2, hr.1, by omega, fun l n3 h3 h4 h5 => hkk _ _ ⟨l, n3, h3, h4, h5, rfl, rfl⟩⟩
            rintro r e1 ⟨l, n3, hn3, hl, hll, rfl, rfl⟩
            ac_nf
            have hlt := row_tx hl (by omega)
            refine seq_ife False (fun kk hkk => ?_) (fun h => h.elim) (fun _ => ?_)
            · simp_arith [Gl_0, Gl_5, Gl_6, conRd, con1, conSame]
              refine ⟨l, rfl, hlt, l, rfl, hlt, rfl, rd_gd hlt 2, ?_⟩
              exact hkk
            · simp_arith
              exact hk2 _ ⟨ks, n3, some (.sh (.int i)), some (.sh (T l)), rfl, hn3, rfl⟩
        · rintro env ⟨ks, n2, b, c, he, hn2, rfl⟩
          exact hk _ ⟨js, n2, some (.sh (.int (j : Nat))), b, c, rfl, fun x hx => hj x (by simp [hx]), hn2, rfl⟩
    · rintro env ⟨js, n', a, b, c, he, hj, hn', rfl⟩
      exact hk _ ⟨n', a, b, c, hn', rfl⟩
  rintro e ⟨n', a, b, c, hn', rfl⟩
  clear hn
  -- the text
  have hrows : goodRows (os.map wr) := ⟨by intro z; have := congrArg List.length z; simp at this; rw [this] at hl1; simp at hl1, by rw [List.length_map]; omega, fun r hr => by
    rw [List.mem_map] at hr
    obtain ⟨o, h, rfl⟩ := hr
    exact ⟨(go_row (ho o h)).1, by have := (go_row (ho o h)).2; omega⟩⟩
  have hok : ∀ r ∈ os.map wr, okR r := fun r hr => by
    rw [List.mem_map] at hr
    obtain ⟨o, h, rfl⟩ := hr
    unfold okR
    rw [go_rd (ho o h)]
    simp
  have houts : outs (os.map wr) = os.map oD := by
    unfold outs
    rw [List.map_map]
    exact List.map_congr_left fun o h => by show od (rd (wr o)) = oD o; rw [go_rd (ho o h)]; rfl
  have hne : jn 10 (os.map wr) ≠ [] := by
    match os, ho, hl1 with
    | o :: os, ho, _ => exact jn_ne (go_ne (ho o (by simp)))
  have hsum : ((os.map wr).map List.length).sum ≤ 8 * 100 := by
    have b : ((os.map wr).map List.length).sum ≤ ((os.map wr).map List.length).length * 100 := sum_le fun n hn => by
      rw [List.map_map, List.mem_map] at hn
      obtain ⟨p, hp', rfl⟩ := hn
      exact (go_row (ho p hp')).2
    simp only [List.length_map] at b
    omega
  have htl : (jn 10 (os.map wr)).length ≤ 1000 := by
    have a := jn_le 10 (os.map wr)
    rw [List.length_map] at a
    omega
  have hta := (jn10_asc hrows).2
  refine seq_asg (.sh (T (jn 10 (os.map wr)))) (by simp) (fun kk hkk => ?_) ?_
  · simp_arith [strsD_T, tjoin_mk, lens]
    exact ⟨by omega, hkk⟩
  ac_nf
  refine seq_ife False (fun kk hkk => ?_) (fun h => h.elim) (fun _ => ?_)
  · simp_arith [Gl_8, Gl_9, Gl_0, conWrs, bi_list, conSame, conText]
    refine ⟨os, rfl, by omega, ho, rfl, .str ⟨by omega, hta⟩, os.map wr, rfl, hrows, fun h => absurd h hne, fun _ _ => ?_, fun _ j hj => absurd hj (row_sp hok j)⟩
    rw [houts]
    exact ⟨by decide, rfl, gd_told (fun d hd => by
      rw [List.mem_map] at hd
      obtain ⟨o, h, rfl⟩ := hd
      exact go_gd (ho o h) 0) (by simp; omega), hkk⟩
  -- lines bent
  refine seq_cut (fun e => ∃ (n' : Int) (l a b m td du c tr : Option OT), 0 ≤ n' ∧ (l = some (.lst ((os.map wr).map T)) ∨ l = some (.sh (wL (os.map wr)))) ∧
    e = lEnv (some (.sh (iD ns))) (some (box ds n')) (some (.sh (oL os))) l a (some (.sh (T (jn 10 (os.map wr))))) b m td du none c tr none) (fun k hk => ?_) ?_
  · rw [wS_for]
    simp_arith
    obtain ⟨ks, hks, _, _⟩ := rng_ints (Int.toNat 3)
    rw [hks]
    refine ⟨by decide, by decide, ?_⟩
    refine forS_inv (fun xs env => ∃ (ks : List Int) (n' : Int) (l a b m td du c tr : Option OT), xs = ks.map .int ∧ 0 ≤ n' ∧ (l = some (.lst ((os.map wr).map T)) ∨ l = some (.sh (wL (os.map wr)))) ∧
      env = lEnv (some (.sh (iD ns))) (some (box ds n')) (some (.sh (oL os))) l a (some (.sh (T (jn 10 (os.map wr))))) b m td du none c tr none) ?_ ?_ ⟨ks, n', _, a, b, none, none, none, c, none, rfl, hn', .inl rfl, rfl⟩
    · rintro d xs env k2 ⟨ks, n2, l, a, b, m, td, du, c, tr, he, hn2, hL, rfl⟩ hk2
      match ks, he with
      | i :: ks, he =>
        cases he
        simp only [tgt_name]
        refine ⟨by simp, ?_⟩
        ac_nf
        refine seq_asgP (fun r e1 => ∃ (rows : List (List Nat)) (n3 : Int), 0 ≤ n3 ∧ rows.length = os.length ∧ (∀ r ∈ rows, row r ∧ r.length ≤ 700) ∧ r = .lst (rows.map T) ∧
          e1 = lEnv (some (.sh (iD ns))) (some (box ds n3)) (some (.sh (oL os))) (some (.sh (wL (os.map wr)))) a (some (.sh (T (jn 10 (os.map wr))))) (some (.sh (.int i))) m td du none c tr none) (by simp) (fun kk hkk => ?_) ?_
        · have core : lcS ⟨[], G_law97.fn, G_law97.gl⟩ (Ex.ife (Ex.op2 Op2.eq (Ex.call (Str.ofString "_law_draw") [Ex.var 1, Ex.cst (PyData.int 3)]) (Ex.cst (PyData.int 0))) (Ex.call (Str.ofString "_law_bent") [Ex.var 1, Ex.var 12]) (Ex.var 12)) (Tg.name 12) [] [12] ((os.map wr).map T)
              (lEnv (some (.sh (iD ns))) (some (box ds n2)) (some (.sh (oL os))) (some (.sh (wL (os.map wr)))) a (some (.sh (T (jn 10 (os.map wr))))) (some (.sh (.int i))) m td du none c tr none) kk := by
            refine lcS_inv (fun items acc env => ∃ (done rest rows : List (List Nat)) (n3 : Int) (v : Option OT), os.map wr = done ++ rest ∧ items = rest.map T ∧ acc = rows.map T ∧ rows.length = done.length ∧ (∀ r ∈ rows, row r ∧ r.length ≤ 700) ∧ 0 ≤ n3 ∧
              env = lEnv (some (.sh (iD ns))) (some (box ds n3)) (some (.sh (oL os))) (some (.sh (wL (os.map wr)))) a (some (.sh (T (jn 10 (os.map wr))))) (some (.sh (.int i))) m td du none c v none) ?_ ?_ ?_ ⟨[], os.map wr, [], n2, tr, rfl, rfl, rfl, rfl, by simp, hn2, rfl⟩
            · rintro d items acc env k ⟨done, rest, rows, n3, v, e, hd, rfl, hlen, hr, hn3, rfl⟩ k1 k2
              match rest, hd with
              | w :: rest, hd =>
                cases hd
                have hw := hrows.2.2 w (by rw [e]; simp)
                have hw2 : w.length ≤ 100 := by
                  have : w ∈ os.map wr := by rw [e]; simp
                  rw [List.mem_map] at this
                  obtain ⟨o, h, rfl⟩ := this
                  exact (go_row (ho o h)).2
                have nxt : ∀ (x : List Nat) (n4 : Int), row x → x.length ≤ 700 → 0 ≤ n4 → _ := fun x n4 hx hx2 hn4 => k1 (T x) (lEnv (some (.sh (iD ns))) (some (box ds n4)) (some (.sh (oL os))) (some (.sh (wL (os.map wr)))) a (some (.sh (T (jn 10 (os.map wr))))) (some (.sh (.int i))) m td du none c (some (.sh (T w))) none)
                  ⟨done ++ [w], rest, rows ++ [x], n4, _, by simp [e], rfl, by simp, by simp [hlen], fun y hy => (List.mem_append.mp hy).elim (hr y) (fun z => by simp at z; subst z; exact ⟨hx, hx2⟩), hn4, rfl⟩
                simp_arith [Gl_2, Gl_7, conDraw, conBent]
                refine ⟨ds, rfl, hn3, by decide, fun r h0 h1 => ?_⟩
                by_cases hz : r = 0
                · refine cnd_pos (by simpa using hz) ?_
                  exact ⟨ds, rfl, _, rfl, by omega, hw.1, by omega, fun l n5 h3 h4 h5 => nxt l n5 h4 (by omega) h3⟩
                · refine cnd_neg (by simpa using hz) ?_
                  exact nxt w _ hw.1 hw.2 (by omega)
            · rintro items acc env ⟨done, rest, rows, n3, v, e, rfl, rfl, hlen, hr, hn3, rfl⟩
              have := congrArg List.length e
              simp at this
              exact sz (by simp; omega)
            · rintro acc env ⟨done, rest, rows, n3, v, e, hd, rfl, hlen, hr, hn3, rfl⟩
              have : rest = [] := by simpa using hd.symm
              subst this
              rw [List.append_nil] at e
              simp_arith
              exact hkk _ _ ⟨rows, n3, hn3, by rw [hlen, ← e]; simp, hr, rfl, rfl⟩
          rcases hL with rfl | rfl
          · simp_arith
            exact core
          · simp_arith
            exact core
        rintro r e1 ⟨rows, n3, hn3, hlen, hr, rfl, rfl⟩
        ac_nf
        have hrt : ∀ r ∈ rows, tx r := fun r h => row_tx (hr r h).1 (by have := (hr r h).2; omega)
        refine seq_asgP (fun r e1 => r = .lst (outs rows) ∧ e1 = lEnv (some (.sh (iD ns))) (some (box ds n3)) (some (.sh (oL os))) (some (.sh (wL (os.map wr)))) a (some (.sh (T (jn 10 (os.map wr))))) (some (.sh (.int i))) (some (.sh (wL rows))) td du none c tr none) (by simp) (fun kk hkk => ?_) ?_
        · simp_arith
          refine lcS_inv (fun items acc env => ∃ (done rest : List (List Nat)) (v : Option OT), rows = done ++ rest ∧ items = rest.map T ∧ acc = outs done ∧
            env = lEnv (some (.sh (iD ns))) (some (box ds n3)) (some (.sh (oL os))) (some (.sh (wL (os.map wr)))) a (some (.sh (T (jn 10 (os.map wr))))) (some (.sh (.int i))) (some (.sh (wL rows))) td du none c v none) ?_ ?_ ?_ ⟨[], rows, tr, rfl, rfl, rfl, rfl⟩
          · rintro d items acc env k ⟨done, rest, v, e, hd, rfl, rfl⟩ k1 k2
            match rest, hd with
            | w :: rest, hd =>
              cases hd
              simp_arith [Gl_6, conRd, con1]
              exact ⟨w, rfl, hrt w (by rw [e]; simp), k1 _ _ ⟨done ++ [w], rest, some (.sh (T w)), by simp [e], rfl, by simp [outs], rfl⟩⟩
          · rintro items acc env ⟨done, rest, v, e, rfl, rfl, rfl⟩
            have := congrArg List.length e
            simp at this
            exact sz (by simp [outs]; omega)
          · rintro acc env ⟨done, rest, v, e, hd, rfl, rfl⟩
            have : rest = [] := by simpa using hd.symm
            subst this
            rw [List.append_nil] at e
            subst e
            simp_arith
            exact hkk _ _ ⟨rfl, rfl⟩
        rintro r e1 ⟨rfl, rfl⟩
        ac_nf
        refine seq_asgP (fun r e1 => ∃ (d : D) (td : Option OT), dueR rows d ∧ r = .sh d ∧ e1 = lEnv (some (.sh (iD ns))) (some (box ds n3)) (some (.sh (oL os))) (some (.sh (wL (os.map wr)))) a (some (.sh (T (jn 10 (os.map wr))))) (some (.sh (.int i))) (some (.sh (wL rows))) td du none c tr none) (by simp) (fun kk hkk => ?_) ?_
        · simp_arith [in_non, me_indexL]
          refine ⟨rfl, shaped_outs hrt, ?_⟩
          rw [any_non]
          rcases ok_or_bad rows with h | ⟨j, hj⟩
          · refine cnd_neg (by simpa using h) ?_
            exact ⟨by decide, hkk _ _ ⟨_, _, .inl ⟨h, rfl⟩, rfl, rfl⟩⟩
          · refine cnd_pos (by simpa using fun h => row_sp h j hj) ?_
            obtain ⟨z, h1, h2, h3⟩ := bad_index hj
            exact ⟨shaped_outs hrt, rfl, j, z, h1, h2, h3, by decide, hkk _ _ ⟨_, _, .inr ⟨j, hj, rfl⟩, rfl, rfl⟩⟩
        rintro r e1 ⟨dd, td, hdue, rfl, rfl⟩
        ac_nf
        have hgr : goodRows rows := ⟨by intro z; rw [z] at hlen; simp at hlen; omega, by omega, hr⟩
        refine seq_ife False (fun kk hkk => ?_) (fun h => h.elim) (fun _ => ?_)
        · have hne0 : ∀ Q, op2 .ne (.list (rows.map T)) (.list [.str (mk [])]) Q = Q (.sh (.bool (!decide (rows = [[]])))) := ne_wL (a := rows) (b := [[]]) hrt (fun r h => by simp at h; subst h; exact tx_lit (by decide))
          simp_arith [hne0]
          by_cases hz : rows = [[]]
          · rw [decide_eq_true hz]
            simp_arith
            exact ⟨by decide, hkk⟩
          rw [decide_eq_false hz]
          have hne1 : jn 10 rows ≠ [] := fun z => hz (jn_nil hgr.1 z)
          have hj1 := jn_le 10 rows
          have hs1 : (rows.map List.length).sum ≤ (rows.map List.length).length * 700 := sum_le fun n hn => by
            rw [List.mem_map] at hn
            obtain ⟨r, h, rfl⟩ := hn
            exact (hr r h).2
          simp only [List.length_map] at hs1
          simp_arith [Gl_9, Gl_0, conText, conSame, strsD_T, tjoin_mk, lens]
          refine ⟨by decide, by omega, rows, rfl, hgr, fun h => absurd h hne1, fun _ h => ?_, fun _ j hj => ?_⟩
          · rcases hdue with ⟨_, rfl⟩ | ⟨j, hj, _⟩
            · exact ⟨rfl, gd_told (outs_gd hrt) (by simp [outs]; omega), hkk⟩
            · exact absurd hj (row_sp h j)
          · rcases hdue with ⟨h, _⟩ | ⟨j', hj', rfl⟩
            · exact absurd hj (row_sp h j)
            · have ej : j = j' := by
                obtain ⟨d1, r1, s1, e1, h1, h2, rfl⟩ := hj
                obtain ⟨d2, r2, s2, e2, h3, h4, rfl⟩ := hj'
                exact bad_one (e1.symm.trans e2) h1 h3 h2 h4
              subst ej
              exact ⟨rfl, gd_wrong (by have := bad_lt hj; omega), hkk⟩
        · simp_arith
          exact hk2 _ ⟨ks, n3, _, a, _, _, td, _, c, tr, rfl, hn3, .inr rfl, rfl⟩
    · rintro env ⟨ks, n2, l, a, b, m, td, du, c, tr, he, hn2, hL, rfl⟩
      exact hk _ ⟨n2, l, a, b, m, td, du, c, tr, hn2, hL, rfl⟩
  rintro e ⟨n2, l, a, b, m, td, du, c, tr, hn2, hL, rfl⟩
  -- a line more
  have hlen3 : ((os.map wr).map T).length = os.length := by simp
  have hrows2 : goodRows (os.map wr ++ [[]]) := ⟨by simp, by simp; omega, fun r hr => by
    rcases List.mem_append.mp hr with hr | hr
    · exact hrows.2.2 r hr
    · simp at hr; subst hr; exact ⟨fun c hc => by simp at hc, by simp⟩⟩
  have hbad2 : bad97 (os.map wr ++ [[]]) os.length := ⟨os.map wr, [], [], rfl, hok, by unfold okR; rw [show rd [] = none by decide +kernel]; simp, by simp⟩
  have hsn := jn_snoc (ws := os.map wr) hrows.1
  refine seq_ife False (fun kk hkk => ?_) (fun h => h.elim) (fun _ => ?_)
  · rcases hL with rfl | rfl
    all_goals
      simp_arith [Gl_9, Gl_0, conText, conSame, mk_app]
      refine ⟨sz (by omega), os.map wr ++ [[]], by rw [hsn], hrows2, fun h => ?_, fun _ h => absurd hbad2 (row_sp h _), fun _ j hj => ?_⟩
      · rw [← hsn] at h; simp at h
      · have ej : j = os.length := by
          obtain ⟨d1, r1, s1, e1, h1, h2, rfl⟩ := hj
          obtain ⟨d2, r2, s2, e2, h3, h4, hl⟩ := hbad2
          rw [← hl]
          exact bad_one (e1.symm.trans e2) h1 h3 h2 h4
        subst ej
        exact ⟨by decide, rfl, gd_wrong (by omega), hkk⟩
  refine seq_ret ?_
  simp_arith [Gl_9, Gl_0, conText, conSame]
  exact ⟨[[]], rfl, ⟨by simp, by decide, fun r hr => by simp at hr; subst hr; exact ⟨fun c hc => by simp at hc, by simp⟩⟩,
    fun _ => ⟨by decide, by decide, rfl, gd_told (by simp) (by simp), q⟩, fun h => absurd rfl h, fun h => absurd rfl h⟩
end TW
end
section
set_option Elab.async false
set_option linter.all false
set_option maxRecDepth 100000
set_option maxHeartbeats 4000000
/-! V97: law_k97: the promises joined -/
namespace TW
open PySem L2 PySem.Spec
/-- a tuple of texts in the written part -/
def strOf : Value → Option Str
  | .str x _ => some x
  | _ => none
theorem vals_strs : ∀ (vs : List Value) (ws : List (List Nat)), vs.map strOf = ws.map (fun w => some (mk w)) → Vals (ws.map fun w => V.str (mk w)) vs
  | [], [], _ => .nil
  | [], _ :: _, h => by cases h
  | _ :: _, [], h => by cases h
  | v :: vs, w :: ws, h => by
    simp only [List.map_cons, List.cons.injEq] at h
    refine .cons ?_ (vals_strs vs ws h.2)
    cases v with
    | str x t =>
      have := Option.some.inj h.1
      subst this
      exact ⟨t, rfl⟩
    | _ => exact absurd h.1 (by simp [strOf])
theorem repL_strs {K : PySem.W.Frag} {C : Hp} : ∀ ws : List (List Nat), RepL K C (ws.map T) (ws.map fun w => V.str (mk w))
  | [] => by simp only [List.map_nil, RepL]
  | w :: ws => by
    simp only [List.map_cons, RepL]
    exact ⟨_, _, rfl, by simp only [Rep], repL_strs ws⟩
/-- a constant of the module: a tuple of texts -/
def TupC (K : PySem.W.Frag) (mg : Str → Option Value) (x : Str) (ws : List (List Nat)) : Prop := ∃ a : Addr, mg x = some (.ref a) ∧ ∀ C, Rep K C (.tuple (ws.map T)) (.ref a)
theorem tupC {K : PySem.W.Frag} {h : Heap} {mg : Str → Option Value} {x : Str} {a : Addr} {od : Option Addr} {its : Array Value} {n : Nat} {sl : Array (Option Value)} {ws : List (List Nat)} (X : K.In h) (G : h.Ns mainGlobals mg)
    (e : PySem.W.nsIn K mainGlobals x = some (some (.ref a))) (l : K.lookup a = some ⟨.type "tuple", od, .seq its n, sl⟩) (c : its.toList.map strOf = ws.map fun w => some (mk w)) (hl : ws.length ≤ 1000) : TupC K mg x ws := by
  refine ⟨a, PySem.W.mg_of X G e, fun C => ?_⟩
  have hv := vals_strs _ _ c
  have hz : its.size ≤ sizeLine := by
    have := Paired.length hv
    rw [List.length_map] at this
    rw [← Array.length_toList, ← this]
    exact Nat.le_trans hl (by decide)
  simp only [Rep]
  exact ⟨a, _, rfl, .inr ⟨_, its, n, l, rfl, rfl, hz, hv⟩, repL_strs ws⟩
/-- what the exceptions of the module are -/
structure Exc97 (P : Program) (K : PySem.W.Frag) (mg : Str → Option Value) : Prop where
  ex : ∃ (aC aR fI : Addr), PySem.XP.Txt P K mg "BadOrder" "line" "line " aC fI ∧ mg "RuleError" = some (.ref aR) ∧ PySem.W.exmOne K (.ref aC) (.ref aR) = some true ∧ ExcC K aC ∧ XfC K aC
structure M97 (P : Program) (K : PySem.W.Frag) (mg : Str → Option Value) : Prop where
  dis_word : DefIn K mg "is_word" st_is_word
  dnumber_of : DefIn K mg "number_of" st_number_of
  dread_order : DefIn K mg "read_order" st_read_order
  dread_orders : DefIn K mg "read_orders" st_read_orders
  dwrite_order : DefIn K mg "write_order" st_write_order
  dwrite_orders : DefIn K mg "write_orders" st_write_orders
  dlaw_cell : DefIn K mg "_law_cell" st_law_cell
  dlaw_digits : DefIn K mg "_law_digits" st_law_digits
  dlaw_draw : DefIn K mg "_law_draw" st_law_draw
  dlaw_pick : DefIn K mg "_law_pick" st_law_pick
  dlaw_same : DefIn K mg "_law_same" st_law_same
  dlaw_is_word : DefIn K mg "_law_is_word" st_law_is_word
  dlaw_number : DefIn K mg "_law_number" st_law_number
  dlaw_asked : DefIn K mg "_law_asked" st_law_asked
  dlaw_read : DefIn K mg "_law_read" st_law_read
  dlaw_word : DefIn K mg "_law_word" st_law_word
  dlaw_order : DefIn K mg "_law_order" st_law_order
  dlaw_bent : DefIn K mg "_law_bent" st_law_bent
  dlaw_text : DefIn K mg "_law_text" st_law_text
  bi : ∀ x ∈ bltNames, mg x = none
  csmall : ∃ t, mg "SMALL" = some (.str (mk small) t)
  cbare : TupC K mg "BARE" [wBooks, wBegin, wEnd, wDrop]
  casked : TupC K mg "ASKED" asked
  exc : Exc97 P K mg
section
variable {P : Program} {w : World} {K : PySem.W.Frag} {mg : Str → Option Value} {base : Heap}
theorem mods97 (X : M97 P K mg) : Mods K mg gl97 := by
  refine ⟨X.bi, fun x d h => ?_⟩
  unfold gl97 at h
  simp only [List.lookup_cons, List.lookup_nil] at h
  split at h
  · rename_i e
    cases h
    have e : x = "SMALL" := by simpa using e
    subst e
    obtain ⟨t, ht⟩ := X.csmall
    exact ⟨_, .str _, ht, ⟨t, rfl⟩, fun C => by simp only [Rep]⟩
  · split at h
    · rename_i e
      cases h
      have e : x = "BARE" := by simpa using e
      subst e
      obtain ⟨a, ha, hr⟩ := X.cbare
      exact ⟨_, .ref a, ha, rfl, hr⟩
    · split at h
      · rename_i e
        cases h
        have e : x = "ASKED" := by simpa using e
        subst e
        obtain ⟨a, ha, hr⟩ := X.casked
        exact ⟨_, .ref a, ha, rfl, hr⟩
      · cases h
theorem mods0 (X : M97 P K mg) : Mods K mg gN := ⟨X.bi, fun x d h => by cases h⟩
theorem bd_is_word : BindA "is_word" st_is_word ["word"] := fun _ _ _ _ _ _ us hl => match us, hl with | [_], _ => rfl
theorem bd_number_of : BindA "number_of" st_number_of ["word"] := fun _ _ _ _ _ _ us hl => match us, hl with | [_], _ => rfl
theorem bd_read_order : BindA "read_order" st_read_order ["line"] := fun _ _ _ _ _ _ us hl => match us, hl with | [_], _ => rfl
theorem bd_read_orders : BindA "read_orders" st_read_orders ["text"] := fun _ _ _ _ _ _ us hl => match us, hl with | [_], _ => rfl
theorem bd_write_order : BindA "write_order" st_write_order ["order"] := fun _ _ _ _ _ _ us hl => match us, hl with | [_], _ => rfl
theorem bd_write_orders : BindA "write_orders" st_write_orders ["orders"] := fun _ _ _ _ _ _ us hl => match us, hl with | [_], _ => rfl
theorem bd_law_cell : BindA "_law_cell" st_law_cell ["script", "k"] := fun _ _ _ _ _ _ us hl => match us, hl with | [_, _], _ => rfl
theorem bd_law_digits : BindA "_law_digits" st_law_digits ["script", "first", "last"] := fun _ _ _ _ _ _ us hl => match us, hl with | [_, _, _], _ => rfl
theorem bd_law_draw : BindA "_law_draw" st_law_draw ["box", "many"] := fun _ _ _ _ _ _ us hl => match us, hl with | [_, _], _ => rfl
theorem bd_law_pick : BindA "_law_pick" st_law_pick ["box", "row"] := fun _ _ _ _ _ _ us hl => match us, hl with | [_, _], _ => rfl
theorem bd_law_same : BindA "_law_same" st_law_same ["told", "due"] := fun _ _ _ _ _ _ us hl => match us, hl with | [_, _], _ => rfl
theorem bd_law_is_word : BindA "_law_is_word" st_law_is_word ["word"] := fun _ _ _ _ _ _ us hl => match us, hl with | [_], _ => rfl
theorem bd_law_number : BindA "_law_number" st_law_number ["word"] := fun _ _ _ _ _ _ us hl => match us, hl with | [_], _ => rfl
theorem bd_law_asked : BindA "_law_asked" st_law_asked [] := fun _ _ _ _ _ _ us hl => match us, hl with | [], _ => rfl
theorem bd_law_read : BindA "_law_read" st_law_read ["text_row"] := fun _ _ _ _ _ _ us hl => match us, hl with | [_], _ => rfl
theorem bd_law_word : BindA "_law_word" st_law_word ["box"] := fun _ _ _ _ _ _ us hl => match us, hl with | [_], _ => rfl
theorem bd_law_order : BindA "_law_order" st_law_order ["box"] := fun _ _ _ _ _ _ us hl => match us, hl with | [_], _ => rfl
theorem bd_law_bent : BindA "_law_bent" st_law_bent ["box", "text_row"] := fun _ _ _ _ _ _ us hl => match us, hl with | [_, _], _ => rfl
theorem bd_law_text : BindA "_law_text" st_law_text ["text"] := fun _ _ _ _ _ _ us hl => match us, hl with | [_], _ => rfl
theorem bd_law : BindA "law" st_law ["script"] := fun _ _ _ _ _ _ us hl => match us, hl with | [_], _ => rfl
theorem fo_is_word (X : M97 P K mg) : FnOf P w K mg base 1 "is_word" conIsW := FnOf.of_in (Γ := G97) X.dis_word sc_is_word bd_is_word rfl (by decide) (mods97 X) tbl_nil cs_is_word ok_is_word
theorem fo_number_of (X : M97 P K mg) : FnOf P w K mg base 1 "number_of" conNum := FnOf.of_in (Γ := G97) X.dnumber_of sc_number_of bd_number_of rfl (by decide) (mods97 X) tbl_nil cs_number_of ok_number_of
theorem fo_law_is_word (X : M97 P K mg) : FnOf P w K mg base 1 "_law_is_word" conIsW := FnOf.of_in (Γ := G97) X.dlaw_is_word sc_law_is_word bd_law_is_word rfl (by decide) (mods97 X) tbl_nil cs_law_is_word ok_law_is_word
theorem fo_law_number (X : M97 P K mg) : FnOf P w K mg base 1 "_law_number" conNum := FnOf.of_in (Γ := G97) X.dlaw_number sc_law_number bd_law_number rfl (by decide) (mods97 X) tbl_nil cs_law_number ok_law_number
theorem fo_law_asked (X : M97 P K mg) : FnOf P w K mg base 1 "_law_asked" conAsked := FnOf.of_in (Γ := G97) X.dlaw_asked sc_law_asked bd_law_asked rfl (by decide) (mods97 X) tbl_nil cs_law_asked ok_law_asked
theorem fo_law_cell (X : M97 P K mg) : FnOf P w K mg base 1 "_law_cell" conCell := FnOf.of_in (Γ := G0) X.dlaw_cell sc_law_cell bd_law_cell rfl (by decide) (mods0 X) tbl_nil cs_law_cell ok_cell
theorem fo_law_draw (X : M97 P K mg) : FnOf P w K mg base 1 "_law_draw" conDraw := FnOf.of_in (Γ := G0) X.dlaw_draw sc_law_draw bd_law_draw rfl (by decide) (mods0 X) tbl_nil cs_law_draw ok_draw
theorem fo_law_digits (X : M97 P K mg) : FnOf P w K mg base 2 "_law_digits" conDigits := FnOf.of_in (Γ := G_digits) X.dlaw_digits sc_law_digits bd_law_digits rfl (by decide) (mods0 X) (tbl_cons ((fo_law_cell X).mono (by decide)) tbl_nil) cs_law_digits ok_digits
theorem fo_law_pick (X : M97 P K mg) : FnOf P w K mg base 2 "_law_pick" conPick := FnOf.of_in (Γ := G_pick) X.dlaw_pick sc_law_pick bd_law_pick rfl (by decide) (mods0 X) (tbl_cons ((fo_law_draw X).mono (by decide)) tbl_nil) cs_law_pick ok_pick
theorem fo_read_order (X : M97 P K mg) : FnOf P w K mg base 2 "read_order" conRd := FnOf.of_in (Γ := G_rd) X.dread_order sc_read_order bd_read_order rfl (by decide) (mods97 X) (tbl_cons ((fo_is_word X).mono (by decide)) (tbl_cons ((fo_number_of X).mono (by decide)) tbl_nil)) cs_read_order ok_read_order
theorem fo_law_read (X : M97 P K mg) : FnOf P w K mg base 2 "_law_read" conRd := FnOf.of_in (Γ := G_lrd) X.dlaw_read sc_law_read bd_law_read rfl (by decide) (mods97 X) (tbl_cons ((fo_law_is_word X).mono (by decide)) (tbl_cons ((fo_law_number X).mono (by decide)) (tbl_cons ((fo_law_asked X).mono (by decide)) tbl_nil))) cs_law_read ok_law_read
theorem fo_write_order (X : M97 P K mg) : FnOf P w K mg base 1 "write_order" conWr := FnOf.of_in (Γ := G97) X.dwrite_order sc_write_order bd_write_order rfl (by decide) (mods97 X) tbl_nil cs_write_order ok_write_order
theorem fo_write_orders (X : M97 P K mg) : FnOf P w K mg base 2 "write_orders" conWrs := FnOf.of_in (Γ := G_wrs) X.dwrite_orders sc_write_orders bd_write_orders rfl (by decide) (mods97 X) (tbl_cons ((fo_write_order X).mono (by decide)) tbl_nil) cs_write_orders ok_write_orders
theorem fo_law_word (X : M97 P K mg) : FnOf P w K mg base 3 "_law_word" conWord := FnOf.of_in (Γ := G_word) X.dlaw_word sc_law_word bd_law_word rfl (by decide) (mods97 X) (tbl_cons ((fo_law_pick X).mono (by decide)) tbl_nil) cs_law_word ok_law_word
theorem fo_law_order (X : M97 P K mg) : FnOf P w K mg base 4 "_law_order" conOrder := FnOf.of_in (Γ := G_order) X.dlaw_order sc_law_order bd_law_order rfl (by decide) (mods97 X) (tbl_cons ((fo_law_word X).mono (by decide)) (tbl_cons ((fo_law_draw X).mono (by decide)) (tbl_cons ((fo_law_pick X).mono (by decide)) (tbl_cons ((fo_law_asked X).mono (by decide)) tbl_nil)))) cs_law_order ok_law_order
theorem fo_law_bent (X : M97 P K mg) : FnOf P w K mg base 3 "_law_bent" conBent := FnOf.of_in (Γ := G_bent) X.dlaw_bent sc_law_bent bd_law_bent rfl (by decide) (mods97 X) (tbl_cons ((fo_law_draw X).mono (by decide)) (tbl_cons ((fo_law_pick X).mono (by decide)) tbl_nil)) cs_law_bent ok_law_bent
theorem fo_law_same (X : M97 P K mg) : ∀ n : Nat, FnOf P w K mg base (n + 1) "_law_same" (conSame n)
  | 0 => FnOf.of_in (Γ := G_same 0) X.dlaw_same sc_law_same bd_law_same rfl (by decide) (mods0 X) tbl_nil cs_law_same (ok_same 0)
  | n + 1 => FnOf.of_in (Γ := G_same (n + 1)) X.dlaw_same sc_law_same bd_law_same rfl (by decide) (mods0 X) (tbl_cons (fo_law_same X n) tbl_nil) cs_law_same (ok_same (n + 1))
theorem tab_rds (X : M97 P K mg) : ∀ g con, G_rds.fn g = some con → FnOf P w K mg base 2 g con := tbl_cons (fo_read_order X) tbl_nil
theorem fo_read_orders (X : M97 P K mg) : FnOf P w K mg base 3 "read_orders" conRds := FnOf.of_in (Γ := G_rds) X.dread_orders sc_read_orders bd_read_orders rfl (by decide) (mods97 X) (tab_rds X) cs_read_orders ok_read_orders
def runX97 (args : List OT) (ex : Str → Option (Int → Prop)) : Prop := ∃ rows, args = [.sh (T (jn 10 rows))] ∧ goodRows rows ∧ jn 10 rows ≠ [] ∧ ∃ (j : Nat) (k : Int → Prop), bad97 rows j ∧ ex "BadOrder" = some k ∧ k ((j : Nat) + 1)
theorem fo_law_text (X : M97 P K mg) : FnOf P w K mg base 4 "_law_text" conText := by
  obtain ⟨aC, aR, fI, T0, hR, exR, TX, XF⟩ := X.exc.ex
  obtain ⟨fG, fdG, FGd, hmG⟩ := X.dread_orders.ex
  have FX : FnOk P w K mg base (L2.CX P w) 3 fG fdG ["text"] (spX K (fun c => if c = "BadOrder" then some (aC, "line") else none) 1 (wpX G_rds 1 N_read_orders.length d_read_orders)) :=
    fn_okX FGd sc_read_orders (by decide) (mods97 X) (tab_rds X) (fun c x h => by
      by_cases hc : c = "BadOrder"
      · rw [if_pos hc] at h
        cases h
        rw [hc]
        exact ⟨fI, "line ", T0, by show (("line" : Str) == "self") = false; decide, by show (("line" : Str) == "__debug__") = false; decide, by decide +kernel⟩
      · rw [if_neg hc] at h
        cases h) cs_read_orders
  refine FnOf.tryT (runX := runX97) (g := "read_orders") (a := "text") (n := "e") (RE := "RuleError") (C := "BadOrder") (fld := "line") (s1 := mk wTold) (s2 := mk wWrong) (pg := "text") (Γ := G_text) (body := d_tryT) (tb := tryB st_law_text) X.dlaw_text sc_law_text bd_law_text rfl rfl rfl cs_tryT (mods97 X) (tbl_cons (fo_read_orders X) tbl_nil)
    (by decide +kernel) (by decide +kernel) (by decide +kernel) (by decide +kernel) (by decide +kernel) (by decide +kernel) (by decide +kernel) (by decide +kernel) (by decide +kernel) (by decide +kernel) (by decide +kernel) hR exR T0.gC TX XF T0.noN
    ⟨fG, fdG, hmG, FX.imp fun vs H Q E q => ?_, FGd.kp, FGd.binds bd_read_orders⟩ fun args Q h => ?_
  · obtain ⟨hl, C0, φ, args, ex, ao, Sa, ⟨rows, rfl, hg, h0, j, k, hb, hk, hkk⟩, kk⟩ := q
    exact ⟨hl, C0, φ, _, ex, ao, Sa, okx_read_orders hg h0 hb hk hkk, kk⟩
  · rcases ok_text args Q h with h | ⟨d, j, rfl, ⟨rows, rfl, hg, h0, j', hb, rfl⟩, q⟩
    · exact .inl h
    · exact .inr ⟨_, _, rfl, ⟨rows, rfl, hg, h0, j', _, hb, if_pos rfl, rfl⟩, q⟩
theorem tab_law97 (X : M97 P K mg) : ∀ g con, G_law97.fn g = some con → FnOf P w K mg base 4 g con :=
  tbl_cons ((fo_law_digits X).mono (by decide)) (tbl_cons ((fo_law_draw X).mono (by decide)) (tbl_cons ((fo_law_order X).mono (by decide)) (tbl_cons ((fo_write_order X).mono (by decide)) (tbl_cons ((fo_read_order X).mono (by decide)) (tbl_cons ((fo_law_read X).mono (by decide)) (tbl_cons ((fo_law_bent X).mono (by decide))
  (tbl_cons ((fo_write_orders X).mono (by decide)) (tbl_cons ((fo_law_text X).mono (by decide)) (tbl_cons ((fo_law_same X 3).mono (by decide)) tbl_nil)))))))))
theorem fo_law97 (X : M97 P K mg) {f : Addr} {fd : FuncData} (F : Fun K "law" "law" st_law f fd) : FnOk P w K mg base CX0 5 f fd ["script"] (spC K conLaw) :=
  (fn_ok (Γ := G_law97) F sc_law rfl (by decide) (mods97 X) (tab_law97 X) cs_law).imp fun vs H Q E q => spC_imp (con := ⟨[false], wpF G_law97 ⟨[false], N_law.length, d_law⟩⟩) (con' := conLaw) rfl ok_law97 q
/-- the exceptions as they stand in the written part -/
theorem exc97 {h : Heap} (X : K.In h) (G : h.Ns mainGlobals mg) {aC aR fI cda cc N : Addr} {nm q qual file : Str} {tf : Tok} {bs bm : List Value} {sn : List Str} {sub : List Value} {ab : Bool} {col : Option Bool} {dd od an cdd cld : Option Addr} {m0 m1 m2 m3 m5 : Option Value}
    {oc dV kV doc pm ct ccl cl : Value} {osl ccs csl : Array (Option Value)} {vs : Array Value} {params : Arguments} {body : List Stmt} {scope : Scope} {names : List (Str × NameKind)} {q1 q2 q3 q4 q5 q6 q7 q8 q9 q10 q11 q12 q13 p1 p2 : Pos} {j : Nat} {pl : PySem.Env → Sem Bool}
    (gC : PySem.W.nsIn K mainGlobals "BadOrder" = some (some (.ref aC))) (gR : PySem.W.nsIn K mainGlobals "RuleError" = some (some (.ref aR))) (gs : PySem.W.nsIn K mainGlobals "super" = some none)
    (xL : K.lookup aC = some (excClassObj nm q aC N bs bm true sn sub ab col dd m0 m1 m2 m3 m5 "ValueError.__new__")) (hbm : PySem.HandSPX.refsVE bm = true)
    (al : PySem.W.ks_superIn K aC aC "__init__" = some (some (.builtin "ValueError.__init__"))) (th : PySem.W.nsIn K cStatics "thirdparty.any" = some none)
    (sa : PySem.W.findIn K (.ref aC) "__setattr__" = some (some (.builtin "object.__setattr__"))) (noN : PySem.W.findIn K (.ref aC) "line" = some none) (iC : PySem.W.findIn K (.ref aC) "__init__" = some (some (.ref fI)))
    (tC : PySem.W.typeIn K (.ref fI) = some (.type "function")) (kC : PySem.W.keepIn K (.ref aC) = true) (exC : PySem.W.subIn K (.ref aC) (.type "BaseException") = some true) (veC : PySem.W.subIn K (.ref aC) (.type "ValueError") = some true)
    (mC : PySem.W.mroIn K aC (.ref aC) = some true) (tyC : PySem.W.typeIn K (.ref aC) = some (.type "type")) (ga : PySem.W.findIn K (.ref aC) "__getattribute__" = some (some (.builtin "BaseException.__getattribute__")))
    (gg : PySem.W.findIn K (.ref aC) "__getattr__" = some none) (hdC : PySem.W.hasDictIn K aC = true) (top : (P.main.scope.names.lookup ("super" : Str)).isSome = false)
    (l1 : K.lookup fI = some ⟨oc, od, .func (PySem.W.ksFn "__init__" qual params body scope dV kV doc pm an (.ref cda) ct cc), osl⟩) (c1 : PySem.W.codeIn K (.ref cda) qual = true)
    (l2 : K.lookup cc = some ⟨cl, cld, .cell (some (.ref aC)), csl⟩) (l3 : K.lookup cda = some ⟨ccl, cdd, .fields vs, ccs⟩) (hv : vs[2]? = some (.str file tf)) (hf : ((P.main.file : Str) == file) = true)
    (hp : params = { posonlyargs := [], args := [{ arg := "self", annotation := none, pos := p1 }, { arg := "line", annotation := none, pos := p2 }], vararg := none, kwonlyargs := [], kw_defaults := [], kwarg := none, defaults := [] })
    (hbd : body = [.Expr (.Call (.Attribute (.Call (.Name "super" q1) [] [] q2) "__init__" q3) [.JoinedStr [.Constant (.str "line ") j q4, .FormattedValue (.Name "line" q5) (-1) none q6] q7] [] q8) q13,
      .Assign [.Attribute (.Name "self" q9) "line" q10] (.Name "line" q11) q12])
    (hs : scope = { kind := .function, names := names, isGenerator := false, isCoroutine := false, more := [] }) (hn1 : ∀ x ∈ names, x.2 ≠ .cell) (hn2 : names.lookup ("super" : Str) = some .globalImplicit) (hn3 : names.lookup ("__class__" : Str) = some .free) (hn4 : names.lookup ("self" : Str) = some .local) (hn5 : names.lookup ("line" : Str) = some .local)
    (hbi : ∀ a b : Value, bindArgs (PySem.W.ksFn "__init__" qual params body scope dV kV doc pm an (.ref cda) ct cc) ⟨[a, b], []⟩ = pure [(("self" : Str), a), ("line", b)])
    (hev : ∀ env, eval (.Call (.Attribute (.Call (.Name "super" q1) [] [] q2) "__init__" q3) [.JoinedStr [.Constant (.str "line ") j q4, .FormattedValue (.Name "line" q5) (-1) none q6] q7] [] q8) env = (do
      let ov ← attributeBase (.Call (.Name "super" q1) [] [] q2) "__init__" env (eval (.Call (.Name "super" q1) [] [] q2) env)
      standAt q3.atName
      let (f, first) ← holding [ov] (getMethod ov "__init__" (pl env))
      callWith q8 f first (backTo q8 (starEach [.JoinedStr [.Constant (.str "line ") j q4, .FormattedValue (.Name "line" q5) (-1) none q6] q7] env)) []))
    (hcl : PySem.W.findIn K (.ref aC) "__class__" = some (some (.builtin "object.__class__"))) (hsp : PySem.W.specialIn K (.builtin "object.__class__") "__get__" = some (some (.builtin "getset_descriptor.__get__"))) (htk : PySem.W.takesIn K (.builtin "object.__class__") = some true)
    (hmo : PySem.W.mroIn K aC (.type "object") = some true) (sR : PySem.W.subIn K (.ref aR) (.type "BaseException") = some true) (dR : PySem.W.hasDictIn K aR = true) (tR : PySem.W.typeIn K (.ref aR) = some (.type "type")) (sCR : PySem.W.subIn K (.ref aC) (.ref aR) = some true) : Exc97 P K mg :=
  ⟨aC, aR, fI, ⟨PySem.W.mg_of X G gC, ⟨nm, q, N, bs, bm, sn, sub, ab, col, dd, m0, m1, m2, m3, m5, xL, hbm⟩, al, th, sa, noN, iC, tC, kC, exC, veC, mC, tyC, ga, gg, hdC, PySem.W.mg_none_of X G gs, top,
    ⟨oc, od, params, body, scope, names, dV, kV, doc, pm, an, cda, ct, osl, cc, qual, ccl, cl, cdd, cld, ccs, csl, vs, file, tf, q1, q2, q3, q4, q5, q6, q7, q8, q9, q10, q11, q12, q13, p1, p2, j, l1, c1, hp, hbd, hbi, hs, hn1, hn2, hn3, hn4, hn5, ⟨pl, hev⟩, l2, l3, hv, hf⟩⟩,
    PySem.W.mg_of X G gR, PySem.W.exm_ref sR dR tR sCR, ⟨ga, gg, exC, hdC, hcl, hsp, htk, hmo⟩, ⟨ga, gg, exC, hdC⟩⟩
end
end TW
end
section
set_option Elab.async false
set_option linter.all false
/-! E97: law_k97 holds -/
open PySem PySem.W PyProof.Rows
set_option maxRecDepth 100000 in
set_option maxHeartbeats 0 in
theorem PySem.Challenge.cw_ruleyard_k97_orders_read_and_written_holds : PySem.Challenge.rw_ruleyard_k97_orders_read_and_written.Holds := by
  w_on; o_law; k_head; (case hw => w_witness2)
  k_fill
  refine TW.law_walk (l := PySem.Challenge.rw_ruleyard_k97_orders_read_and_written) (k := 5) (st := TW.st_law) rfl rfl ⟨rfl, by decide, by decide⟩ (fun w h Y => PySem.W.kIn_of Y) TW.bd_law ?F
  case F =>
    intro w mg h KX G
    have dis_word : TW.DefIn (L2.KOf KX) mg "is_word" TW.st_is_word := by
      refine' (TW.DefIn.mk' (x := "is_word") (st := TW.st_is_word) KX G ?a ?l ?c ?k :)
      (case a => k_is); (case l => k_is); (case c => k_is); (case k => k_is)
    have dnumber_of : TW.DefIn (L2.KOf KX) mg "number_of" TW.st_number_of := by
      refine' (TW.DefIn.mk' (x := "number_of") (st := TW.st_number_of) KX G ?a ?l ?c ?k :)
      (case a => k_is); (case l => k_is); (case c => k_is); (case k => k_is)
    have dread_order : TW.DefIn (L2.KOf KX) mg "read_order" TW.st_read_order := by
      refine' (TW.DefIn.mk' (x := "read_order") (st := TW.st_read_order) KX G ?a ?l ?c ?k :)
      (case a => k_is); (case l => k_is); (case c => k_is); (case k => k_is)
    have dread_orders : TW.DefIn (L2.KOf KX) mg "read_orders" TW.st_read_orders := by
      refine' (TW.DefIn.mk' (x := "read_orders") (st := TW.st_read_orders) KX G ?a ?l ?c ?k :)
      (case a => k_is); (case l => k_is); (case c => k_is); (case k => k_is)
    have dwrite_order : TW.DefIn (L2.KOf KX) mg "write_order" TW.st_write_order := by
      refine' (TW.DefIn.mk' (x := "write_order") (st := TW.st_write_order) KX G ?a ?l ?c ?k :)
      (case a => k_is); (case l => k_is); (case c => k_is); (case k => k_is)
    have dwrite_orders : TW.DefIn (L2.KOf KX) mg "write_orders" TW.st_write_orders := by
      refine' (TW.DefIn.mk' (x := "write_orders") (st := TW.st_write_orders) KX G ?a ?l ?c ?k :)
      (case a => k_is); (case l => k_is); (case c => k_is); (case k => k_is)
    have dlaw_cell : TW.DefIn (L2.KOf KX) mg "_law_cell" TW.st_law_cell := by
      refine' (TW.DefIn.mk' (x := "_law_cell") (st := TW.st_law_cell) KX G ?a ?l ?c ?k :)
      (case a => k_is); (case l => k_is); (case c => k_is); (case k => k_is)
    have dlaw_digits : TW.DefIn (L2.KOf KX) mg "_law_digits" TW.st_law_digits := by
      refine' (TW.DefIn.mk' (x := "_law_digits") (st := TW.st_law_digits) KX G ?a ?l ?c ?k :)
      (case a => k_is); (case l => k_is); (case c => k_is); (case k => k_is)
    have dlaw_draw : TW.DefIn (L2.KOf KX) mg "_law_draw" TW.st_law_draw := by
      refine' (TW.DefIn.mk' (x := "_law_draw") (st := TW.st_law_draw) KX G ?a ?l ?c ?k :)
      (case a => k_is); (case l => k_is); (case c => k_is); (case k => k_is)
    have dlaw_pick : TW.DefIn (L2.KOf KX) mg "_law_pick" TW.st_law_pick := by
      refine' (TW.DefIn.mk' (x := "_law_pick") (st := TW.st_law_pick) KX G ?a ?l ?c ?k :)
      (case a => k_is); (case l => k_is); (case c => k_is); (case k => k_is)
    have dlaw_same : TW.DefIn (L2.KOf KX) mg "_law_same" TW.st_law_same := by
      refine' (TW.DefIn.mk' (x := "_law_same") (st := TW.st_law_same) KX G ?a ?l ?c ?k :)
      (case a => k_is); (case l => k_is); (case c => k_is); (case k => k_is)
    have dlaw_is_word : TW.DefIn (L2.KOf KX) mg "_law_is_word" TW.st_law_is_word := by
      refine' (TW.DefIn.mk' (x := "_law_is_word") (st := TW.st_law_is_word) KX G ?a ?l ?c ?k :)
      (case a => k_is); (case l => k_is); (case c => k_is); (case k => k_is)
    have dlaw_number : TW.DefIn (L2.KOf KX) mg "_law_number" TW.st_law_number := by
      refine' (TW.DefIn.mk' (x := "_law_number") (st := TW.st_law_number) KX G ?a ?l ?c ?k :)
      (case a => k_is); (case l => k_is); (case c => k_is); (case k => k_is)
    have dlaw_asked : TW.DefIn (L2.KOf KX) mg "_law_asked" TW.st_law_asked := by
      refine' (TW.DefIn.mk' (x := "_law_asked") (st := TW.st_law_asked) KX G ?a ?l ?c ?k :)
      (case a => k_is); (case l => k_is); (case c => k_is); (case k => k_is)
    have dlaw_read : TW.DefIn (L2.KOf KX) mg "_law_read" TW.st_law_read := by
      refine' (TW.DefIn.mk' (x := "_law_read") (st := TW.st_law_read) KX G ?a ?l ?c ?k :)
      (case a => k_is); (case l => k_is); (case c => k_is); (case k => k_is)
    have dlaw_word : TW.DefIn (L2.KOf KX) mg "_law_word" TW.st_law_word := by
      refine' (TW.DefIn.mk' (x := "_law_word") (st := TW.st_law_word) KX G ?a ?l ?c ?k :)
      (case a => k_is); (case l => k_is); (case c => k_is); (case k => k_is)
    have dlaw_order : TW.DefIn (L2.KOf KX) mg "_law_order" TW.st_law_order := by
      refine' (TW.DefIn.mk' (x := "_law_order") (st := TW.st_law_order) KX G ?a ?l ?c ?k :)
      (case a => k_is); (case l => k_is); (case c => k_is); (case k => k_is)
    have dlaw_bent : TW.DefIn (L2.KOf KX) mg "_law_bent" TW.st_law_bent := by
      refine' (TW.DefIn.mk' (x := "_law_bent") (st := TW.st_law_bent) KX G ?a ?l ?c ?k :)
      (case a => k_is); (case l => k_is); (case c => k_is); (case k => k_is)
    have dlaw_text : TW.DefIn (L2.KOf KX) mg "_law_text" TW.st_law_text := by
      refine' (TW.DefIn.mk' (x := "_law_text") (st := TW.st_law_text) KX G ?a ?l ?c ?k :)
      (case a => k_is); (case l => k_is); (case c => k_is); (case k => k_is)
    have dlaw : TW.DefIn (L2.KOf KX) mg "law" TW.st_law := by
      refine' (TW.DefIn.mk' (x := "law") (st := TW.st_law) KX G ?a ?l ?c ?k :)
      (case a => k_is); (case l => k_is); (case c => k_is); (case k => k_is)
    have bi : ∀ x ∈ TW.bltNames, mg x = none := by
      intro x hx
      simp only [TW.bltNames, List.mem_cons, List.not_mem_nil, or_false] at hx
      rcases hx with rfl | rfl | rfl | rfl | rfl | rfl | rfl | rfl | rfl | rfl | rfl | rfl | rfl | rfl | rfl
      all_goals (refine' PySem.W.mg_none_of KX G ?z; (case z => k_is))
    have csmall : ∃ t, mg "SMALL" = some (.str (TW.mk TW.small) t) := by
      refine' TW.mgAt KX G ?z ?e
      (case z => k_is)
      (case e => exact ⟨_, rfl⟩)
    have cbare : TW.TupC (L2.KOf KX) mg "BARE" [TW.wBooks, TW.wBegin, TW.wEnd, TW.wDrop] := by
      refine' (TW.tupC (x := "BARE") (ws := [TW.wBooks, TW.wBegin, TW.wEnd, TW.wDrop]) KX G ?e ?l ?c ?zlen :)
      (case e => k_is); (case l => k_is); (case c => rfl); (case zlen => decide)
    have casked : TW.TupC (L2.KOf KX) mg "ASKED" TW.asked := by
      refine' (TW.tupC (x := "ASKED") (ws := TW.asked) KX G ?e ?l ?c ?zlen :)
      (case e => k_is); (case l => k_is); (case c => rfl); (case zlen => decide)
    have exc : TW.Exc97 PySem.Challenge.rw_ruleyard_k97_orders_read_and_written.prog (L2.KOf KX) mg := by
      refine' (TW.exc97 (P := PySem.Challenge.rw_ruleyard_k97_orders_read_and_written.prog) KX G ?gC ?gR ?gs ?xL ?hbm ?al ?th ?sa ?noN ?iC ?tC ?kC ?exC ?veC ?mC ?tyC ?ga ?gg ?hdC ?top ?l1 ?c1 ?l2 ?l3 ?hv ?hf ?hp ?hbd ?hs ?hn1 ?hn2 ?hn3 ?hn4 ?hn5 ?hbi ?hev ?hcl ?hsp ?htk ?hmo ?sR ?dR ?tR ?sCR :)
      (case gC => k_is); (case gR => k_is); (case gs => k_is); (case xL => k_is); (case hbm => decide +kernel); (case al => ks_is); (case th => k_is); (case sa => k_is); (case noN => k_is); (case iC => k_is); (case tC => k_is); (case kC => k_is)
      (case exC => k_is); (case veC => k_is); (case mC => k_is); (case tyC => k_is); (case ga => k_is); (case gg => k_is); (case hdC => k_is); (case top => decide +kernel); (case l1 => k_is); (case c1 => k_is); (case l2 => k_is); (case l3 => k_is)
      (case hv => rfl); (case hf => decide +kernel); (case hp => rfl); (case hbd => rfl); (case hs => rfl); (case hn1 => decide +kernel); (case hn2 => decide +kernel); (case hn3 => decide +kernel); (case hn4 => decide +kernel); (case hn5 => decide +kernel)
      (case hbi => exact fun a b => rfl); (case hev => exact fun env => rfl); (case hcl => k_is); (case hsp => k_is); (case htk => k_is); (case hmo => k_is); (case sR => k_is); (case dR => k_is); (case tR => k_is); (case sCR => k_is)
    exact ⟨dlaw, fun f fd F base => TW.fo_law97 ⟨dis_word, dnumber_of, dread_order, dread_orders, dwrite_order, dwrite_orders, dlaw_cell, dlaw_digits, dlaw_draw, dlaw_pick, dlaw_same, dlaw_is_word, dlaw_number, dlaw_asked, dlaw_read, dlaw_word, dlaw_order, dlaw_bent, dlaw_text, bi, csmall, cbare, casked, exc⟩ F⟩
end
