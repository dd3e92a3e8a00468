import PyProof.Rows.All
import Wide.All
import OpenK.AllK
import Wide.FinOn
import HandS.Base
import HandS.Call
import HandS.Exc
import HandS.ExcOwn
import HandS.ExcInit
import HandS.ExcCtx
import HandS.Comp
import HandS.Hot
import HandS.HotCalls
import KE.KExcIs
import HandS.ExcIs
import HandS.IsInst
import HandS.ExcField
import HandS.Lambda
import HandS.ForMost
import PyProof.Draws
import PyProof.EnumMake
import HandS.Strs
import HandS.SetFor
import HandS.Conv
import HandS.Codes
import HandS.List
import PyProof.Rows.SortStr
import PyProof.Rows.StrMeet
import HandS.Deep
import HandS.TupAny
import HandS.TupMul
import HandS.SortInts
import HandS.WordsExc
import HandS.EndTab
import PyProof.ReprRoads
import PyProof.ReprHeadsTuple
import PyProof.StrLawsRepr
import PyProof.CallStr
import HandS.RaiseMore
import HandS.TupLe
import HandS.SortOrd
import HandS.SortKw
import KE.KSortKeySt
import HandS.Zip
import PySem.Challenge.RW_oneair_k11_whole_the_shortest_for_two
set_option Elab.async false
set_option linter.all false
set_option maxRecDepth 100000
set_option maxHeartbeats 4000000
/-! ExA: own exceptions whose __init__ calls that of their own base. -/
namespace ExA
open PySem PySem.Spec PyProof.Rows L2
/-- what the written part says of a base class that makes nothing of its own -/
structure BaseC (K : PySem.W.Frag) (C : Addr) : Prop where
  ga : PySem.W.specialIn K (.ref C) "__getattribute__" = some (some (.builtin "type.__getattribute__"))
  ty : PySem.W.typeIn K (.ref C) = some (.type "type")
  rd : PySem.W.readsIn K C (.type "type") = true
  it : PySem.W.findCls K (.ref C) (.type "type") "__init__" = some (.val (.builtin "ValueError.__init__"))
section
variable {X : Cx} {o e : Expr} {es : List Expr} {to te : TE} {ta : TA} {f x : Str} {C : Addr} {p p' p1 p2 pos : Pos}
theorem pe_aeinit {pl : Sem Bool} (hg : Gl X x) (hm : X.mg x = some (.ref C)) (B : BaseC X.K C) (ha : PA X (e :: es) ta)
    (hc : eval (.Call (.Attribute (.Name x p1) "__init__" p2) (e :: es) [] pos) X.env = (do
      let ov ← eval (.Name x p1) X.env
      standAt p2.atName
      let (f, first) ← holding [ov] (getMethod ov "__init__" pl)
      callWith pos f first (backTo pos (starEach (e :: es) X.env)) (backToKw pos (keywordEach [] X.env))) := by rfl)
    (hdb : (x == ("__debug__" : Str)) = false := by decide)
    (he : starEach (e :: es) X.env = (false, eval e X.env) :: starEach es X.env := by rfl) (hpl : (backTo pos (starEach es X.env)).any (·.1) = false := by rfl) :
    PE X (.Call (.Attribute (.Name x p1) "__init__" p2) (e :: es) [] pos) (tVeI X.K ta) := by
  refine ⟨fun pins s σ H Q I h => ?_⟩
  refine PySem.W.methodCall_KW (ld_glob I hg hm ?_ hdb) hc
  obtain ⟨m, fr⟩ := I.fr
  refine PySem.W.method_of_cls fr I.ok.mod.kin B.ga (PySem.W.cls_val fr I.ok.mod.kin B.ty B.rd B.it (by decide +kernel) ?_)
  show wpAny _ _ (callWith pos (Value.builtin "ValueError.__init__") [] (backTo pos (starEach (e :: es) X.env)) []) _ _ _
  refine PyProof.Rows.callWith_method1 (thn (ha.run pos pins _ σ H _ (I.tok _) h) fun us s1 ⟨vs, H1, I1, r1, a, C, ws, ev, hl, T, ea, q⟩ => ?_) he hpl
  subst ev
  cases r1 with
  | @cons _ u0 _ ur ra rw' =>
    obtain rfl : u0 = Value.ref a := ra
    have hlen : ur.length ≤ sizeLine := by
      rw [← Paired.length rw', sizeLine_eq]
      omega
    exact oinit_ok T I1 ea hlen fun s' J => ⟨.non, H1, J, rfl, q⟩
/-- C(e, ..), its context None -/
theorem pmk_oexN {CX : CXT} {x : Str} {C fI : Addr} {k : Nat} {fd : FuncData} {ps : List Str} {sp : Sp} {ds : List Value} {dvs : List V} (T : OexC X.K C) (iC : PySem.W.findIn X.K (.ref C) "__init__" = some (some (.ref fI))) (tI : PySem.W.typeIn X.K (.ref fI) = some (.type "function"))
    (F1 : FnOk X.prog X.w X.K X.mg X.base CX k fI fd ps sp) (hr : Room (k + 1) X.A) (hb : L2.Binds X.K fd ps ds) (hd : Vals dvs ds) (hx : Passes CX X (fun _ _ _ => False)) (hg : Gl X x) (hm : X.mg x = some (.ref C)) (ha : PA X (e :: es) ta)
    (hdb : (x == ("__debug__" : Str)) = false := by decide) (he : starEach (e :: es) X.env = (false, eval e X.env) :: starEach es X.env := by rfl) (hpl : (backTo pos (starEach es X.env)).any (·.1) = false := by rfl) :
    L2N.PMk X (.Call (.Name x p) (e :: es) [] pos) (tMkO C sp dvs ta) := by
  intro pins s σ H Q I h
  obtain ⟨nm, q, N, bs, bm, sn, sub, ab, col, dd, k0, k1, k2, k3, k5, hC, hbm⟩ := T.cls
  refine wpAny_Call_Name_kw (ld_glob I hg hm ?_ hdb)
  refine PySem.W.callWith_K (h₀ := X.base) I.ok.mod.kin T.kC (thn (ha.run pos pins s σ H _ I h) fun us s1 ⟨vs, H1, I1, r1, hz, q1⟩ => ⟨I1.kIn, ?_⟩) he hpl
  show wpAny _ _ (call (.ref C) us) _ _ _
  obtain ⟨hp, g, dr, tk, os⟩ := s1
  have hsz : hp.objs.size ≤ hp.objs.size + 1 := Nat.le_succ _
  have hn : H1 (hp.objs.size + 1) = none := I1.hok.fresh hsz
  have hq := q1 (hp.objs.size + 1) hn
  have kk : ∀ b o, hp.get? b = some o → ((hp.push (PySem.W.kdv_tup us)).push (PySem.HandSPX.excO C hp.objs.size)).get? b = some o := fun b o e => Heap.get?_push_of_some _ (Heap.get?_push_of_some _ e)
  have hget : ((hp.push (PySem.W.kdv_tup us)).push (PySem.HandSPX.excO C hp.objs.size)).get? (hp.objs.size + 1) = some (PySem.HandSPX.excO C hp.objs.size) := by heap_get
  have I2 : Inv X pins σ (upd H1 (hp.objs.size + 1) (exo (hp.objs.size + 1) C none)) ⟨(hp.push (PySem.W.kdv_tup us)).push (PySem.HandSPX.excO C hp.objs.size), g, dr, tk, os⟩ :=
    I1.laid (t' := tk) (a := hp.objs.size + 1) (o := exo (hp.objs.size + 1) C none) (h' := (hp.push (PySem.W.kdv_tup us)).push (PySem.HandSPX.excO C hp.objs.size)) kk hsz (exo_ok hget)
  have r2 : Vals (V.ref (hp.objs.size + 1) :: (vs ++ dvs)) (Value.ref (hp.objs.size + 1) :: (us ++ ds)) := .cons rfl (r1.append hd)
  have hl : (Value.ref (hp.objs.size + 1) :: us ++ ds).length = ps.length := by
    have e := r2.length
    rw [F1.len _ _ _ _ hq] at e
    exact e.symm
  have hus : us.length ≤ sizeLine := by
    rw [← Paired.length r1, sizeLine_eq]
    omega
  refine wpAny_call (PySem.HandSPX.call_own F.excBase_ValueError (fun Y => PySem.HandSPX.refsVE_contains Y bm hbm) (I1.kIn _ _ hC) (PySem.W.looks_findIn I1.kIn iC) (fun self => PySem.W.bind_fn I1.kIn self tI) hus
    (codeAny_mono (F1.run _ X.stack _ _ ⟨Value.ref (hp.objs.size + 1) :: us, []⟩ (Value.ref (hp.objs.size + 1) :: (us ++ ds)) _ _ (fun _ _ _ => False) (hr.make C us []) (I2.env0.make C us []) (hb _ (Value.ref (hp.objs.size + 1) :: us) I2.kIn hl) r2 hq) fun r s' hq' => ?_))
  cases r with
  | error er => exact hx pins σ _ _ er s' I2 hq'
  | ok fl =>
    cases fl with
    | ret u =>
      obtain ⟨v, H2, os2, bare2, un2, hok2, rv, ev, d, fs, ea, ed, hd1, q2⟩ := hq'
      subst ev
      obtain ⟨h2, g2, d2, t2, os'⟩ := s'
      obtain ⟨t0, G, J, kG, ge, hoe, na⟩ := mk_end0 (d2 := d2) (t2 := t2) I1 hsz kk un2 hok2 os2 bare2 ea ed hd1
      refine ⟨rv, ⟨hp.objs.size + 1, _, _, ⟨G, g2, d2, t2, os'⟩, _, .ref C, some d, rfl, J, kG, ge, hoe, ⟨rfl, rfl, fun vs hv => ?_⟩, rfl, rfl, na, rfl, bare2, raises_own T.exC T.tyC, q2⟩⟩
      cases hv
      rfl
    | next => exact False.elim hq'
    | brk => exact False.elim hq'
    | cont => exact False.elim hq'
/-- what such an __init__ promises -/
def spIn (K : PySem.W.Frag) (f : Str) : Sp := fun vs H Q _ => ∃ (a C : Addr) (y : V), vs = [.ref a, y] ∧ OexC K C ∧ H a = some (exo a C none) ∧ PySem.W.findIn K (.ref C) f = some none ∧ ∀ dx, H dx = none → dx ≠ a → Q .non (upd (upd H dx (exd dx [(f, y)])) a (exo a C (some dx)))
end
/-- def __init__(self, w): B.__init__(self, w); self.f = w -/
theorem init_ok {pl : Env → Sem Bool} {CX : CXT} {P : Program} {w : World} {K : PySem.W.Frag} {mg : Str → Option Value} {base : Heap} {k : Nat} {fI C : Addr} {name qual : Str} {params : Arguments} {scope : Scope} {dV kV doc pm cdv ct oc : Value} {an od : Option Addr} {osl : Array (Option Value)}
    {a1 f : Str} {p1 p2 p3 p4 p5 p6 p7 p8 p9 p10 : Pos} (lk : K.lookup fI = some ⟨oc, od, .func (PySem.W.fnOf name qual params [.Expr (.Call (.Attribute (.Name "AirError" p1) "__init__" p2) [.Name "self" p3, .Name a1 p4] [] p5) p6, .Assign [.Attribute (.Name "self" p7) f p8] (.Name a1 p9) p10] scope dV kV doc pm an cdv ct), osl⟩)
    (hcd : PySem.W.codeIn K cdv qual = true) (S : FnScope ["self", a1] ["self", a1] scope) (hgx : scope.names.lookup ("AirError" : Str) = some .globalImplicit) (hv0 : Vis scope "self") (hv1 : Vis scope a1) (hm : mg "AirError" = some (.ref C)) (B : BaseC K C)
    (hc : ∀ env : Env, eval (.Call (.Attribute (.Name "AirError" p1) "__init__" p2) [.Name "self" p3, .Name a1 p4] [] p5) env = (do
      let ov ← eval (.Name "AirError" p1) env
      standAt p2.atName
      let (f, first) ← holding [ov] (getMethod ov "__init__" (pl env))
      callWith p5 f first (backTo p5 (starEach [.Name "self" p3, .Name a1 p4] env)) (backToKw p5 (keywordEach [] env))))
    (hd1 : (a1 == ("__debug__" : Str)) = false := by decide) (hd2 : (a1 == ("__classdict__" : Str)) = false := by decide) :
    FnOk P w K mg base CX (k + 1) fI (PySem.W.fnOf name qual params [.Expr (.Call (.Attribute (.Name "AirError" p1) "__init__" p2) [.Name "self" p3, .Name a1 p4] [] p5) p6, .Assign [.Attribute (.Name "self" p7) f p8] (.Name a1 p9) p10] scope dV kV doc pm an cdv ct) ["self", a1] (spIn K f) := by
  refine fn_of lk hcd S (fun vs H Q E h => by obtain ⟨a, C, y, rfl, _⟩ := h; rfl) fun A outer s H vs Q E hr h => ?_
  obtain ⟨a, C', y, rfl, T, ea, hno, q⟩ := h
  have gl : Gl (cxOf CX P w K mg base ["self", a1] qual scope fI cdv A outer s H E) "AirError" := hgx
  have v0 : ∀ p, PE (cxOf CX P w K mg base ["self", a1] qual scope fI cdv A outer s H E) (.Name "self" p) (tVar 0) := fun p => pe_var (i := 0) rfl hv0
  have v1 : ∀ p, PE (cxOf CX P w K mg base ["self", a1] qual scope fI cdv A outer s H E) (.Name a1 p) (tVar 1) := fun p => pe_var (i := 1) rfl hv1 hd1 hd2
  refine ⟨_, pss_cons (ps_expr (pe_aeinit gl hm B (pa_cons (v0 _) (pa_cons (v1 _) pa_nil)) (hc _)) rfl) (pss_one (ps_ost (v0 _) (v1 _))), ?_⟩
  exact ⟨.ref a, rfl, y, rfl, a, C', [y], rfl, by simp, T, ea, ⟨y, rfl, .ref a, rfl, a, C', rfl, T, hno, .inl ⟨ea, q⟩⟩⟩
end ExA
/-! ExH: a comprehension over a list, where an exception is handled. -/
namespace ExH
open PySem PySem.Spec PyProof.Rows L2
section
variable {prog : Program} {w : World} {A : Around} {E : Value → Shared → Prop} {s : Shared}
theorem pyNext_list_end_hot {it l x1 : Addr} {i : Nat} {items} {Q : Option Value → Shared → Prop} (hot : HotX.HotAt A x1 s.heap)
    (hit : s.heap.IsListIter it l i) (hl : s.heap.IsList l items) (hx : items[i]? = none) (hne : x1 ≠ it)
    (hQ : ∀ h', Heap.ExtBut it s.heap h' → Q none { s with heap := h' }) : wpAny (model prog w) A (pyNext (.ref it)) Q E s := by
  obtain ⟨o, ho, hc, hd⟩ := id hit
  obtain ⟨ol, hol, _, nl, hdl⟩ := hl
  obtain ⟨hh, o1, vs1, h1, d1, c1⟩ := hot
  unfold pyNext
  refine wpAny_bind (wpAny_attempt (wpAny_callSpecial?_slot (name := Str.ofString "__next__") hit.typeIs slot_listiter_next
    (wpAny_call_entry slot_listiter_next hit.typeIs entry_listiter_next ?_ (args_listiter_next _))))
  show wpAny _ _ (field (.ref it) 0 >>= _) _ _ s
  refine wpAny_bind (wpAny_field ho hd (x := .ref l) rfl ?_)
  show wpAny _ _ (if (Value.ref l == Value.none) = true then _ else _) _ _ s
  rw [if_neg (show ¬ ((Value.ref l == Value.none) = true) from Bool.false_ne_true)]
  show wpAny _ _ (field (.ref it) 1 >>= _) _ _ s
  refine wpAny_bind (wpAny_field ho hd (x := .int i 0) rfl ?_)
  show wpAny _ _ (seqItems? (.ref l) >>= _) _ _ s
  refine wpAny_bind (wpAny_seqItems hol hdl ?_)
  simp only [Int.toNat_natCast, hx]
  refine wpAny_bind (wpAny_rule (wpAny_bind (wpAny_setField ho hd (by simp) ?_)))
  show wpAny _ _ (newExc (.type "StopIteration") [] >>= _) _ _ _
  refine wpAny_bind ?_
  simp only [newExc, newTuple]
  refine wpAny_bind (wpAny_newObj_type ?_ (by size_fits))
  refine wpAny_bind (m := firstArgMember _ _) (wpAny_of_eq (a := Value.none) (by first | rfl | (simp only [firstArgMember]; rfl)) ?_)
  refine wpAny_newObj_type ?_ (by size_fits)
  have h1' := (Heap.get?_update_other s.heap (Obj.mapFields (·.setIfInBounds 0 .none)) (Ne.symm hne)).trans h1
  refine HotX.raiseNew_hot ⟨hh, o1, vs1, Heap.get?_push_of_some _ (Heap.get?_push_of_some _ h1'), d1, c1⟩ (Nat.ne_of_lt (Heap.lt_size (Heap.get?_push_of_some _ h1'))) (Heap.get?_push_size _ rfl) rfl (by first | (simp; done) | (simp; omega) | (simp only [Array.size_append]; simp; omega)) ?_
  refine wpAny_bind (wpAny_isInstance (T := "StopIteration") (b := true) ⟨_, Heap.get?_update_self _ (Heap.get?_push_size _ rfl) rfl, rfl⟩ isSubtype_stop ?_)
  refine wpAny_pure (hQ _ ?_)
  intro b u hb e
  have e2 := (Heap.get?_update_other s.heap (Obj.mapFields (·.setIfInBounds 0 .none)) (Ne.symm hb)).trans e
  rw [Heap.get?_update_other _ _ (Nat.ne_of_gt (Heap.lt_size (Heap.get?_push_of_some _ e2)))]
  exact Heap.get?_push_of_some _ (Heap.get?_push_of_some _ e2)
end
structure TurnP (P : Program) (w : World) (K : PySem.W.Frag) (tg : Expr) (J : It) (fp : List Addr) (it : Addr) (tn : Nat → Heap → Prop) : Prop where
  mem : it ∈ fp
  obj : ∀ i h, tn i h → ∀ b ∈ fp, ∃ o, h.get? b = some o ∧ ∀ v, o.data ≠ .cell v
  keep : ∀ i h h', tn i h → (∀ b ∈ fp, ∀ o, h.get? b = some o → h'.get? b = some o) → tn i h'
  item : ∀ (X : Cx), X.prog = P → X.w = w → X.K = K → ∀ (i : Nat) (pins : List (Addr × Obj)) (s : Shared) (σ : L2.St) (H : Hp) (E : Value → Shared → Prop), Inv X pins σ H s → (∃ x1, HotX.HotAt X.A x1 s.heap) → (∀ b ∈ fp, FpOk X pins H b) → tn i s.heap → J.go i H →
    wpAny (model P w) X.A (pyNext (.ref it)) (fun r s1 => ∃ u, r = some u ∧
      wpAny (model P w) X.A (letOwnedTupleGo tg (.ref it) u) (fun _ s2 => ∃ x H', Inv X pins σ H' s2 ∧ RelV x u ∧ J.yld i H x H' ∧ tn (i + 1) s2.heap ∧ ∀ b ∈ fp, H' b = none) E s1) E s
  done : ∀ (X : Cx), X.prog = P → X.w = w → X.K = K → ∀ (i : Nat) (pins : List (Addr × Obj)) (s : Shared) (σ : L2.St) (H : Hp) (E : Value → Shared → Prop), Inv X pins σ H s → (∃ x1, HotX.HotAt X.A x1 s.heap) → (∀ b ∈ fp, FpOk X pins H b) → tn i s.heap → J.stop i H →
    wpAny (model P w) X.A (pyNext (.ref it)) (fun r s1 => r = none ∧ Inv X pins σ H s1) E s
  self : ∀ (A : Around) (i : Nat) (s : Shared) (Q : Value → Shared → Prop) (E : Value → Shared → Prop), tn i s.heap → Q (.ref it) s → wpAny (model P w) A (pyIter (.ref it)) Q E s
theorem turn_listP {P : Program} {w : World} {K : PySem.W.Frag} {tg : Expr} (a it : Addr) : TurnP P w K tg (Itl K a) [it] it (fun i h => h.IsListIter it a i) where
  mem := by simp
  obj := fun i h st b hb => by
    have e : b = it := by simpa using hb
    subst e
    obtain ⟨o, e, c, d⟩ := st
    exact ⟨o, e, fun v z => by rw [d] at z; cases z⟩
  keep := fun i h h' st k => st.at fun o e => k it (by simp) o e
  item := by
    intro X hP hw hK i pins s σ H E I hot hf st hg
    subst hP hw hK
    obtain ⟨xs, x, hq, hx⟩ := hg
    obtain ⟨its, rv, p, hz⟩ := I.list hq
    obtain ⟨u, hu, ru⟩ := rv.get hx
    obtain ⟨f0, f1, f2, f3, f4, f5⟩ := hf it (by simp)
    refine wpAny_pyNext_list_item st p.isList (x := u) (by simpa using hu) fun h' st' sb => ?_
    have I1 : Inv X pins σ H { s with heap := h' } := I.turned (t' := s.toks) (fun b o hb e => (sb.2 b hb).trans e) f0 f1 f3 f4 f5
    obtain ⟨o, e, c, d⟩ := id st'
    exact ⟨u, rfl, go_of (s := { s with heap := h' }) e c d (by decide) ⟨x, H, I1, ru, ⟨rfl, fun ys hy => by rw [I.list_inj hy hq]; exact hx⟩, st', fun b hb => (hf b hb).1⟩⟩
  done := by
    intro X hP hw hK i pins s σ H E I hot hf st hg
    subst hP hw hK
    obtain ⟨xs, hq, hx⟩ := hg
    obtain ⟨its, rv, p, hz⟩ := I.list hq
    obtain ⟨f0, f1, f2, f3, f4, f5⟩ := hf it (by simp)
    obtain ⟨x1, hot⟩ := hot
    have hl := rv.length
    have hne : x1 ≠ it := fun z => by
      obtain ⟨_, o1, vs1, h1, d1, c1⟩ := hot
      obtain ⟨o, e, c, d⟩ := id st
      rw [z, e] at h1
      cases h1
      rw [d] at d1
      cases d1
      cases c1
    exact pyNext_list_end_hot hot st p.isList (by simp; omega) hne fun h' eb => ⟨rfl, I.turned (t' := s.toks) (fun b o hb e => eb b o hb e) f0 f1 f3 f4 f5⟩
  self := fun _ _ _ _ _ st h => wpAny_pyIter_listiter st h
def PIEP (X : Cx) (pins : List (Addr × Obj)) (σ : L2.St) (tg : Expr) (R : It → Hp → Prop) (itv : Value) (s2 : Shared) : Prop :=
  ∃ (it : Addr) (fp : List Addr) (tn : Nat → Heap → Prop) (J : It) (H' : Hp), itv = .ref it ∧ Inv X pins σ H' s2 ∧ TurnP X.prog X.w X.K tg J fp it tn ∧ tn 0 s2.heap ∧ (∀ b ∈ fp, FpOk X pins H' b) ∧ R J H'
structure PIP (X : Cx) (tg iter : Expr) (wi : TI) : Prop where
  run : ∀ (pins : List (Addr × Obj)) (s : Shared) (σ : L2.St) (H : Hp) (R : It → Hp → Prop), Inv X pins σ H s → wi σ H R →
    wpAny (model X.prog X.w) X.A (eval iter X.env) (fun v s1 => wpAny (model X.prog X.w) X.A (pyIter v) (PIEP X pins σ tg R) X.xe s1) X.xe s
section
variable {X : Cx} {tg : Expr}
theorem pi_listP {l : Expr} {tl : TE} (hl : PE X l tl) : PIP X tg l (iList X.K tl) := by
  refine ⟨fun pins s σ H R I h => ?_⟩
  refine thn (hl.run pins s σ H _ I h) fun v s1 ⟨x, H1, I1, r1, q1⟩ => ?_
  obtain ⟨a, e, ⟨xs, hq⟩, q⟩ := q1
  subst e
  cases r1
  obtain ⟨its, rv, p, hz⟩ := I1.list hq
  refine wpAny_pyIter_list p.isList ?_
  refine ⟨s1.heap.objs.size, [s1.heap.objs.size], _, _, H1, rfl, I1.kept (t' := s1.toks) fun b o e => Heap.get?_push_of_some _ e, turn_listP a _, ⟨_, Heap.get?_push_size _ rfl, rfl, rfl⟩, fun b hb => ?_, q⟩
  have e : b = s1.heap.objs.size := by simpa using hb
  subst e
  exact I1.fpOk (Nat.le_refl _) (I1.hok.fresh (Nat.le_refl _))
end
section
variable {X : Cx}
theorem lc_coreH {pins : List (Addr × Obj)} {s : Shared} {σ : L2.St} {H : Hp} {Q : VK} {elt tg iter : Expr} {ifs : List Expr} {scope : Scope} {own : List (Str × Nat)} {pos pos' : Pos} {wi : TI} {g : TG} {tt : TT} {te : TE} {use : Option (Value → Sem Unit)} {Qf : Value → Shared → Prop}
    (hc : L2H.HotC X) (hN : X.N.Nodup) (I : Inv X pins σ H s) (hi : PIP X tg iter wi) (ok : BlkOk X.N X.env.scope scope own)
    (hg : ∀ (s : Shared) (H : Hp) (C : Addr) (cl : List (Str × Addr)) (fp : List Addr), PG (X.blk s H scope (compEnvC scope cl C X.env) fp) tg g) (ht : ∀ (s : Shared) (H : Hp) (C : Addr) (cl : List (Str × Addr)) (fp : List Addr), PTs (X.blk s H scope (compEnvC scope cl C X.env) fp) ifs tt)
    (he : ∀ (s : Shared) (H : Hp) (C : Addr) (cl : List (Str × Addr)) (fp : List Addr), PE (X.blk s H scope (compEnvC scope cl C X.env) fp) elt te) (hs : ∀ x, foldedSetIterable iter X.env x = pure x)
    (h : tLc wi g tt te (own.map (·.2)) σ H Q)
    (hRR : ∀ D C s' m H', Inv X pins σ H' s' → Q (.ref D) H' → s'.heap.Ns C m → FpOk X pins H' C → compPost (model X.prog X.w) X.A X.xe use Qf (.ref D) C (.ok .next) s') :
    wpAny (model X.prog X.w) X.A (comprehension (.ListComp elt [⟨tg, iter, ifs, 0⟩] scope pos) scope X.env pos' (newList []) false (eval iter X.env) use) Qf X.xe s := by
  have hfree : ∀ y ∈ scope.names, y.2 = .free → ∃ c, X.env.cells.lookup y.1 = some c := fun y hy e => by
    rcases ok.free y hy e with k | k
    · exact I.ok.has _ (.inl k)
    · exact I.ok.has _ (.inr k)
  refine wpAny_comprehension_free (use := use) rfl hs (closure_ok hfree) ok.kind (fun y hy e => by rw [ok.uniq y hy, e])
    (thn (hi.run pins s σ H _ I h) fun xv s1 hx => thn hx fun itv s2 h2 => ?_)
  obtain ⟨it, fp, tn, J, H2, e, I2, T, st2, f2, q⟩ := h2
  subst e
  obtain ⟨pp, ⟨hh, v1, pd, pc⟩, hpp⟩ := hc
  have P2 := I2.pin pp (List.mem_append_left _ hpp)
  have pnf : pp.1 ∉ frs X.stack := fun hmm => (List.mem_cons.mp (I2.stkSub pp.1 hmm)).elim P2.2.2.1 P2.2.2.2.1
  have pnp : pp.1 ∉ fp := fun hb => (f2 pp.1 hb).2.2.2.2.2 pp (List.mem_append_left _ hpp) rfl
  refine wpAny_newObj_type (newEnv_comp ?_) (by show 0 ≤ sizeLine; decide)
  generalize hD : s2.heap.objs.size = D
  have hDn : H2 D = none := I2.hok.fresh (Nat.le_of_eq hD)
  obtain ⟨W, ⟨m0, w0⟩, turn⟩ := q D hDn
  -- the new list
  generalize hs3 : ({ s2 with heap := s2.heap.push { cls := .type "list", data := .seq ([] : List Value).toArray } } : Shared) = s3
  have I3 : Inv X pins σ (upd H2 D (.lst [])) s3 := by
    rw [← hs3]
    refine I2.laid (t' := s2.toks) (fun b o e => Heap.get?_push_of_some _ e) (Nat.le_of_eq hD) ⟨Nat.zero_le _, [], 0, .nil, ?_⟩
    rw [← hD]
    exact Heap.get?_push_size _ rfl
  have h3 : s3.heap = s2.heap.push { cls := .type "list", data := .seq ([] : List Value).toArray } := by rw [← hs3]
  have sz : ∀ b ∈ fp, b < s2.heap.objs.size := fun b hb => by
    obtain ⟨o, e, _⟩ := T.obj _ _ st2 b hb
    exact Heap.lt_size e
  have f3 : ∀ b ∈ fp, FpOk X pins (upd H2 D (.lst [])) b ∧ b < s3.heap.objs.size := fun b hb => by
    have hlt := sz b hb
    refine ⟨⟨?_, (f2 b hb).2⟩, by rw [h3, Heap.size_push]; exact Nat.lt_succ_of_lt hlt⟩
    rw [upd_ne (by rw [← hD]; exact Nat.ne_of_lt hlt)]
    exact (f2 b hb).1
  have st3 : tn 0 s3.heap := T.keep _ _ _ st2 fun b _ o e => by rw [h3]; exact Heap.get?_push_of_some _ e
  have I4 := block_start I3 ok hN f3
  have pg3 : s3.heap.get? pp.1 = some pp.2 := by rw [h3]; exact Heap.get?_push_of_some _ P2.1
  have pn3 : (upd H2 D (.lst [])) pp.1 = none := by
    rw [upd_ne (by rw [← hD]; exact Nat.ne_of_lt (Heap.lt_size P2.1))]
    exact P2.2.1
  have pg := hg s3 (upd H2 D (.lst [])) s3.heap.objs.size (cellsFrom (s3.heap.objs.size + 1) scope.names (cloFrom X.env.cells scope.names [])) fp
  have pt := ht s3 (upd H2 D (.lst [])) s3.heap.objs.size (cellsFrom (s3.heap.objs.size + 1) scope.names (cloFrom X.env.cells scope.names [])) fp
  have pe := he s3 (upd H2 D (.lst [])) s3.heap.objs.size (cellsFrom (s3.heap.objs.size + 1) scope.names (cloFrom X.env.cells scope.names [])) fp
  show codeAny _ _ (.compStart (.ListComp elt [⟨tg, iter, ifs, 0⟩] scope pos) 0 (.ref it) (.ref D) (compEnvC scope (cellsFrom (s3.heap.objs.size + 1) scope.names (cloFrom X.env.cells scope.names [])) s3.heap.objs.size X.env)) (compPost (model X.prog X.w) X.A X.xe use Qf (.ref D) s3.heap.objs.size) { s3 with heap := pushCells (s3.heap.push { cls := .type "dict", data := .dict #[] }) scope.names }
  have nfp : ∀ b ∈ fp, (upd H2 D (.lst [])) b = none := fun b hb => (f3 b hb).1.1
  generalize hce : compEnvC scope (cellsFrom (s3.heap.objs.size + 1) scope.names (cloFrom X.env.cells scope.names [])) s3.heap.objs.size X.env = ce at I4 pg pt pe ⊢
  have cL : ce.locals = s3.heap.objs.size := by subst hce; rfl
  generalize hH3 : upd H2 D (.lst []) = H3 at I3 I4 pg pt pe w0 nfp f3 pn3
  generalize hs4 : ({ s3 with heap := pushCells (s3.heap.push { cls := .type "dict", data := .dict #[] }) scope.names } : Shared) = s4 at I4 ⊢
  have st4 : tn 0 s4.heap := T.keep _ _ _ st3 fun b _ o e => by rw [← hs4]; exact pushCells_keeps _ _ _ _ (Heap.get?_push_of_some _ e)
  have stat : ∀ {σ' : L2.St} {H' : Hp} {s' : Shared}, Inv (X.blk s3 H3 scope ce fp) [] σ' H' s' → (∀ b ∈ fp, H' b = none) → ∀ b ∈ fp, FpOk (X.blk s3 H3 scope ce fp) [] H' b := fun {σ' H' s'} I' hn b hb =>
    ⟨hn b hb, (I'.ok.exf b hb).1, I'.ok.exfs b hb, .inl hb, fun x c e => (I'.ok.exf b hb).2 x c e, fun p hp => absurd (show p ∈ ([] : List (Addr × Obj)) ++ [] from hp) (by simp)⟩
  have hotAt : ∀ {σ' : L2.St} {H' : Hp} {s' : Shared}, Inv (X.blk s3 H3 scope ce fp) [] σ' H' s' → ∃ x1, HotX.HotAt X.A x1 s'.heap := fun {σ' H' s'} I' =>
    ⟨pp.1, hh, pp.2, v1, I'.base.keep pp.1 pp.2 pg3 pn3 pnf pnp, pd, pc⟩
  have loop : codeAny (model X.prog X.w) X.A (.compLoop (.ListComp elt [⟨tg, iter, ifs, 0⟩] scope pos) 0 (.ref it) (.ref D) ce) (compPost (model X.prog X.w) X.A X.xe use Qf (.ref D) s3.heap.objs.size) s4 := by
    refine compLoop_any (fun n s' => ∃ i H', Inv (X.blk s3 H3 scope ce fp) [] (wipe σ (own.map (·.2))) H' s' ∧ tn i s'.heap ∧ (∀ b ∈ fp, H' b = none) ∧ W i n H') ?_ m0 ⟨0, H3, I4, st4, nfp, w0⟩
    rintro n s5 ⟨i, H5, I5, st5, n5, w5⟩
    rcases turn i n H5 w5 with ⟨stop, qq⟩ | ⟨go, Nx, hNx, step⟩
    · have td := T.done (X.blk s3 H3 scope ce fp) rfl rfl rfl i [] s5 _ H5 (fun _ _ => False) I5 (hotAt I5) (stat I5 n5) st5 stop
      refine thnF td fun r s6 ⟨hr, I6⟩ => ?_
      subst hr
      -- back in the def's context
      have I7 : Inv X pins σ H5 s6 := I3.call' (ch := fp) I6.os I6.base I6.hok I6.bare fun b hb => ⟨(f3 b hb).1.2.2.2.1, (f3 b hb).1.2.1, (f3 b hb).1.2.2.2.2.1, (f3 b hb).1.2.2.2.2.2⟩
      have nC : H5 s3.heap.objs.size = none := by
        have z : H5 ce.locals = none := I6.free
        rw [cL] at z
        exact z
      obtain ⟨m, hn, _⟩ := I6.loc
      have hn : s6.heap.Ns ce.locals m := hn
      rw [cL] at hn
      exact hRR D s3.heap.objs.size s6 m H5 I7 qq hn (I3.fpOk (Nat.le_refl _) nC)
    · have ti := T.item (X.blk s3 H3 scope ce fp) rfl rfl rfl i [] s5 _ H5 (fun _ _ => False) I5 (hotAt I5) (stat I5 n5) st5 go
      refine thnF ti fun r s6 ⟨u, hr, h6⟩ => ?_
      subst hr
      refine thnF h6 fun _ s7 ⟨x, H7, I7, r7, y7, st7, n7⟩ => ?_
      have I7' := I7.pinned (stat I7 n7) (T.obj _ _ st7)
      refine thnF (pg.run _ s7 _ H7 x u _ I7' r7 (step x H7 y7)) fun _ s8 ⟨σ8, H8, I8, hw8, q8⟩ => ?_
      refine thnF (pt.run _ s8 σ8 H8 _ I8 q8) fun b s9 ⟨H9, I9, q9⟩ => ?_
      -- the turn's end
      have fin : ∀ {s' : Shared} {H' : Hp}, Inv (X.blk s3 H3 scope ce fp) ([] ++ pinsAt fp s7.heap) σ8 H' s' → Nx H' → ∃ m, m < n ∧ ∃ i H', Inv (X.blk s3 H3 scope ce fp) [] (wipe σ (own.map (·.2))) H' s' ∧ tn i s'.heap ∧ (∀ b ∈ fp, H' b = none) ∧ W i m H' := fun {s' H'} I' nx => by
        obtain ⟨m', hm, w'⟩ := hNx H' nx
        have pin' : ∀ b ∈ fp, ∀ o, s7.heap.get? b = some o → s'.heap.get? b = some o ∧ H' b = none := fun b hb o e =>
          let z := I'.pin (b, o) (List.mem_append_right _ (List.mem_append_right _ (mem_pinsAt hb e)))
          ⟨z.1, z.2.1⟩
        have hl : (wipe σ (own.map (·.2))).length = σ8.length := by rw [← hw8, wipe_length]
        refine ⟨m', hm, i + 1, H', (I'.unpinned (pins := [])).weak hl (fun j v e => ?_), T.keep _ _ _ st7 fun b hb o e => (pin' b hb o e).1, fun b hb => ?_, w'⟩
        · rw [← hw8] at e
          exact (wipe_some e).1
        · obtain ⟨o, e, _⟩ := T.obj _ _ st7 b hb
          exact (pin' b hb o e).2
      cases b with
      | false =>
        simp only [Bool.false_eq_true, if_false] at q9 ⊢
        exact fin I9 q9
      | true =>
        simp only [if_true] at q9 ⊢
        refine thnF (pe.run _ s9 σ8 H9 _ I9 q9) fun z s10 ⟨yv, H10, I10, r10, acc, hD10, hz10, nx⟩ => ?_
        exact app_ok (X := X.blk s3 H3 scope ce fp) I10 hD10 hz10 r10 fun s11 I11 => fin I11 nx
  exact codeAny_compStart_list loop (T.self X.A 0 _ _ _ st4 loop)
theorem pe_lcH {elt tg iter : Expr} {ifs : List Expr} {scope : Scope} {own : List (Str × Nat)} {pos : Pos} {wi : TI} {g : TG} {tt : TT} {te : TE} (hc : L2H.HotC X) (hN : X.N.Nodup) (hi : PIP X tg iter wi) (ok : BlkOk X.N X.env.scope scope own)
    (hg : ∀ (s : Shared) (H : Hp) (C : Addr) (cl : List (Str × Addr)) (fp : List Addr), PG (X.blk s H scope (compEnvC scope cl C X.env) fp) tg g) (ht : ∀ (s : Shared) (H : Hp) (C : Addr) (cl : List (Str × Addr)) (fp : List Addr), PTs (X.blk s H scope (compEnvC scope cl C X.env) fp) ifs tt)
    (he : ∀ (s : Shared) (H : Hp) (C : Addr) (cl : List (Str × Addr)) (fp : List Addr), PE (X.blk s H scope (compEnvC scope cl C X.env) fp) elt te) (hs : ∀ x, foldedSetIterable iter X.env x = pure x := by intro _; rfl) :
    PE X (.ListComp elt [⟨tg, iter, ifs, 0⟩] scope pos) (tLc wi g tt te (own.map (·.2))) := by
  refine ⟨fun pins s σ H Q I h => ?_⟩
  rw [eval_ListComp]
  refine lc_coreH hc hN I hi ok hg ht he hs h fun D C s' m H' I' q hn f => ⟨m, hn, fun h'' sb => ?_⟩
  obtain ⟨f0, f1, f2, f3, f4, f5⟩ := f
  exact ⟨.ref D, H', I'.turned (t' := s'.toks) (fun b o hb e => (sb.2 b hb).trans e) f0 f1 f3 f4 f5, rfl, q⟩
end
end ExH
/-! ExI: which kind an exception is, asked where it is handled. -/
namespace ExI
open PySem PySem.Spec PyProof.Rows L2
/-- isinstance(e, c), e the exception at a -/
def rIsX (K : PySem.W.Frag) (D a : Addr) (d : Option Addr) : List V → Hp → VK → Prop := fun xs H Q => ∃ (c : V) (cv : Value) (b : Bool), xs = [.ref a, c] ∧ (∀ u, RelV c u → u = cv) ∧ PySem.W.kitOne K (.ref D) cv = some b ∧ (d = none ∨ ∃ dx fs, d = some dx ∧ H dx = some (.xd fs)) ∧ Q (.bl b) H
theorem cr_isX {X : Cx} {a D : Addr} {d : Option Addr} {oe : Obj} (C : ExcC X.K D) (hp : (a, oe) ∈ X.pn) (hz : Zc (.ref D) d oe) (hf : ∃ vs, oe.data = .fields vs) : CallR X (.builtin "isinstance") (rIsX X.K D a d) := by
  intro pins s σ H xs us Q I r h
  obtain ⟨c, cv, b, rfl, hcv, e, hd, q⟩ := h
  have hcl : (PySem.W.clsIn X.K D).isSome = true := by
    obtain ⟨cdD, hcD, _⟩ := PySem.W.any_some C.hd
    rw [hcD]; rfl
  cases r with
  | cons rx rr =>
    cases rr with
    | cons rt rr =>
      cases rr
      cases rx
      have ec := hcv _ rt
      subst ec
      obtain ⟨hget, _⟩ := I.pin (a, oe) (List.mem_append_left _ hp)
      obtain ⟨vs, hv⟩ := hf
      have J : ∃ od, PySem.W.InstAt s.heap a oe D od := by
        obtain ⟨oc, odd, oda, osl⟩ := oe
        obtain ⟨h1, h2⟩ := hz
        dsimp only at h1 h2 hv
        subst h1 h2 hv
        rcases hd with rfl | ⟨dx, fs, rfl, hx⟩
        · exact ⟨none, hget, rfl, rfl, trivial⟩
        · obtain ⟨mA, hns, _⟩ := I.hok dx _ hx
          obtain ⟨o, es, ep, e1, _⟩ := hns
          exact ⟨some o, hget, rfl, rfl, e1⟩
      obtain ⟨od, J⟩ := J
      exact PySem.W.kia_one (PySem.W.kitx_exc hcl C.hg C.hk C.hs C.ha C.hn C.ht C.hm) I.kIn J e (fun z => nomatch z) fun tk => ⟨.bl b, H, I.kept (t' := tk) fun _ _ z => z, rfl, q⟩
abbrev isN : List Str := ["_law_e", "_law_word", "_law_kinds", "_law_words", "_law_one"]
abbrev isW : List Str := ["number", "rule", "wakes", "plan", "text"]
def isBd (csc : Scope) (k0 k1 k2 k3 k4 : Nat) (p1 p2 p3 p4 p5 p6 p7 p8 p9 p10 p11 p12 p13 p14 p15 p16 p17 p18 p19 p20 p21 p22 p23 p24 p25 p26 p27 p28 p29 p30 p31 p32 p33 p34 p35 p36 p37 p38 p39 p40 p41 p42 p43 p44 p45 p46 p47 p48 p49 : Pos) : List Stmt := [.Assign [.Name "_law_kinds" p1] (.List [.Call (.Name "isinstance" p2) [.Name "_law_e" p3, .Name "BadNumber" p4] [] p5, .Call (.Name "isinstance" p6) [.Name "_law_e" p7, .Name "BadRule" p8] [] p9, .Call (.Name "isinstance" p10) [.Name "_law_e" p11, .Name "BadWakes" p12] [] p13, .Call (.Name "isinstance" p14) [.Name "_law_e" p15, .Name "BadPlan" p16] [] p17] p18) p19,
  .Expr (.Call (.Attribute (.Name "_law_kinds" p23) "append" p20) [.Call (.Name "isinstance" p24) [.Name "_law_e" p25, .Name "BadText" p26] [] p27] [] p21) p22,
  .Assign [.Name "_law_words" p28] (.List [.Constant (.str "number") k0 p29, .Constant (.str "rule") k1 p30, .Constant (.str "wakes") k2 p31, .Constant (.str "plan") k3 p32, .Constant (.str "text") k4 p33] p34) p35,
  .Return (some (.BoolOp .And [.Call (.Name "isinstance" p42) [.Name "_law_e" p43, .Name "ValueError" p44] [] p45, .Compare (.Name "_law_kinds" p46) [.Eq] [.ListComp (.Compare (.Name "_law_word" p36) [.Eq] [.Name "_law_one" p37] p38) [⟨.Name "_law_one" p39, .Name "_law_words" p40, [], 0⟩] csc p41] p47] p48)) p49]
/-- what its scopes say -/
structure IsSc (sc csc : Scope) : Prop where
  v0 : Vis sc "_law_e"
  v1 : Vis sc "_law_word"
  l2 : Loc sc "_law_kinds"
  l3 : Loc sc "_law_words"
  g0 : sc.names.lookup ("isinstance" : Str) = some .globalImplicit
  g1 : sc.names.lookup ("BadNumber" : Str) = some .globalImplicit
  g2 : sc.names.lookup ("BadRule" : Str) = some .globalImplicit
  g3 : sc.names.lookup ("BadWakes" : Str) = some .globalImplicit
  g4 : sc.names.lookup ("BadPlan" : Str) = some .globalImplicit
  g5 : sc.names.lookup ("BadText" : Str) = some .globalImplicit
  g6 : sc.names.lookup ("ValueError" : Str) = some .globalImplicit
  blk : BlkOk isN sc csc [("_law_one", 4)]
  c1 : csc.names.lookup ("_law_word" : Str) = some .free
  c4 : csc.names.lookup ("_law_one" : Str) = some .local
/-- what is known of the classes -/
structure IsK (X : Cx) (C : Nat → Addr) : Prop where
  m0 : X.mg "isinstance" = none
  m1 : X.mg "BadNumber" = some (.ref (C 0))
  m2 : X.mg "BadRule" = some (.ref (C 1))
  m3 : X.mg "BadWakes" = some (.ref (C 2))
  m4 : X.mg "BadPlan" = some (.ref (C 3))
  m5 : X.mg "BadText" = some (.ref (C 4))
  m6 : X.mg "ValueError" = none
theorem xd_up {H : Hp} {d : Option Addr} {p : Addr} {o : HO} (hp : H p = none) (h : d = none ∨ ∃ dx fs, d = some dx ∧ H dx = some (.xd fs)) : d = none ∨ ∃ dx fs, d = some dx ∧ upd H p o dx = some (.xd fs) := by
  rcases h with h | ⟨dx, fs, h1, h2⟩
  · exact .inl h
  · refine .inr ⟨dx, fs, h1, ?_⟩
    rw [upd_ne (fun z => by rw [z, hp] at h2; cases h2)]
    exact h2
theorem pss_imp {X : Cx} {e : List Stmt} {t t' : TS} (h : PSs X e t) (k : ∀ D σ H, t' D σ H → t D σ H) : PSs X e t' := ⟨fun pins s σ H D I q => h.run pins s σ H D I (k D σ H q)⟩
theorem relab_free {env : Env} : ∀ {names : List (Str × NameKind)} {x : Str}, names.lookup x = some .free →
    (names.map fun (n, k) => if (k == NameKind.free && env.scope.kind == .function && env.kindOf n == some .cell) then (n, NameKind.cell) else (n, k)).lookup x = some .free ∨
    (names.map fun (n, k) => if (k == NameKind.free && env.scope.kind == .function && env.kindOf n == some .cell) then (n, NameKind.cell) else (n, k)).lookup x = some .cell
  | [], _, h => by simp at h
  | (n, k) :: r, x, h => by
    have ih := @relab_free env r x
    rw [List.lookup_cons] at h
    by_cases e : (x == n) = true
    · rw [e] at h
      cases h
      rw [List.map_cons]
      by_cases c : (NameKind.free == NameKind.free && env.scope.kind == .function && env.kindOf n == some .cell) = true
      · right
        simp only [c, if_true, List.lookup_cons, e]
      · left
        rw [Bool.not_eq_true] at c
        simp only [c, Bool.false_eq_true, if_false, List.lookup_cons, e]
    · have e' : (x == n) = false := by simpa using e
      rw [e'] at h
      rw [List.map_cons]
      by_cases c : (k == NameKind.free && env.scope.kind == .function && env.kindOf n == some .cell) = true
      · simp only [c, if_true, List.lookup_cons, e']
        exact ih h
      · simp only [c, List.lookup_cons, e']
        simp only [Bool.false_eq_true, if_false, List.lookup_cons, e']
        exact ih h
theorem vis_free {sc : Scope} {env : Env} {x : Str} (h : sc.names.lookup x = some .free) : Vis (relabel sc env) x := (relab_free (env := env) h).elim (fun z => .inr (.inr z)) fun z => .inr (.inl z)
theorem loc_rel {sc : Scope} {env : Env} {x : Str} (h : sc.names.lookup x = some .local) : (relabel sc env).names.lookup x = some .local := lookup_relabel_local h
def isR (b : Nat → Bool) (w : Str) : Bool := decide ([b 0, b 1, b 2, b 3, b 4] = isW.map fun z => decide (w = z))
theorem dp_bls {K : PySem.W.Frag} {H : Hp} : ∀ bs : List Bool, DpAll K H (bs.map V.bl) (bs.map PyData.bool)
  | [] => .nil
  | b :: bs => .cons (.bl b) (dp_bls bs)
theorem shaped_bls (bs : List Bool) : SeqAt.shaped (.list (bs.map PyData.bool)) = true := by
  have h1 : ∀ bs : List Bool, PyData.canLayAll0 (bs.map PyData.bool) = true := fun bs => by
    induction bs with
    | nil => rfl
    | cons b bs ih => simp [PyData.canLayAll0, PyData.canLay0, ih]
  have h2 : ∀ bs : List Bool, PyData.depthAll (bs.map PyData.bool) = 0 := fun bs => by
    induction bs with
    | nil => rfl
    | cons b bs ih => simp [PyData.depthAll, PyData.depth, ih]
  unfold SeqAt.shaped
  simp [PyData.canLay0, PyData.depth, h1, h2]
theorem eqv_bls : ∀ a b : List Bool, PyData.eqv (.list (a.map PyData.bool)) (.list (b.map PyData.bool)) = decide (a = b) := by
  have h : ∀ a b : List Bool, PyData.eqvAll (a.map PyData.bool) (b.map PyData.bool) = decide (a = b) := by
    intro a
    induction a with
    | nil => intro b; cases b <;> simp [PyData.eqvAll]
    | cons x a ih =>
      intro b
      cases b with
      | nil => simp [PyData.eqvAll]
      | cons y b =>
        simp only [List.map_cons, PyData.eqvAll, PyData.eqv, ih b]
        by_cases hx : x = y <;> simp [hx]
  intro a b
  simp only [PyData.eqv, h]
section
variable {X : Cx} {csc : Scope} {k0 k1 k2 k3 k4 : Nat} {p1 p2 p3 p4 p5 p6 p7 p8 p9 p10 p11 p12 p13 p14 p15 p16 p17 p18 p19 p20 p21 p22 p23 p24 p25 p26 p27 p28 p29 p30 p31 p32 p33 p34 p35 p36 p37 p38 p39 p40 p41 p42 p43 p44 p45 p46 p47 p48 p49 : Pos}
theorem is_pss {C : Nat → Addr} {D a : Addr} {d : Option Addr} {oe : Obj} {b : Nat → Bool} (hN : X.N = isN) (S : IsSc X.env.scope csc) (KX : IsK X C) (hot : L2H.HotC X) (hu : X.A.units + 64 < cLine) (hfn : X.fn = fun _ => true)
    (EC : ExcC X.K D) (hp : (a, oe) ∈ X.pn) (hz : Zc (.ref D) d oe) (hf : ∃ vs, oe.data = .fields vs) (hk : ∀ i, i < 5 → PySem.W.kitOne X.K (.ref D) (.ref (C i)) = some (b i)) (hk6 : PySem.W.kitOne X.K (.ref D) (.type "ValueError") = some true)
    (hl : (p20.endLine == p21.line) = true) :
    PSs X (isBd csc k0 k1 k2 k3 k4 p1 p2 p3 p4 p5 p6 p7 p8 p9 p10 p11 p12 p13 p14 p15 p16 p17 p18 p19 p20 p21 p22 p23 p24 p25 p26 p27 p28 p29 p30 p31 p32 p33 p34 p35 p36 p37 p38 p39 p40 p41 p42 p43 p44 p45 p46 p47 p48 p49) (fun E σ H => ∃ w : Str, σ = L2.start isN [.ref a, .str w] ∧ (d = none ∨ ∃ dx fs, d = some dx ∧ H dx = some (.xd fs)) ∧ ∀ H', (∀ y o, H y = some o → H' y = some o) → E.rt (.bl (isR b w)) H') := by
  have hnd : X.N.Nodup := by rw [hN]; decide
  have cr := cr_isX EC hp hz hf
  have v0 : ∀ p, PE X (.Name "_law_e" p) (tVar 0) := fun p => pe_var (i := 0) (by rw [hN]; rfl) S.v0
  have v2 : ∀ p, PE X (.Name "_law_kinds" p) (tVar 2) := fun p => pe_var (i := 2) (by rw [hN]; rfl) (S.l2.elim .inl fun z => .inr (.inl z))
  have v3 : ∀ p, PE X (.Name "_law_words" p) (tVar 3) := fun p => pe_var (i := 3) (by rw [hN]; rfl) (S.l3.elim .inl fun z => .inr (.inl z))
  have isi : ∀ {x : Str} {u : V} {q1 q2 q3 q4 : Pos}, PE X (.Name x q3) (tC u) → PE X (.Call (.Name "isinstance" q1) [.Name "_law_e" q2, .Name x q3] [] q4) (tCB (rIsX X.K D a d) (tCons (tVar 0) (tCons (tC u) tNil))) := fun {x u q1 q2 q3 q4} h =>
    pe_callB cr S.g0 KX.m0 (by decide +kernel) (pa_cons (v0 _) (pa_cons h pa_nil))
  have c0 : ∀ p, PE X (.Name "BadNumber" p) (tC (.ref (C 0))) := fun p => pe_glob S.g1 KX.m1 rfl
  have c1 : ∀ p, PE X (.Name "BadRule" p) (tC (.ref (C 1))) := fun p => pe_glob S.g2 KX.m2 rfl
  have c2 : ∀ p, PE X (.Name "BadWakes" p) (tC (.ref (C 2))) := fun p => pe_glob S.g3 KX.m3 rfl
  have c3 : ∀ p, PE X (.Name "BadPlan" p) (tC (.ref (C 3))) := fun p => pe_glob S.g4 KX.m4 rfl
  have c4 : ∀ p, PE X (.Name "BadText" p) (tC (.ref (C 4))) := fun p => pe_glob S.g5 KX.m5 rfl
  have c6 : ∀ p, PE X (.Name "ValueError" p) (tC (.ty "ValueError")) := fun p => pe_bltn S.g6 KX.m6 (by decide +kernel) rfl
  have s1 : PS X _ _ := ps_asg (pos := p19) (pe_lst (pos := p18) (pa_cons (isi (q1 := p2) (q2 := p3) (q4 := p5) (c0 p4)) (pa_cons (isi (q1 := p6) (q2 := p7) (q4 := p9) (c1 p8)) (pa_cons (isi (q1 := p10) (q2 := p11) (q4 := p13) (c2 p12)) (pa_cons (isi (q1 := p14) (q2 := p15) (q4 := p17) (c3 p16)) pa_nil))))) (pg_name (i := 2) (pos := p1) hnd (by rw [hN]; rfl) S.l2 (.inl (by rw [hfn])))
  have s2 : PS X _ _ := ps_expr (pos := p22) (pe_bm (apos := p20) (cpos := p21) PySem.F.plainAttrs_list PySem.F.slot_list_append PySem.F.type_list_append mt_append (v2 p23) (pa_cons (isi (q1 := p24) (q2 := p25) (q4 := p27) (c4 p26)) pa_nil) rfl rfl hl)
  have s3 : PS X _ _ := ps_asg (pos := p35) (pe_lst (pos := p34) (pa_cons (pe_str (x := "number") (j := k0) (pos := p29)) (pa_cons (pe_str (x := "rule") (j := k1) (pos := p30)) (pa_cons (pe_str (x := "wakes") (j := k2) (pos := p31)) (pa_cons (pe_str (x := "plan") (j := k3) (pos := p32)) (pa_cons (pe_str (x := "text") (j := k4) (pos := p33)) pa_nil)))))) (pg_name (i := 3) (pos := p28) hnd (by rw [hN]; rfl) S.l3 (.inl (by rw [hfn])))
  have hcw : ∀ (s : Shared) (H : Hp) (C : Addr) (cl : List (Str × Addr)) (fp : List Addr), PE (X.blk s H csc (compEnvC csc cl C X.env) fp) (.Compare (.Name "_law_word" p36) [.Eq] [.Name "_law_one" p37] p38) (tOp rEq (tVar 1) (tVar 4)) := fun s H C cl fp =>
    pe_cmpR op_eq (pe_var (i := 1) (by show X.N[1]? = _; rw [hN]; rfl) (vis_free S.c1)) (pe_var (i := 4) (by show X.N[4]? = _; rw [hN]; rfl) (.inl (loc_rel S.c4))) (nomark _)
  have s4 : PS X _ _ := ps_ret (pos := p49) (pe_and (pos := p48) (isi (q1 := p42) (q2 := p43) (q4 := p45) (c6 p44)) (pe_one (pe_cmpR (pos := p47) (op_eqD hu) (v2 p46) (ExH.pe_lcH (pos := p41) (tg := .Name "_law_one" p39) (iter := .Name "_law_words" p40) (ifs := []) (scope := csc) (own := [("_law_one", 4)]) hot hnd (ExH.pi_listP (v3 p40)) (by rw [hN]; exact S.blk)
    (fun s H C cl fp => pg_name (i := 4) (pos := p39) hnd (by show X.N[4]? = _; rw [hN]; rfl) (.inl (loc_rel S.c4)) (.inr (loc_rel S.c4))) (fun s H C cl fp => pts_nil) hcw) (nomark _))))
  refine pss_imp (pss_cons s1 (pss_cons s2 (pss_cons s3 (pss_one s4)))) fun E σ H h => ?_
  obtain ⟨w, rfl, hd, q⟩ := h
  refine ⟨.ref a, rfl, .ref (C 0), .ref (C 0), b 0, rfl, fun u r => r, hk 0 (by omega), hd, ?_⟩
  refine ⟨.ref a, rfl, .ref (C 1), .ref (C 1), b 1, rfl, fun u r => r, hk 1 (by omega), hd, ?_⟩
  refine ⟨.ref a, rfl, .ref (C 2), .ref (C 2), b 2, rfl, fun u r => r, hk 2 (by omega), hd, ?_⟩
  refine ⟨.ref a, rfl, .ref (C 3), .ref (C 3), b 3, rfl, fun u r => r, hk 3 (by omega), hd, ?_⟩
  refine ⟨by simp [sizeLine_eq], fun p hp1 => ?_⟩
  have hd1 := xd_up (o := .lst [V.bl (b 0), V.bl (b 1), V.bl (b 2), V.bl (b 3)]) hp1 hd
  generalize hH1 : upd H p (.lst [V.bl (b 0), V.bl (b 1), V.bl (b 2), V.bl (b 3)]) = H1 at hd1
  have hp2 : H1 p = some (.lst [V.bl (b 0), V.bl (b 1), V.bl (b 2), V.bl (b 3)]) := by rw [← hH1]; exact upd_same
  have ext1 : ∀ y o, H y = some o → H1 y = some o := fun y o e => by
    rw [← hH1, upd_ne (fun z => by rw [z, hp1] at e; cases e)]
    exact e
  refine ⟨.ref p, rfl, .inl ⟨rfl, _, .inl (.inl hp2)⟩, .ref a, rfl, .ref (C 4), .ref (C 4), b 4, rfl, fun u r => r, hk 4 (by omega), hd1, p, _, _, rfl, rfl, hp2, by simp [sizeLine_eq], ?_⟩
  generalize hH2 : upd H1 p (.lst ([V.bl (b 0), V.bl (b 1), V.bl (b 2), V.bl (b 3)] ++ [V.bl (b 4)])) = H2
  have hp3 : H2 p = some (.lst ([b 0, b 1, b 2, b 3, b 4].map V.bl)) := by rw [← hH2]; exact upd_same
  have ext2 : ∀ y o, H y = some o → H2 y = some o := fun y o e => by
    rw [← hH2, upd_ne (fun z => by rw [z, hp1] at e; cases e)]
    exact ext1 y o e
  refine ⟨by simp [sizeLine_eq], fun p3 hp4 => ?_⟩
  generalize hH3 : upd H2 p3 (.lst [V.str "number", V.str "rule", V.str "wakes", V.str "plan", V.str "text"]) = H3
  have hq3 : H3 p3 = some (.lst (isW.map V.str)) := by rw [← hH3]; exact upd_same
  have npp : p ≠ p3 := fun z => by rw [← z, hp3] at hp4; cases hp4
  have hp5 : H3 p = some (.lst ([b 0, b 1, b 2, b 3, b 4].map V.bl)) := by rw [← hH3, upd_ne npp]; exact hp3
  have ext3 : ∀ y o, H y = some o → H3 y = some o := fun y o e => by
    rw [← hH3, upd_ne (fun z => by rw [← z, ext2 y o e] at hp4; cases hp4)]
    exact ext2 y o e
  have hd3 : d = none ∨ ∃ dx fs, d = some dx ∧ H3 dx = some (.xd fs) := hd.elim .inl fun ⟨dx, fs, h1, h2⟩ => .inr ⟨dx, fs, h1, ext3 _ _ h2⟩
  refine ⟨.ref a, rfl, .ty "ValueError", .type "ValueError", true, rfl, fun u r => r, hk6, hd3, true, rfl, ?_⟩
  rw [if_pos rfl]
  refine ⟨.ref p, rfl, .ref p3, rfl, p3, rfl, ⟨_, .inl (.inl hq3)⟩, fun D0 hD0 => ?_⟩
  have nD3 : p3 ≠ D0 := fun z => by rw [z, hD0] at hq3; cases hq3
  have nDp : p ≠ D0 := fun z => by rw [z, hD0] at hp5; cases hp5
  refine ⟨fun i m H' => i ≤ 5 ∧ m = 5 - i ∧ (∀ y, y ≠ D0 → H' y = H3 y) ∧ H' D0 = some (.lst (((isW.map fun z => decide (w = z)).take i).map V.bl)), ⟨5, by omega, rfl, fun y hy => upd_ne hy, upd_same⟩, fun i m H' hw => ?_⟩
  obtain ⟨hi, hm, hy, hD⟩ := hw
  have hx3 : SqL X.K H' p3 (isW.map V.str) := .inl (.inl ((hy p3 nD3).trans hq3))
  by_cases h5 : i = 5
  · subst h5
    refine .inl ⟨⟨_, hx3, by simp⟩, .list ([b 0, b 1, b 2, b 3, b 4].map PyData.bool), .list ((isW.map fun z => decide (w = z)).map PyData.bool), .lst (.inl (.inl ((hy p nDp).trans hp5))) (dp_bls _), .lst (.inl (.inl hD)) (dp_bls (isW.map fun z => decide (w = z))), shaped_bls _, shaped_bls _, ?_⟩
    rw [eqv_bls]
    exact q H' fun y o e => (hy y fun z => by rw [← z, ext3 y o e] at hD0; cases hD0).trans (ext3 y o e)
  · have hlt : i < 5 := by omega
    have hxi : (isW.map V.str)[i]? = some (V.str (isW[i]'(by simpa using hlt))) := by
      rw [List.getElem?_map, List.getElem?_eq_getElem (by simpa using hlt)]; rfl
    refine .inr ⟨⟨_, _, hx3, hxi⟩, fun H'' => (∀ y, y ≠ D0 → H'' y = H3 y) ∧ H'' D0 = some (.lst (((isW.map fun z => decide (w = z)).take (i + 1)).map V.bl)), fun H'' hn => ⟨5 - (i + 1), by omega, by omega, rfl, hn.1, hn.2⟩, fun x H'' hyl => ?_⟩
    obtain ⟨rfl, hyl⟩ := hyl
    have hxx := hyl _ hx3
    rw [hxi] at hxx
    cases hxx
    refine ⟨rfl, ?_⟩
    unfold tYes
    dsimp only
    rw [if_pos rfl]
    refine ⟨.str w, rfl, .str _, rfl, rfl, _, hD, ?_, ?_, ?_⟩
    · rw [List.length_map, List.length_take]
      simp [sizeLine_eq]
      omega
    · intro y hyd
      rw [upd_ne hyd]
      exact hy y hyd
    · rw [upd_same]
      congr 2
      rw [List.take_add_one, List.getElem?_map, List.getElem?_eq_getElem (show i < isW.length by simpa using hlt), List.map_append]
      simp
end
end ExI
/-! ExJ: two texts compared by _law_alike, where an exception is handled (or not). -/
namespace ExJ
open PySem PySem.Spec PyProof.Rows L2
abbrev alN : List Str := ["_law_found", "_law_due", "_law_name", "_law_k"]
def alBd (k0 : Nat) (b1 b2 b3 rest : List Stmt) (p1 p2 p3 p4 p5 p6 p7 p8 p9 p10 p11 p12 p13 p14 p15 p16 p17 p18 p19 p20 p21 p22 p23 p24 p25 p26 p27 p28 : Pos) : List Stmt := .If (.Compare (.Name "_law_due" p1) [.Is] [.Constant .none k0 p2] p3) b1 [] p4 ::
  .If (.Call (.Name "isinstance" p5) [.Name "_law_due" p6, .Name "bool" p7] [] p8) b2 [] p9 ::
  .If (.Call (.Name "isinstance" p10) [.Name "_law_due" p11, .Name "int" p12] [] p13) b3 [] p14 ::
  .If (.Call (.Name "isinstance" p15) [.Name "_law_due" p16, .Name "str" p17] [] p18) [.Return (some (.BoolOp .And [.Call (.Name "isinstance" p19) [.Name "_law_found" p20, .Name "str" p21] [] p22, .Compare (.Name "_law_found" p23) [.Eq] [.Name "_law_due" p24] p25] p26)) p27] [] p28 :: rest
structure AlSc (sc : Scope) : Prop where
  v0 : Vis sc "_law_found"
  v1 : Vis sc "_law_due"
  g0 : sc.names.lookup ("isinstance" : Str) = some .globalImplicit
  g1 : sc.names.lookup ("bool" : Str) = some .globalImplicit
  g2 : sc.names.lookup ("int" : Str) = some .globalImplicit
  g3 : sc.names.lookup ("str" : Str) = some .globalImplicit
structure AlK (X : Cx) : Prop where
  m0 : X.mg "isinstance" = none
  m1 : X.mg "bool" = none
  m2 : X.mg "int" = none
  m3 : X.mg "str" = none
section
variable {X : Cx} {k0 : Nat} {b1 b2 b3 rest : List Stmt} {p1 p2 p3 p4 p5 p6 p7 p8 p9 p10 p11 p12 p13 p14 p15 p16 p17 p18 p19 p20 p21 p22 p23 p24 p25 p26 p27 p28 : Pos}
theorem pss_no {b : List Stmt} : PSs X b (fun _ _ _ => False) := ⟨fun _ _ _ _ _ _ h => h.elim⟩
theorem al_pss (hN : X.N = alN) (S : AlSc X.env.scope) (KX : AlK X)
    (kb1 : PySem.W.kitOne X.K (.type "str") (.type "bool") = some false) (kb2 : PySem.W.kitOne X.K (.type "str") (.type "int") = some false) (kb3 : PySem.W.kitOne X.K (.type "str") (.type "str") = some true) :
    PSs X (alBd k0 b1 b2 b3 rest p1 p2 p3 p4 p5 p6 p7 p8 p9 p10 p11 p12 p13 p14 p15 p16 p17 p18 p19 p20 p21 p22 p23 p24 p25 p26 p27 p28) (fun E σ H => ∃ f u : Str, σ = L2.start alN [.str f, .str u] ∧ E.rt (.bl (decide (V.str f = V.str u))) H) := by
  have v0 : ∀ p, PE X (.Name "_law_found" p) (tVar 0) := fun p => pe_var (i := 0) (by rw [hN]; rfl) S.v0
  have v1 : ∀ p, PE X (.Name "_law_due" p) (tVar 1) := fun p => pe_var (i := 1) (by rw [hN]; rfl) S.v1
  have c1 : ∀ p, PE X (.Name "bool" p) (tC (.ty "bool")) := fun p => pe_bltn S.g1 KX.m1 (by decide +kernel) rfl
  have c2 : ∀ p, PE X (.Name "int" p) (tC (.ty "int")) := fun p => pe_bltn S.g2 KX.m2 (by decide +kernel) rfl
  have c3 : ∀ p, PE X (.Name "str" p) (tC (.ty "str")) := fun p => pe_bltn S.g3 KX.m3 (by decide +kernel) rfl
  have isi : ∀ {x y : Str} {i : Nat} {u : V} {q1 q2 q3 q4 : Pos}, PE X (.Name x q2) (tVar i) → PE X (.Name y q3) (tC u) → PE X (.Call (.Name "isinstance" q1) [.Name x q2, .Name y q3] [] q4) (tCB (rIsi X.K) (tCons (tVar i) (tCons (tC u) tNil))) := fun {x y i u q1 q2 q3 q4} h0 h =>
    pe_callB call_isi S.g0 KX.m0 (by decide +kernel) (pa_cons h0 (pa_cons h pa_nil))
  have s1 : PS X (.If (.Compare (.Name "_law_due" p1) [.Is] [.Constant .none k0 p2] p3) b1 [] p4) _ := ps_if (pt_cmpR op_isN (v1 _) pe_non (nomark _)) (pss_no (b := b1)) pss_nil
  have s2 : PS X (.If (.Call (.Name "isinstance" p5) [.Name "_law_due" p6, .Name "bool" p7] [] p8) b2 [] p9) _ := ps_if (pt_val (isi (v1 _) (c1 _))) (pss_no (b := b2)) pss_nil
  have s3 : PS X (.If (.Call (.Name "isinstance" p10) [.Name "_law_due" p11, .Name "int" p12] [] p13) b3 [] p14) _ := ps_if (pt_val (isi (v1 _) (c2 _))) (pss_no (b := b3)) pss_nil
  have s4 : PS X (.If (.Call (.Name "isinstance" p15) [.Name "_law_due" p16, .Name "str" p17] [] p18) [.Return (some (.BoolOp .And [.Call (.Name "isinstance" p19) [.Name "_law_found" p20, .Name "str" p21] [] p22, .Compare (.Name "_law_found" p23) [.Eq] [.Name "_law_due" p24] p25] p26)) p27] [] p28) _ := ps_if (pt_val (isi (v1 _) (c3 _))) (pss_one (ps_ret (pe_and (isi (v0 _) (c3 _)) (pe_one (pe_cmpR op_eq (v0 _) (v1 _) (nomark _)))))) pss_nil
  refine ExI.pss_imp (pss_cons s1 (pss_cons s2 (pss_cons s3 (pss_cons s4 (pss_no (b := rest)))))) fun E σ H h => ?_
  obtain ⟨f, u, rfl, q⟩ := h
  refine ⟨.str u, rfl, rfl, false, by rw [decide_eq_false (fun z => by cases z)], ?_⟩
  try dsimp only
  rw [if_neg Bool.false_ne_true]
  refine ⟨.str u, rfl, .str u, .ty "bool", .type "str", .type "bool", false, rfl, .ty _, .base (.str u), kb1, false, rfl, ?_⟩
  try dsimp only
  rw [if_neg Bool.false_ne_true]
  refine ⟨.str u, rfl, .str u, .ty "int", .type "str", .type "int", false, rfl, .ty _, .base (.str u), kb2, false, rfl, ?_⟩
  try dsimp only
  rw [if_neg Bool.false_ne_true]
  refine ⟨.str u, rfl, .str u, .ty "str", .type "str", .type "str", true, rfl, .ty _, .base (.str u), kb3, true, rfl, ?_⟩
  try dsimp only
  rw [if_pos rfl]
  refine ⟨.str f, rfl, .str f, .ty "str", .type "str", .type "str", true, rfl, .ty _, .base (.str f), kb3, true, rfl, ?_⟩
  try dsimp only
  rw [if_pos rfl]
  exact ⟨.str f, rfl, .str u, rfl, rfl, q⟩
end
end ExJ
/-! ExK: defs called where the exception p is handled. -/
namespace ExK
open PySem PySem.Spec PyProof.Rows L2 L2H
structure FnP (P : Program) (w : World) (K : PySem.W.Frag) (mg : Str → Option Value) (base : Heap) (CX : CXT) (k : Nat) (p : Addr × Obj) (f : Addr) (fd : FuncData) (ps : List Str) (sp : Sp) : Prop where
  len : ∀ vs H Q E, sp vs H Q E → vs.length = ps.length
  run : ∀ (A : Around) (outer : List Env) (s : Shared) (H : Hp) (args : Args) (us : List Value) (vs : List V) (Q : VK) (E : XK), RoomH k A → Hot1 A p → PinOk outer H s p → Env0 P w K mg base A outer s H → BindsTo s fd args (ps.zip us) → Vals vs us → sp vs H Q E →
    codeAny (model P w) A (.call (.ref f) args) (CR CX outer P w H s Q E) s
theorem fn_ofP {CX : CXT} {P : Program} {w : World} {K : PySem.W.Frag} {mg : Str → Option Value} {base : Heap} {k : Nat} {f : Addr} {name qual : Str} {params : Arguments} {body : List Stmt} {scope : Scope} {dV kV doc pm cdv ct oc : Value} {an od : Option Addr}
    {osl : Array (Option Value)} {N ps : List Str} {sp : Sp} {p : Addr × Obj} (lk : K.lookup f = some ⟨oc, od, .func (PySem.W.fnOf name qual params body scope dV kV doc pm an cdv ct), osl⟩) (hcd : PySem.W.codeIn K cdv qual = true) (S : FnScope N ps scope)
    (len : ∀ vs H Q E, sp vs H Q E → vs.length = ps.length)
    (hbody : ∀ (A : Around) (outer : List Env) (s : Shared) (H : Hp) (vs : List V) (Q : VK) (E : XK), Hot1 A p → RoomH k (A.deeper (envOfC qual scope s.heap.objs.size f cdv)) → sp vs H Q E →
      ∃ t, PSs (cxH CX P w K mg base N qual scope f cdv A outer s H E p) body t ∧ t { nx := fun _ H' => Q .non H', rt := Q } (L2.start N vs) H) :
    FnP P w K mg base CX (k + 1) p f (PySem.W.fnOf name qual params body scope dV kV doc pm an cdv ct) ps sp := by
  refine ⟨len, fun A outer s H args us vs Q E hr hot hpin e0 hb r hsp => ?_⟩
  have hl := len _ _ _ _ hsp
  have KX : K.In s.heap := e0.mod.kin.keeps fun b o e => (e0.bs b o e).1
  have lim : s.heap.NoLimit := e0.mod.nolimit.keeps fun b o e => (e0.bs b o e).1
  have hkind : ∀ y ∈ ps.zip us, scope.names.lookup y.1 = some .local ∨ (scope.names.lookup y.1 = some .cell ∧ ((cellsFrom (s.heap.objs.size + 1) scope.names []).lookup y.1).isSome = true) := fun ⟨n, v⟩ hy => by
    rcases S.par n (List.of_mem_zip hy).1 with q | q
    · exact .inl q
    · exact .inr ⟨q, PySem.W.cellsFrom_some _ _ _ (.inl q)⟩
  refine codeAny_call_function hr.depth (KX _ _ lk) rfl S.co S.gen rfl (PySem.W.codeRec_of KX hcd) (hb _ _ _ _ ?_)
  refine wpAny_newFunctionEnv_cells S.kind hkind fun env he s1 x => ?_
  subst he
  refine ⟨lim.keeps x.toInCall.keep, codeAny_func ?_⟩
  obtain ⟨t, ht, hq⟩ := hbody A outer s H vs Q E hot (hr.deeper _) hsp
  have I : Inv (cxH CX P w K mg base N qual scope f cdv A outer s H E p) [] (L2.start N vs) H s1 := inv_startH S hpin e0 hl r x
  refine wpAny_mono (ht.run [] s1 (L2.start N vs) H _ I hq) (fun fl s' hs => ?_) fun e s' hs => hs
  have fin : ∀ {σ' : L2.St} {H' : Hp} {v : V} {u : Value}, Inv (cxH CX P w K mg base N qual scope f cdv A outer s H E p) [] σ' H' s' → RelV v u → Q v H' → CE outer P w H s Q u s' :=
    fun {σ' H' v u} J rv q => ⟨v, H', J.os, J.bare, J.base, J.hok, rv, q⟩
  cases fl with
  | ret u =>
    obtain ⟨v, σ', H', J, rv, q⟩ := hs
    exact fin J rv q
  | next =>
    obtain ⟨σ', H', J, q⟩ := hs
    exact fin (v := V.non) (u := Value.none) J rfl q
  | brk =>
    obtain ⟨_, _, _, q⟩ := hs
    exact False.elim q
  | cont =>
    obtain ⟨_, _, _, q⟩ := hs
    exact False.elim q
section
variable {X : Cx} {CX : CXT} {k : Nat} {pp : Addr × Obj} {f C : Addr} {fd : FuncData} {ps : List Str} {sp : Sp} {E : L2.St → XK} {x m : Str} {q pos apos : Pos} {e o : Expr} {es : List Expr} {ta : TE} {t : TA}
theorem run_fnP {pins : List (Addr × Obj)} {σ : L2.St} {H : Hp} {s : Shared} {Q : VK} {us : List Value} {vs : List V} (F : FnP X.prog X.w X.K X.mg X.base CX k pp f fd ps sp) (hr : RoomH k X.A) (hc : Hot1 X.A pp ∧ pp ∈ X.pn) (hb : Binds X.K fd ps []) (hx : PassesAt CX X σ (E σ))
    (I : Inv X pins σ H s) (r : Vals vs us) (h : sp vs H Q (E σ)) : wpAny (model X.prog X.w) X.A (call (.ref f) us) (EP X pins σ Q) X.xe s := by
  obtain ⟨hot, hp⟩ := hc
  have hl : us.length = ps.length := by rw [← r.length]; exact F.len _ _ _ _ h
  have b := hb s us I.kIn (by rw [List.append_nil]; exact hl)
  rw [List.append_nil] at b
  have P1 := I.pin pp (List.mem_append_left _ hp)
  have hpin : PinOk X.stack H s pp := ⟨P1.1, P1.2.1, fun hm => (List.mem_cons.mp (I.stkSub pp.1 hm)).elim P1.2.2.1 P1.2.2.2.1, P1.2.2.2.2⟩
  refine wpAny_call (codeAny_mono (F.run X.A X.stack s H ⟨us, []⟩ us vs Q (E σ) hr hot hpin I.env0 b r h) fun r s' hq => ?_)
  cases r with
  | error e => exact hx pins H s e s' I hq
  | ok fl =>
    cases fl with
    | ret u => exact I.after hq
    | next => exact False.elim hq
    | brk => exact False.elim hq
    | cont => exact False.elim hq
theorem pe_callP (F : FnP X.prog X.w X.K X.mg X.base CX k pp f fd ps sp) (hr : RoomH k X.A) (hc : Hot1 X.A pp ∧ pp ∈ X.pn) (hg : Gl X x) (hm : X.mg x = some (.ref f)) (hk : PySem.W.keepIn X.K (.ref f) = true) (hb : Binds X.K fd ps []) (hx : ∀ σ, PassesAt CX X σ (E σ))
    (ha : PA X (e :: es) t) (hdb : (x == ("__debug__" : Str)) = false := by decide) (he : starEach (e :: es) X.env = (false, eval e X.env) :: starEach es X.env := by rfl) (hpl : (backTo pos (starEach es X.env)).any (·.1) = false := by rfl) :
    PE X (.Call (.Name x q) (e :: es) [] pos) (tCallS sp E t) := by
  refine ⟨fun pins s σ H Q I h => ?_⟩
  refine wpAny_Call_Name_kw (ld_glob I hg hm ?_ hdb)
  refine PySem.W.callWith_K (h₀ := X.base) I.ok.mod.kin hk (thn (ha.run pos pins s σ H _ I h) fun us s1 ⟨vs, H1, I1, r, q⟩ => ⟨I1.kIn, ?_⟩) he hpl
  exact run_fnP F hr hc hb (hx σ) I1 r q
end
end ExK
/-! ExL: _law_is and _law_alike (of texts) as defs called where an exception is handled. -/
namespace ExL
open PySem PySem.Spec PyProof.Rows L2 L2H ExI ExJ ExK
def spIs (a : Addr) (d : Option Addr) (b : Nat → Bool) : Sp := fun vs H Q _ => ∃ w : Str, vs = [.ref a, .str w] ∧ (d = none ∨ ∃ dx fs, d = some dx ∧ H dx = some (.xd fs)) ∧ ∀ H', (∀ y o, H y = some o → H' y = some o) → Q (.bl (isR b w)) H'
def spAl : Sp := fun vs H Q _ => ∃ f u : Str, vs = [.str f, .str u] ∧ Q (.bl (decide (V.str f = V.str u))) H
section
variable {CX : CXT} {P : Program} {w : World} {K : PySem.W.Frag} {mg : Str → Option Value} {base : Heap} {k : Nat} {f : Addr} {name qual : Str} {params : Arguments} {scope csc : Scope} {dV kV doc pm cdv ct oc : Value} {an od : Option Addr}
    {osl : Array (Option Value)} {p : Addr × Obj}
structure IsM (mg : Str → Option Value) (C : Nat → Addr) : Prop where
  m0 : mg "isinstance" = none
  m1 : mg "BadNumber" = some (.ref (C 0))
  m2 : mg "BadRule" = some (.ref (C 1))
  m3 : mg "BadWakes" = some (.ref (C 2))
  m4 : mg "BadPlan" = some (.ref (C 3))
  m5 : mg "BadText" = some (.ref (C 4))
  m6 : mg "ValueError" = none
theorem is_fn {k0 k1 k2 k3 k4 : Nat} {p1 p2 p3 p4 p5 p6 p7 p8 p9 p10 p11 p12 p13 p14 p15 p16 p17 p18 p19 p20 p21 p22 p23 p24 p25 p26 p27 p28 p29 p30 p31 p32 p33 p34 p35 p36 p37 p38 p39 p40 p41 p42 p43 p44 p45 p46 p47 p48 p49 : Pos} {C : Nat → Addr} {D : Addr} {d : Option Addr} {b : Nat → Bool} (lk : K.lookup f = some ⟨oc, od, .func (PySem.W.fnOf name qual params (isBd csc k0 k1 k2 k3 k4 p1 p2 p3 p4 p5 p6 p7 p8 p9 p10 p11 p12 p13 p14 p15 p16 p17 p18 p19 p20 p21 p22 p23 p24 p25 p26 p27 p28 p29 p30 p31 p32 p33 p34 p35 p36 p37 p38 p39 p40 p41 p42 p43 p44 p45 p46 p47 p48 p49) scope dV kV doc pm an cdv ct), osl⟩)
    (hcd : PySem.W.codeIn K cdv qual = true) (Sf : FnScope isN ["_law_e", "_law_word"] scope) (S : IsSc scope csc) (M : IsM mg C) (hl : (p20.endLine == p21.line) = true)
    (EC : ExcC K D) (hz : Zc (.ref D) d p.2) (hf : ∃ vs, p.2.data = .fields vs) (hk : ∀ i, i < 5 → PySem.W.kitOne K (.ref D) (.ref (C i)) = some (b i)) (hk6 : PySem.W.kitOne K (.ref D) (.type "ValueError") = some true) :
    FnP P w K mg base CX (k + 1) p f (PySem.W.fnOf name qual params (isBd csc k0 k1 k2 k3 k4 p1 p2 p3 p4 p5 p6 p7 p8 p9 p10 p11 p12 p13 p14 p15 p16 p17 p18 p19 p20 p21 p22 p23 p24 p25 p26 p27 p28 p29 p30 p31 p32 p33 p34 p35 p36 p37 p38 p39 p40 p41 p42 p43 p44 p45 p46 p47 p48 p49) scope dV kV doc pm an cdv ct) ["_law_e", "_law_word"] (spIs p.1 d b) := by
  refine fn_ofP lk hcd Sf (fun vs H Q E h => by obtain ⟨w, rfl, _⟩ := h; rfl) fun A outer s H vs Q E hot hr h => ?_
  obtain ⟨w', rfl, hd, q⟩ := h
  have hh : HotC (cxH CX P w K mg base isN qual scope f cdv A outer s H E p) := ⟨p, hot, by show p ∈ [p]; simp⟩
  refine ⟨_, is_pss (X := cxH CX P w K mg base isN qual scope f cdv A outer s H E p) (C := C) (D := D) (a := p.1) (d := d) (oe := p.2) (b := b) rfl S ⟨M.m0, M.m1, M.m2, M.m3, M.m4, M.m5, M.m6⟩ hh (by have := hr.un; show (A.deeper _).units + 64 < cLine; omega) rfl EC (by show p ∈ [p]; simp) hz hf hk hk6 hl, w', rfl, hd, q⟩
structure AlM (mg : Str → Option Value) : Prop where
  m0 : mg "isinstance" = none
  m1 : mg "bool" = none
  m2 : mg "int" = none
  m3 : mg "str" = none
theorem al_fn {k0 : Nat} {b1 b2 b3 rest : List Stmt} {p1 p2 p3 p4 p5 p6 p7 p8 p9 p10 p11 p12 p13 p14 p15 p16 p17 p18 p19 p20 p21 p22 p23 p24 p25 p26 p27 p28 : Pos} (lk : K.lookup f = some ⟨oc, od, .func (PySem.W.fnOf name qual params (alBd k0 b1 b2 b3 rest p1 p2 p3 p4 p5 p6 p7 p8 p9 p10 p11 p12 p13 p14 p15 p16 p17 p18 p19 p20 p21 p22 p23 p24 p25 p26 p27 p28) scope dV kV doc pm an cdv ct), osl⟩)
    (hcd : PySem.W.codeIn K cdv qual = true) (Sf : FnScope alN ["_law_found", "_law_due"] scope) (S : AlSc scope) (M : AlM mg)
    (kb1 : PySem.W.kitOne K (.type "str") (.type "bool") = some false) (kb2 : PySem.W.kitOne K (.type "str") (.type "int") = some false) (kb3 : PySem.W.kitOne K (.type "str") (.type "str") = some true) :
    FnP P w K mg base CX (k + 1) p f (PySem.W.fnOf name qual params (alBd k0 b1 b2 b3 rest p1 p2 p3 p4 p5 p6 p7 p8 p9 p10 p11 p12 p13 p14 p15 p16 p17 p18 p19 p20 p21 p22 p23 p24 p25 p26 p27 p28) scope dV kV doc pm an cdv ct) ["_law_found", "_law_due"] spAl := by
  refine fn_ofP lk hcd Sf (fun vs H Q E h => by obtain ⟨x, y, rfl, _⟩ := h; rfl) fun A outer s H vs Q E hot hr h => ?_
  obtain ⟨x, y, rfl, q⟩ := h
  exact ⟨_, al_pss (X := cxH CX P w K mg base alN qual scope f cdv A outer s H E p) rfl S ⟨M.m0, M.m1, M.m2, M.m3⟩ kb1 kb2 kb3, x, y, rfl, q⟩
end
end ExL
/-! ExR: the suite of _law_refused. -/
namespace ExR
open PySem PySem.Spec PyProof.Rows L2 L2H ExI ExJ ExK ExL
abbrev rfN : List Str := ["_law_work", "_law_word", "_law_value", "_law_e"]
def rfSu (k0 k1 k2 k3 tk : Nat) (e3 : Expr) (p1 p2 p3 p4 p5 p6 p7 p8 p9 p10 p11 p12 p13 p14 p15 p16 p17 p18 p19 p20 p21 p22 p23 p24 p25 : Pos) : List Stmt := [.If (.UnaryOp .Not (.Call (.Name "_law_is" p1) [.Name "_law_e" p2, .Name "_law_word" p3] [] p4) p5) [.Return (some (.Constant (.bool false) k0 p6)) p7] [] p8,
  .If (.Compare (.Name "_law_word" p17) [.In] [.Tuple [.Constant (.str "rule") k1 p9, .Constant (.str "plan") k2 p10] tk p11] p18) [.Return (some (.Call (.Name "_law_alike" p12) [.Attribute (.Name "_law_e" p13) "why" p14, .Name "_law_value" p15] [] p16)) p19] [] p20,
  .Return (some (.BoolOp .Or [.Compare (.Name "_law_word" p21) [.NotEq] [.Constant (.str "wakes") k3 p22] p23, e3] p24)) p25]
structure RfSc (sc : Scope) : Prop where
  v1 : Vis sc "_law_word"
  v2 : Vis sc "_law_value"
  v3 : Vis sc "_law_e"
  g0 : sc.names.lookup ("_law_is" : Str) = some .globalImplicit
  g1 : sc.names.lookup ("_law_alike" : Str) = some .globalImplicit
section
variable {X : Cx} {k0 k1 k2 k3 tk : Nat} {e3 : Expr} {p1 p2 p3 p4 p5 p6 p7 p8 p9 p10 p11 p12 p13 p14 p15 p16 p17 p18 p19 p20 p21 p22 p23 p24 p25 : Pos}
theorem pas_no {X : Cx} (a : Addr) (pn : List (Addr × Obj)) (σ : L2.St) : PassesAt (L2N.CX X.prog X.w) (X.suite a pn) σ (fun _ _ _ => False) := fun pins H s e s' I c => by
  obtain ⟨_, _, _, _, _, _, _, _, _, _, _, _, _, _, _, z⟩ := c
theorem pe_no {X : Cx} {e : Expr} : PE X e (fun _ _ _ => False) := ⟨fun _ _ _ _ _ _ h => h.elim⟩
theorem su_pss {a D : Addr} {d : Option Addr} {oe : Obj} {pn : List (Addr × Obj)} {b : Nat → Bool} {fI fA : Addr} {fdI fdA : FuncData} {kk : Nat} (hN : X.N = rfN) (S : RfSc X.env.scope) (hz : L2N.Zn (.ref D) d oe) (hf : ∃ vs, oe.data = .fields vs)
    (T : XfC X.K D) (hw : PySem.W.findIn X.K (.ref D) "why" = some none) (hc2 : ∀ vs, oe.data = .fields vs → vs[2]? = some .none)
    (FI : FnP X.prog X.w X.K X.mg X.base (L2N.CX X.prog X.w) kk (a, oe) fI fdI ["_law_e", "_law_word"] (spIs a d b)) (mI : X.mg "_law_is" = some (.ref fI)) (kI : PySem.W.keepIn X.K (.ref fI) = true) (bI : L2.Binds X.K fdI ["_law_e", "_law_word"] [])
    (FA : FnP X.prog X.w X.K X.mg X.base (L2N.CX X.prog X.w) kk (a, oe) fA fdA ["_law_found", "_law_due"] spAl) (mA : X.mg "_law_alike" = some (.ref fA)) (kA : PySem.W.keepIn X.K (.ref fA) = true) (bA : L2.Binds X.K fdA ["_law_found", "_law_due"] [])
    (hr : RoomH kk X.A) :
    PSs (X.suite a ((a, oe) :: pn)) (rfSu k0 k1 k2 k3 tk e3 p1 p2 p3 p4 p5 p6 p7 p8 p9 p10 p11 p12 p13 p14 p15 p16 p17 p18 p19 p20 p21 p22 p23 p24 p25) (fun E σ H => ∃ (w : Str) (v : V), σ[1]? = some (some (.str w)) ∧ σ[2]? = some (some v) ∧ σ[3]? = some (some (.ref a)) ∧ (d = none ∨ ∃ dx fs, d = some dx ∧ H dx = some (.xd fs)) ∧ w ≠ "wakes" ∧
      ∀ H', (∀ y o, H y = some o → H' y = some o) → if isR b w = true then (if w = "rule" ∨ w = "plan" then ∃ dd fs z u, d = some dd ∧ H dd = some (.xd fs) ∧ fs.lookup ("why" : Str) = some (V.str z) ∧ v = .str u ∧ E.rt (.bl (decide (V.str z = V.str u))) H' else E.rt (.bl true) H') else E.rt (.bl false) H') := by
  have hot : Hot1 (X.suite a ((a, oe) :: pn)).A (a, oe) ∧ (a, oe) ∈ (X.suite a ((a, oe) :: pn)).pn := by
    obtain ⟨vs, hv⟩ := hf
    exact ⟨⟨rfl, vs, hv, hc2 vs hv⟩, List.mem_cons_self⟩
  have hrs : RoomH kk (X.suite a ((a, oe) :: pn)).A := ⟨hr.dp, hr.un⟩
  have v1 : ∀ p, PE (X.suite a ((a, oe) :: pn)) (.Name "_law_word" p) (tVar 1) := fun p => pe_var (i := 1) (by show X.N[1]? = _; rw [hN]; rfl) S.v1
  have v2 : ∀ p, PE (X.suite a ((a, oe) :: pn)) (.Name "_law_value" p) (tVar 2) := fun p => pe_var (i := 2) (by show X.N[2]? = _; rw [hN]; rfl) S.v2
  have v3 : ∀ p, PE (X.suite a ((a, oe) :: pn)) (.Name "_law_e" p) (tVar 3) := fun p => pe_var (i := 3) (by show X.N[3]? = _; rw [hN]; rfl) S.v3
  have s1 : PS (X.suite a ((a, oe) :: pn)) (.If (.UnaryOp .Not (.Call (.Name "_law_is" p1) [.Name "_law_e" p2, .Name "_law_word" p3] [] p4) p5) [.Return (some (.Constant (.bool false) k0 p6)) p7] [] p8) _ := ps_if (pt_not (pt_val (pe_callP (E := fun _ _ _ _ => False) FI hrs hot S.g0 mI kI bI (fun σ => pas_no a _ σ) (pa_cons (v3 _) (pa_cons (v1 _) pa_nil))))) (pss_one (ps_ret pe_bl)) pss_nil
  have s2 : PS (X.suite a ((a, oe) :: pn)) (.If (.Compare (.Name "_law_word" p17) [.In] [.Tuple [.Constant (.str "rule") k1 p9, .Constant (.str "plan") k2 p10] tk p11] p18) [.Return (some (.Call (.Name "_law_alike" p12) [.Attribute (.Name "_law_e" p13) "why" p14, .Name "_law_value" p15] [] p16)) p19] [] p20) _ := ps_if (pt_cmpR op_in_seq (v1 _) (pe_tup (pa_cons pe_str (pa_cons pe_str pa_nil))) (by rfl)) (pss_one (ps_ret (pe_callP (E := fun _ _ _ _ => False) FA hrs hot S.g1 mA kA bA (fun σ => pas_no a _ σ) (pa_cons (pe_xf T hw hz.zc hf (v3 _)) (pa_cons (v2 _) pa_nil))))) pss_nil
  have s3 : PS (X.suite a ((a, oe) :: pn)) (.Return (some (.BoolOp .Or [.Compare (.Name "_law_word" p21) [.NotEq] [.Constant (.str "wakes") k3 p22] p23, e3] p24)) p25) _ := ps_ret (pe_or (pe_cmpR op_ne (v1 _) pe_str (nomark _)) (pe_one (pe_no (e := e3))))
  refine ExI.pss_imp (pss_cons s1 (pss_cons s2 (pss_one s3))) fun E σ H h => ?_
  obtain ⟨w, v, h1, h2, h3, hd, hw4, q⟩ := h
  refine ⟨.ref a, h3, .str w, h1, w, rfl, hd, fun H' ext => ⟨isR b w, rfl, ?_⟩⟩
  by_cases hb : isR b w = true
  · dsimp only
    rw [hb]
    rw [if_neg (by decide)]
    refine ⟨.str w, h1, by simp [sizeLine_eq], fun p hp => ⟨p, _, rfl, .inr (.inl (.inl upd_same)), rfl, rfl, _, rfl, ?_⟩⟩
    have ext2 : ∀ y o, H y = some o → upd H' p (.tup [V.str "rule", V.str "plan"]) y = some o := fun y o e => by
      rw [upd_ne (fun z => by rw [z, ] at e; rw [ext _ _ e] at hp; cases hp)]
      exact ext y o e
    have q2 := q _ ext2
    rw [if_pos hb] at q2
    by_cases hm : w = "rule" ∨ w = "plan"
    · rw [if_pos hm] at q2
      obtain ⟨dd, fs, z, u, e1, e2, e3', e4, q2⟩ := q2
      subst e4
      have hin : inV (V.str w) [V.str "rule", V.str "plan"] = true := by rcases hm with rfl | rfl <;> rfl
      dsimp only
      rw [if_neg (show ¬ (false = true) by decide), hin, if_pos rfl]
      exact ⟨.ref a, h3, rfl, rfl, dd, fs, .str z, e1, ext2 _ _ e2, e3', .str u, h2, z, u, rfl, q2⟩
    · rw [if_neg hm] at q2
      have hin : inV (V.str w) [V.str "rule", V.str "plan"] = false := by
        have a1 : ¬ ("rule" : Str) = w := fun z => hm (.inl z.symm)
        have a2 : ¬ ("plan" : Str) = w := fun z => hm (.inr z.symm)
        simp [inV, eqV, a1, a2]
      dsimp only
      rw [if_neg (show ¬ (false = true) by decide), hin, if_neg (by decide)]
      refine ⟨.str w, h1, rfl, true, by rw [decide_eq_false (fun z => hw4 (by injection z))]; rfl, ?_⟩
      try dsimp only
      rw [if_pos rfl]
      exact q2
  · have q1 := q H' ext
    rw [if_neg hb] at q1
    have hbf : isR b w = false := by simpa using hb
    dsimp only
    rw [hbf, if_pos (by decide)]
    exact q1
end
end ExR
/-! ExS: _law_refused, whole. -/
namespace ExS
open PySem PySem.Spec PyProof.Rows L2 L2H ExI ExJ ExK ExL ExR
def rfBd (k0 k1 k2 k3 tk k4 : Nat) (e3 : Expr) (p1 p2 p3 p4 p5 p6 p7 p8 p9 p10 p11 p12 p13 p14 p15 p16 p17 p18 p19 p20 p21 p22 p23 p24 p25 : Pos) (q1 q2 q3 q4 q5 q6 q7 q8 : Pos) : List Stmt := [.Try [.Expr (.Call (.Name "_law_work" q1) [] [] q2) q3] [.ExceptHandler (some (.Name "AirError" q4)) (some "_law_e") (rfSu k0 k1 k2 k3 tk e3 p1 p2 p3 p4 p5 p6 p7 p8 p9 p10 p11 p12 p13 p14 p15 p16 p17 p18 p19 p20 p21 p22 p23 p24 p25) q5] [] [] q6,
  .Return (some (.Constant (.bool false) k4 q7)) q8]
/-- what the suite asks and tells -/
def rdSu (a : Addr) (d : Option Addr) (b : Nat → Bool) : TS := fun E σ H => ∃ (w : Str) (v : V), σ[1]? = some (some (.str w)) ∧ σ[2]? = some (some v) ∧ σ[3]? = some (some (.ref a)) ∧ (d = none ∨ ∃ dx fs, d = some dx ∧ H dx = some (.xd fs)) ∧ w ≠ "wakes" ∧
      ∀ H', (∀ y o, H y = some o → H' y = some o) → if isR b w = true then (if w = "rule" ∨ w = "plan" then ∃ dd fs z u, d = some dd ∧ H dd = some (.xd fs) ∧ fs.lookup ("why" : Str) = some (V.str z) ∧ v = .str u ∧ E.rt (.bl (decide (V.str z = V.str u))) H' else E.rt (.bl true) H') else E.rt (.bl false) H'
def tsR (ClsF : Addr → (Nat → Bool) → Prop) (a : Addr) (cls : Value) (d : Option Addr) : TS := fun E σ H => ∃ (D : Addr) (b : Nat → Bool), cls = .ref D ∧ ClsF D b ∧ rdSu a d b E σ H
theorem takes0N {X : Cx} : L2N.Takes X (fun _ _ _ _ => False) := fun _ _ x => by
  obtain ⟨_, _, _, _, _, _, _, _, _, _, _, _, _, _, _, _, z⟩ := x
  exact z.elim
section
variable {Z : Cx} {k0 k1 k2 k3 tk k4 : Nat} {e3 : Expr} {p1 p2 p3 p4 p5 p6 p7 p8 p9 p10 p11 p12 p13 p14 p15 p16 p17 p18 p19 p20 p21 p22 p23 p24 p25 : Pos} {q1 q2 q3 q4 q5 q6 q7 q8 : Pos}
theorem rf_pss {tAct : WX → TE} {CA fI fA : Addr} {fdI fdA : FuncData} {kk : Nat} {ClsF : Addr → (Nat → Bool) → Prop} (hs : Z.stack = Z.env :: Z.outer) (hf : Z.env.frame = some Z.env.locals) (hN : Z.N = rfN) (S : RfSc Z.env.scope) (hln : Z.env.kindOf "_law_e" = some .local) (hc : Names Z "AirError" (.ref CA))
    (act : ∀ (W : WX) (pn : List (Addr × Obj)) (xe : Value → Shared → Prop), L2N.Takes (Z.tr pn xe) W → PE (Z.tr pn xe) (.Call (.Name "_law_work" q1) [] [] q2) (tAct W))
    (hC : ∀ D b, ClsF D b → XfC Z.K D ∧ PySem.W.findIn Z.K (.ref D) "why" = some none ∧ ∀ (a : Addr) (oe : Obj) (d : Option Addr), L2N.Zn (.ref D) d oe → (∃ vs, oe.data = .fields vs) →
      FnP Z.prog Z.w Z.K Z.mg Z.base (L2N.CX Z.prog Z.w) kk (a, oe) fI fdI ["_law_e", "_law_word"] (spIs a d b) ∧ FnP Z.prog Z.w Z.K Z.mg Z.base (L2N.CX Z.prog Z.w) kk (a, oe) fA fdA ["_law_found", "_law_due"] spAl)
    (mI : Z.mg "_law_is" = some (.ref fI)) (kI : PySem.W.keepIn Z.K (.ref fI) = true) (bI : L2.Binds Z.K fdI ["_law_e", "_law_word"] []) (mA : Z.mg "_law_alike" = some (.ref fA)) (kA : PySem.W.keepIn Z.K (.ref fA) = true) (bA : L2.Binds Z.K fdA ["_law_found", "_law_due"] [])
    (hr : RoomH kk Z.A) :
    PSs Z (rfBd k0 k1 k2 k3 tk k4 e3 p1 p2 p3 p4 p5 p6 p7 p8 p9 p10 p11 p12 p13 p14 p15 p16 p17 p18 p19 p20 p21 p22 p23 p24 p25 q1 q2 q3 q4 q5 q6 q7 q8) (fun E σ H => tAct (wAs Z.K (.ref CA) 3 (tsR ClsF) (fun _ _ _ _ => False) { E with nx := fun _ H1 => E.rt (.bl false) H1 }) σ H fun _ H1 => E.rt (.bl false) H1) := by
  have hnd : Z.N.Nodup := by rw [hN]; decide
  have s1 : PS Z (.Try [.Expr (.Call (.Name "_law_work" q1) [] [] q2) q3] [.ExceptHandler (some (.Name "AirError" q4)) (some "_law_e") (rfSu k0 k1 k2 k3 tk e3 p1 p2 p3 p4 p5 p6 p7 p8 p9 p10 p11 p12 p13 p14 p15 p16 p17 p18 p19 p20 p21 p22 p23 p24 p25) q5] [] [] q6) _ :=
    L2N.ps_try_as (i := 3) (c := .ref CA) (tb := fun W D σ H => tAct W σ H fun _ H1 => D.nx σ H1) (ts := tsR ClsF) (Wout := fun _ _ _ _ => False) hs hf hnd (by rw [hN]; rfl) hln hc takes0N
      (fun W pn xe tk _ => pss_one (ps_expr (act W pn xe tk)))
      (fun a oe cls d pn hz hfd => ⟨fun pins s σ H E I h => by
        obtain ⟨D, b, rfl, cf, h⟩ := h
        obtain ⟨T, hw, hF⟩ := hC D b cf
        obtain ⟨FI, FA⟩ := hF a oe d hz hfd
        exact (su_pss (X := Z) (pn := pn) hN S hz hfd T hw (fun vs hv => hz.2.2 vs hv) FI mI kI bI FA mA kA bA hr).run pins s σ H E I h⟩)
  exact ExI.pss_imp (pss_cons s1 (pss_one (ps_ret (pe_bl (b := false))))) fun E σ H h => h
end
end ExS
/-! ExT: a lambda handed to a def, exceptions' contexts told. -/
namespace ExT
open PySem PySem.Spec PyProof.Rows L2 LamX
/-- the context of the lambda's body, entered at s from the frames outer -/
def lamCxN (X : Cx) (A : Around) (outer : List Env) (s : Shared) (H : Hp) (E : XK) (scope : Scope) (f c' : Addr) : Cx where
  prog := X.prog
  w := X.w
  K := X.K
  mg := X.mg
  base := X.base
  A := A.deeper (lamEnv X scope s.heap.objs.size f c')
  N := X.N
  s_0 := s
  H_0 := H
  env := lamEnv X scope s.heap.objs.size f c'
  outer := outer
  stack := lamEnv X scope s.heap.objs.size f c' :: outer
  ex := []
  fn := fun _ => false
  calm := true
  pn := []
  xe := fun e s' => wpAny (model X.prog X.w) (A.deeper (lamEnv X scope s.heap.objs.size f c')) (leaving (lamEnv X scope s.heap.objs.size f c') e) (fun _ s'' => L2N.CX X.prog X.w outer H s E e s'') (fun e' s'' => L2N.CX X.prog X.w outer H s E e' s'') s'
section
variable {X : Cx} {pins : List (Addr × Obj)} {σ : L2.St} {H HZ : Hp} {s s1 : Shared}
theorem lam_start2N {A : Around} {outer : List Env} {E : XK} {scope : Scope} {f c' : Addr} {h₁ : Heap} {tk : Nat} (I : Inv X pins σ H s) (L : LamS X.env.scope scope) (e0 : Env0 X.prog X.w X.K X.mg X.base A outer s1 HZ) (hd : A.handled = none)
    (un : Un (frs X.stack) [] H HZ s.heap s1.heap) (hns : h₁.Ns s1.heap.objs.size fun y => ([] : List (Str × Value)).reverse.lookup y) (kp : ∀ b o, s1.heap.get? b = some o → h₁.get? b = some o) :
    Inv (lamCxN X A outer s1 HZ E scope f c') [] σ HZ { s1 with heap := h₁, toks := tk } := by
  have hfree := L.has I.ok
  have cm : ∀ {y c}, (cloFrom X.env.cells scope.names []).lookup y = some c → X.env.cells.lookup y = some c := fun {y c} e => by
    rcases cloFrom_mem (PySem.mem_of_lookup e) with hm | ⟨h1, h2⟩
    · cases hm
    · obtain ⟨c1, hc⟩ := hfree _ h1 rfl
      have hc : X.env.cells.lookup y = some c1 := hc
      have e2 : c = c1 := by
        rw [h2, hc] <;> rfl
      rw [e2]
      exact hc
  have look : ∀ {y}, scope.names.lookup y = some .free → ∃ c, (cloFrom X.env.cells scope.names []).lookup y = some c := fun {y} hl => by
    have hy : (y, NameKind.free) ∈ scope.names := PySem.mem_of_lookup hl
    exact mem_lookup (cloFrom_has (cells := X.env.cells) (acc := []) hy)
  have cellK : ∀ {c : Addr} {v : Option Value}, H c = none → s.heap.IsCell c v → h₁.IsCell c v := fun {c v} n ⟨o, ho, hd⟩ => by
    obtain ⟨sl, q⟩ := un.any ho n (by simp)
    exact ⟨_, kp _ _ q, hd⟩
  have noA : ∀ b : Addr, b ∉ (lamCxN X A outer s1 HZ E scope f c').ex := fun b z => absurd (show b ∈ ([] : List Addr) from z) (by simp)
  refine ⟨⟨e0.mod, L.kind, rfl, rfl, Nat.le_refl _, fun y z c e1 e2 => I.ok.inj y z c (cm e1) (cm e2), fun y hy => ?_, fun y c z _ => ?_, fun _ => hd, Around.frames_deeper e0.frames, .inr ⟨rfl, rfl⟩, fun b z => absurd z (noA b), e0.bs, e0.bsz, fun b _ _ => noA b,
      fun b z => absurd z (noA b), e0.funs, e0.frf⟩,
    rfl, e0.bare, Un.kept kp, ⟨_, hns, fun i y v e1 e2 e3 => ?_⟩, fun y c e => ?_, e0.hok.fresh (Nat.le_refl _), fun y c e => ?_, fun q hq => absurd (show q ∈ ([] : List (Addr × Obj)) ++ [] from hq) (by simp), e0.hok.kept kp, I.len⟩
  · have hy : scope.names.lookup y = some .cell ∨ scope.names.lookup y = some .free := hy
    rcases hy with hy | hy
    · exact absurd rfl (L.own _ (PySem.mem_of_lookup hy)).2
    · exact look hy
  · have z : false = true := z
    cases z
  · have e3 : Vis scope y := e3
    rcases e3 with k | k | k
    · exact absurd rfl (L.own _ (PySem.mem_of_lookup k)).1
    · exact absurd rfl (L.own _ (PySem.mem_of_lookup k)).2
    · obtain ⟨m, hn, hl⟩ := I.loc
      have hvis : Vis X.env.scope y := (L.free _ (PySem.mem_of_lookup k) rfl).elim (fun k => .inr (.inl k)) (fun k => .inr (.inr k))
      obtain ⟨w', r, q⟩ := hl i y v e1 e2 hvis
      obtain ⟨c2, h2⟩ := look k
      refine ⟨w', r, .inr ⟨.inr k, c2, h2, ?_⟩⟩
      have c1 := cm h2
      rcases q with ⟨k', _⟩ | ⟨_, c3, e', z⟩
      · have k' : X.env.scope.names.lookup y = some .local := k'
        rcases L.free _ (PySem.mem_of_lookup k) rfl with k2 | k2 <;> rw [show X.env.scope.names.lookup y = _ from k2] at k' <;> cases k'
      · rw [c1] at e'
        cases e'
        exact cellK (I.freeC y _ c1) z
  · obtain ⟨w', z⟩ := I.cell y c (cm e)
    exact ⟨w', cellK (I.freeC y c (cm e)) z⟩
  · obtain ⟨v, o, ho, hd⟩ := I.cell y c (cm e)
    exact un.free c o ho (I.freeC y c (cm e)) (by simp)
/-- x(), in the def that got the lambda: Z is that def's context, entered at s -/
theorem pe_actN {CXg : CXT} {Eg : XK} {Ng : List Str} {qg : Str} {sg : Scope} {g f c' : Addr} {cdg pm ctv : Value} {params : Arguments} {body : Expr} {scope : Scope} {k i : Nat} {a : Str} {pn : List (Addr × Obj)} {xe : Value → Shared → Prop} {W : WX} {tb : XK → TE} {p1 p2 : Pos}
    (I : Inv X pins σ H s) (L : LamS X.env.scope scope) (hf : s.heap.get? f = some (PySem.W.kla_obj "<lambda>" (X.env.qual ++ "<lambda>") params body scope (cloFrom X.env.cells scope.names []) pm c' ctv)) (hfn : H f = none) (hfr : f ∉ frs X.stack)
    (hbind : bindArgs (PySem.W.kla_fn "<lambda>" (X.env.qual ++ "<lambda>") params body scope (cloFrom X.env.cells scope.names []) pm (.ref c') ctv) ⟨[], []⟩ = pure [])
    (tk : L2N.Takes ((cxOf CXg X.prog X.w X.K X.mg X.base Ng qg sg g cdg X.A X.stack s H Eg).tr pn xe) W) (hr : Room (k + 1) (X.A.deeper (envOfC qg sg s.heap.objs.size g cdg)))
    (hbody : ∀ (E : XK) (A : Around) (outer : List Env) (s : Shared) (H : Hp), Room k (A.deeper (lamEnv X scope s.heap.objs.size f c')) → PE (lamCxN X A outer s H E scope f c') body (tb E))
    (hN : Ng[i]? = some a) (hv : Vis sg a) (hd : (a == ("__debug__" : Str)) = false := by decide) (hcd : (a == ("__classdict__" : Str)) = false := by decide) :
    PE ((cxOf CXg X.prog X.w X.K X.mg X.base Ng qg sg g cdg X.A X.stack s H Eg).tr pn xe) (.Call (.Name a p1) [] [] p2)
      (fun σZ HZ Q => σZ[i]? = some (some (.ref f)) ∧ HZ c' = some (CodeO c' (X.env.qual ++ "<lambda>")) ∧ tb (fun cls d H => W cls d σZ H) σ HZ Q) := by
  refine ⟨fun pinsZ sZ σZ HZ Q IZ h => ?_⟩
  obtain ⟨hs, hc, ht⟩ := h
  generalize hE : (fun cls d H => W cls d σZ H : XK) = E at ht
  refine wpAny_Call_Name_kw (thn ((pe_var (pos := p1) (i := i) hN hv hd hcd).run pinsZ sZ σZ HZ (fun v H1 => v = .ref f ∧ H1 = HZ) IZ ⟨.ref f, hs, rfl, rfl⟩) fun u s1 ⟨v, H1, I1, r1, q1⟩ => ?_)
  obtain ⟨ev, eH⟩ := q1
  subst ev
  rw [eH] at I1
  obtain rfl : u = Value.ref f := r1
  have of1 : s1.heap.get? f = some (PySem.W.kla_obj "<lambda>" (X.env.qual ++ "<lambda>") params body scope (cloFrom X.env.cells scope.names []) pm c' ctv) := I1.base.keep f _ hf hfn hfr (fun z => nomatch (show f ∈ ([] : List Addr) from z))
  refine PySem.W.callWith_F0 ⟨_, _, _, _, of1⟩ ?_
  have un : Un (frs X.stack) [] H HZ s.heap s1.heap := I1.base
  obtain ⟨⟨oc, vs, t, hoc, hdc, hvc⟩, _, _⟩ := I1.hok c' _ hc
  have rc : codeAny (model X.prog X.w) (X.A.deeper (envOfC qg sg s.heap.objs.size g cdg)) (.call (.ref f) ⟨[], []⟩) (CR (L2N.CX X.prog X.w) (envOfC qg sg s.heap.objs.size g cdg :: X.stack) X.prog X.w HZ s1 Q E) s1 := by
    refine PySem.W.kla_callFunE hr.depth of1 rfl L.co L.gen rfl ⟨c', oc, vs, t, rfl, hoc, hdc, hvc⟩ ?_
    rw [hbind]
    refine wpAny_pure (wpAny_newFunctionEnv (fun y hy => (L.own y hy).2) (fun y hy => absurd hy (by simp)) (fun h₁ hns hsb => ⟨I1.nolimit.fresh _ hsb, ?_⟩) L.kind)
    show codeAny _ _ (.expr body (lamEnv X scope s1.heap.objs.size f c')) _ _
    have kp : ∀ b o, s1.heap.get? b = some o → h₁.get? b = some o := fun b o e => hsb.extBut b o (Nat.ne_of_lt (Heap.lt_size e)) (Heap.get?_push_of_some _ e)
    have J : Inv (lamCxN X (X.A.deeper (envOfC qg sg s.heap.objs.size g cdg)) (envOfC qg sg s.heap.objs.size g cdg :: X.stack) s1 HZ E scope f c') [] σ HZ { s1 with heap := h₁, toks := s1.toks + ([] : List (Str × Value)).length } :=
      lam_start2N I L I1.env0 hr.hd un hns kp
    refine PySem.W.kla_codeExpr (wpAny_mono ((hbody E _ _ s1 HZ (hr.deeper _)).run [] _ _ HZ Q J ht) (fun v s' hq => ?_) fun e s' hq => hq)
    obtain ⟨w', H', J', rv, q⟩ := hq
    exact ⟨w', H', J'.os, J'.bare, J'.base, J'.hok, rv, q⟩
  refine wpAny_call (codeAny_mono rc fun r s' hq => ?_)
  cases r with
  | error e =>
    rw [← hE] at hq
    exact L2N.passAt tk σZ pinsZ HZ s1 e s' I1 hq
  | ok fl =>
    cases fl with
    | ret u => exact I1.after hq
    | next => exact False.elim hq
    | brk => exact False.elim hq
    | cont => exact False.elim hq
end
end ExT
/-! ExU: x(lambda: body, e, ..). -/
namespace ExU
open PySem PySem.Spec PyProof.Rows L2 LamX ExT
section
variable {X : Cx} {pins : List (Addr × Obj)} {σ : L2.St} {H : Hp} {s : Shared}
/-- the lambda is made: its code object is new, or found in the table -/
theorem lam_make3 {T : List (Addr × Str)} {c P : Addr} {params : Arguments} {body : Expr} {scope : Scope} {pos : Pos} {E : Value → Shared → Prop} {Q : Value → Shared → Prop} (I : Inv X pins σ H s) (TB : TabB X.base X.mg c P) (hcode : X.env.code = .ref c)
    (hm : (P, X.env.qual ++ "<lambda>") ∈ T) (hu : ∀ p ∈ T, p.1 = P → p.2 = X.env.qual ++ "<lambda>") (hT : Tabs T H) (hdef : defaultsOf params X.env = ([], [])) (hfree : ∀ y ∈ scope.names, y.2 = .free → ∃ c, X.env.cells.lookup y.1 = some c)
    (h : ∀ (f c' : Addr) (pm ctv : Value) (H1 : Hp) (s' : Shared), Inv X pins σ H1 s' → ExtN H H1 → Tabs T H1 →
      s'.heap.get? f = some (PySem.W.kla_obj "<lambda>" (X.env.qual ++ "<lambda>") params body scope (cloFrom X.env.cells scope.names []) pm c' ctv) → H1 f = none → f ∉ frs X.stack → H1 c' = some (CodeO c' (X.env.qual ++ "<lambda>")) → s.heap.objs.size ≤ f → Q (.ref f) s') :
    wpAny (model X.prog X.w) X.A (eval (.Lambda params body scope pos) X.env) Q E s := by
  obtain ⟨ps, hP, ht, ha⟩ := hT _ hm
  refine PySem.W.kla_eval hdef ?_
  have bP : s.heap.BuiltinsAt X.mg P := TB.bm.keeps I.bk
  have hP' : s.heap.get? P = some { cls := .none, data := .fields ps } := I.hok P _ hP
  have nofr : ∀ f, s.heap.objs.size ≤ f → f ∉ frs X.stack := fun f hf z => by
    rcases List.mem_cons.mp (I.stkSub _ z) with e | e
    · have h1 := I.lt
      rw [← e] at h1
      exact Nat.lt_irrefl _ (Nat.lt_of_lt_of_le h1 hf)
    · exact I.nofs hf e
  cases hc : codeAmong pos ps.toList with
  | none =>
    refine PySem.W.kla_makeFunction (mg := X.mg) (c := c) (P := P) (ps := ps) (closure_ok hfree) I.ok.glob (I.mod.glob.keeps I.bk) hcode (TB.code.keeps I.bk) hP' ht hc TB.gP bP fun c' ctv h' tk hx hge hlt hrec htb => ?_
    obtain ⟨c2, oc, vs, t, e2, hoc, hd, hv⟩ := hrec
    cases e2
    have hsz : s.heap.objs.size ≤ h'.objs.size := Nat.le_trans hge (Nat.le_of_lt hlt)
    have nC : H c' = none := I.hok.fresh hge
    have I1 := inv_table (t' := tk) (more := #[rawInt pos.line, rawInt pos.col, .ref c']) (h' := h'.push (PySem.W.kla_obj "<lambda>" (X.env.qual ++ "<lambda>") params body scope (cloFrom X.env.cells scope.names []) ((X.mg "__name__").getD .none) c' ctv)) I hP
      (fun b o hb e => Heap.get?_push_of_some _ (hx b o hb e)) (Heap.get?_push_of_some _ htb) hge ⟨oc, vs, t, Heap.get?_push_of_some _ hoc, hd, hv⟩
    have hE : ExtN H (upd (upd H P (.tbl (ps ++ #[rawInt pos.line, rawInt pos.col, .ref c']))) c' (CodeO c' (X.env.qual ++ "<lambda>"))) := fun b o e n => by
      rw [upd_ne (ne_of_none e nC), upd_ne (fun z => n ps (Option.some.inj (e.symm.trans (by rw [z]; exact hP))))]
      exact e
    have eL : (ps ++ #[rawInt pos.line, rawInt pos.col, .ref c']).toList = ps.toList ++ [rawInt pos.line, rawInt pos.col, .ref c'] := by simp
    refine h h'.objs.size c' ((X.mg "__name__").getD .none) ctv _ _ I1 hE (fun p hp => ?_) (Heap.get?_push_size _ rfl) ?_ (nofr _ hsz) upd_same hsz
    · by_cases hb : p.1 = P
      · rw [hu p hp hb, hb]
        refine ⟨_, by rw [upd_ne (ne_of_none hP nC), upd_same], by rw [eL]; exact PySem.TriplesOk_snoc _ _ _ _ ht, fun p' cv hcv => ?_⟩
        rw [eL] at hcv
        rcases among_app _ ht hcv with z | z
        · obtain ⟨c0, e1, e2⟩ := ha p' cv z
          exact ⟨c0, e1, hE _ _ e2 codeO_ne⟩
        · exact ⟨c', z, upd_same⟩
      · obtain ⟨ps', a1, a2, a3⟩ := hT p hp
        refine ⟨ps', by rw [upd_ne (ne_of_none a1 nC), upd_ne hb]; exact a1, a2, fun p' cv hcv => ?_⟩
        obtain ⟨c0, e1, e2⟩ := a3 p' cv hcv
        exact ⟨c0, e1, hE _ _ e2 codeO_ne⟩
    · have n1 : h'.objs.size ≠ c' := Nat.ne_of_gt hlt
      have n2 : h'.objs.size ≠ P := Nat.ne_of_gt (Nat.lt_of_lt_of_le (Heap.lt_size hP') hsz)
      rw [upd_ne n1, upd_ne n2]
      exact I.hok.fresh hsz
  | some cv =>
    obtain ⟨c', e, hco⟩ := ha pos cv hc
    subst e
    refine PySem.W.kla_makeFunctionHit (mg := X.mg) (c := c) (P := P) (ps := ps) (closure_ok hfree) I.ok.glob (I.mod.glob.keeps I.bk) hcode (TB.code.keeps I.bk) hP' ht hc bP fun ctv h' tk hx hsz => ?_
    have I1 : Inv X pins σ H { s with heap := h'.push (PySem.W.kla_obj "<lambda>" (X.env.qual ++ "<lambda>") params body scope (cloFrom X.env.cells scope.names []) ((X.mg "__name__").getD .none) c' ctv), toks := tk } := I.kept fun b o e => Heap.get?_push_of_some _ (hx b o e)
    exact h h'.objs.size c' ((X.mg "__name__").getD .none) ctv H _ I1 (ExtN.refl H) hT (Heap.get?_push_size _ rfl) (I.hok.fresh hsz) (nofr _ hsz) hco hsz
end
/-- the def that calls what it got, with further arguments; TT: what it makes of the lambda's reading -/
def GivesTo3 (X : Cx) (Ng : List Str) (x : Str) (sg : Scope) (g : Addr) (cdg : Value) (bg : List Stmt) (a : Str) (q : Str) (kr : Nat) (TT : (XK → Hp → VK → Prop) → List V → Hp → VK → Prop) : Prop :=
  ∀ (f c' : Addr) (s : Shared) (H : Hp) (Q : VK) (tl : XK → Hp → VK → Prop) (vs : List V),
    (∀ (W : WX) (pn : List (Addr × Obj)) (xe : Value → Shared → Prop) (p1 p2 : Pos), L2N.Takes ((cxOf C8.CX0 X.prog X.w X.K X.mg X.base Ng x sg g cdg X.A X.stack s H C8.E0).tr pn xe) W →
      PE ((cxOf C8.CX0 X.prog X.w X.K X.mg X.base Ng x sg g cdg X.A X.stack s H C8.E0).tr pn xe) (.Call (.Name a p1) [] [] p2) (fun σZ HZ Q => σZ[0]? = some (some (.ref f)) ∧ HZ c' = some (CodeO c' q) ∧ tl (fun cls d H => W cls d σZ H) HZ Q)) →
    H c' = some (CodeO c' q) → Room kr (X.A.deeper (envOfC x sg s.heap.objs.size g cdg)) → TT tl vs H Q →
    ∃ t, PSs (cxOf C8.CX0 X.prog X.w X.K X.mg X.base Ng x sg g cdg X.A X.stack s H C8.E0).nox bg t ∧ t { nx := fun _ H' => Q .non H', rt := Q } (L2.start Ng (.ref f :: vs)) H
def tLam3 (T : List (Addr × Str)) (ta : TA) (q : Str) (TT : (XK → Hp → VK → Prop) → List V → Hp → VK → Prop) (t : XK → TE) : TE := fun σ H Q => Tabs T H ∧ ∀ H1, ExtN H H1 → Tabs T H1 → ta σ H1 fun vs H2 => H2 = H1 ∧ vs.length = 2 ∧ TT (fun E H' Q' => t E σ H' Q') vs H1 Q
section
variable {X : Cx}
theorem pe_lamcall3 {T : List (Addr × Str)} {TT : (XK → Hp → VK → Prop) → List V → Hp → VK → Prop} {x a a1 a2 : Str} {g c P : Addr} {k : Nat} {pg : Arguments} {bg : List Stmt} {sg : Scope} {dV kV doc pm cdv ct oc : Value} {an od : Option Addr} {osl : Array (Option Value)} {Ng : List Str}
    {params : Arguments} {body : Expr} {scope : Scope} {t : XK → TE} {ta : TA} {es : List Expr} {p lpos pos : Pos} (hg : Gl X x) (hm : X.mg x = some (.ref g)) (hk : PySem.W.keepIn X.K (.ref g) = true)
    (lk : X.K.lookup g = some ⟨oc, od, .func (PySem.W.fnOf x x pg bg sg dV kV doc pm an cdv ct), osl⟩) (hcg : PySem.W.codeIn X.K cdv x = true) (hb : L2.Binds X.K (PySem.W.fnOf x x pg bg sg dV kV doc pm an cdv ct) [a, a1, a2] []) (Sg : FnScope Ng [a, a1, a2] sg) (hNg : Ng[0]? = some a) (hva : Vis sg a)
    (hG : GivesTo3 X Ng x sg g cdv bg a (X.env.qual ++ "<lambda>") (k + 1) TT)
    (TB : TabB X.base X.mg c P) (hcode : X.env.code = .ref c) (hmT : (P, X.env.qual ++ "<lambda>") ∈ T) (hu : ∀ p ∈ T, p.1 = P → p.2 = X.env.qual ++ "<lambda>") (hr : Room (k + 2) X.A) (L : LamS X.env.scope scope) (hdef : defaultsOf params X.env = ([], []))
    (hbind : ∀ (q : Str) (cl : List (Str × Addr)) (pm cv ctv : Value), bindArgs (PySem.W.kla_fn "<lambda>" q params body scope cl pm cv ctv) ⟨[], []⟩ = pure [])
    (hbody : ∀ (A : Around) (outer : List Env) (s : Shared) (H : Hp) (E : XK) (f c' : Addr), Room k (A.deeper (lamEnv X scope s.heap.objs.size f c')) → PE (lamCxN X A outer s H E scope f c') body (t E))
    (ha : PA X es ta)
    (hdb : (x == ("__debug__" : Str)) = false := by decide) (hd : (a == ("__debug__" : Str)) = false := by decide) (hcd : (a == ("__classdict__" : Str)) = false := by decide)
    (hst : starEach (.Lambda params body scope lpos :: es) X.env = (false, eval (.Lambda params body scope lpos) X.env) :: starEach es X.env := by rfl) (hpl : (backTo pos (starEach es X.env)).any (·.1) = false := by rfl) :
    PE X (.Call (.Name x p) (.Lambda params body scope lpos :: es) [] pos) (tLam3 T ta (X.env.qual ++ "<lambda>") TT t) := by
  refine ⟨fun pins s σ H Q I h => ?_⟩
  obtain ⟨hT, h⟩ := h
  refine wpAny_Call_Name_kw (ld_glob I hg hm ?_ hdb)
  refine PySem.W.callWith_K (h₀ := X.base) I.ok.mod.kin hk ?_ hst hpl
  rw [hst]
  show wpAny _ _ (spliced ((false, eval (.Lambda params body scope lpos) X.env) :: backTo pos (starEach es X.env))) _ _ s
  refine Calls.spliced_cons (lam_make3 I TB hcode hmT hu hT hdef (L.has I.ok) fun f c' pm' ctv H1 s' I1 eN T1 hf hfn hfr hco hsz => ?_)
  have fp : ∀ b ∈ [f], FpOk X pins H1 b := fun b hb => by
    rw [List.mem_singleton.mp hb]
    exact I.fpOk hsz hfn
  have Ip := I1.pinned (fp := [f]) fp (fun b hb => by
    rw [List.mem_singleton.mp hb]
    exact ⟨_, hf, fun v z => by cases z⟩)
  refine thn (ha.run pos _ s' σ H1 _ Ip (h H1 eN T1)) fun us s2 ⟨vs, H2, I2p, r2, e2, hvl, hTT⟩ => ?_
  subst e2
  have hf2 : s2.heap.get? f = _ := (I2p.pin (f, _) (List.mem_append_right _ (List.mem_append_right _ (mem_pinsAt (List.mem_singleton.mpr rfl) hf)))).1
  have I2 : Inv X pins σ H2 s2 := I2p.unpinned
  refine ⟨I2.kIn, ?_⟩
  have hul : us.length = 2 := by rw [← r2.length]; exact hvl
  have rc : codeAny (model X.prog X.w) X.A (.call (.ref g) ⟨.ref f :: us, []⟩) (CR C8.CX0 X.stack X.prog X.w H2 s2 Q C8.E0) s2 := by
    refine run_ofS (N := Ng) (ps := [a, a1, a2]) (us := .ref f :: us) (vs := .ref f :: vs) lk hcg Sg hr I2.env0 (by have := hb s2 (.ref f :: us) I2.kIn (by simp [hul]); rwa [List.append_nil] at this) (.cons rfl r2) (by simp [hvl]) fun hr' => ?_
    obtain ⟨t', ht', hq'⟩ := hG f c' s2 H2 Q (fun E H' Q' => t E σ H' Q') vs (fun W pn xe p1 p2 tk => pe_actN (i := 0) (tb := t) I2 L hf2 hfn hfr (hbind _ _ _ _ _) tk hr' (fun E A outer s H hr2 => hbody A outer s H E f c' hr2) hNg hva hd hcd) hco hr' hTT
    exact ⟨t', ht'.nox, hq'⟩
  refine wpAny_call (codeAny_mono rc fun r s3 hq => ?_)
  cases r with
  | error e => exact (show False from hq).elim
  | ok fl =>
    cases fl with
    | ret u => exact I2.after hq
    | next => exact False.elim hq
    | brk => exact False.elim hq
    | cont => exact False.elim hq
end
end ExU
/-! ExV: what _law_refused makes of the lambda it gets. -/
namespace ExV
open PySem PySem.Spec PyProof.Rows L2 L2H LamX ExI ExJ ExK ExL ExR ExS ExT ExU
/-- what is to follow an exception that is caught -/
def EchR (K : PySem.W.Frag) (CA : Addr) (ClsF : Addr → (Nat → Bool) → Prop) (w : Str) (v : V) (Q : VK) : XK := fun cls d H => PySem.W.exmOne K cls (.ref CA) = some true ∧ ∃ (D : Addr) (b : Nat → Bool), cls = .ref D ∧ ClsF D b ∧ (d = none ∨ ∃ dx fs, d = some dx ∧ H dx = some (.xd fs)) ∧
  ∀ H', (∀ y o, H y = some o → H' y = some o) → if isR b w = true then (if w = "rule" ∨ w = "plan" then ∃ dd fs z u, d = some dd ∧ H dd = some (.xd fs) ∧ fs.lookup ("why" : Str) = some (V.str z) ∧ v = .str u ∧ Q (.bl (decide (V.str z = V.str u))) H' else Q (.bl true) H') else Q (.bl false) H'
def TTref (K : PySem.W.Frag) (CA : Addr) (ClsF : Addr → (Nat → Bool) → Prop) : (XK → Hp → VK → Prop) → List V → Hp → VK → Prop := fun tl vs H Q => ∃ (w : Str) (v : V), vs = [.str w, v] ∧ w ≠ "wakes" ∧ ∀ E : XK, (∀ cls d H', EchR K CA ClsF w v Q cls d H' → E cls d H') → tl E H (fun _ H1 => Q (.bl false) H1)
section
variable {X : Cx} {k0 k1 k2 k3 tk k4 : Nat} {e3 : Expr} {p1 p2 p3 p4 p5 p6 p7 p8 p9 p10 p11 p12 p13 p14 p15 p16 p17 p18 p19 p20 p21 p22 p23 p24 p25 : Pos} {q1 q2 q3 q4 q5 q6 q7 q8 : Pos}
theorem ref_gives {sg : Scope} {g CA fI fA : Addr} {cdg : Value} {fdI fdA : FuncData} {kk : Nat} {q : Str} {ClsF : Addr → (Nat → Bool) → Prop} (S : RfSc sg) (hln : sg.names.lookup ("_law_e" : Str) = some .local) (hga : sg.names.lookup ("AirError" : Str) = some .globalImplicit) (hma : X.mg "AirError" = some (.ref CA))
    (hC : ∀ D b, ClsF D b → XfC X.K D ∧ PySem.W.findIn X.K (.ref D) "why" = some none ∧ ∀ (a : Addr) (oe : Obj) (d : Option Addr), L2N.Zn (.ref D) d oe → (∃ vs, oe.data = .fields vs) →
      FnP X.prog X.w X.K X.mg X.base (L2N.CX X.prog X.w) kk (a, oe) fI fdI ["_law_e", "_law_word"] (spIs a d b) ∧ FnP X.prog X.w X.K X.mg X.base (L2N.CX X.prog X.w) kk (a, oe) fA fdA ["_law_found", "_law_due"] spAl)
    (mI : X.mg "_law_is" = some (.ref fI)) (kI : PySem.W.keepIn X.K (.ref fI) = true) (bI : L2.Binds X.K fdI ["_law_e", "_law_word"] []) (mA : X.mg "_law_alike" = some (.ref fA)) (kA : PySem.W.keepIn X.K (.ref fA) = true) (bA : L2.Binds X.K fdA ["_law_found", "_law_due"] []) :
    GivesTo3 X rfN "_law_refused" sg g cdg (rfBd k0 k1 k2 k3 tk k4 e3 p1 p2 p3 p4 p5 p6 p7 p8 p9 p10 p11 p12 p13 p14 p15 p16 p17 p18 p19 p20 p21 p22 p23 p24 p25 q1 q2 q3 q4 q5 q6 q7 q8) "_law_work" q kk (TTref X.K CA ClsF) := by
  intro f c' s H Q tl vs act hc hr hT
  obtain ⟨w, v, rfl, hw, ht⟩ := hT
  refine ⟨_, rf_pss (Z := (cxOf C8.CX0 X.prog X.w X.K X.mg X.base rfN "_law_refused" sg g cdg X.A X.stack s H C8.E0).nox) (CA := CA) (fI := fI) (fA := fA) (kk := kk) (ClsF := ClsF)
    (tAct := fun W σZ HZ Q => σZ[0]? = some (some (.ref f)) ∧ HZ c' = some (CodeO c' q) ∧ tl (fun cls d H => W cls d σZ H) HZ Q) rfl rfl rfl S hln ⟨hga, by decide, .inl hma⟩ (fun W pn xe tk => act W pn xe q1 q2 tk) hC mI kI bI mA kA bA (roomH_of hr), rfl, hc, ht _ fun cls d H' h => ?_⟩
  obtain ⟨hx, D, b, rfl, cf, hd, hq⟩ := h
  exact ⟨true, hx, fun _ a ha => ⟨D, b, rfl, cf, w, v, rfl, rfl, rfl, hd, hw, hq⟩, fun z => by cases z⟩
end
end ExV
/-! ExW: lambdas as tracked objects, with at most one parameter that has a default. -/
namespace ExW
open PySem PySem.Spec PyProof.Rows L2 LamX ExT
/-- the words of a made lambda -/
structure LO where
  qual : Str
  params : Arguments
  body : Expr
  scope : Scope
  cl : List (Str × Addr)
  c : Addr
  dV : Value
abbrev LO.fd (F : LO) (pm ctv : Value) : FuncData := { name := "<lambda>", qualname := F.qual, params := F.params, body := .expr F.body, scope := F.scope, globals := mainGlobals, closure := F.cl, defaults := F.dV, kwdefaults := .none, doc := .none, pyModule := pm, annotations := none, code := .ref F.c, closureTuple := ctv, builtins := builtinsNs }
abbrev LO.obj (F : LO) (pm ctv : Value) : Obj := { cls := .type "function", data := .func (F.fd pm ctv) }
def LamO (f : Addr) (F : LO) : HO := .ext fun h => ∃ (pm ctv : Value), h.get? f = some (F.obj pm ctv)
theorem lamO_ne {f : Addr} {F : LO} (ps : Array Value) : LamO f F ≠ .tbl ps := fun z => by
  unfold LamO at z
  cases z
section
variable {M : Model} {A : Around} {E : Value → Shared → Prop} {s : Shared} {name qual : Str} {params : Arguments} {body : Expr} {scope : Scope} {env : Env} {c P : Addr} {ps : Array Value} {pos : Pos} {firstLine : Nat} {mg : Str → Option Value}
  {clos : List (Str × Addr)} {Q : Value → Shared → Prop} {dV : Value}
theorem mt_new (hcl : closureFor scope env = pure clos) (hge0 : env.globals = mainGlobals) (hg : s.heap.Ns mainGlobals mg) (hcode : env.code = .ref c) (C : PySem.W.CodeHd s.heap c P) (hP : s.heap.get? P = some (PySem.W.tabObj ps)) (ht : TriplesOk ps.toList)
    (hnf : codeAmong pos ps.toList = none) (hgP : mainGlobals ≠ P) (hb : s.heap.BuiltinsAt mg P)
    (h : ∀ c' ctv h' tk, Heap.ExtBut P s.heap h' → s.heap.objs.size ≤ c' → c' < h'.objs.size → h'.CodeRec (.ref c') qual → h'.get? P = some (PySem.W.tabObj (ps ++ #[rawInt pos.line, rawInt pos.col, .ref c'])) →
      Q (.ref h'.objs.size) { s with heap := h'.push ((⟨qual, params, body, scope, clos, c', dV⟩ : LO).obj ((mg "__name__").getD .none) ctv), toks := tk }) :
    wpAny M A (makeTail "<lambda>" qual params (.expr body) scope env dV .none none pos firstLine) Q E s := by
  obtain ⟨bm, ob, hbm, hne0, _, hneP, hbo, hcls, hdict, hdata⟩ := hb
  unfold makeTail
  rw [hcl, hge0]
  refine wpAny_bind (wpAny_pure ?_)
  cases clos with
  | nil =>
    simp only [List.isEmpty_nil, if_true]
    refine wpAny_bind (wpAny_pure ?_)
    refine wpAny_bind (wpAny_functionCodeX hcode (C.code hP ht) (C.tab hP) hnf fun c' h' tk hx hge hlt _ hrec htb _ => ?_)
    have hg' := hg.extBut hx hgP
    refine wpAny_bind (wpAny_builtinsFor hg' hbm hne0 (hx _ _ hneP hbo) hcls hdict hdata ?_)
    refine wpAny_bind (wpAny_nsGet hg' ?_)
    exact wpAny_bind (wpAny_pure (wpAny_newObj_type (h c' .none h' tk hx hge hlt hrec htb.2) (by size_fits)))
  | cons q r =>
    simp only [List.isEmpty_cons, Bool.false_eq_true, if_false]
    refine wpAny_bind (wpAny_newTextTuple ?_)
    refine wpAny_bind (wpAny_functionCodeX hcode ((C.keeps fun b o e => Heap.get?_push_of_some _ e).code (Heap.get?_push_of_some _ hP) ht) ((C.keeps fun b o e => Heap.get?_push_of_some _ e).tab (Heap.get?_push_of_some _ hP)) hnf fun c' h' tk hx hge hlt _ hrec htb _ => ?_)
    have hg' := (hg.push _).extBut hx hgP
    have hx' : Heap.ExtBut P s.heap h' := fun b o hb' e => hx b o hb' (Heap.get?_push_of_some _ e)
    have hge' : s.heap.objs.size ≤ c' := Nat.le_trans (by rw [Heap.size_push]; omega) hge
    refine wpAny_bind (wpAny_builtinsFor hg' hbm hne0 (hx' _ _ hneP hbo) hcls hdict hdata ?_)
    refine wpAny_bind (wpAny_nsGet hg' ?_)
    exact wpAny_bind (wpAny_pure (wpAny_newObj_type (h c' _ h' tk hx' hge' hlt hrec htb.2) (by size_fits)))
theorem mt_hit {c' : Addr} (hcl : closureFor scope env = pure clos) (hge0 : env.globals = mainGlobals) (hg : s.heap.Ns mainGlobals mg) (hcode : env.code = .ref c) (C : PySem.W.CodeHd s.heap c P) (hP : s.heap.get? P = some (PySem.W.tabObj ps)) (ht : TriplesOk ps.toList)
    (hf : codeAmong pos ps.toList = some (.ref c')) (hb : s.heap.BuiltinsAt mg P)
    (h : ∀ (ctv : Value) (h' : Heap) (tk : Tok), (∀ b o, s.heap.get? b = some o → h'.get? b = some o) → s.heap.objs.size ≤ h'.objs.size →
      Q (.ref h'.objs.size) { s with heap := h'.push ((⟨qual, params, body, scope, clos, c', dV⟩ : LO).obj ((mg "__name__").getD .none) ctv), toks := tk }) :
    wpAny M A (makeTail "<lambda>" qual params (.expr body) scope env dV .none none pos firstLine) Q E s := by
  obtain ⟨bm, ob, hbm, hne0, _, hneP, hbo, hcls, hdict, hdata⟩ := hb
  unfold makeTail
  rw [hcl, hge0]
  refine wpAny_bind (wpAny_pure ?_)
  cases clos with
  | nil =>
    simp only [List.isEmpty_nil, if_true]
    refine wpAny_bind (wpAny_pure ?_)
    refine wpAny_bind (wpAny_functionCode_hit hcode (C.code hP ht) hf ?_)
    refine wpAny_bind (wpAny_builtinsFor hg hbm hne0 hbo hcls hdict hdata ?_)
    refine wpAny_bind (wpAny_nsGet hg ?_)
    exact wpAny_bind (wpAny_pure (wpAny_newObj_type (h .none s.heap s.toks (fun _ _ e => e) (Nat.le_refl _)) (by size_fits)))
  | cons q r =>
    simp only [List.isEmpty_cons, Bool.false_eq_true, if_false]
    refine wpAny_bind (wpAny_newTextTuple ?_)
    refine wpAny_bind (wpAny_functionCode_hit hcode ((C.keeps fun b o e => Heap.get?_push_of_some _ e).code (Heap.get?_push_of_some _ hP) ht) hf ?_)
    refine wpAny_bind (wpAny_builtinsFor (hg.push _) hbm hne0 (Heap.get?_push_of_some _ hbo) hcls hdict hdata ?_)
    refine wpAny_bind (wpAny_nsGet (hg.push _) ?_)
    have hsz : ∀ oT : Obj, s.heap.objs.size ≤ (s.heap.push oT).objs.size := fun oT => by rw [Heap.size_push]; omega
    exact wpAny_bind (wpAny_pure (wpAny_newObj_type (h _ _ s.toks (fun b o e => Heap.get?_push_of_some _ e) (hsz _)) (by size_fits)))
end
/-! ### parameters -/
/-- none, or one that has an int for its default -/
inductive Par : Arguments → Option Str → Prop
  | no : Par ⟨[], [], none, [], [], none, []⟩ none
  | one (y : Str) (p : Pos) (i : Int) (j : Nat) (q : Pos) : Par ⟨[], [⟨y, none, p⟩], none, [], [], none, [.Constant (.int i) j q]⟩ (some y)
section
variable {X : Cx}
/-- a new tuple is laid and its object kept in mind -/
theorem laidT {pins : List (Addr × Obj)} {σ : L2.St} {H : Hp} {s : Shared} {h' : Heap} {t' : Nat} {a : Addr} {us : List Value} {xs : List V} (I : Inv X pins σ H s) (k : ∀ b u, s.heap.get? b = some u → h'.get? b = some u) (hp : s.heap.objs.size ≤ a)
    (ho : h'.get? a = some { cls := .type "tuple", data := .seq us.toArray }) (r : Vals xs us) (z : xs.length ≤ sizeLine) :
    Inv X pins σ (upd H a (.frz { cls := .type "tuple", data := .seq us.toArray } (.tup xs))) { s with heap := h', toks := t' } :=
  I.laid k hp ⟨ho, z, us, r, ⟨_, ho, rfl, _, rfl⟩⟩
end
/-- the default's tuple -/
def DfAt (H : Hp) (dV : Value) : Option Str → Prop
  | none => dV = .none
  | some _ => ∃ (t : Addr) (us : List Value) (i : Int), dV = .ref t ∧ H t = some (.frz { cls := .type "tuple", data := .seq us.toArray } (.tup [.int i]))
theorem DfAt.ext {H H' : Hp} {dV : Value} : ∀ {y : Option Str}, DfAt H dV y → (∀ b o, H b = some o → (∀ ps, o ≠ .tbl ps) → H' b = some o) → DfAt H' dV y
  | none, h, _ => h
  | some _, ⟨t, us, i, h1, h2⟩, e => ⟨t, us, i, h1, e _ _ h2 fun _ => HO.noConfusion⟩
theorem inv_lam {X : Cx} {pins : List (Addr × Obj)} {σ : L2.St} {H : Hp} {s : Shared} {F : LO} {t' : Nat} {pm ctv : Value} (I : Inv X pins σ H s) :
    Inv X pins σ (upd H s.heap.objs.size (LamO s.heap.objs.size F)) { s with heap := s.heap.push (F.obj pm ctv), toks := t' } := by
  refine I.laid (a := s.heap.objs.size) (fun b u e => Heap.get?_push_of_some _ e) (Nat.le_refl _) ?_
  have e : (s.heap.push (F.obj pm ctv)).get? s.heap.objs.size = some (F.obj pm ctv) := Heap.get?_push_size _ rfl
  exact ⟨⟨pm, ctv, e⟩, ⟨_, e⟩, fun h1 h2 ⟨p, t, z⟩ st => ⟨p, t, st _ z⟩⟩
section
variable {X : Cx} {pins : List (Addr × Obj)} {σ : L2.St} {H : Hp} {s : Shared}
/-- behind the default -/
theorem lam_tail {T : List (Addr × Str)} {c P : Addr} {params : Arguments} {body : Expr} {scope : Scope} {pos : Pos} {y : Option Str} {dV : Value} {E : Value → Shared → Prop} {Q : Value → Shared → Prop} (I : Inv X pins σ H s) (TB : TabB X.base X.mg c P) (hcode : X.env.code = .ref c)
    (hm : (P, X.env.qual ++ "<lambda>") ∈ T) (hu : ∀ p ∈ T, p.1 = P → p.2 = X.env.qual ++ "<lambda>") (hT : Tabs T H) (hd : DfAt H dV y) (hfree : ∀ y ∈ scope.names, y.2 = .free → ∃ c, X.env.cells.lookup y.1 = some c)
    (h : ∀ (f c' : Addr) (H1 : Hp) (s' : Shared), Inv X pins σ H1 s' → ExtN H H1 → Tabs T H1 → DfAt H1 dV y → H f = none → H1 f = some (LamO f ⟨X.env.qual ++ "<lambda>", params, body, scope, cloFrom X.env.cells scope.names [], c', dV⟩) → H1 c' = some (CodeO c' (X.env.qual ++ "<lambda>")) → Q (.ref f) s') :
    wpAny (model X.prog X.w) X.A (makeTail "<lambda>" (X.env.qual ++ "<lambda>") params (.expr body) scope X.env dV .none none pos pos.line) Q E s := by
  obtain ⟨ps, hP, ht, ha⟩ := hT _ hm
  have bP : s.heap.BuiltinsAt X.mg P := TB.bm.keeps I.bk
  have hP' : s.heap.get? P = some { cls := .none, data := .fields ps } := I.hok P _ hP
  cases hc : codeAmong pos ps.toList with
  | none =>
    refine mt_new (mg := X.mg) (c := c) (P := P) (ps := ps) (closure_ok hfree) I.ok.glob (I.mod.glob.keeps I.bk) hcode (TB.code.keeps I.bk) hP' ht hc TB.gP bP fun c' ctv h' tk hx hge hlt hrec htb => ?_
    obtain ⟨c2, oc, vs, t, e2, hoc, hd', hv⟩ := hrec
    cases e2
    have nC : H c' = none := I.hok.fresh hge
    have I1 := inv_table (t' := tk) (more := #[rawInt pos.line, rawInt pos.col, .ref c']) (h' := h') I hP (fun b o hb e => hx b o hb e) htb hge ⟨oc, vs, t, hoc, hd', hv⟩
    have hE : ExtN H (upd (upd H P (.tbl (ps ++ #[rawInt pos.line, rawInt pos.col, .ref c']))) c' (CodeO c' (X.env.qual ++ "<lambda>"))) := fun b o e n => by
      rw [upd_ne (ne_of_none e nC), upd_ne (fun z => n ps (Option.some.inj (e.symm.trans (by rw [z]; exact hP))))]
      exact e
    have eL : (ps ++ #[rawInt pos.line, rawInt pos.col, .ref c']).toList = ps.toList ++ [rawInt pos.line, rawInt pos.col, .ref c'] := by simp
    have T1 : Tabs T (upd (upd H P (.tbl (ps ++ #[rawInt pos.line, rawInt pos.col, .ref c']))) c' (CodeO c' (X.env.qual ++ "<lambda>"))) := fun p hp => by
      by_cases hb : p.1 = P
      · rw [hu p hp hb, hb]
        refine ⟨_, by rw [upd_ne (ne_of_none hP nC), upd_same], by rw [eL]; exact PySem.TriplesOk_snoc _ _ _ _ ht, fun p' cv hcv => ?_⟩
        rw [eL] at hcv
        rcases among_app _ ht hcv with z | z
        · obtain ⟨c0, e1, e2⟩ := ha p' cv z
          exact ⟨c0, e1, hE _ _ e2 codeO_ne⟩
        · exact ⟨c', z, upd_same⟩
      · obtain ⟨ps', a1, a2, a3⟩ := hT p hp
        refine ⟨ps', by rw [upd_ne (ne_of_none a1 nC), upd_ne hb]; exact a1, a2, fun p' cv hcv => ?_⟩
        obtain ⟨c0, e1, e2⟩ := a3 p' cv hcv
        exact ⟨c0, e1, hE _ _ e2 codeO_ne⟩
    have nF := I1.hok.fresh (Nat.le_refl _)
    have I2 := inv_lam (F := ⟨X.env.qual ++ "<lambda>", params, body, scope, cloFrom X.env.cells scope.names [], c', dV⟩) (t' := tk) (pm := (X.mg "__name__").getD .none) (ctv := ctv) I1
    have eF : ∀ b o, upd (upd H P (.tbl (ps ++ #[rawInt pos.line, rawInt pos.col, .ref c']))) c' (CodeO c' (X.env.qual ++ "<lambda>")) b = some o → upd (upd (upd H P (.tbl (ps ++ #[rawInt pos.line, rawInt pos.col, .ref c']))) c' (CodeO c' (X.env.qual ++ "<lambda>"))) h'.objs.size (LamO h'.objs.size ⟨X.env.qual ++ "<lambda>", params, body, scope, cloFrom X.env.cells scope.names [], c', dV⟩) b = some o := fun b o e => (upd_ne (ne_of_none e nF)).trans e
    exact h h'.objs.size c' _ _ I2 (fun b o e n => eF _ _ (hE b o e n)) (T1.ext eF) (hd.ext fun b o e n => eF _ _ (hE b o e n)) (I.hok.fresh (Nat.le_trans hge (Nat.le_of_lt hlt))) upd_same (eF _ _ upd_same)
  | some cv =>
    obtain ⟨c', e, hco⟩ := ha pos cv hc
    subst e
    refine mt_hit (mg := X.mg) (c := c) (P := P) (ps := ps) (closure_ok hfree) I.ok.glob (I.mod.glob.keeps I.bk) hcode (TB.code.keeps I.bk) hP' ht hc bP fun ctv h' tk hx hsz => ?_
    have I1 : Inv X pins σ H { s with heap := h', toks := tk } := I.kept hx
    have nF : H h'.objs.size = none := I1.hok.fresh (Nat.le_refl _)
    have I2 := inv_lam (F := ⟨X.env.qual ++ "<lambda>", params, body, scope, cloFrom X.env.cells scope.names [], c', dV⟩) (t' := tk) (pm := (X.mg "__name__").getD .none) (ctv := ctv) I1
    have eF : ∀ b o, H b = some o → upd H h'.objs.size (LamO h'.objs.size ⟨X.env.qual ++ "<lambda>", params, body, scope, cloFrom X.env.cells scope.names [], c', dV⟩) b = some o := fun b o e => (upd_ne (ne_of_none e nF)).trans e
    exact h h'.objs.size c' _ _ I2 (fun b o e n => eF _ _ e) (hT.ext eF) (hd.ext fun b o e n => eF _ _ e) nF upd_same (eF _ _ hco)
/-- a lambda is made -/
def tLamV (T : List (Addr × Str)) (y : Option Str) (mk : Addr → Value → LO) : TE := fun σ H Q => Tabs T H ∧ ∀ (f c' : Addr) (dV : Value) (H1 : Hp), ExtN H H1 → Tabs T H1 → DfAt H1 dV y → (∀ t, dV = .ref t → H t = none) → H f = none → H1 f = some (LamO f (mk c' dV)) → H1 c' = some (CodeO c' (mk c' dV).qual) → Q (.ref f) H1
theorem pe_lam {T : List (Addr × Str)} {c P : Addr} {params : Arguments} {body : Expr} {scope : Scope} {pos : Pos} {y : Option Str} (TB : TabB X.base X.mg c P) (hcode : X.env.code = .ref c)
    (hm : (P, X.env.qual ++ "<lambda>") ∈ T) (hu : ∀ p ∈ T, p.1 = P → p.2 = X.env.qual ++ "<lambda>") (hp : Par params y) (hfree : ∀ y ∈ scope.names, y.2 = .free → X.env.scope.names.lookup y.1 = some .cell ∨ X.env.scope.names.lookup y.1 = some .free) :
    PE X (.Lambda params body scope pos) (tLamV T y fun c' dV => ⟨X.env.qual ++ "<lambda>", params, body, scope, cloFrom X.env.cells scope.names [], c', dV⟩) := by
  refine ⟨fun pins s σ H Q I h => ?_⟩
  obtain ⟨hT, h⟩ := h
  have hfr : ∀ y ∈ scope.names, y.2 = .free → ∃ c, X.env.cells.lookup y.1 = some c := fun y hy e => (hfree y hy e).elim (fun z => I.ok.has _ (.inl z)) fun z => I.ok.has _ (.inr z)
  rw [arm_eval_Lambda]
  cases hp with
  | no =>
    show wpAny _ _ (do let dv ← evalAll []; let kdv ← holding dv (evalAllOpt []); makeFunction "<lambda>" (X.env.qual ++ "<lambda>") _ (.expr body) scope X.env dv kdv [] pos pos.line) _ _ s
    refine wpAny_bind (wpAny_pure (wpAny_bind (wpAny_holding (wpAny_pure ?_))))
    rw [makeFunction_eq]
    simp only [List.zip_nil_right, List.filterMap_nil, List.isEmpty_nil, if_true, pure_bind]
    exact lam_tail (y := none) I TB hcode hm hu hT rfl hfr fun f c' H1 s' I1 eN T1 D1 f0 f1 c1 => ⟨.ref f, H1, I1, rfl, h f c' _ H1 eN T1 D1 (fun t z => by cases z) f0 f1 c1⟩
  | one y p i j q =>
    show wpAny _ _ (do let dv ← evalAll [eval (.Constant (.int i) j q) X.env]; let kdv ← holding dv (evalAllOpt []); makeFunction "<lambda>" (X.env.qual ++ "<lambda>") _ (.expr body) scope X.env dv kdv [] pos pos.line) _ _ s
    have hc := (pe_int (X := X) (i := i) (j := j) (pos := q)).run pins s σ H (fun v H' => v = .int i ∧ H' = H) I ⟨rfl, rfl⟩
    refine wpAny_bind (wpAny_bind (wpAny_mono hc (fun u s1 z => ?_) fun _ _ z => z))
    obtain ⟨v, H1, I1, rv, ev, eH⟩ := z
    subst ev
    subst eH
    refine wpAny_bind (wpAny_holding (wpAny_pure (wpAny_pure ?_)))
    refine wpAny_bind (wpAny_holding (wpAny_pure ?_))
    rw [makeFunction_eq]
    simp only [List.zip_nil_right, List.zip_nil_left, List.filterMap_nil, List.isEmpty_nil, List.isEmpty_cons, Bool.false_eq_true, if_false, if_true, pure_bind]
    refine wpAny_bind (wpAny_newTextTuple ?_)
    have I2 := laidT (t' := s1.toks) (us := [u]) (xs := [.int i]) I1 (fun b u e => Heap.get?_push_of_some _ e) (Nat.le_refl _) (Heap.get?_push_size _ rfl) (.cons rv .nil) (by simp [sizeLine_eq])
    have nt := I1.hok.fresh (Nat.le_refl s1.heap.objs.size)
    have eT : ∀ b o, H1 b = some o → upd H1 s1.heap.objs.size (.frz { cls := .type "tuple", data := .seq [u].toArray } (.tup [.int i])) b = some o := fun b o e => (upd_ne (ne_of_none e nt)).trans e
    exact lam_tail (y := some y) (dV := .ref s1.heap.objs.size) I2 TB hcode hm hu (hT.ext eT) ⟨_, _, i, rfl, upd_same⟩ hfr fun f c' H1 s' I1 eN T1 D1 f0 f1 c1 => ⟨.ref f, H1, I1, rfl, h f c' _ H1 (fun b o e n => eN _ _ (eT _ _ e) n) T1 D1 (fun t z => by cases z; exact nt) (by
      unfold upd at f0
      split at f0
      · cases f0
      · exact f0) f1 c1⟩
end
/-! ### called -/
/-- the lambda's names: captured ones, globals, a parameter that is no slot of the maker's -/
structure LamS2 (N : List Str) (sc scope : Scope) (y : Option Str) : Prop where
  kind : scope.kind = .function
  co : scope.isCoroutine = false
  gen : scope.isGenerator = false
  own : ∀ x ∈ scope.names, x.2 ≠ .cell
  loc : ∀ x ∈ scope.names, x.2 = .local → x.1 ∉ N
  free : ∀ y ∈ scope.names, y.2 = .free → sc.names.lookup y.1 = some .cell ∨ sc.names.lookup y.1 = some .free
  par : ∀ x, y = some x → scope.names.lookup x = some .local
def lamS2B (N : List Str) (sc scope : Scope) (y : Option Str) : Bool :=
  decide (scope.kind = .function) && !scope.isCoroutine && !scope.isGenerator && (scope.names.all fun x => !decide (x.2 = .cell) && (!decide (x.2 = .local) || !decide (x.1 ∈ N)) && (!decide (x.2 = .free) || decide (sc.names.lookup x.1 = some .cell) || decide (sc.names.lookup x.1 = some .free))) &&
    (match y with | none => true | some x => decide (scope.names.lookup x = some .local))
theorem lamS2_by {N : List Str} {sc scope : Scope} {y : Option Str} (h : lamS2B N sc scope y = true) : LamS2 N sc scope y := by
  unfold lamS2B at h
  simp only [Bool.and_eq_true, Bool.or_eq_true, Bool.not_eq_true', decide_eq_true_eq, decide_eq_false_iff_not, List.all_eq_true] at h
  obtain ⟨⟨⟨⟨h1, h2⟩, h3⟩, h4⟩, h5⟩ := h
  refine ⟨h1, h2, h3, fun y hy => (h4 y hy).1.1, fun y hy e => ?_, fun y hy e => ?_, fun x e => ?_⟩
  · rcases (h4 y hy).1.2 with z | z
    · exact absurd e z
    · exact z
  · rcases (h4 y hy).2 with (z | z) | z
    · exact absurd e z
    · exact .inl z
    · exact .inr z
  · subst e
    simpa using h5
theorem LamS2.has {X : Cx} {N : List Str} {scope : Scope} {y : Option Str} (L : LamS2 N X.env.scope scope y) (ok : X.Ok) : ∀ y ∈ scope.names, y.2 = .free → ∃ c, X.env.cells.lookup y.1 = some c := fun y hy e => by
  rcases L.free y hy e with k | k
  · exact ok.has _ (.inl k)
  · exact ok.has _ (.inr k)
section
variable {X : Cx} {pins : List (Addr × Obj)} {σ : L2.St} {H HZ : Hp} {s s1 : Shared}
theorem lam_start3 {A : Around} {outer : List Env} {E : XK} {scope : Scope} {f c' : Addr} {h₁ : Heap} {tk : Nat} {y : Option Str} {m1 : Str → Option Value} (I : Inv X pins σ H s) (L : LamS2 X.N X.env.scope scope y) (e0 : Env0 X.prog X.w X.K X.mg X.base A outer s1 HZ) (hd : A.handled = none)
    (un : Un (frs X.stack) [] H HZ s.heap s1.heap) (hns : h₁.Ns s1.heap.objs.size m1) (kp : ∀ b o, s1.heap.get? b = some o → h₁.get? b = some o) :
    Inv (lamCxN X A outer s1 HZ E scope f c') [] σ HZ { s1 with heap := h₁, toks := tk } := by
  have hfree := L.has I.ok
  have cm : ∀ {y c}, (cloFrom X.env.cells scope.names []).lookup y = some c → X.env.cells.lookup y = some c := fun {y c} e => by
    rcases cloFrom_mem (PySem.mem_of_lookup e) with hm | ⟨h1, h2⟩
    · cases hm
    · obtain ⟨c1, hc⟩ := hfree _ h1 rfl
      have hc : X.env.cells.lookup y = some c1 := hc
      have e2 : c = c1 := by
        rw [h2, hc] <;> rfl
      rw [e2]
      exact hc
  have look : ∀ {y}, scope.names.lookup y = some .free → ∃ c, (cloFrom X.env.cells scope.names []).lookup y = some c := fun {y} hl => by
    have hy : (y, NameKind.free) ∈ scope.names := PySem.mem_of_lookup hl
    exact mem_lookup (cloFrom_has (cells := X.env.cells) (acc := []) hy)
  have cellK : ∀ {c : Addr} {v : Option Value}, H c = none → s.heap.IsCell c v → h₁.IsCell c v := fun {c v} n ⟨o, ho, hd⟩ => by
    obtain ⟨sl, q⟩ := un.any ho n (by simp)
    exact ⟨_, kp _ _ q, hd⟩
  have noA : ∀ b : Addr, b ∉ (lamCxN X A outer s1 HZ E scope f c').ex := fun b z => absurd (show b ∈ ([] : List Addr) from z) (by simp)
  refine ⟨⟨e0.mod, L.kind, rfl, rfl, Nat.le_refl _, fun y z c e1 e2 => I.ok.inj y z c (cm e1) (cm e2), fun y hy => ?_, fun y c z _ => ?_, fun _ => hd, Around.frames_deeper e0.frames, .inr ⟨rfl, rfl⟩, fun b z => absurd z (noA b), e0.bs, e0.bsz, fun b _ _ => noA b,
      fun b z => absurd z (noA b), e0.funs, e0.frf⟩,
    rfl, e0.bare, Un.kept kp, ⟨_, hns, fun i y v e1 e2 e3 => ?_⟩, fun y c e => ?_, e0.hok.fresh (Nat.le_refl _), fun y c e => ?_, fun q hq => absurd (show q ∈ ([] : List (Addr × Obj)) ++ [] from hq) (by simp), e0.hok.kept kp, I.len⟩
  · have hy : scope.names.lookup y = some .cell ∨ scope.names.lookup y = some .free := hy
    rcases hy with hy | hy
    · exact absurd rfl (L.own _ (PySem.mem_of_lookup hy))
    · exact look hy
  · have z : false = true := z
    cases z
  · have e3 : Vis scope y := e3
    rcases e3 with k | k | k
    · exact absurd (List.mem_of_getElem? (show X.N[i]? = some y from e1)) (L.loc _ (PySem.mem_of_lookup k) rfl)
    · exact absurd rfl (L.own _ (PySem.mem_of_lookup k))
    · obtain ⟨m, hn, hl⟩ := I.loc
      have hvis : Vis X.env.scope y := (L.free _ (PySem.mem_of_lookup k) rfl).elim (fun k => .inr (.inl k)) (fun k => .inr (.inr k))
      obtain ⟨w', r, q⟩ := hl i y v e1 e2 hvis
      obtain ⟨c2, h2⟩ := look k
      refine ⟨w', r, .inr ⟨.inr k, c2, h2, ?_⟩⟩
      have c1 := cm h2
      rcases q with ⟨k', _⟩ | ⟨_, c3, e', z⟩
      · have k' : X.env.scope.names.lookup y = some .local := k'
        rcases L.free _ (PySem.mem_of_lookup k) rfl with k2 | k2 <;> rw [show X.env.scope.names.lookup y = _ from k2] at k' <;> cases k'
      · rw [c1] at e'
        cases e'
        exact cellK (I.freeC y _ c1) z
  · obtain ⟨w', z⟩ := I.cell y c (cm e)
    exact ⟨w', cellK (I.freeC y c (cm e)) z⟩
  · obtain ⟨v, o, ho, hd⟩ := I.cell y c (cm e)
    exact un.free c o ho (I.freeC y c (cm e)) (by simp)
/-- the made lambda of X's def -/
abbrev lo (X : Cx) (params : Arguments) (body : Expr) (scope : Scope) (c' : Addr) (dV : Value) : LO := ⟨X.env.qual ++ "<lambda>", params, body, scope, cloFrom X.env.cells scope.names [], c', dV⟩
theorem bind_one {M : Model} {A : Around} {E : Value → Shared → Prop} {s : Shared} {Q : List (Str × Value) → Shared → Prop} {fd : FuncData} {y : Str} {p : Pos} {d : Expr} {t : Addr} {o : Obj} {v : Value} {n : Nat} (hp : fd.params = ⟨[], [⟨y, none, p⟩], none, [], [], none, [d]⟩) (hd : fd.defaults = .ref t)
    (ho : s.heap.get? t = some o) (hi : o.data = .seq #[v] n) (h : Q [(y, v)] s) : wpAny M A (bindArgs fd ⟨[], []⟩) Q E s := by
  unfold bindArgs
  rw [hp, hd]
  simp only [List.map_nil, List.map_cons, List.nil_append, List.zip_nil_right, List.length_nil, List.length_cons, List.forIn_nil, pure_bind]
  refine wpAny_bind (wpAny_seqItems ho hi ?_)
  simp
  exact wpAny_pure h
/-- called, from wherever: X's slots stand as they stood at s -/
theorem lam_run {A : Around} {outer : List Env} {f c' : Addr} {dV : Value} {params : Arguments} {body : Expr} {scope : Scope} {y : Option Str} {k : Nat} {Q : VK} {E : XK} {tb : XK → TE} (I : Inv X pins σ H s) (L : LamS2 X.N X.env.scope scope y) (hp : Par params y)
    (e0 : Env0 X.prog X.w X.K X.mg X.base A outer s1 HZ) (un : Un (frs X.stack) [] H HZ s.heap s1.heap) (hr : Room (k + 1) A) (hf : HZ f = some (LamO f (lo X params body scope c' dV))) (hc : HZ c' = some (CodeO c' (X.env.qual ++ "<lambda>"))) (hdf : DfAt HZ dV y)
    (hbody : ∀ (f c' : Addr) (s0 : Shared) (E : XK) (A : Around) (outer : List Env) (s : Shared) (H : Hp), Room k (A.deeper (lamEnv X scope s0.heap.objs.size f c')) → PE (lamCxN X A outer s H E scope f c') body (tb E)) (ht : tb E σ HZ Q) :
    codeAny (model X.prog X.w) A (.call (.ref f) ⟨[], []⟩) (CR (L2N.CX X.prog X.w) outer X.prog X.w HZ s1 Q E) s1 := by
  obtain ⟨⟨pm, ctv, of1⟩, _, _⟩ := e0.hok f _ hf
  obtain ⟨⟨oc, vs, t, hoc, hdc, hvc⟩, _, _⟩ := e0.hok c' _ hc
  refine PySem.W.kla_callFunE hr.depth of1 rfl L.co L.gen rfl ⟨c', oc, vs, t, rfl, hoc, hdc, hvc⟩ ?_
  have go : ∀ (binds : List (Str × Value)) (tk : Nat), (∀ x ∈ binds, scope.names.lookup x.1 = some .local) → wpAny (model X.prog X.w) A.in1 (newFunctionEnv scope mainGlobals (cloFrom X.env.cells scope.names []) binds ((X.env.qual ++ "<lambda>") ++ ".<locals>.") (some f) (.ref c') none builtinsNs)
        (fun env s₂ => s₂.heap.NoLimit ∧ codeAny (model X.prog X.w) A (.expr body env) (CR (L2N.CX X.prog X.w) outer X.prog X.w HZ s1 Q E) s₂) (fun e s' => CR (L2N.CX X.prog X.w) outer X.prog X.w HZ s1 Q E (.error e) s') s1 := fun binds tk hb => by
    refine wpAny_newFunctionEnv (fun y hy => L.own y hy) hb (fun h₁ hns hsb => ⟨(e0.mod.nolimit.keeps fun b o e => (e0.bs b o e).1).fresh _ hsb, ?_⟩) L.kind
    show codeAny _ _ (.expr body (lamEnv X scope s1.heap.objs.size f c')) _ _
    have kp : ∀ b o, s1.heap.get? b = some o → h₁.get? b = some o := fun b o e => hsb.extBut b o (Nat.ne_of_lt (Heap.lt_size e)) (Heap.get?_push_of_some _ e)
    have J : Inv (lamCxN X A outer s1 HZ E scope f c') [] σ HZ { s1 with heap := h₁, toks := s1.toks + binds.length } := lam_start3 I L e0 hr.hd un hns kp
    refine PySem.W.kla_codeExpr (wpAny_mono ((hbody f c' s1 E _ _ s1 HZ (hr.deeper _)).run [] _ _ HZ Q J ht) (fun v s' hq => ?_) fun e s' hq => hq)
    obtain ⟨w', H', J', rv, q⟩ := hq
    exact ⟨w', H', J'.os, J'.bare, J'.base, J'.hok, rv, q⟩
  cases hp with
  | no =>
    have e : dV = .none := hdf
    subst e
    exact wpAny_pure (go [] 0 fun _ h => by cases h)
  | one y p i j q =>
    obtain ⟨t, us, i', rfl, ht'⟩ := hdf
    obtain ⟨hg, _, us', r, o, ho, _, n, hd⟩ := e0.hok t _ ht'
    cases r with
    | @cons _ v _ vs r1 r2 =>
      cases r2
      exact bind_one rfl rfl ho hd (go [(y, v)] 1 fun x hx => by
        rw [List.mem_singleton.mp hx]
        exact L.par y rfl)
/-- x(), where x is a slot of the maker's own -/
theorem pe_lcall {CX : CXT} {A : Around} {f c' : Addr} {params : Arguments} {body : Expr} {scope : Scope} {y : Option Str} {k i : Nat} {E : XK} {x : Str} {tb : XK → TE} {p1 p2 : Pos} (L : LamS2 X.N X.env.scope scope y) (hp : Par params y)
    (hx : Passes (L2N.CX X.prog X.w) X E) (hr : Room (k + 1) X.A) (hbody : ∀ (f c' : Addr) (s0 : Shared) (E : XK) (A : Around) (outer : List Env) (s : Shared) (H : Hp), Room k (A.deeper (lamEnv X scope s0.heap.objs.size f c')) → PE (lamCxN X A outer s H E scope f c') body (tb E))
    (hN : X.N[i]? = some x) (hv : Vis X.env.scope x) (hd : (x == ("__debug__" : Str)) = false) (hcd : (x == ("__classdict__" : Str)) = false) :
    PE X (.Call (.Name x p1) [] [] p2) (fun σ H Q => ∃ (f c' : Addr) (dV : Value), σ[i]? = some (some (.ref f)) ∧ H f = some (LamO f (lo X params body scope c' dV)) ∧ H c' = some (CodeO c' (X.env.qual ++ "<lambda>")) ∧ DfAt H dV y ∧ tb E σ H Q) := by
  refine ⟨fun pins s σ H Q I h => ?_⟩
  obtain ⟨f, c', dV, hs, hf, hc, hdf, ht⟩ := h
  refine wpAny_Call_Name_kw (thn ((pe_var (pos := p1) (i := i) hN hv hd hcd).run pins s σ H (fun v H1 => v = .ref f ∧ H1 = H) I ⟨.ref f, hs, rfl, rfl⟩) fun u s1 ⟨v, H1, I1, r1, ev, eH⟩ => ?_)
  subst ev
  rw [eH] at I1
  obtain rfl : u = Value.ref f := r1
  obtain ⟨⟨pm, ctv, of1⟩, _, _⟩ := I1.hok f _ hf
  refine PySem.W.callWith_F0 ⟨_, _, _, _, of1⟩ ?_
  refine wpAny_call (codeAny_mono (lam_run (X := X) I1 L hp I1.env0 Un.refl hr hf hc hdf hbody ht) fun r s' hq => ?_)
  cases r with
  | error e => exact hx pins σ H s1 e s' I1 hq
  | ok fl =>
    cases fl with
    | ret u => exact I1.after hq
    | next => exact False.elim hq
    | brk => exact False.elim hq
    | cont => exact False.elim hq
/-- x(), in the def that got the lambda: Z is that def's context, entered at s -/
theorem pe_act3 {CXg : CXT} {Eg : XK} {Ng : List Str} {qg : Str} {sg : Scope} {g f c' : Addr} {cdg dV : Value} {params : Arguments} {body : Expr} {scope : Scope} {y : Option Str} {k i : Nat} {a : Str} {pn : List (Addr × Obj)} {xe : Value → Shared → Prop} {W : WX} {tb : XK → TE} {p1 p2 : Pos}
    (I : Inv X pins σ H s) (L : LamS2 X.N X.env.scope scope y) (hp : Par params y)
    (tk : L2N.Takes ((cxOf CXg X.prog X.w X.K X.mg X.base Ng qg sg g cdg X.A X.stack s H Eg).tr pn xe) W) (hr : Room (k + 1) (X.A.deeper (envOfC qg sg s.heap.objs.size g cdg)))
    (hbody : ∀ (f c' : Addr) (s0 : Shared) (E : XK) (A : Around) (outer : List Env) (s : Shared) (H : Hp), Room k (A.deeper (lamEnv X scope s0.heap.objs.size f c')) → PE (lamCxN X A outer s H E scope f c') body (tb E))
    (hN : Ng[i]? = some a) (hv : Vis sg a) (hd : (a == ("__debug__" : Str)) = false := by decide) (hcd : (a == ("__classdict__" : Str)) = false := by decide) :
    PE ((cxOf CXg X.prog X.w X.K X.mg X.base Ng qg sg g cdg X.A X.stack s H Eg).tr pn xe) (.Call (.Name a p1) [] [] p2)
      (fun σZ HZ Q => σZ[i]? = some (some (.ref f)) ∧ HZ f = some (LamO f (lo X params body scope c' dV)) ∧ HZ c' = some (CodeO c' (X.env.qual ++ "<lambda>")) ∧ DfAt HZ dV y ∧ tb (fun cls d H => W cls d σZ H) σ HZ Q) := by
  refine ⟨fun pinsZ sZ σZ HZ Q IZ h => ?_⟩
  obtain ⟨hs, hf, hc, hdf, ht⟩ := h
  generalize hE : (fun cls d H => W cls d σZ H : XK) = E at ht
  refine wpAny_Call_Name_kw (thn ((pe_var (pos := p1) (i := i) hN hv hd hcd).run pinsZ sZ σZ HZ (fun v H1 => v = .ref f ∧ H1 = HZ) IZ ⟨.ref f, hs, rfl, rfl⟩) fun u s1 ⟨v, H1, I1, r1, q1⟩ => ?_)
  obtain ⟨ev, eH⟩ := q1
  subst ev
  rw [eH] at I1
  obtain rfl : u = Value.ref f := r1
  obtain ⟨⟨pm, ctv, of1⟩, _, _⟩ := I1.hok f _ hf
  refine PySem.W.callWith_F0 ⟨_, _, _, _, of1⟩ ?_
  have un : Un (frs X.stack) [] H HZ s.heap s1.heap := I1.base
  refine wpAny_call (codeAny_mono (lam_run (X := X) (s := s) (s1 := s1) (H := H) (HZ := HZ) (A := X.A.deeper (envOfC qg sg s.heap.objs.size g cdg)) (outer := envOfC qg sg s.heap.objs.size g cdg :: X.stack) (E := E) (Q := Q) I L hp I1.env0 un hr hf hc hdf hbody ht) fun r s' hq => ?_)
  cases r with
  | error e =>
    rw [← hE] at hq
    exact L2N.passAt tk σZ pinsZ HZ s1 e s' I1 hq
  | ok fl =>
    cases fl with
    | ret u => exact I1.after hq
    | next => exact False.elim hq
    | brk => exact False.elim hq
    | cont => exact False.elim hq
end
end ExW
/-! ExY: _law_refused called with a lambda of the caller's own. -/
namespace ExY
open PySem PySem.Spec PyProof.Rows L2 L2H LamX ExI ExJ ExK ExL ExR ExS ExT ExV ExW
/-- what is known of _law_refused -/
structure RfOk (P : Program) (w : World) (K : PySem.W.Frag) (mg : Str → Option Value) (base : Heap) (kk : Nat) (CA g : Addr) (ClsF : Addr → (Nat → Bool) → Prop) : Prop where
  hm : mg "_law_refused" = some (.ref g)
  hk : PySem.W.keepIn K (.ref g) = true
  run : ∃ (oc : Value) (od : Option Addr) (pg : Arguments) (bg : List Stmt) (sg : Scope) (dV kV doc pm : Value) (an : Option Addr) (cdv ct : Value) (osl : Array (Option Value)) (q1 q2 : Pos),
    K.lookup g = some ⟨oc, od, .func (PySem.W.fnOf "_law_refused" "_law_refused" pg bg sg dV kV doc pm an cdv ct), osl⟩ ∧ PySem.W.codeIn K cdv "_law_refused" = true ∧ L2.Binds K (PySem.W.fnOf "_law_refused" "_law_refused" pg bg sg dV kV doc pm an cdv ct) ["_law_work", "_law_word", "_law_value"] [] ∧
    FnScope rfN ["_law_work", "_law_word", "_law_value"] sg ∧ Vis sg "_law_work" ∧
    ∀ (Z : Cx) (tAct : WX → TE), Z.prog = P → Z.w = w → Z.K = K → Z.mg = mg → Z.base = base → Z.N = rfN → Z.env.scope = sg → Z.stack = Z.env :: Z.outer → Z.env.frame = some Z.env.locals → RoomH kk Z.A →
      (∀ (W : WX) (pn : List (Addr × Obj)) (xe : Value → Shared → Prop), L2N.Takes (Z.tr pn xe) W → PE (Z.tr pn xe) (.Call (.Name "_law_work" q1) [] [] q2) (tAct W)) →
      PSs Z bg (fun E σ H => tAct (wAs K (.ref CA) 3 (tsR ClsF) (fun _ _ _ _ => False) { E with nx := fun _ H1 => E.rt (.bl false) H1 }) σ H fun _ H1 => E.rt (.bl false) H1)
/-- the words of a lambda -/
structure LW where
  params : Arguments
  body : Expr
  scope : Scope
  y : Option Str
/-- the lambda l of X's def stands at f -/
def LamAt (X : Cx) (l : LW) (H : Hp) (f : Addr) : Prop := ∃ (c' : Addr) (dV : Value), H f = some (LamO f (lo X l.params l.body l.scope c' dV)) ∧ H c' = some (CodeO c' (X.env.qual ++ "<lambda>")) ∧ DfAt H dV l.y
def tRef (X : Cx) (L : Nat → LW → Prop) (CA : Addr) (ClsF : Addr → (Nat → Bool) → Prop) (tb : Nat → XK → TE) (ta : TA) : TE := fun σ H Q => ta σ H fun vs H1 => ∃ (f : Addr) (w : Str) (v : V) (k : Nat) (l : LW), vs = [.ref f, .str w, v] ∧ L k l ∧ LamAt X l H1 f ∧ w ≠ "wakes" ∧
  ∀ E : XK, (∀ cls d H', EchR X.K CA ClsF w v Q cls d H' → E cls d H') → tb k E σ H1 fun _ H2 => Q (.bl false) H2
section
variable {X : Cx}
theorem pe_ref {kk k : Nat} {CA g : Addr} {ClsF : Addr → (Nat → Bool) → Prop} {L : Nat → LW → Prop} {tb : Nat → XK → TE} {ta : TA} {e : Expr} {es : List Expr} {p pos : Pos} (R : RfOk X.prog X.w X.K X.mg X.base kk CA g ClsF) (hg : Gl X "_law_refused") (hr : Room (k + 2) X.A) (hkk : kk ≤ k + 1)
    (hL : ∀ j l, L j l → LamS2 X.N X.env.scope l.scope l.y ∧ Par l.params l.y ∧ ∀ (f c' : Addr) (s0 : Shared) (E : XK) (A : Around) (outer : List Env) (s : Shared) (H : Hp), Room k (A.deeper (lamEnv X l.scope s0.heap.objs.size f c')) → PE (lamCxN X A outer s H E l.scope f c') l.body (tb j E))
    (ha : PA X (e :: es) ta) (he : starEach (e :: es) X.env = (false, eval e X.env) :: starEach es X.env) (hpl : (backTo pos (starEach es X.env)).any (·.1) = false) :
    PE X (.Call (.Name "_law_refused" p) (e :: es) [] pos) (tRef X L CA ClsF tb ta) := by
  obtain ⟨oc, od, pg, bg, sg, dV, kV, doc, pm, an, cdv, ct, osl, q1, q2, lk, hcd, hb, Sg, hv, run⟩ := R.run
  refine ⟨fun pins s σ H Q I h => ?_⟩
  refine wpAny_Call_Name_kw (ld_glob I hg R.hm ?_ (by decide))
  refine PySem.W.callWith_K (h₀ := X.base) I.ok.mod.kin R.hk (thn (ha.run pos pins s σ H _ I h) fun us s1 ⟨vs, H1, I1, r, q⟩ => ⟨I1.kIn, ?_⟩) he hpl
  obtain ⟨f, w, v, j, l, rfl, hl, ⟨c', dV', hf, hc, hdf⟩, hw, ht⟩ := q
  obtain ⟨L1, L2', L3⟩ := hL j l hl
  have b := hb s1 us I1.kIn (by rw [List.append_nil, ← r.length]; rfl)
  rw [List.append_nil] at b
  have rc : codeAny (model X.prog X.w) X.A (.call (.ref g) ⟨us, []⟩) (CR C8.CX0 X.stack X.prog X.w H1 s1 Q C8.E0) s1 := by
    refine run_ofS (N := rfN) (ps := ["_law_work", "_law_word", "_law_value"]) (us := us) (vs := [.ref f, .str w, v]) lk hcd Sg hr I1.env0 b r rfl fun hr' => ?_
    have S := run ((cxOf C8.CX0 X.prog X.w X.K X.mg X.base rfN "_law_refused" sg g cdv X.A X.stack s1 H1 C8.E0).nox)
      (fun W σZ HZ Q => σZ[0]? = some (some (.ref f)) ∧ HZ f = some (LamO f (lo X l.params l.body l.scope c' dV')) ∧ HZ c' = some (CodeO c' (X.env.qual ++ "<lambda>")) ∧ DfAt HZ dV' l.y ∧ tb j (fun cls d H => W cls d σZ H) σ HZ Q)
      rfl rfl rfl rfl rfl rfl rfl rfl rfl (RoomH.mono (k := k + 1) ⟨hr'.dp, hr'.un⟩ hkk) (fun W pn xe tk => pe_act3 (CXg := C8.CX0) (Eg := C8.E0) (Ng := rfN) (i := 0) (a := "_law_work") (f := f) (c' := c') (dV := dV') (p1 := q1) (p2 := q2) (tb := tb j) I1 L1 L2' tk hr' L3 rfl hv)
    refine ⟨_, S.nox, rfl, hf, hc, hdf, ht _ fun cls d H' h => ?_⟩
    obtain ⟨hx, D, b', rfl, cf, hd, hq⟩ := h
    exact ⟨true, hx, fun _ a ha => ⟨D, b', rfl, cf, w, v, rfl, rfl, rfl, hd, hw, hq⟩, fun z => by cases z⟩
  refine wpAny_call (codeAny_mono rc fun r s3 hq => ?_)
  cases r with
  | error e => exact (show False from hq).elim
  | ok fl =>
    cases fl with
    | ret u => exact I1.after hq
    | next => exact False.elim hq
    | brk => exact False.elim hq
    | cont => exact False.elim hq
end
end ExY
/-! EnumS: enumerate(text). -/
namespace EnumS
open PySem PySem.Spec PyProof.Rows L2
/-- the signs of a text, each in a new pair -/
def Ies (x : Str) : It := ⟨fun i _ => i < x.cps.size, fun i H v H' => ∃ T c, v = .ref T ∧ H T = none ∧ x.cps[i]? = some c ∧ H' = upd H T (.tup [.int (i : Nat), .str ⟨#[c]⟩]), fun i _ => x.cps.size ≤ i⟩
theorem turn_enumS {P : Program} {w : World} {K : PySem.W.Frag} {elts : List Expr} {kk : Nat} {tpos : Pos} (e it : Addr) (x : Str) (t : Tok) (ty : String) (hty : ty = "str_ascii_iterator" ∨ ty = "str_iterator") :
    Turn P w K (.Tuple elts kk tpos) (Ies x) [e, it] e (fun i h => (∃ old, IsEnum h e it ((i : Nat) : Int) old) ∧ h.IsStrIter it ty x t i ∧ e ≠ it) where
  mem := by simp
  obj := fun i h st b hb => by
    obtain ⟨⟨old, he⟩, ⟨o, ho, hc, hd⟩, _⟩ := st
    have e' : b = e ∨ b = it := by simpa using hb
    rcases e' with z | z
    · rw [z]; exact ⟨_, he, fun v q => nomatch q⟩
    · rw [z]; exact ⟨o, ho, fun v q => by rw [hd] at q; cases q⟩
  keep := fun i h h' st k => let ⟨⟨old, he⟩, ⟨o, ho, r⟩, hne⟩ := st; ⟨⟨old, k e (by simp) _ he⟩, ⟨o, k it (by simp) o ho, r⟩, hne⟩
  item := by
    intro X hP hw hK hc i pins s σ H E I hf st hg
    subst hP hw hK
    obtain ⟨⟨old, he⟩, hit, hne⟩ := st
    have D : Draws X.prog X.w X.A.in1 it [it] x.cps.size (fun i v => ∃ c u, x.cps[i]? = some c ∧ v = .str ⟨#[c]⟩ u) (fun i h => h.IsStrIter it ty x t i) := by
      rcases hty with e | e
      · rw [e]; exact Draws.strAscii (A := X.A.in1) (show X.A.in1.handled = none from I.ok.hd hc) it x t
      · rw [e]; exact Draws.strWide (A := X.A.in1) (show X.A.in1.handled = none from I.ok.hd hc) it x t
    have hel : e < s.heap.objs.size := Heap.lt_size he
    have hil : it < s.heap.objs.size := by obtain ⟨_, q, _⟩ := hit; exact Heap.lt_size q
    refine wpAny_pyNext_enum_itemD D he hit hg hne (by simpa using hne) fun v h' tk hv ho hit' hT hsz hk => ?_
    obtain ⟨c, u, hcx, rfl⟩ := hv
    refine ⟨_, rfl, wpAny_letOwnedTupleGo_enum (s := { s with heap := h', toks := tk + 1 }) ho fun h'' he' sb => ?_⟩
    have hT2 : h''.get? s.heap.objs.size = some { cls := .type "tuple", data := .seq #[.int i tk, .str ⟨#[c]⟩ u] } := (sb.2 _ (Nat.ne_of_gt hel)).trans hT
    have new : ObjOk X.prog X.w (upd H s.heap.objs.size (.tup [.int (i : Nat), .str ⟨#[c]⟩])) h'' s.heap.objs.size (.tup [.int (i : Nat), .str ⟨#[c]⟩]) :=
      ⟨by show 2 ≤ sizeLine; decide, [.int i tk, .str ⟨#[c]⟩ u], .cons ⟨_, rfl⟩ (.cons ⟨_, rfl⟩ .nil), ⟨_, hT2, rfl, _, rfl⟩⟩
    have I1 : Inv X pins σ (upd H s.heap.objs.size (.tup [.int (i : Nat), .str ⟨#[c]⟩])) { s with heap := h'', toks := tk + 1 } :=
      I.turnedNew (ch := [e, it]) (fun b ob hb q => (sb.2 b (fun z => hb (by simp [z]))).trans (hk b ob (fun z => hb (by simp [z])) (fun z => hb (by simp [z])) q)) hf (Nat.le_refl _) new
    refine ⟨.ref s.heap.objs.size, _, I1, rfl, ⟨_, c, rfl, I.hok.fresh (Nat.le_refl _), hcx, rfl⟩, ⟨⟨.str ⟨#[c]⟩ u, ?_⟩, ?_, hne⟩, fun b hb => ?_⟩
    · have e1 : ((i + 1 : Nat) : Int) = (i : Int) + 1 := by omega
      rw [e1]; exact he'
    · obtain ⟨o, q1, q2⟩ := hit'
      exact ⟨o, (sb.2 it (Ne.symm hne)).trans q1, q2⟩
    · have hb' : b < s.heap.objs.size := by
        have e' : b = e ∨ b = it := by simpa using hb
        rcases e' with z | z
        · rw [z]; exact hel
        · rw [z]; exact hil
      rw [upd_ne (Nat.ne_of_lt hb')]
      exact (hf b hb).1
  done := by
    intro X hP hw hK hc i pins s σ H E I hf st hg
    subst hP hw hK
    obtain ⟨⟨old, he⟩, hit, hne⟩ := st
    obtain ⟨f0, f1, f2, f3, f4, f5⟩ := hf it (by simp)
    have hx : x.cps[i]? = none := Array.getElem?_eq_none hg
    have hT : s.TypeIs (.ref e) "enumerate" := ⟨_, he, rfl⟩
    have go : ∀ {Q : Value → Shared → Prop} {E2 : Value → Shared → Prop}, (∀ h' e, Heap.ExtBut it s.heap h' → (∃ o, h'.get? e = some o ∧ o.cls = .type "StopIteration") → E2 (.ref e) { s with heap := h' }) → wpAny (model X.prog X.w) X.A.in1 (Builtin.SmallTypes.nextOf (.ref it)) Q E2 s := fun hE => by
      rcases hty with q | q
      · rw [q] at hit; exact wpAny_nextOf_ascii_end (A := X.A.in1) (show X.A.in1.handled = none from I.ok.hd hc) hit hx hE
      · rw [q] at hit; exact wpAny_nextOf_wide_end (A := X.A.in1) (show X.A.in1.handled = none from I.ok.hd hc) hit hx hE
    unfold pyNext
    refine wpAny_bind (wpAny_attempt (wpAny_callSpecial?_slot (name := Str.ofString "__next__") hT F.slot_enumerate_next
      (wpAny_call_entry F.slot_enumerate_next hT F.entry_enumerate_next ?_ (F.args_enumerate_next_1 _))))
    show wpAny _ _ (field (.ref e) 2 >>= _) _ _ _
    refine wpAny_bind (wpAny_field he rfl (x := .ref it) rfl ?_)
    refine wpAny_bind (go fun h' e2 hx' hs' => ?_)
    obtain ⟨o, ho, hc'⟩ := hs'
    refine wpAny_bind (wpAny_isInstance (T := "StopIteration") (b := true) ⟨o, ho, hc'⟩ isSubtype_stop ?_)
    exact wpAny_pure ⟨rfl, I.turned (t' := s.toks) (fun b o hb q => hx' b o hb q) f0 f1 f3 f4 f5⟩
  self := fun A i s Q E st h => let ⟨⟨_, he⟩, _⟩ := st; wpAny_pyIter_enum he h
def iEnumS (ta : TA) : TI := fun σ H R => ta σ H fun vs H1 => ∃ x, vs = [.str x] ∧ R (Ies x) H1
theorem pi_enumS {X : Cx} {e : Expr} {ta : TA} {p pos tpos : Pos} {elts : List Expr} {kk : Nat} (hg : Gl X "enumerate") (hm : X.mg "enumerate" = none) (ha : PA X [e] ta) (hs : starEach [e] X.env = [(false, eval e X.env)]) :
    PI X (.Tuple elts kk tpos) (.Call (.Name "enumerate" p) [e] [] pos) (iEnumS ta) := by
  refine ⟨fun pins s σ H R I h => ?_⟩
  refine Call_ (ld_blt I hg hm boot_enumerate (PyProof.Rows.callWith_type1 (thn (ha.run pos pins s σ H _ I h) fun us s1 ⟨vs, H1, I1, r1, q1⟩ => ?_) hs rfl))
  obtain ⟨x, ex, q⟩ := q1
  subst ex
  cases r1 with
  | cons r rr =>
    cases rr
    obtain ⟨t, rfl⟩ := r
    refine call_enumerate_str fun h' he hit hsz hk => wpAny_pyIter_enum he ?_
    have I2 : Inv X pins σ H1 { s1 with heap := h' } := I1.kept (t' := s1.toks) hk
    have hty : strIterType x = "str_ascii_iterator" ∨ strIterType x = "str_iterator" := by
      unfold strIterType
      split
      · exact .inl rfl
      · exact .inr rfl
    refine ⟨s1.heap.objs.size + 1, [s1.heap.objs.size + 1, s1.heap.objs.size], _, _, H1, rfl, I2, turn_enumS (s1.heap.objs.size + 1) s1.heap.objs.size x t (strIterType x) hty, ⟨⟨.none, he⟩, hit, Nat.succ_ne_self _⟩, fun b hb => ?_, q⟩
    have e' : b = s1.heap.objs.size + 1 ∨ b = s1.heap.objs.size := by simpa using hb
    have hle : s1.heap.objs.size ≤ b := by
      rcases e' with z | z
      · rw [z]; exact Nat.le_add_right _ _
      · rw [z]; exact Nat.le_refl _
    exact I1.fpOk hle (I1.hok.fresh hle)
end EnumS
/-! ExZ: enumerate(text | list), len(set(ints)), a text's count of a sign. -/
namespace ExZ
open PySem PySem.Spec PyProof.Rows L2
def iEnA (K : PySem.W.Frag) (ta : TA) : TI := fun σ H R => ta σ H fun vs H1 => (∃ x, vs = [.str x] ∧ R (EnumS.Ies x) H1) ∨ ∃ a xs, vs = [.ref a] ∧ SqL K H1 a xs ∧ R (Ite K a) H1
theorem pi_enA {X : Cx} {e : Expr} {ta : TA} {p pos tpos : Pos} {elts : List Expr} {kk : Nat} (hg : Gl X "enumerate") (hm : X.mg "enumerate" = none) (ha : PA X [e] ta) (hs : starEach [e] X.env = [(false, eval e X.env)]) :
    PI X (.Tuple elts kk tpos) (.Call (.Name "enumerate" p) [e] [] pos) (iEnA X.K ta) := by
  refine ⟨fun pins s σ H R I h => ?_⟩
  refine Call_ (ld_blt I hg hm boot_enumerate (PyProof.Rows.callWith_type1 (thn (ha.run pos pins s σ H _ I h) fun us s1 ⟨vs, H1, I1, r1, q1⟩ => ?_) hs rfl))
  rcases q1 with ⟨x, ex, q⟩ | ⟨a, xs, ex, hq, q⟩
  · subst ex
    cases r1 with
    | cons r rr =>
      cases rr
      obtain ⟨t, rfl⟩ := r
      refine call_enumerate_str fun h' he hit hsz hk => wpAny_pyIter_enum he ?_
      have I2 : Inv X pins σ H1 { s1 with heap := h' } := I1.kept (t' := s1.toks) hk
      have hty : strIterType x = "str_ascii_iterator" ∨ strIterType x = "str_iterator" := by
        unfold strIterType
        split
        · exact .inl rfl
        · exact .inr rfl
      refine ⟨s1.heap.objs.size + 1, [s1.heap.objs.size + 1, s1.heap.objs.size], _, _, H1, rfl, I2, EnumS.turn_enumS (s1.heap.objs.size + 1) s1.heap.objs.size x t (strIterType x) hty, ⟨⟨.none, he⟩, hit, Nat.succ_ne_self _⟩, fun b hb => ?_, q⟩
      have e' : b = s1.heap.objs.size + 1 ∨ b = s1.heap.objs.size := by simpa using hb
      have hle : s1.heap.objs.size ≤ b := by
        rcases e' with z | z
        · rw [z]; exact Nat.le_add_right _ _
        · rw [z]; exact Nat.le_refl _
      exact I1.fpOk hle (I1.hok.fresh hle)
  · subst ex
    cases r1 with
    | cons r rr =>
      cases rr
      cases r
      obtain ⟨its, rv, p', hz⟩ := I1.list hq
      refine call_enumerate_list p'.isList fun h' he hit hsz hk => wpAny_pyIter_enum he ?_
      have I2 : Inv X pins σ H1 { s1 with heap := h' } := I1.kept (t' := s1.toks) hk
      refine ⟨s1.heap.objs.size + 1, [s1.heap.objs.size + 1, s1.heap.objs.size], _, _, H1, rfl, I2, turn_enum a (s1.heap.objs.size + 1) s1.heap.objs.size, ⟨⟨.none, he⟩, hit, Nat.succ_ne_self _⟩, fun b hb => ?_, q⟩
      have e' : b = s1.heap.objs.size + 1 ∨ b = s1.heap.objs.size := by simpa using hb
      have hle : s1.heap.objs.size ≤ b := by
        rcases e' with z | z
        · rw [z]; exact Nat.le_add_right _ _
        · rw [z]; exact Nat.le_refl _
      exact I1.fpOk hle (I1.hok.fresh hle)
/-! ### len(set(ints)) -/
def fmN (ns : List Int) : Nat := (firstMet (fun i => ns.getD i 0) ns.length).length
def tLenSetI (K : PySem.W.Frag) (ta : TE) : TE := fun σ H Q => ta σ H fun x H1 => ∃ a ns, x = .ref a ∧ SqL K H1 a (ns.map V.int) ∧ ns.length ≤ 50 ∧ Q (.int (fmN ns : Nat)) H1
theorem pe_lenSetI {X : Cx} {a : Expr} {ta : TE} {p p2 q pos : Pos} (hc : X.calm = true) (hg : Gl X "len") (hm : X.mg "len" = none) (hg2 : Gl X "set") (hm2 : X.mg "set" = none) (ha : PE X a ta)
    (na : starEach [a] X.env = (false, eval a X.env) :: starEach [] X.env) : PE X (.Call (.Name "len" p) [.Call (.Name "set" p2) [a] [] q] [] pos) (tLenSetI X.K ta) := by
  refine ⟨fun pins s σ H Q I h => ?_⟩
  refine Call_ (ld_blt I hg hm boot_len ?_)
  refine PyProof.Rows.callWith_builtin1 (PyProof.Rows.args_cons ?_ rfl) rfl rfl
  refine Call_ (ld_blt I hg2 hm2 boot_set ?_)
  refine PyProof.Rows.callWith_type1 (PyProof.Rows.args_cons (thn (ha.run pins s σ H _ I h) fun v s1 ⟨x, H1, I1, r1, q1⟩ => PyProof.Rows.args_nil ?_) na) na rfl
  obtain ⟨l, ns, rfl, hq, h1, q1⟩ := q1
  cases r1
  obtain ⟨its, r, pl, hz⟩ := I1.list hq
  have hl : its.toArray.size = ns.length := by rw [List.size_toArray, ← r.length, List.length_map]
  refine call_set_list (I1.ok.hd hc) pl.isList (ns := ns) (by simpa using r.ints) (by rw [hl]; unfold scanBound; omega) fun h' tk hS hk => ?_
  refine PyProof.Rows.args_nil ?_
  rw [hl] at hS
  obtain ⟨o, es, ep, t, ho, hex, hd, _, _, _, hf, hn⟩ := hS
  have I2 : Inv X pins σ H1 { s1 with heap := h', toks := tk } := I1.kept fun b o e => hk b o (Heap.lt_size e) e
  have hb := firstMet_length_le (fun i => ns.getD i 0) ns.length
  exact call_len_set ho hex hd hf (by rw [hn]; omega) ⟨.int (fmN ns : Nat), H1, I2.tok _, ⟨_, by unfold fmN; rw [hn]⟩, q1⟩
theorem fm_nodup (f : Nat → Int) : ∀ i, (firstMet f i).Nodup
  | 0 => List.nodup_nil
  | i + 1 => by
    rw [firstMet_succ]
    unfold step_dedup
    have ih := fm_nodup f i
    split
    · exact ih
    · rename_i h
      refine List.nodup_append.mpr ⟨ih, List.nodup_cons.mpr ⟨List.not_mem_nil, List.nodup_nil⟩, fun a ha b hb e => ?_⟩
      simp only [List.mem_singleton] at hb
      subst hb
      subst e
      exact h (List.any_eq_true.mpr ⟨_, ha, by simp⟩)
theorem fm_mem (ns : List Int) (k : Int) : k ∈ firstMet (fun i => ns.getD i 0) ns.length ↔ k ∈ ns := by
  have e := firstMet_any (fun i => ns.getD i 0) ns.length k
  have e2 : (List.range ns.length).map (fun i => ns.getD i 0) = ns := by
    refine List.ext_getElem (by simp) fun i h1 h2 => ?_
    simp [List.getD_eq_getElem?_getD, List.getElem?_eq_getElem h2]
  rw [e2] at e
  constructor
  · intro h
    have : (firstMet (fun i => ns.getD i 0) ns.length).any (· == k) = true := List.any_eq_true.mpr ⟨k, h, by simp⟩
    rw [e] at this
    obtain ⟨x, hx, hk⟩ := List.any_eq_true.mp this
    rw [← eq_of_beq hk]; exact hx
  · intro h
    have : ns.any (· == k) = true := List.any_eq_true.mpr ⟨k, h, by simp⟩
    rw [← e] at this
    obtain ⟨x, hx, hk⟩ := List.any_eq_true.mp this
    rw [← eq_of_beq hk]; exact hx
theorem fmN_of {ns l : List Int} (hn : l.Nodup) (hm : ∀ k, k ∈ l ↔ k ∈ ns) : fmN ns = l.length := by
  have a := fm_nodup (fun i => ns.getD i 0) ns.length
  have p : (firstMet (fun i => ns.getD i 0) ns.length).Perm l := (List.perm_ext_iff_of_nodup a hn).mpr fun k => by rw [fm_mem, hm]
  exact p.length_eq
/-! ### a sign's count -/
theorem same_sign (n c : Nat) : PySem.Spec.same (.str ⟨#[n]⟩) (.str ⟨#[c]⟩) = decide (n = c) := by
  have e : PySem.Spec.same (.str ⟨#[n]⟩) (.str ⟨#[c]⟩) = ((⟨#[n]⟩ : Str) == ⟨#[c]⟩) := rfl
  rw [e, show ((⟨#[n]⟩ : Str) == ⟨#[c]⟩) = (SX.S [n] == SX.S [c]) from rfl, SX.S_beq_eq]
  simp
theorem count_sign (s : List Nat) (c : Nat) : Txt.count ⟨s.toArray⟩ ⟨#[c]⟩ = ((s.count c : Nat) : Int) := by
  rw [count_is]
  show countIn (.str ⟨#[c]⟩) (s.map fun n => PyData.str ⟨#[n]⟩) = _
  induction s with
  | nil => rfl
  | cons n s ih =>
    simp only [List.map_cons, countIn, same_sign, ih, List.count_cons]
    by_cases h : n = c
    · subst h; simp; omega
    · simp [h]
end ExZ
/-! ExO: sorted(a list or a tuple of texts). -/
namespace ExO
open PySem PySem.Spec L2 PyProof.Rows
section
variable {prog : Program} {w : World} {A : Around} {E : Value → Shared → Prop} {s : Shared}
theorem collect_tup {l : Addr} {vs : List Value} {Q : List Value → Shared → Prop} (hl : s.heap.IsTuple l vs.toArray)
    (h : Q vs { s with heap := (s.heap.push (seqObj "list" #[] 0)).update s.heap.objs.size (Obj.mapSeq (· ++ vs.toArray)) }) (hsz : vs.length ≤ sizeLine := by size_fits) :
    wpAny (model prog w) A (collect (.ref l)) Q E s := by
  obtain ⟨o, ho, hc, n, hd⟩ := id hl
  unfold collect
  refine wpAny_bind (wpAny_runValue (codeAny_builtin entry_proto_collect' ?_))
  show wpAny _ _ (do again (.builtin "list.__iadd__" ⟨[← newList [], .ref l], []⟩)) _ _ s
  refine wpAny_bind (wpAny_newList (wpAny_pure ⟨Code.quiet_builtin _ (by decide +kernel), codeAny_builtin entry_list_iadd' ?_⟩))
  show wpAny _ _ (Builtin.List.listExtendWith (.ref s.heap.objs.size) (.ref l) (.ref s.heap.objs.size)) _ _ { s with heap := s.heap.push (seqObj "list" #[] 0) }
  unfold Builtin.List.listExtendWith
  have ho' : (s.heap.push (seqObj "list" #[] 0)).get? l = some o := Heap.get?_push_of_some _ ho
  refine wpAny_bind (wpAny_typeOf (T := "tuple") ⟨o, ho', hc⟩ ?_)
  have ht : (Value.type "tuple" == Value.type "tuple") = true := by rfl
  rw [if_pos (by rw [ht]; simp)]
  refine wpAny_bind (listItems_at ho' hd ?_)
  refine wpAny_bind (listItems_at (xs := #[]) (n := 0) (Heap.get?_push_size _ rfl) rfl ?_)
  rw [if_neg (by simp)]
  refine wpAny_bind (listUpdate_at (xs := #[]) (n := 0) (Heap.get?_push_size _ rfl) rfl ?_ (Nat.zero_le _) (by show (#[] ++ vs.toArray).size ≤ sizeLine + 1; simp only [Array.size_append, List.size_toArray, List.length_nil]; omega))
  refine wpAny_pure ?_
  show wpAny (model prog w) A (do
      let o ← load s.heap.objs.size
      match o.data with
      | .seq xs _ => pure xs.toList
      | _ => unsupported "internal:collect") Q E { s with heap := (s.heap.push (seqObj "list" #[] 0)).update s.heap.objs.size (Obj.mapSeq (· ++ vs.toArray)) }
  refine wpAny_bind (wpAny_load (get?_update_seq (Heap.get?_push_size _ rfl) _) ?_)
  show wpAny _ _ (pure ((#[] : Array Value) ++ vs.toArray).toList) Q E _
  rw [show ((#[] : Array Value) ++ vs.toArray).toList = vs by simp]
  exact wpAny_pure h
theorem sorted_strsT {l : Addr} {vs : List Value} {ss : List Str} {Q : Value → Shared → Prop} (hl : s.heap.IsTuple l vs.toArray) (hS : StrsAre vs ss) (h64 : vs.length < 64)
    (h : ∀ (out : Array Value) (ss' : List Str), StrsAre out.toList ss' → ss'.Perm ss → sortedS ss' = true → Q (.ref (s.heap.objs.size + 1)) { s with heap := sortedAll s.heap vs out }) :
    wpAny (model prog w) A (call (.builtin "sorted") [.ref l]) Q E s := by
  refine Calls.call_function_entry kind_sorted plain_sorted entry_sorted (args_sorted1 _) ?_
  unfold Builtin.«sorted»
  refine wpAny_bind (m := checkCount "sorted" 1 1 _) (wpAny_pure ?_)
  refine wpAny_bind (collect_tup hl ?_)
  refine wpAny_bind (wpAny_newList ?_)
  have hsz : ((s.heap.push (seqObj "list" #[] 0)).update s.heap.objs.size (Obj.mapSeq (· ++ vs.toArray))).objs.size = s.heap.objs.size + 1 := by
    rw [Heap.size_update, size_push']
  have hoL : (((s.heap.push (seqObj "list" #[] 0)).update s.heap.objs.size (Obj.mapSeq (· ++ vs.toArray))).push (seqObj "list" vs.toArray 0)).get? (s.heap.objs.size + 1) = some (seqObj "list" vs.toArray 0) := by
    rw [← hsz]; exact Heap.get?_push_size _ rfl
  show wpAny _ _ _ _ _ { s with heap := ((s.heap.push (seqObj "list" #[] 0)).update s.heap.objs.size (Obj.mapSeq (· ++ vs.toArray))).push (seqObj "list" vs.toArray 0) }
  rw [hsz]
  refine wpAny_bind (wpAny_holding (wpAny_call_entry slot_list_sort ⟨_, hoL, rfl⟩ entry_list_sort (list_sort_treeK strKind_oneLt hoL hS.keysOf (fun v₁ v₂ rest e => keyKind_strs (by rw [← e]; exact hS)) h64 fun st' hp hs => ⟨_, rfl, ?_⟩) (args_list_sort _)))
  obtain ⟨ss', h1, h2, h3⟩ := sorted_out_str hS hp hs
  exact wpAny_pure ⟨_, rfl, h _ ss' h1 h2 h3⟩
end
section
variable {X : Cx}
def rSortX (K : PySem.W.Frag) : List V → Hp → VK → Prop := fun vs H Q => ∃ (a : Addr) (xs : List Str), vs = [V.ref a] ∧ (SqL K H a (xs.map V.str) ∨ SqT K H a (xs.map V.str)) ∧ xs.length < 64 ∧
  ∀ (ys : List Str) (p : Addr), ys.Perm xs → sortedS ys = true → H p = none → Q (.ref p) (upd H p (.lst (ys.map V.str)))
theorem cr_sortedX : CallR X (.builtin "sorted") (rSortX X.K) := by
  intro pins s σ H vs us Q I r h
  obtain ⟨a, xs, rfl, hs, h64, q⟩ := h
  rcases hs with hs | hs
  · exact cr_sortedS pins s σ H _ us Q I r ⟨a, xs, rfl, hs, h64, q⟩
  obtain ⟨its, rv, hl, _⟩ := I.tuple hs
  rw [Vals.ref1 r]
  have hlen0 := rv.length
  rw [List.length_map] at hlen0
  refine sorted_strsT (show s.heap.IsTuple a its.toArray from hl) rv.strs (by rw [← hlen0]; exact h64) fun out ys h1 h2 h3 => ?_
  obtain ⟨ep, he'⟩ := PyProof.Rows.sortedAll_at s.heap its out
  have hlen : (ys.map V.str).length ≤ sizeLine := by rw [List.length_map, h2.length_eq]; exact small64 h64
  exact ⟨.ref _, upd H (s.heap.objs.size + 1) (.lst (ys.map V.str)), I.laid (t' := s.toks) (fun _ _ => PyProof.Rows.sortedAll_old) (Nat.le_succ _) ⟨hlen, out.toList, ep, vals_of_strs h1, he'⟩, rfl, q ys _ h2 h3 (I.hok.fresh (Nat.le_succ _))⟩
end
/-! ### the order of texts -/
def ltS : List Nat → List Nat → Bool
  | _, [] => false
  | [], _ :: _ => true
  | x :: xs, y :: ys => if x < y then true else if y < x then false else ltS xs ys
theorem ltS_eq : ∀ a b : List Nat, ltS a b = decide (a < b)
  | [], [] => by simp [ltS]
  | _ :: _, [] => by simp [ltS]
  | [], _ :: _ => by simp [ltS]
  | x :: xs, y :: ys => by
    have ih := ltS_eq xs ys
    unfold ltS
    rw [ih]
    by_cases h : x < y
    · rw [if_pos h]; simp [List.cons_lt_cons_iff, h]
    · rw [if_neg h]
      by_cases h2 : y < x
      · rw [if_pos h2]
        have : x ≠ y := by omega
        simp [List.cons_lt_cons_iff, h, this]
      · rw [if_neg h2]
        have : x = y := by omega
        subst this
        simp [List.cons_lt_cons_iff]
theorem ltS_irr : ∀ a : List Nat, ltS a a = false
  | [] => rfl
  | x :: xs => by unfold ltS; rw [if_neg (by omega), if_neg (by omega)]; exact ltS_irr xs
theorem ltS_tri : ∀ a b : List Nat, ltS a b = false → ltS b a = false → a = b
  | [], [], _, _ => rfl
  | [], _ :: _, h, _ => by simp [ltS] at h
  | _ :: _, [], _, h => by simp [ltS] at h
  | x :: xs, y :: ys, h1, h2 => by
    unfold ltS at h1 h2
    by_cases h : x < y
    · rw [if_pos h] at h1; cases h1
    · rw [if_neg h] at h1
      by_cases h3 : y < x
      · rw [if_pos h3] at h2; cases h2
      · rw [if_neg h3] at h1
        rw [if_neg h3, if_neg h] at h2
        have : x = y := by omega
        subst this
        rw [ltS_tri xs ys h1 h2]
theorem ltS_tr : ∀ a b c : List Nat, ltS b a = false → ltS c b = false → ltS c a = false
  | [], b, c, h1, h2 => by
    cases b with
    | nil => exact h2
    | cons y ys => cases c with
      | nil => rfl
      | cons z zs => rfl
  | x :: xs, [], c, h1, h2 => by simp [ltS] at h1
  | x :: xs, y :: ys, [], h1, h2 => by simp [ltS] at h2
  | x :: xs, y :: ys, z :: zs, h1, h2 => by
    unfold ltS at h1 h2 ⊢
    by_cases a1 : y < x
    · rw [if_pos a1] at h1; cases h1
    rw [if_neg a1] at h1
    by_cases a2 : z < y
    · rw [if_pos a2] at h2; cases h2
    rw [if_neg a2] at h2
    by_cases a3 : z < x
    · omega
    rw [if_neg a3]
    by_cases a4 : x < z
    · rw [if_pos a4]
    rw [if_neg a4]
    rw [if_neg (by omega)] at h1
    rw [if_neg (by omega)] at h2
    exact ltS_tr xs ys zs h1 h2
def insT (x : List Nat) : List (List Nat) → List (List Nat)
  | [] => [x]
  | y :: ys => if ltS y x then y :: insT x ys else x :: y :: ys
def srtT : List (List Nat) → List (List Nat)
  | [] => []
  | x :: xs => insT x (srtT xs)
theorem insT_perm (x : List Nat) : ∀ l, (insT x l).Perm (x :: l)
  | [] => List.Perm.refl _
  | y :: ys => by
    unfold insT
    split
    · exact ((insT_perm x ys).cons y).trans (List.Perm.swap x y ys)
    · exact List.Perm.refl _
theorem srtT_perm : ∀ l, (srtT l).Perm l
  | [] => List.Perm.refl _
  | x :: xs => (insT_perm x _).trans ((srtT_perm xs).cons x)
def Rise (l : List (List Nat)) : Prop := l.Pairwise fun a b => ltS b a = false
theorem insT_rise (x : List Nat) : ∀ l, Rise l → Rise (insT x l)
  | [], _ => List.pairwise_singleton _ _
  | y :: ys, h => by
    have h' := List.pairwise_cons.mp h
    unfold insT
    split
    · rename_i q
      refine List.pairwise_cons.mpr ⟨fun z hz => ?_, insT_rise x ys h'.2⟩
      rcases List.mem_cons.mp ((insT_perm x ys).mem_iff.mp hz) with rfl | hz
      · cases h3 : ltS z y with
        | false => rfl
        | true =>
          cases h4 : ltS y z with
          | false => rw [h4] at q; cases q
          | true =>
            exfalso
            have e1 := of_decide_eq_true ((ltS_eq z y).symm.trans h3)
            have e2 := of_decide_eq_true ((ltS_eq y z).symm.trans h4)
            exact absurd e1 (List.lt_asymm e2)
      · exact h'.1 z hz
    · rename_i q
      have q : ltS y x = false := by simpa using q
      refine List.pairwise_cons.mpr ⟨fun z hz => ?_, h⟩
      rcases List.mem_cons.mp hz with rfl | hz
      · exact q
      · exact ltS_tr x y z q (h'.1 z hz)
theorem srtT_rise : ∀ l, Rise (srtT l)
  | [] => List.Pairwise.nil
  | x :: xs => insT_rise x _ (srtT_rise xs)
theorem rise_uniqT : ∀ {l m : List (List Nat)}, Rise l → Rise m → l.Perm m → l = m
  | [], m, _, _, p => (List.Perm.eq_nil p.symm).symm
  | x :: l, [], _, _, p => absurd p.length_eq (by simp)
  | x :: l, y :: m, hl, hm, p => by
    have a := List.pairwise_cons.mp hl
    have b := List.pairwise_cons.mp hm
    have h1 : ltS y x = false := by
      rcases List.mem_cons.mp (p.mem_iff.mpr List.mem_cons_self : y ∈ x :: l) with e | e
      · rw [e]; exact ltS_irr x
      · exact a.1 y e
    have h2 : ltS x y = false := by
      rcases List.mem_cons.mp (p.mem_iff.mp List.mem_cons_self : x ∈ y :: m) with e | e
      · rw [e]; exact ltS_irr y
      · exact b.1 x e
    have e : x = y := ltS_tri x y h2 h1
    subst e
    rw [rise_uniqT a.2 b.2 (List.Perm.cons_inv p)]
theorem risingS_rise : ∀ (l : List Str) (p : Str), risingS p l = true → Rise ((p :: l).map fun z => z.cps.toList)
  | [], p, _ => List.pairwise_singleton _ _
  | x :: r, p, h => by
    have h' : (!ltCps x.cps.toList p.cps.toList && risingS x r) = true := h
    simp only [Bool.and_eq_true, Bool.not_eq_true'] at h'
    have ih := risingS_rise r x h'.2
    have e : ltS x.cps.toList p.cps.toList = false := by rw [ltS_eq, ← ltCps_eq]; exact h'.1
    refine List.pairwise_cons.mpr ⟨fun z hz => ?_, ih⟩
    rcases List.mem_cons.mp hz with rfl | hz
    · exact e
    · exact ltS_tr _ _ _ e ((List.pairwise_cons.mp ih).1 z hz)
theorem sortedS_rise {l : List Str} (h : sortedS l = true) : Rise (l.map fun z => z.cps.toList) := by
  cases l with
  | nil => exact List.Pairwise.nil
  | cons x r => exact risingS_rise r x h
theorem sorted_is {ys : List Str} {ss : List (List Nat)} (h : sortedS ys = true) (p : ys.Perm (ss.map fun y => (⟨y.toArray⟩ : Str))) : ys = (srtT ss).map fun y => (⟨y.toArray⟩ : Str) := by
  have e : (ys.map fun z => z.cps.toList) = srtT ss := by
    refine rise_uniqT (sortedS_rise h) (srtT_rise ss) ?_
    refine ((p.map fun z => z.cps.toList).trans ?_).trans (srtT_perm ss).symm
    rw [List.map_map]
    have : ((fun z : Str => z.cps.toList) ∘ fun y : List Nat => (⟨y.toArray⟩ : Str)) = id := by funext y; simp
    rw [this, List.map_id]
  rw [← e, List.map_map]
  have : ((fun y : List Nat => (⟨y.toArray⟩ : Str)) ∘ fun z : Str => z.cps.toList) = id := by funext z; simp
  rw [this, List.map_id]
end ExO
/-! Den0: values D, what they stand for in a heap (Rep), the state of the interpreter (S, Ok). -/
namespace Den
open PySem PySem.Spec L2
/-- a container's standing: unshared (may be written), shared for ever, read alone -/
inductive Ow where
  | own | fz | ro
  deriving DecidableEq
/-- a dict's keys, in order: ints and texts, or tuples of ints -/
inductive KS where
  | k (ks : List Key)
  | t (ks : List (List Int))
def kks (ks : List Int) : List Key := ks.map Sum.inl
def KS.len : KS → Nat
  | .k ks => ks.length
  | .t ks => ks.length
/-- the dict's object -/
def KS.ho : KS → List V → HO
  | .k ks, vs => .dK (ks.zip vs)
  | .t ks, vs => .dT ((ks.map kks).zip vs)
/-- a value as a tree; an instance by its number -/
inductive D where
  | non | bl (b : Bool) | int (i : Int) | str (s : List Nat)
  | tup (ds : List D)
  | lst (o : Ow) (ds : List D)
  | obj (n : Nat)
  | kt (ks : List Int)
  | dc (o : Ow) (ks : KS) (ds : List D)
  /-- a lambda of the def's own -/
  | lam (k : Nat)
  /-- an object or a text, no matter which -/
  | any
structure Ob where
  cls : Nat
  fs : List (Str × D)
structure S where
  sl : List (Option D)
  os : List Ob
structure Gx where
  K : PySem.W.Frag
  cl : Nat → Addr
  T : List (Addr × Str)
  /-- the def's lambdas, its name, its cells -/
  Lp : Nat → ExY.LW → Prop := fun _ _ => False
  lq : Str := ""
  lc : List (Str × Addr) := []
/-- a lambda at a -/
def LamP (g : Gx) (k : Nat) (Φ : Hp) (a : Addr) : Prop := ∃ (l : ExY.LW) (c' : Addr) (dV : Value), g.Lp k l ∧ Φ a = some (ExW.LamO a ⟨g.lq ++ "<lambda>", l.params, l.body, l.scope, cloFrom g.lc l.scope.names [], c', dV⟩) ∧ Φ c' = some (LamX.CodeO c' (g.lq ++ "<lambda>")) ∧ ExW.DfAt Φ dV l.y
theorem LamP.ext {g : Gx} {k : Nat} {Φ Φ' : Hp} {a : Addr} (h : LamP g k Φ a) (e : ∀ a u, Φ a = some u → Φ' a = some u) : LamP g k Φ' a := by
  obtain ⟨l, c', dV, h1, h2, h3, h4⟩ := h
  exact ⟨l, c', dV, h1, e _ _ h2, e _ _ h3, h4.ext fun b o q _ => e _ _ q⟩
/-- not shared, an object that is no table of code objects -/
def Pl (u : HO) : Prop := (∀ ps, u ≠ .tbl ps) ∧ ∀ φ, u ≠ .ext φ
def Owd (Φ H : Hp) (a : Addr) : Prop := Φ a = none ∧ ∃ u, H a = some u ∧ Pl u
def fzO : Ow → Ow
  | .ro => .ro
  | _ => .fz
mutual
def fz : D → D
  | .tup ds => .tup (fzL ds)
  | .lst o ds => .lst (fzO o) (fzL ds)
  | .non => .non
  | .bl b => .bl b
  | .int i => .int i
  | .str s => .str s
  | .obj n => .obj n
  | .kt ks => .kt ks
  | .dc o ks ds => .dc (fzO o) ks (fzL ds)
  | .lam k => .lam k
  | .any => .any
def fzL : List D → List D
  | [] => []
  | d :: ds => fz d :: fzL ds
end
theorem fzL_map : ∀ ds : List D, fzL ds = ds.map fz
  | [] => rfl
  | d :: ds => by rw [fzL, fzL_map ds]; rfl
mutual
theorem fz_fz : ∀ d : D, fz (fz d) = fz d
  | .tup ds => by simp only [fz, fzL_fzL ds]
  | .lst o ds => by simp only [fz, fzL_fzL ds]; cases o <;> rfl
  | .non => rfl
  | .bl _ => rfl
  | .int _ => rfl
  | .str _ => rfl
  | .obj _ => rfl
  | .kt _ => rfl
  | .dc o ks ds => by simp only [fz, fzL_fzL ds]; cases o <;> rfl
  | .lam _ => rfl
  | .any => rfl
theorem fzL_fzL : ∀ ds : List D, fzL (fzL ds) = fzL ds
  | [] => rfl
  | d :: ds => by simp only [fzL, fz_fz d, fzL_fzL ds]
end
/-- a tuple of known make (it has no dict) -/
def TpK (K : PySem.W.Frag) (Φ : Hp) (a : Addr) (vs : List V) : Prop :=
  (∃ o : Obj, Φ a = some (.frz o (.tup vs)) ∧ o.dict = none) ∨
    ∃ (o : Obj) (its : Array Value) (n : Nat), K.lookup a = some o ∧ o.cls = .type "tuple" ∧ o.dict = none ∧ o.data = .seq its n ∧ its.size ≤ sizeLine ∧ Vals vs its.toList
theorem TpK.sq {K : PySem.W.Frag} {Φ : Hp} {a : Addr} {vs : List V} (h : TpK K Φ a vs) : SqT K Φ a vs := by
  rcases h with ⟨o, h, _⟩ | ⟨o, its, n, h1, h2, _, h3, h4, h5⟩
  · exact .inl (.inr ⟨o, h⟩)
  · exact .inr ⟨o, its, n, h1, h2, h3, h4, h5⟩
section
variable (g : Gx) (Φ H : Hp) (ρ : List Addr)
mutual
/-- v stands for d in H; Φ: what is shared for ever; f: the addresses that are d's own -/
def Rep : D → V → List Addr → Prop
  | .non, v, f => v = .non ∧ f = []
  | .bl b, v, f => v = .bl b ∧ f = []
  | .int i, v, f => v = .int i ∧ f = []
  | .str s, v, f => v = .str ⟨s.toArray⟩ ∧ f = []
  | .tup ds, v, f => ∃ a vs, v = .ref a ∧ TpK g.K Φ a vs ∧ RepL ds vs f
  | .lst .own ds, v, f => ∃ a vs f', v = .ref a ∧ H a = some (.lst vs) ∧ Φ a = none ∧ f = a :: f' ∧ RepL ds vs f'
  | .lst .fz ds, v, f => ∃ a vs, v = .ref a ∧ Φ a = some (.lst vs) ∧ f = [] ∧ RepL ds vs []
  | .lst .ro ds, v, f => ∃ a vs, v = .ref a ∧ SqL g.K Φ a vs ∧ f = [] ∧ RepL ds vs []
  | .obj n, v, f => ∃ a, ρ[n]? = some a ∧ v = .ref a ∧ f = []
  | .kt ks, v, f => ∃ a, v = .ref a ∧ Φ a = some (.tup ((kks ks).map kV)) ∧ f = []
  | .dc .own ks ds, v, f => ∃ a vs, v = .ref a ∧ H a = some (ks.ho vs) ∧ Φ a = none ∧ f = [a] ∧ ks.len = ds.length ∧ RepL ds vs []
  | .dc .fz ks ds, v, f => ∃ a vs, v = .ref a ∧ Φ a = some (ks.ho vs) ∧ f = [] ∧ ks.len = ds.length ∧ RepL ds vs []
  | .dc .ro ks ds, v, f => ∃ a vs, v = .ref a ∧ Φ a = some (ks.ho vs) ∧ f = [] ∧ ks.len = ds.length ∧ RepL ds vs []
  | .lam k, v, f => ∃ a, v = .ref a ∧ LamP g k Φ a ∧ f = []
  | .any, v, f => ((∃ a, v = .ref a) ∨ ∃ x, v = .str x) ∧ f = []
def RepL : List D → List V → List Addr → Prop
  | [], vs, f => vs = [] ∧ f = []
  | d :: ds, vs, f => ∃ v vs' f1 f2, vs = v :: vs' ∧ f = f1 ++ f2 ∧ Rep d v f1 ∧ RepL ds vs' f2
end
end
/-- what is shared stands in the heap (a dict may be locked by a walk) -/
def Sub (Φ H : Hp) : Prop := ∀ a u, Φ a = some u → (∀ ps, u ≠ .tbl ps) ∧ (H a = some u ∨ ∃ o kvs, u = .dK kvs ∧ H a = some (.frz o u))
abbrev Ext (Φ Φ' : Hp) : Prop := ∀ a u, Φ a = some u → Φ' a = some u
section
variable {g : Gx} {Φ Φ' H H' : Hp} {ρ ρ' : List Addr}
theorem ext_rd (e : Ext Φ Φ') {a : Addr} {u : HO} (h : Rd Φ a u) : Rd Φ' a u := by
  rcases h with h | ⟨o, h⟩
  · exact .inl (e _ _ h)
  · exact .inr ⟨o, e _ _ h⟩
theorem ext_l (e : Ext Φ Φ') {a : Addr} {xs : List V} (h : SqL g.K Φ a xs) : SqL g.K Φ' a xs := by
  rcases h with h | h
  · exact .inl (ext_rd e h)
  · exact .inr h
theorem ext_t (e : Ext Φ Φ') {a : Addr} {xs : List V} (h : SqT g.K Φ a xs) : SqT g.K Φ' a xs := by
  rcases h with h | h
  · exact .inl (ext_rd e h)
  · exact .inr h
theorem ext_tp (e : Ext Φ Φ') {a : Addr} {xs : List V} (h : TpK g.K Φ a xs) : TpK g.K Φ' a xs := by
  rcases h with ⟨o, h, d⟩ | h
  · exact .inl ⟨o, e _ _ h, d⟩
  · exact .inr h
theorem sub_rd (e : Sub Φ H) {a : Addr} {u : HO} (h : Rd Φ a u) : Rd H a u := by
  rcases h with h | ⟨o, h⟩
  · rcases (e _ _ h).2 with q | ⟨o, kvs, q, r⟩
    · exact .inl q
    · exact .inr ⟨o, r⟩
  · rcases (e _ _ h).2 with q | ⟨o', kvs, q, r⟩
    · exact .inr ⟨o, q⟩
    · cases q
theorem sub_l (e : Sub Φ H) {a : Addr} {xs : List V} (h : SqL g.K Φ a xs) : SqL g.K H a xs := by
  rcases h with h | h
  · exact .inl (sub_rd e h)
  · exact .inr h
theorem sub_t (e : Sub Φ H) {a : Addr} {xs : List V} (h : SqT g.K Φ a xs) : SqT g.K H a xs := by
  rcases h with h | h
  · exact .inl (sub_rd e h)
  · exact .inr h
theorem sub_lst (e : Sub Φ H) {a : Addr} {xs : List V} (h : Φ a = some (.lst xs)) : H a = some (.lst xs) := by
  rcases (e _ _ h).2 with q | ⟨o, kvs, q, r⟩
  · exact q
  · cases q
theorem sub_tp (e : Sub Φ H) {a : Addr} {xs : List V} (h : TpK g.K Φ a xs) : TpK g.K H a xs := by
  rcases h with ⟨o, h, d⟩ | h
  · rcases (e _ _ h).2 with q | ⟨o', kvs, q, r⟩
    · exact .inl ⟨o, q, d⟩
    · cases q
  · exact .inr h
theorem sub_none (e : Sub Φ H) {a : Addr} (h : H a = none) : Φ a = none := by
  cases q : Φ a with
  | none => rfl
  | some u =>
    rcases (e _ _ q).2 with z | ⟨o, kvs, _, z⟩ <;> (rw [h] at z; cases z)
theorem pre_get {a : Addr} {n : Nat} (p : ρ <+: ρ') (h : ρ[n]? = some a) : ρ'[n]? = some a := by
  obtain ⟨t, rfl⟩ := p
  have hn : n < ρ.length := (List.getElem?_eq_some_iff.mp h).1
  rw [List.getElem?_append_left hn]; exact h
mutual
theorem Rep.mono (e : Ext Φ Φ') (p : ρ <+: ρ') : ∀ (d : D) (v : V) (f : List Addr), (∀ a ∈ f, H' a = H a ∧ Φ' a = none) → Rep g Φ H ρ d v f → Rep g Φ' H' ρ' d v f
  | .non, _, _, _, h => by simpa only [Rep] using h
  | .bl b, _, _, _, h => by simpa only [Rep] using h
  | .int i, _, _, _, h => by simpa only [Rep] using h
  | .str s, _, _, _, h => by simpa only [Rep] using h
  | .tup ds, _, f, k, h => by
    simp only [Rep] at h ⊢
    obtain ⟨a, vs, ev, t, r⟩ := h
    exact ⟨a, vs, ev, ext_tp e t, RepL.mono e p ds vs f k r⟩
  | .lst .own ds, _, f, k, h => by
    simp only [Rep] at h ⊢
    obtain ⟨a, vs, f', ev, t, n, rfl, r⟩ := h
    have ka := k a List.mem_cons_self
    exact ⟨a, vs, f', ev, ka.1.trans t, ka.2, rfl, RepL.mono e p ds vs f' (fun b hb => k b (List.mem_cons_of_mem _ hb)) r⟩
  | .lst .fz ds, _, f, k, h => by
    simp only [Rep] at h ⊢
    obtain ⟨a, vs, ev, t, n, r⟩ := h
    exact ⟨a, vs, ev, e _ _ t, n, RepL.mono e p ds vs [] (fun b hb => by cases hb) r⟩
  | .lst .ro ds, _, f, k, h => by
    simp only [Rep] at h ⊢
    obtain ⟨a, vs, ev, t, n, r⟩ := h
    exact ⟨a, vs, ev, ext_l e t, n, RepL.mono e p ds vs [] (fun b hb => by cases hb) r⟩
  | .obj n, _, _, _, h => by
    simp only [Rep] at h ⊢
    obtain ⟨a, q, r⟩ := h
    exact ⟨a, pre_get p q, r⟩
  | .kt ks, _, _, _, h => by
    simp only [Rep] at h ⊢
    obtain ⟨a, q, r, z⟩ := h
    exact ⟨a, q, e _ _ r, z⟩
  | .dc .own ks ds, _, f, k, h => by
    simp only [Rep] at h ⊢
    obtain ⟨a, vs, ev, t, n, rfl, l, r⟩ := h
    have ka := k a List.mem_cons_self
    exact ⟨a, vs, ev, ka.1.trans t, ka.2, rfl, l, RepL.mono e p ds vs [] (fun b hb => by cases hb) r⟩
  | .dc .fz ks ds, _, f, k, h => by
    simp only [Rep] at h ⊢
    obtain ⟨a, vs, ev, t, n, l, r⟩ := h
    exact ⟨a, vs, ev, e _ _ t, n, l, RepL.mono e p ds vs [] (fun b hb => by cases hb) r⟩
  | .dc .ro ks ds, _, f, k, h => by
    simp only [Rep] at h ⊢
    obtain ⟨a, vs, ev, t, n, l, r⟩ := h
    exact ⟨a, vs, ev, e _ _ t, n, l, RepL.mono e p ds vs [] (fun b hb => by cases hb) r⟩
  | .lam k, _, _, _, h => by
    simp only [Rep] at h ⊢
    obtain ⟨a, q, r, z⟩ := h
    exact ⟨a, q, r.ext e, z⟩
  | .any, _, _, _, h => by simpa only [Rep] using h
theorem RepL.mono (e : Ext Φ Φ') (p : ρ <+: ρ') : ∀ (ds : List D) (vs : List V) (f : List Addr), (∀ a ∈ f, H' a = H a ∧ Φ' a = none) → RepL g Φ H ρ ds vs f → RepL g Φ' H' ρ' ds vs f
  | [], _, _, _, h => by simpa only [RepL] using h
  | d :: ds, _, f, k, h => by
    simp only [RepL] at h ⊢
    obtain ⟨v, vs', f1, f2, e1, rfl, r1, r2⟩ := h
    exact ⟨v, vs', f1, f2, e1, rfl, Rep.mono e p d v f1 (fun a ha => k a (List.mem_append_left _ ha)) r1, RepL.mono e p ds vs' f2 (fun a ha => k a (List.mem_append_right _ ha)) r2⟩
end
mutual
theorem Rep.at : ∀ (d : D) (v : V) (f : List Addr), Rep g Φ H ρ d v f → ∀ a ∈ f, Owd Φ H a
  | .non, _, _, h => by simp only [Rep] at h; rw [h.2]; exact fun a q => by cases q
  | .bl b, _, _, h => by simp only [Rep] at h; rw [h.2]; exact fun a q => by cases q
  | .int i, _, _, h => by simp only [Rep] at h; rw [h.2]; exact fun a q => by cases q
  | .str s, _, _, h => by simp only [Rep] at h; rw [h.2]; exact fun a q => by cases q
  | .tup ds, _, f, h => by
    simp only [Rep] at h
    obtain ⟨a, vs, ev, t, r⟩ := h
    exact RepL.at ds vs f r
  | .lst .own ds, _, f, h => by
    simp only [Rep] at h
    obtain ⟨a, vs, f', ev, t, n, rfl, r⟩ := h
    intro b hb
    rcases List.mem_cons.mp hb with rfl | hb
    · exact ⟨n, _, t, ⟨fun _ z => (by cases z), fun _ z => by cases z⟩⟩
    · exact RepL.at ds vs f' r b hb
  | .lst .fz ds, _, f, h => by
    simp only [Rep] at h
    obtain ⟨a, vs, ev, t, rfl, r⟩ := h
    exact fun a q => by cases q
  | .lst .ro ds, _, f, h => by
    simp only [Rep] at h
    obtain ⟨a, vs, ev, t, rfl, r⟩ := h
    exact fun a q => by cases q
  | .obj n, _, _, h => by
    simp only [Rep] at h
    obtain ⟨a, q, _, rfl⟩ := h
    exact fun a q => by cases q
  | .kt ks, _, _, h => by
    simp only [Rep] at h
    obtain ⟨a, q, _, rfl⟩ := h
    exact fun a q => by cases q
  | .dc .own ks ds, _, f, h => by
    simp only [Rep] at h
    obtain ⟨a, vs, ev, t, n, rfl, l, r⟩ := h
    intro b hb
    rw [List.mem_singleton.mp hb]
    exact ⟨n, _, t, ⟨fun _ z => (by cases ks <;> cases z), fun _ z => by cases ks <;> cases z⟩⟩
  | .dc .fz ks ds, _, f, h => by
    simp only [Rep] at h
    obtain ⟨a, vs, ev, t, rfl, l, r⟩ := h
    exact fun a q => by cases q
  | .dc .ro ks ds, _, f, h => by
    simp only [Rep] at h
    obtain ⟨a, vs, ev, t, rfl, l, r⟩ := h
    exact fun a q => by cases q
  | .lam k, _, _, h => by
    simp only [Rep] at h
    obtain ⟨a, q, _, rfl⟩ := h
    exact fun a q => by cases q
  | .any, _, _, h => by simp only [Rep] at h; rw [h.2]; exact fun a q => by cases q
theorem RepL.at : ∀ (ds : List D) (vs : List V) (f : List Addr), RepL g Φ H ρ ds vs f → ∀ a ∈ f, Owd Φ H a
  | [], _, _, h => by simp only [RepL] at h; rw [h.2]; exact fun a q => by cases q
  | d :: ds, _, f, h => by
    simp only [RepL] at h
    obtain ⟨v, vs', f1, f2, e1, rfl, r1, r2⟩ := h
    intro a ha
    rcases List.mem_append.mp ha with ha | ha
    · exact Rep.at d v f1 r1 a ha
    · exact RepL.at ds vs' f2 r2 a ha
end
open Classical in
/-- the addresses f are shared from now on -/
noncomputable def frzP (Φ H : Hp) (f : List Addr) : Hp := fun a => if a ∈ f then H a else Φ a
theorem frzP_in {f : List Addr} {a : Addr} (h : a ∈ f) : frzP Φ H f a = H a := if_pos h
theorem frzP_out {f : List Addr} {a : Addr} (h : a ∉ f) : frzP Φ H f a = Φ a := if_neg h
theorem frzP_sub {f : List Addr} (e : Sub Φ H) (nt : ∀ a ∈ f, ∀ ps, H a ≠ some (.tbl ps)) : Sub (frzP Φ H f) H := fun a u h => by
  by_cases q : a ∈ f
  · rw [frzP_in q] at h; exact ⟨fun ps z => nt a q ps (by rw [h, z]), .inl h⟩
  · rw [frzP_out q] at h; exact e a u h
theorem frzP_ext {f : List Addr} (n : ∀ a ∈ f, Φ a = none) : Ext Φ (frzP Φ H f) := fun a u h => by
  by_cases q : a ∈ f
  · rw [n a q] at h; cases h
  · rw [frzP_out q]; exact h
mutual
theorem Rep.fz (e : Ext Φ Φ') : ∀ (d : D) (v : V) (f : List Addr), (∀ a ∈ f, Φ' a = H a) → Rep g Φ H ρ d v f → Rep g Φ' H ρ (fz d) v []
  | .non, _, _, _, h => by simp only [Rep, Den.fz] at h ⊢; exact ⟨h.1, trivial⟩
  | .bl b, _, _, _, h => by simp only [Rep, Den.fz] at h ⊢; exact ⟨h.1, trivial⟩
  | .int i, _, _, _, h => by simp only [Rep, Den.fz] at h ⊢; exact ⟨h.1, trivial⟩
  | .str s, _, _, _, h => by simp only [Rep, Den.fz] at h ⊢; exact ⟨h.1, trivial⟩
  | .tup ds, _, f, k, h => by
    simp only [Rep, Den.fz] at h ⊢
    obtain ⟨a, vs, ev, t, r⟩ := h
    exact ⟨a, vs, ev, ext_tp e t, RepL.fz e ds vs f k r⟩
  | .lst .own ds, _, f, k, h => by
    simp only [Rep, Den.fz, fzO] at h ⊢
    obtain ⟨a, vs, f', ev, t, n, rfl, r⟩ := h
    exact ⟨a, vs, ev, (k a List.mem_cons_self).trans t, trivial, RepL.fz e ds vs f' (fun b hb => k b (List.mem_cons_of_mem _ hb)) r⟩
  | .lst .fz ds, _, f, k, h => by
    simp only [Rep, Den.fz, fzO] at h ⊢
    obtain ⟨a, vs, ev, t, n, r⟩ := h
    exact ⟨a, vs, ev, e _ _ t, trivial, RepL.fz e ds vs [] (fun b hb => by cases hb) r⟩
  | .lst .ro ds, _, f, k, h => by
    simp only [Rep, Den.fz, fzO] at h ⊢
    obtain ⟨a, vs, ev, t, n, r⟩ := h
    exact ⟨a, vs, ev, ext_l e t, trivial, RepL.fz e ds vs [] (fun b hb => by cases hb) r⟩
  | .obj n, _, _, _, h => by
    simp only [Rep, Den.fz] at h ⊢
    obtain ⟨a, q, r, _⟩ := h
    exact ⟨a, q, r, trivial⟩
  | .kt ks, _, _, _, h => by
    simp only [Rep, Den.fz] at h ⊢
    obtain ⟨a, q, r, _⟩ := h
    exact ⟨a, q, e _ _ r, trivial⟩
  | .dc .own ks ds, _, f, k, h => by
    simp only [Rep, Den.fz, fzO] at h ⊢
    obtain ⟨a, vs, ev, t, n, rfl, l, r⟩ := h
    exact ⟨a, vs, ev, (k a List.mem_cons_self).trans t, trivial, by rw [l, fzL_map, List.length_map], RepL.fz e ds vs [] (fun b hb => by cases hb) r⟩
  | .dc .fz ks ds, _, f, k, h => by
    simp only [Rep, Den.fz, fzO] at h ⊢
    obtain ⟨a, vs, ev, t, n, l, r⟩ := h
    exact ⟨a, vs, ev, e _ _ t, trivial, by rw [l, fzL_map, List.length_map], RepL.fz e ds vs [] (fun b hb => by cases hb) r⟩
  | .dc .ro ks ds, _, f, k, h => by
    simp only [Rep, Den.fz, fzO] at h ⊢
    obtain ⟨a, vs, ev, t, n, l, r⟩ := h
    exact ⟨a, vs, ev, e _ _ t, trivial, by rw [l, fzL_map, List.length_map], RepL.fz e ds vs [] (fun b hb => by cases hb) r⟩
  | .lam k, _, _, _, h => by
    simp only [Rep, Den.fz] at h ⊢
    obtain ⟨a, q, r, _⟩ := h
    exact ⟨a, q, r.ext e, trivial⟩
  | .any, _, _, _, h => by simp only [Rep, Den.fz] at h ⊢; exact ⟨h.1, trivial⟩
theorem RepL.fz (e : Ext Φ Φ') : ∀ (ds : List D) (vs : List V) (f : List Addr), (∀ a ∈ f, Φ' a = H a) → RepL g Φ H ρ ds vs f → RepL g Φ' H ρ (fzL ds) vs []
  | [], _, _, _, h => by simp only [RepL, Den.fzL] at h ⊢; exact ⟨h.1, trivial⟩
  | d :: ds, _, f, k, h => by
    simp only [RepL, Den.fzL] at h ⊢
    obtain ⟨v, vs', f1, f2, e1, rfl, r1, r2⟩ := h
    exact ⟨v, vs', [], [], e1, rfl, Rep.fz e d v f1 (fun a ha => k a (List.mem_append_left _ ha)) r1, RepL.fz e ds vs' f2 (fun a ha => k a (List.mem_append_right _ ha)) r2⟩
end
theorem RepL.len : ∀ (ds : List D) (vs : List V) (f : List Addr), RepL g Φ H ρ ds vs f → vs.length = ds.length
  | [], _, _, h => by simp only [RepL] at h; rw [h.1]; rfl
  | d :: ds, _, _, h => by
    simp only [RepL] at h
    obtain ⟨v, vs', f1, f2, rfl, rfl, r1, r2⟩ := h
    rw [List.length_cons, List.length_cons, RepL.len ds vs' f2 r2]
/-- shared items, by place -/
theorem RepL.get : ∀ (ds : List D) (vs : List V), RepL g Φ H ρ ds vs [] → ∀ (i : Nat) (d : D), ds[i]? = some d → ∃ v, vs[i]? = some v ∧ Rep g Φ H ρ d v []
  | [], _, _, i, d, h => by simp at h
  | x :: ds, _, r, i, d, h => by
    simp only [RepL] at r
    obtain ⟨v, vs', f1, f2, rfl, e, r1, r2⟩ := r
    have e' := List.append_eq_nil_iff.mp e.symm
    obtain ⟨rfl, rfl⟩ := e'
    cases i with
    | zero => simp at h; subst h; exact ⟨v, rfl, r1⟩
    | succ i => exact RepL.get ds vs' r2 i d (by simpa using h)
theorem RepL.of_get : ∀ (ds : List D) (vs : List V), vs.length = ds.length → (∀ (i : Nat) (d : D) (v : V), ds[i]? = some d → vs[i]? = some v → Rep g Φ H ρ d v []) → RepL g Φ H ρ ds vs []
  | [], [], _, _ => by simp only [RepL]; exact ⟨trivial, trivial⟩
  | [], _ :: _, h, _ => by simp at h
  | _ :: _, [], h, _ => by simp at h
  | d :: ds, v :: vs, h, k => by
    simp only [RepL]
    exact ⟨v, vs, [], [], rfl, rfl, k 0 d v rfl rfl, RepL.of_get ds vs (by simpa using h) fun i d v h1 h2 => k (i + 1) d v (by simpa using h1) (by simpa using h2)⟩
theorem RepL.app : ∀ (ds es : List D) (vs ws : List V) (f f' : List Addr), RepL g Φ H ρ ds vs f → RepL g Φ H ρ es ws f' → RepL g Φ H ρ (ds ++ es) (vs ++ ws) (f ++ f')
  | [], _, _, _, _, _, h, k => by simp only [RepL] at h; obtain ⟨rfl, rfl⟩ := h; exact k
  | d :: ds, es, vs, ws, f, f', h, k => by
    simp only [RepL] at h
    obtain ⟨v, vs', f1, f2, rfl, rfl, r1, r2⟩ := h
    simp only [List.cons_append, RepL]
    exact ⟨v, vs' ++ ws, f1, f2 ++ f', rfl, List.append_assoc _ _ _, r1, RepL.app ds es vs' ws f2 f' r2 k⟩
end
end Den
/-! Den1: the state's standing (Ok, Stp, Grow). -/
namespace Den
open PySem PySem.Spec L2
abbrev Ix := Sum Nat Nat
/-- an instance stands at a -/
def RepO (g : Gx) (Φ H : Hp) (ρ : List Addr) (a : Addr) (o : Ob) (f : List Addr) : Prop :=
  ∃ dx vs f', H a = some (.ins (g.cl o.cls) dx ((o.fs.map (·.1)).zip vs)) ∧ H dx = some (.own a) ∧ Φ a = none ∧ Φ dx = none ∧ dx ≠ a ∧ f = a :: dx :: f' ∧ RepL g Φ H ρ (o.fs.map (·.2)) vs f'
/-- from (Φ, H, ρ) to (Φ', H', ρ'), the frame F untouched -/
structure Stp (Φ H : Hp) (ρ : List Addr) (F : Addr → Prop) (Φ' H' : Hp) (ρ' : List Addr) : Prop where
  ext : Ext Φ Φ'
  pre : ρ <+: ρ'
  frm : ∀ a, F a → H' a = H a ∧ Φ' a = none
structure Ok (g : Gx) (Φ H : Hp) (ρ : List Addr) (s : S) (σ : L2.St) (fs : Ix → List Addr) (F : Addr → Prop) : Prop where
  sub : Sub Φ H
  tab : LamX.Tabs g.T H
  fr : ∀ a, F a → Owd Φ H a
  len : s.sl.length = σ.length
  slot : ∀ (i : Nat) (d : D), s.sl[i]? = some (some d) → ∃ v, σ[i]? = some (some v) ∧ Rep g Φ H ρ d v (fs (.inl i))
  slot0 : ∀ i : Nat, (∀ d, s.sl[i]? ≠ some (some d)) → fs (.inl i) = []
  obl : ρ.length = s.os.length
  obj : ∀ (n : Nat) (o : Ob), s.os[n]? = some o → ∃ a, ρ[n]? = some a ∧ RepO g Φ H ρ a o (fs (.inr n))
  obj0 : ∀ n, s.os.length ≤ n → fs (.inr n) = []
  nd : ∀ x, (fs x).Nodup
  sep : ∀ x y a, a ∈ fs x → a ∈ fs y → x = y
  out : ∀ x a, a ∈ fs x → ¬ F a
def fadd (f : List Addr) (F : Addr → Prop) : Addr → Prop := fun a => a ∈ f ∨ F a
/-- a value in hand, its own addresses apart from the frame -/
structure Vl (g : Gx) (Φ H : Hp) (ρ : List Addr) (d : D) (v : V) (f : List Addr) (F : Addr → Prop) : Prop where
  rep : Rep g Φ H ρ d v f
  nd : f.Nodup
  out : ∀ a ∈ f, ¬ F a
/-- new objects alone -/
structure Grow (g : Gx) (Φ H Φ' H' : Hp) : Prop where
  keep : ∀ a u, H a = some u → (∀ ps, u ≠ .tbl ps) → H' a = some u
  tab : LamX.Tabs g.T H → LamX.Tabs g.T H'
  ext : Ext Φ Φ'
  sub : Sub Φ' H'
  new : ∀ a, Owd Φ H a → Φ' a = none
section
variable {g : Gx} {Φ Φ' Φ2 H H' H2 : Hp} {ρ ρ' ρ2 : List Addr} {F F' : Addr → Prop} {s : S} {σ : L2.St} {fs : Ix → List Addr}
theorem Stp.refl (h : ∀ a, F a → Φ a = none) : Stp Φ H ρ F Φ H ρ := ⟨fun _ _ h => h, List.prefix_refl ρ, fun a ha => ⟨rfl, h a ha⟩⟩
theorem Stp.trans (a : Stp Φ H ρ F Φ' H' ρ') (b : Stp Φ' H' ρ' F' Φ2 H2 ρ2) (h : ∀ a, F a → F' a) : Stp Φ H ρ F Φ2 H2 ρ2 :=
  ⟨fun x u q => b.ext x u (a.ext x u q), List.IsPrefix.trans a.pre b.pre, fun x hx => ⟨(b.frm x (h x hx)).1.trans (a.frm x hx).1, (b.frm x (h x hx)).2⟩⟩
theorem Stp.less (a : Stp Φ H ρ F' Φ' H' ρ') (h : ∀ a, F a → F' a) : Stp Φ H ρ F Φ' H' ρ' := ⟨a.ext, a.pre, fun x hx => a.frm x (h x hx)⟩
theorem Rep.stp {d : D} {v : V} {f : List Addr} (a : Stp Φ H ρ F Φ' H' ρ') (h : ∀ a ∈ f, F a) (r : Rep g Φ H ρ d v f) : Rep g Φ' H' ρ' d v f :=
  Rep.mono a.ext a.pre d v f (fun b hb => a.frm b (h b hb)) r
theorem RepL.stp {d : List D} {v : List V} {f : List Addr} (a : Stp Φ H ρ F Φ' H' ρ') (h : ∀ a ∈ f, F a) (r : RepL g Φ H ρ d v f) : RepL g Φ' H' ρ' d v f :=
  RepL.mono a.ext a.pre d v f (fun b hb => a.frm b (h b hb)) r
theorem Vl.stp {d : D} {v : V} {f : List Addr} (a : Stp Φ H ρ (fadd f F) Φ' H' ρ') (r : Vl g Φ H ρ d v f F) : Vl g Φ' H' ρ' d v f F :=
  ⟨r.rep.stp a fun b hb => .inl hb, r.nd, r.out⟩
theorem Grow.refl (h : Sub Φ H) : Grow g Φ H Φ H := ⟨fun _ _ h _ => h, fun h => h, fun _ _ h => h, h, fun _ h => h.1⟩
theorem Grow.trans (a : Grow g Φ H Φ' H') (b : Grow g Φ' H' Φ2 H2) : Grow g Φ H Φ2 H2 :=
  ⟨fun x u q n => b.keep x u (a.keep x u q n) n, fun h => b.tab (a.tab h), fun x u q => b.ext x u (a.ext x u q), b.sub, fun x o => by
    have n1 := a.new x o
    obtain ⟨n, u, q, nt⟩ := o
    exact b.new x ⟨n1, u, a.keep x u q nt.1, nt⟩⟩
/-- a new object, unshared -/
theorem Grow.own {p : Addr} {o : HO} (h : Sub Φ H) (n : H p = none) : Grow g Φ H Φ (upd H p o) :=
  ⟨fun a u q _ => by rw [upd_ne (ne_of_none q n)]; exact q, fun h => h.ext fun b u q => by rw [upd_ne (ne_of_none q n)]; exact q, fun _ _ h => h, fun a u q => by
    have hn : a ≠ p := ne_of_none q (sub_none h n)
    refine ⟨(h a u q).1, ?_⟩
    rcases (h a u q).2 with z | ⟨o', kvs, z, y⟩
    · exact .inl (by rw [upd_ne hn]; exact z)
    · exact .inr ⟨o', kvs, z, by rw [upd_ne hn]; exact y⟩, fun _ h => h.1⟩
/-- a new object, shared -/
theorem Grow.shared {p : Addr} {o : HO} (h : Sub Φ H) (n : H p = none) (nt : ∀ ps, o ≠ .tbl ps) : Grow g Φ H (upd Φ p o) (upd H p o) :=
  ⟨fun a u q _ => by rw [upd_ne (ne_of_none q n)]; exact q, fun h => h.ext fun b u q => by rw [upd_ne (ne_of_none q n)]; exact q, fun a u q => by rw [upd_ne (ne_of_none q (sub_none h n))]; exact q, fun a u q => by
    by_cases e : a = p
    · subst e; rw [upd_same] at q ⊢; exact ⟨fun ps z => nt ps (by cases q; exact z), .inl q⟩
    · rw [upd_ne e] at q
      refine ⟨(h a u q).1, ?_⟩
      rcases (h a u q).2 with z | ⟨o', kvs, z, y⟩
      · exact .inl (by rw [upd_ne e]; exact z)
      · exact .inr ⟨o', kvs, z, by rw [upd_ne e]; exact y⟩, fun a m => by
    obtain ⟨m1, u, q, _⟩ := m
    rw [upd_ne (ne_of_none q n)]; exact m1⟩
/-- addresses put under sharing -/
theorem frz_stp {f : List Addr} (n : ∀ a ∈ f, Φ a = none) (o : ∀ a ∈ f, ¬ F a) (h : ∀ a, F a → Φ a = none) : Stp Φ H ρ F (frzP Φ H f) H ρ :=
  ⟨frzP_ext n, List.prefix_refl ρ, fun a ha => ⟨rfl, by rw [frzP_out fun z => o a z ha]; exact h a ha⟩⟩
/-- the same slots and instances over another heap -/
theorem Ok.over (k : Ok g Φ H ρ s σ fs F) (e : Ext Φ Φ') (sb : Sub Φ' H') (tb : LamX.Tabs g.T H') (h : ∀ a, (F a ∨ ∃ x, a ∈ fs x) → H' a = H a ∧ Φ' a = none) : Ok g Φ' H' ρ s σ fs F where
  sub := sb
  tab := tb
  fr := fun a ha => ⟨(h a (.inl ha)).2, by rw [(h a (.inl ha)).1]; exact (k.fr a ha).2⟩
  len := k.len
  slot := fun i d q => by
    obtain ⟨v, e1, r⟩ := k.slot i d q
    exact ⟨v, e1, Rep.mono e (List.prefix_refl ρ) d v _ (fun a ha => h a (.inr ⟨_, ha⟩)) r⟩
  slot0 := k.slot0
  obl := k.obl
  obj := fun n o q => by
    obtain ⟨a, e1, dx, vs, f', h1, h2, p1, p2, ne, ef, r⟩ := k.obj n o q
    have m : ∀ b ∈ fs (.inr n), H' b = H b ∧ Φ' b = none := fun b hb => h b (.inr ⟨_, hb⟩)
    rw [ef] at m
    have ma := m a List.mem_cons_self
    have md := m dx (List.mem_cons_of_mem _ List.mem_cons_self)
    exact ⟨a, e1, dx, vs, f', ma.1.trans h1, md.1.trans h2, ma.2, md.2, ne, ef, RepL.mono e (List.prefix_refl ρ) _ _ _ (fun b hb => m b (List.mem_cons_of_mem _ (List.mem_cons_of_mem _ hb))) r⟩
  obj0 := k.obj0
  nd := k.nd
  sep := k.sep
  out := k.out
theorem Ok.at (k : Ok g Φ H ρ s σ fs F) (x : Ix) (a : Addr) (ha : a ∈ fs x) : Owd Φ H a := by
  cases x with
  | inl i =>
    by_cases q : ∃ d, s.sl[i]? = some (some d)
    · obtain ⟨d, q⟩ := q
      obtain ⟨v, _, r⟩ := k.slot i d q
      exact Rep.at d v _ r a ha
    · rw [k.slot0 i fun d e => q ⟨d, e⟩] at ha; cases ha
  | inr n =>
    by_cases q : n < s.os.length
    · obtain ⟨a', e1, dx, vs, f', h1, h2, p1, p2, ne, ef, r⟩ := k.obj n s.os[n] (List.getElem?_eq_getElem q)
      rw [ef] at ha
      rcases List.mem_cons.mp ha with rfl | ha
      · exact ⟨p1, _, h1, ⟨fun _ z => (by cases z), fun _ z => by cases z⟩⟩
      rcases List.mem_cons.mp ha with rfl | ha
      · exact ⟨p2, _, h2, ⟨fun _ z => (by cases z), fun _ z => by cases z⟩⟩
      · exact RepL.at _ _ _ r a ha
    · rw [k.obj0 n (by omega)] at ha; cases ha
theorem Ok.nF (k : Ok g Φ H ρ s σ fs F) : ∀ a, F a → Φ a = none := fun a ha => (k.fr a ha).1
theorem Ok.grow (k : Ok g Φ H ρ s σ fs F) (w : Grow g Φ H Φ' H') : Ok g Φ' H' ρ s σ fs F :=
  k.over w.ext w.sub (w.tab k.tab) fun a ha => by
    have h : Owd Φ H a := by
      rcases ha with ha | ⟨x, ha⟩
      · exact k.fr a ha
      · exact k.at x a ha
    have h1 := w.new a h
    obtain ⟨n, u, q, nt⟩ := h
    exact ⟨by rw [q]; exact w.keep a u q nt.1, h1⟩
theorem Ok.gstp (k : Ok g Φ H ρ s σ fs F) (w : Grow g Φ H Φ' H') : Stp Φ H ρ F Φ' H' ρ :=
  ⟨w.ext, List.prefix_refl ρ, fun a ha => by
    have h := k.fr a ha
    have h1 := w.new a h
    obtain ⟨n, u, q, nt⟩ := h
    exact ⟨by rw [q]; exact w.keep a u q nt.1, h1⟩⟩
/-- a greater frame -/
theorem Ok.wide (k : Ok g Φ H ρ s σ fs F) {f : List Addr} (h1 : ∀ a ∈ f, Owd Φ H a) (h2 : ∀ a ∈ f, ∀ x, a ∉ fs x) : Ok g Φ H ρ s σ fs (fadd f F) :=
  ⟨k.sub, k.tab, fun a ha => ha.elim (h1 a) (k.fr a), k.len, k.slot, k.slot0, k.obl, k.obj, k.obj0, k.nd, k.sep, fun x a ha hF => hF.elim (fun z => h2 a z x ha) (k.out x a ha)⟩
theorem Ok.less (k : Ok g Φ H ρ s σ fs F') (h : ∀ a, F a → F' a) : Ok g Φ H ρ s σ fs F :=
  ⟨k.sub, k.tab, fun a ha => k.fr a (h a ha), k.len, k.slot, k.slot0, k.obl, k.obj, k.obj0, k.nd, k.sep, fun x a ha hF => k.out x a ha (h a hF)⟩
theorem Ok.drop {f : List Addr} (k : Ok g Φ H ρ s σ fs (fadd f F)) : Ok g Φ H ρ s σ fs F := k.less fun _ h => .inr h
/-- the value in hand is shared from now on -/
theorem Ok.frz {d : D} {v : V} {f : List Addr} (k : Ok g Φ H ρ s σ fs (fadd f F)) (r : Vl g Φ H ρ d v f F) :
    Ok g (frzP Φ H f) H ρ s σ fs F ∧ Stp Φ H ρ F (frzP Φ H f) H ρ ∧ Rep g (frzP Φ H f) H ρ (Den.fz d) v [] := by
  have n : ∀ a ∈ f, Φ a = none := fun a ha => (k.fr a (.inl ha)).1
  refine ⟨?_, frz_stp n r.out k.drop.nF, Rep.fz (frzP_ext n) d v f (fun a ha => frzP_in ha) r.rep⟩
  refine k.drop.over (frzP_ext n) (frzP_sub k.sub fun a ha ps z => by
    obtain ⟨_, u, e, nt⟩ := k.fr a (.inl ha)
    rw [z] at e; cases e; exact nt.1 ps rfl) k.tab fun a ha => ⟨rfl, ?_⟩
  rcases ha with ha | ⟨x, ha⟩
  · rw [frzP_out fun z => r.out a z ha]; exact (k.drop.fr a ha).1
  · rw [frzP_out fun z => k.out x a ha (.inl z)]; exact (k.at x a ha).1
theorem Owd.ex {a : Addr} (h : Owd Φ H a) : ∃ u, H a = some u := let ⟨_, u, e, _⟩ := h; ⟨u, e⟩
theorem Owd.nt {a : Addr} (h : Owd Φ H a) : ∀ ps, H a ≠ Option.some (HO.tbl ps) := fun ps z => by
  obtain ⟨_, u, e, nt⟩ := h
  rw [z] at e; cases e; exact nt.1 ps rfl
/-- the slot i takes a value -/
def updI (fs : Ix → List Addr) (x : Ix) (f : List Addr) : Ix → List Addr := fun y => if y = x then f else fs y
theorem updI_same {x : Ix} {f : List Addr} : updI fs x f x = f := if_pos rfl
theorem updI_ne {x y : Ix} {f : List Addr} (h : y ≠ x) : updI fs x f y = fs y := if_neg h
theorem Ok.set {d : D} {v : V} {f : List Addr} {i : Nat} (k : Ok g Φ H ρ s σ fs (fadd f F)) (r : Vl g Φ H ρ d v f F) (hi : i < s.sl.length) :
    Ok g Φ H ρ { s with sl := s.sl.set i (some d) } (σ.set i (some v)) (updI fs (.inl i) f) F where
  sub := k.sub
  tab := k.tab
  fr := k.drop.fr
  len := by simp [k.len]
  slot := fun j e q => by
    by_cases h : j = i
    · subst h
      rw [List.getElem?_set_self hi] at q
      cases q
      exact ⟨v, by rw [List.getElem?_set_self (by rw [← k.len]; exact hi)], by rw [updI_same]; exact r.rep⟩
    · rw [List.getElem?_set_ne (Ne.symm h)] at q
      obtain ⟨w, e1, r1⟩ := k.slot j e q
      exact ⟨w, by rw [List.getElem?_set_ne (Ne.symm h)]; exact e1, by rw [updI_ne (fun z => h (Sum.inl.inj z))]; exact r1⟩
  slot0 := fun j q => by
    by_cases h : j = i
    · subst h
      exact absurd (List.getElem?_set_self hi) (q d)
    · rw [updI_ne (fun z => h (Sum.inl.inj z))]
      exact k.slot0 j fun e z => q e (by rw [List.getElem?_set_ne (Ne.symm h)]; exact z)
  obl := k.obl
  obj := fun n o q => by rw [updI_ne (fun z => by cases z)]; exact k.obj n o q
  obj0 := fun n q => by rw [updI_ne (fun z => by cases z)]; exact k.obj0 n q
  nd := fun x => by
    by_cases h : x = .inl i
    · subst h; rw [updI_same]; exact r.nd
    · rw [updI_ne h]; exact k.nd x
  sep := fun x y a hx hy => by
    by_cases h : x = .inl i
    · subst h
      rw [updI_same] at hx
      by_cases h' : y = .inl i
      · exact h'.symm
      · rw [updI_ne h'] at hy
        exact absurd (.inl hx) (k.out y a hy)
    · rw [updI_ne h] at hx
      by_cases h' : y = .inl i
      · subst h'
        rw [updI_same] at hy
        exact absurd (.inl hy) (k.out x a hx)
      · rw [updI_ne h'] at hy
        exact k.sep x y a hx hy
  out := fun x a hx => by
    by_cases h : x = .inl i
    · subst h; rw [updI_same] at hx; exact r.out a hx
    · rw [updI_ne h] at hx; exact fun z => k.out x a hx (.inr z)
/-- the slot i's value is taken out; σ as it is -/
theorem Ok.take {d : D} {i : Nat} (k : Ok g Φ H ρ s σ fs F) (q : s.sl[i]? = some (some d)) :
    ∃ v, σ[i]? = some (some v) ∧ Vl g Φ H ρ d v (fs (.inl i)) F ∧ Ok g Φ H ρ { s with sl := s.sl.set i none } σ (updI fs (.inl i) []) (fadd (fs (.inl i)) F) := by
  obtain ⟨v, e1, r⟩ := k.slot i d q
  have hi : i < s.sl.length := (List.getElem?_eq_some_iff.mp q).1
  refine ⟨v, e1, ⟨r, k.nd _, fun a ha => k.out _ a ha⟩, k.sub, k.tab, fun a ha => ha.elim (k.at _ a) (k.fr a), by simp [k.len], fun j e z => ?_, fun j z => ?_, k.obl, fun n o z => ?_, fun n z => ?_, fun x => ?_, fun x y a hx hy => ?_, fun x a hx => ?_⟩
  · by_cases h : j = i
    · subst h; rw [List.getElem?_set_self hi] at z; cases z
    · rw [List.getElem?_set_ne (Ne.symm h)] at z
      rw [updI_ne (fun z => h (Sum.inl.inj z))]
      exact k.slot j e z
  · by_cases h : j = i
    · subst h; rw [updI_same]
    · rw [updI_ne (fun z => h (Sum.inl.inj z))]
      exact k.slot0 j fun e y => z e (by rw [List.getElem?_set_ne (Ne.symm h)]; exact y)
  · rw [updI_ne (fun z => by cases z)]; exact k.obj n o z
  · rw [updI_ne (fun z => by cases z)]; exact k.obj0 n z
  · by_cases h : x = .inl i
    · subst h; rw [updI_same]; exact List.nodup_nil
    · rw [updI_ne h]; exact k.nd x
  · by_cases h : x = .inl i
    · subst h; rw [updI_same] at hx; cases hx
    · rw [updI_ne h] at hx
      by_cases h' : y = .inl i
      · subst h'; rw [updI_same] at hy; cases hy
      · rw [updI_ne h'] at hy; exact k.sep x y a hx hy
  · by_cases h : x = .inl i
    · subst h; rw [updI_same] at hx; cases hx
    · rw [updI_ne h] at hx
      intro z
      rcases z with z | z
      · exact h (k.sep _ _ a hx z)
      · exact k.out x a hx z
/-- .. and put back, or another for the same V -/
theorem Ok.put {d : D} {v : V} {f : List Addr} {i : Nat} (k : Ok g Φ H ρ s σ fs (fadd f F)) (r : Vl g Φ H ρ d v f F) (hi : i < s.sl.length) (hv : σ[i]? = some (some v)) :
    Ok g Φ H ρ { s with sl := s.sl.set i (some d) } σ (updI fs (.inl i) f) F := by
  have h := k.set (i := i) r hi
  have e : σ.set i (some v) = σ := by
    apply List.ext_getElem?
    intro j
    by_cases q : i = j
    · subst q
      rw [List.getElem?_set_self (by rw [← k.len]; exact hi), hv]
    · rw [List.getElem?_set_ne q]
  rw [e] at h
  exact h
theorem Vl.at {d : D} {v : V} {f : List Addr} (r : Vl g Φ H ρ d v f F) : ∀ a ∈ f, Owd Φ H a := Rep.at d v f r.rep
/-- the slot i's value is shared from now on -/
theorem Ok.share {d : D} {i : Nat} (k : Ok g Φ H ρ s σ fs F) (q : s.sl[i]? = some (some d)) :
    ∃ v Φ' fs', σ[i]? = some (some v) ∧ Stp Φ H ρ F Φ' H ρ ∧ Ok g Φ' H ρ { s with sl := s.sl.set i (some (Den.fz d)) } σ fs' F ∧ Rep g Φ' H ρ (Den.fz d) v [] := by
  obtain ⟨v, e1, r, k2⟩ := k.take q
  have hi : i < s.sl.length := (List.getElem?_eq_some_iff.mp q).1
  obtain ⟨k3, st, r3⟩ := k2.frz r
  have k4 : Ok g (frzP Φ H (fs (.inl i))) H ρ { s with sl := s.sl.set i none } σ (updI fs (.inl i) []) (fadd [] F) := k3.wide (fun a ha => by cases ha) (fun a ha => by cases ha)
  have k5 := k4.put (i := i) (d := Den.fz d) (v := v) ⟨r3, List.nodup_nil, fun a ha => by cases ha⟩ (by simpa using hi) e1
  simp only [List.set_set] at k5
  exact ⟨v, _, _, e1, st, k5, r3⟩
end
end Den
/-! Den2: core expressions and statements, and what they evaluate to. -/
namespace Den
open PySem PySem.Spec L2
structure Exn where
  cls : Nat
  pay : List (Str × D)
inductive Ex (α : Type) where
  | val (a : α) (s : S)
  | exc (x : Exn)
abbrev M (α : Type) := S → Option (Ex α)
section
variable {α β : Type}
def ret (a : α) : M α := fun s => some (.val a s)
def bnd (x : M α) (k : α → M β) : M β := fun s => match x s with
  | some (.val a s') => k a s'
  | some (.exc e) => some (.exc e)
  | none => none
def lift (o : Option α) : M α := fun s => match o with
  | some a => some (.val a s)
  | none => none
def stuck : M α := fun _ => none
end
inductive Md where
  | val | io
  deriving DecidableEq
inductive Ro where
  | ret (d : D) (outs : List D) (os : List Ob)
  | exc (x : Exn)
structure Fn where
  io : List Md
  run : List D → List Ob → Option Ro
structure Tb where
  fn : Str → Option Fn
  glo : Str → Option D
  /-- the def's lambdas -/
  lam : Nat → Option (M D) := fun _ => none
inductive Op2 where
  | add | sub | mul | fdiv | mod | pow | eq | ne | lt | le | gt | ge | isin | notin
  deriving DecidableEq
inductive Bi where
  | len | abs | max2 | min2 | maxL | int1 | tuple1 | list1 | sorted1 | all1 | sortedP | sum1 | str1
  deriving DecidableEq
inductive Mt where
  | lindex | tindex | scount | sjoin | ssplit
  deriving DecidableEq
inductive Mu where
  | append | pop0 | pop1 | remove
  deriving DecidableEq
inductive Tg where
  | nm (i : Nat)
  | tp (ts : List Tg)
mutual
inductive C where
  | bad
  | cst (d : D)
  | glo (x : Str)
  | var (i : Nat)
  | mv (i : Nat)
  | neg (a : C) | not (a : C) | isN (a : C) | notN (a : C)
  | op2 (o : Op2) (a b : C)
  | and (a b : C) | or (a b : C)
  | chain (o o' : Op2) (a b c : C)
  | ite (t a b : C)
  | tup (as : Cs) | lst (as : Cs)
  | idx (a i : C)
  | slc (a : C) (lo hi : Co)
  | cal (f : Str) (as : Cs)
  | bi (b : Bi) (as : Cs)
  | isi (T : String) (a : C)
  | tupRg (a : C) | lstRg (a : C)
  | srtSet (a : C)
  | srtKey (a : C)
  | mth (m : Mt) (o a : C)
  | mut (m : Mu) (i : Nat) (as : Cs)
  | dnew (t : Bool)
  | ktup (as : Cs)
  | dget (i : Nat) (k e : C)
  | didx (i : Nat) (k : C)
  | dlEq (i : Nat) (r : List (List Int))
  | dlIn (i : Nat) (r : List (List (List Int)))
  | mutA (i : Nat) (ix a : C)
  | lc (own : List Nat) (tg : Tg) (it : It) (cond : Co) (elt : C)
  | lam (k : Nat) (b : C)
  | lcl (i : Nat)
  | lenSet (a : C)
  | dlit (kvs : List (List Nat × Int))
  | rfs (hide : List Nat) (as : Cs)
  | gin (neg : Bool) (a : C)
  | gix (a : C)
  | pk (is : List Nat) (a : C)
  | app (i : Nat) (a : C)
inductive Cs where
  | nil
  | cons (a : C) (as : Cs)
inductive Co where
  | no
  | yes (a : C)
inductive It where
  | seq (a : C) | rng1 (a : C) | rng2 (a b : C) | rev (a : C) | zip (as : Cs) | en (a : C)
end
mutual
inductive T where
  | bad
  | doc
  | set (tg : Tg) (e : C)
  | seti (i : Nat) (k e : C)
  | dset (i : Nat) (k e : C)
  | aug (i : Nat) (e : C)
  | expr (e : C)
  | ret (e : C)
  | retn
  | ife (c : C) (a b : Ts)
  | forr (tg : Tg) (it : It) (body : Ts)
  | whil (n : Nat) (c : C) (body : Ts)
  | rse (i : Nat)
  | rsi (i : Nat) (e : C)
  | forB (x i : Nat) (body : Ts)
inductive Ts where
  | nil
  | cons (t : T) (ts : Ts)
end
/-! ### values' operations -/
def lim : Nat := 1000000
mutual
def toP : D → PyData
  | .non => .none
  | .bl b => .bool b
  | .int i => .int i
  | .str s => .str ⟨s.toArray⟩
  | .tup ds => .tuple (toPs ds)
  | .lst _ ds => .list (toPs ds)
  | .obj _ => .dict []
  | .kt _ => .dict []
  | .dc _ _ _ => .dict []
  | .lam _ => .dict []
  | .any => .dict []
def toPs : List D → List PyData
  | [] => []
  | d :: ds => toP d :: toPs ds
end
def eqD (a b : D) : Option Bool := if SeqAt.shaped (toP a) = true ∧ SeqAt.shaped (toP b) = true then some (PyData.eqv (toP a) (toP b)) else none
def addD : D → D → Option D
  | .int i, .int j => some (.int (i + j))
  | .str a, .str b => if a.length + b.length ≤ lim then some (.str (a ++ b)) else none
  | .lst .fz a, .lst .fz b => if a.length + b.length ≤ lim then some (.lst .own (a ++ b)) else none
  | .tup a, .tup b => if a.length + b.length ≤ lim then some (.tup (a ++ b)) else none
  | _, _ => none
def subD : D → D → Option D
  | .int i, .int j => some (.int (i - j))
  | _, _ => none
def small (i : Int) : Bool := decide (-(2 ^ 64) < i) && decide (i < 2 ^ 64)
def repL (n : Nat) (ds : List D) : List D := (List.replicate n ds).flatten
def repS (n : Nat) (s : List Nat) : List Nat := (List.replicate n s).flatten
def mulD : D → D → Option D
  | .int i, .int j => if small i || small j then some (.int (i * j)) else none
  | .str a, .int k => if decide (0 ≤ k) && decide (k ≤ 1000) && decide (a.length ≤ 1000) then some (.str (repS k.toNat a)) else none
  | .lst .fz a, .int k => if decide (-(2 ^ 62) < k) && decide (k < 2 ^ 62) && decide (a.length * k.toNat ≤ lim) then some (.lst .own (repL k.toNat a)) else none
  | .tup a, .int k => if decide (1 ≤ k) && decide (k ≤ 1000) && decide (a.length ≤ 1000) && !a.isEmpty then some (.tup (repL k.toNat a)) else none
  | _, _ => none
def fdivD : D → D → Option D
  | .int i, .int j => if decide (0 < j) && decide (j < 1073741824) then some (.int (i / j)) else none
  | _, _ => none
def modD : D → D → Option D
  | .int i, .int j => if decide (0 < j) then some (.int (i % j)) else none
  | _, _ => none
def powD : D → D → Option D
  | .int i, .int j => if decide (0 ≤ j) && decide (j ≤ 1000000) && small i then some (.int (i ^ j.toNat)) else none
  | _, _ => none
def cmpD (p : Int → Int → Bool) : D → D → Option D
  | .int i, .int j => some (.bl (p i j))
  | _, _ => none
def inL (x : D) (ds : List D) : Bool := (toPs ds).any fun y => PyData.eqv y (toP x)
def flatD : D → Bool
  | .non => true
  | .bl _ => true
  | .int _ => true
  | .str _ => true
  | _ => false
def inD (x : D) : D → Option Bool
  | .lst _ ds => if SeqAt.shaped (toP x) = true ∧ SeqAt.shaped (.list (toPs ds)) = true then some (inL x ds) else none
  | .tup ds => if flatD x = true ∧ ds.all flatD = true then some (inL x ds) else none
  | .str s => match x with
    | .str [c] => some (decide (c ∈ s))
    | _ => none
  | _ => none
def opF : Op2 → D → D → Option D
  | .add, a, b => addD a b
  | .sub, a, b => subD a b
  | .mul, a, b => mulD a b
  | .fdiv, a, b => fdivD a b
  | .mod, a, b => modD a b
  | .pow, a, b => powD a b
  | .eq, a, b => (eqD a b).map .bl
  | .ne, a, b => (eqD a b).map fun x => .bl (!x)
  | .lt, .str a, .str b => some (.bl (ExO.ltS a b))
  | .lt, a, b => cmpD (fun i j => decide (i < j)) a b
  | .le, a, b => cmpD (fun i j => decide (i ≤ j)) a b
  | .gt, a, b => cmpD (fun i j => decide (j < i)) a b
  | .ge, a, b => cmpD (fun i j => decide (j ≤ i)) a b
  | .isin, a, b => (inD a b).map .bl
  | .notin, a, b => (inD a b).map fun x => .bl (!x)
def negD : D → Option D
  | .int i => some (.int (-i))
  | _ => none
def notD : D → Option D
  | .bl b => some (.bl (!b))
  | _ => none
def isNonD : D → Bool
  | .non => true
  | _ => false
def idxD : D → D → Option D
  | .lst _ ds, .int i => atI ds i
  | .tup ds, .int i => atI ds i
  | .str s, .int i => if s.length ≤ lim then (atI s i).map fun c => .str [c] else none
  | _, _ => none
def cutL {α : Type} (xs : List α) (lo hi : Option Int) : List α := (xs.drop (HT.sIx xs.length 0 lo)).take (HT.sIx xs.length xs.length hi - HT.sIx xs.length 0 lo)
def slcI (d : D) (l h : Option Int) : Option D := match d with
  | .lst _ ds => some (.lst .own (cutL ds l h))
  | .tup ds => some (.tup (cutL ds l h))
  | .str s => if s.length ≤ lim then some (.str (cutL s l h)) else none
  | _ => none
def intsOf : List D → Option (List Int)
  | [] => some []
  | .int i :: ds => (intsOf ds).map (i :: ·)
  | _ => none
def blsOf : List D → Option (List Bool)
  | [] => some []
  | .bl b :: ds => (blsOf ds).map (b :: ·)
  | _ => none
/-- a rising arrangement -/
def insI (x : Int) : List Int → List Int
  | [] => [x]
  | y :: ys => if x ≤ y then x :: y :: ys else y :: insI x ys
def srtI : List Int → List Int
  | [] => []
  | x :: xs => insI x (srtI xs)
def maxI : Int → List Int → Int
  | m, [] => m
  | m, x :: xs => maxI (if m < x then x else m) xs
/-- lists of ints by their order -/
def tyOf : D → Option String
  | .non => some "NoneType"
  | .bl _ => some "bool"
  | .int _ => some "int"
  | .str _ => some "str"
  | .tup _ => some "tuple"
  | .lst _ _ => some "list"
  | .obj _ => none
  | .kt _ => none
  | .dc _ _ _ => none
  | .lam _ => none
  | .any => none
def isiD (T : String) (d : D) : Option Bool := match tyOf d with
  | some t => kitB t T
  | none => none
def lenF : List D → Option D
  | [.lst _ ds] => some (.int ds.length)
  | [.tup ds] => some (.int ds.length)
  | [.str s] => if s.length ≤ lim then some (.int s.length) else none
  | _ => none
def absF : List D → Option D
  | [.int i] => some (.int (if i < 0 then -i else i))
  | _ => none
def max2F : List D → Option D
  | [.int i, .int j] => some (.int (if j > i then j else i))
  | _ => none
def min2F : List D → Option D
  | [.int i, .int j] => some (.int (if j < i then j else i))
  | _ => none
def maxLF : List D → Option D
  | [.lst _ ds] => (match intsOf ds with
    | some (x :: xs) => some (.int (maxI x xs))
    | _ => none)
  | _ => none
def intF : List D → Option D
  | [.int i] => some (.int i)
  | [.bl b] => some (.int (if b then 1 else 0))
  | [.str s] => if s.length ≤ 640 then (PySem.intText? ⟨s.toArray⟩).map .int else none
  | _ => none
def strI (i : Int) : List Nat := (toString i : Str).cps.toList
def tstrs : List D → Option (List (List Nat))
  | [] => some []
  | .str s :: ds => (tstrs ds).map (s :: ·)
  | _ => none
def strF : List D → Option D
  | [.int i] => if i.natAbs.log2 < 1920 then some (.str (strI i)) else none
  | [.str s] => some (.str s)
  | [.tup ds] => match tstrs ds with
    | some ys => if ys.length ≤ 50 ∧ ys.all (fun y => decide (y.length ≤ 1000) && y.all (· < 0x110000)) = true then some .any else none
    | none => none
  | _ => none
def tupleF : List D → Option D
  | [.lst _ ds] => some (.tup ds)
  | [.tup ds] => some (.tup ds)
  | _ => none
def listF : List D → Option D
  | [.lst _ ds] => some (.lst .own ds)
  | [.tup ds] => some (.lst .own ds)
  | _ => none
def strsOf : List D → Option (List (List Nat))
  | [] => some []
  | .str s :: ds => (strsOf ds).map (s :: ·)
  | _ => none
def sortedT (ds : List D) : Option D := match strsOf ds with
  | some ss => if ss.length < 64 then some (.lst .own ((ExO.srtT ss).map .str)) else none
  | none => none
def sortedF : List D → Option D
  | [.lst _ ds] => (match intsOf ds with
    | some is => some (.lst .own ((srtI is).map .int))
    | none => sortedT ds)
  | [.tup ds] => sortedT ds
  | _ => none
def allF : List D → Option D
  | [.lst _ ds] => (match blsOf ds with
    | some bs => some (.bl (bs.all id))
    | none => none)
  | _ => none
def isiF (T : String) : List D → Option D
  | [d] => (isiD T d).map .bl
  | _ => none
def rngL (a b : Int) : List D := (List.range (b - a).toNat).map fun i => .int (a + (i : Nat))
def smallR (a : Int) : Bool := decide (-(2 ^ 62) ≤ a) && decide (a ≤ 1000000)
/-- the strictly rising list of the same ints -/
def insS (x : Int) : List Int → List Int
  | [] => [x]
  | y :: ys => if x < y then x :: y :: ys else if x = y then y :: ys else y :: insS x ys
def setI : List Int → List Int
  | [] => []
  | x :: xs => insS x (setI xs)
/-- by the int first, then by the tuple -/
def ltK (p q : Int × List Int) : Bool := if p.1 = q.1 then HT.lexLt p.2 q.2 else decide (p.1 < q.1)
def insP (x : Int × List Int) : List (Int × List Int) → List (Int × List Int)
  | [] => [x]
  | y :: ys => if ltK y x then y :: insP x ys else x :: y :: ys
def srtP : List (Int × List Int) → List (Int × List Int)
  | [] => []
  | x :: xs => insP x (srtP xs)
def tupI (ns : List Int) : D := .tup (ns.map .int)
def tupsOf : List D → Option (List (List Int))
  | [] => some []
  | .tup ds :: r => match intsOf ds, tupsOf r with
    | some ns, some l => some (ns :: l)
    | _, _ => none
  | _ => none
def setSrt : D → Option D
  | .tup ds => match intsOf ds with
    | some is => if is.length ≤ 50 then some (.lst .own ((setI is).map .int)) else none
    | none => none
  | _ => none
def lenSetF : D → Option D
  | .lst _ ds => match intsOf ds with
    | some is => if is.length ≤ 50 then some (.int ((setI is).length : Nat)) else none
    | none => none
  | _ => none
def keySrt : D → Option D
  | .lst _ ds => match tupsOf ds with
    | some l => some (.lst .own ((srtP (l.map fun a => ((a.length : Int), a))).map fun p => tupI p.2))
    | none => none
  | _ => none
def pairD (p : Int × List Int) : D := .tup [.int p.1, tupI p.2]
def pairOf : List D → Option (List (Int × List Int))
  | [] => some []
  | .tup [.int n, .tup ns] :: r => match intsOf ns, pairOf r with
    | some is, some l => some ((n, is) :: l)
    | _, _ => none
  | _ => none
def sortPF : List D → Option D
  | [.lst _ ds] => (match pairOf ds with
    | some l => some (.lst .own ((srtP l).map pairD))
    | none => none)
  | _ => none
def sumF : List D → Option D
  | [.lst _ ds] => (match intsOf ds with
    | some is => some (.int is.sum)
    | none => none)
  | _ => none
def biF : Bi → List D → Option D
  | .sum1 => sumF
  | .str1 => strF
  | .len => lenF
  | .abs => absF
  | .max2 => max2F
  | .min2 => min2F
  | .maxL => maxLF
  | .int1 => intF
  | .tuple1 => tupleF
  | .list1 => listF
  | .sorted1 => sortedF
  | .all1 => allF
  | .sortedP => sortPF
def mtT : Mt → String
  | .lindex => "list"
  | .tindex => "tuple"
  | _ => "str"
def findD (x : D) : List D → Nat → Option Nat
  | [], _ => none
  | d :: ds, k => if PyData.eqv (toP d) (toP x) then some k else findD x ds (k + 1)
def joinF (a : List Nat) (ds : List D) : Option D := match strsOf ds with
  | some ys => if (ys.map (·.length)).sum + ys.length * a.length ≤ lim then some (.str (TL.joinL a ys)) else none
  | none => none
def mtF : Mt → D → D → Option D
  | .lindex, .lst _ ds, x => if SeqAt.shaped (toP x) = true ∧ SeqAt.shaped (.list (toPs ds)) = true then (findD x ds 0).map fun k => .int (k : Nat) else none
  | .scount, .str s, .str [c] => some (.int ((s.count c : Nat) : Int))
  | .sjoin, .str a, .lst _ ds => joinF a ds
  | .sjoin, .str a, .tup ds => joinF a ds
  | .ssplit, .str a, .str [c] => if c < 256 ∧ a.length + 2 ≤ lim then some (.lst .own ((TL.spl [c] 0 [] a).map .str)) else none
  | .tindex, .tup ds, x => if flatD x = true ∧ ds.all flatD = true then (findD x ds 0).map fun k => .int (k : Nat) else none
  | _, _, _ => none
/-- a list in its slot is changed: the answer, the new items -/
def muF : Mu → List D → List D → Option (D × List D)
  | .append, es, [x] => if es.length < lim then some (.non, es ++ [x]) else none
  | .pop0, es, [] => match es[es.length - 1]? with
    | some y => some (y, es.dropLast)
    | none => none
  | .pop1, es, [.int i] => if smallR i then (match ixN es.length i with
      | some k => match es[k]? with
        | some y => some (y, es.eraseIdx k)
        | none => none
      | none => none) else none
  | .remove, es, [.int i] => match intsOf es with
    | some is => if i ∈ is then some (.non, (is.erase i).map .int) else none
    | none => none
  | _, _, _ => none
/-! ### dicts -/
section
variable {κ α : Type} [DecidableEq κ]
def valL : List κ → List α → κ → Option α
  | k' :: ks, d :: ds, k => if k' = k then some d else valL ks ds k
  | _, _, _ => none
def setL : List κ → List α → κ → α → List α
  | k' :: ks, d :: ds, k, x => (if k' = k then x else d) :: setL ks ds k x
  | _, ds, _, _ => ds
def putL (ks : List κ) (ds : List α) (k : κ) (x : α) : List κ × List α := if k ∈ ks then (ks, setL ks ds k x) else (ks ++ [k], ds ++ [x])
end
def keyT : D → Option (List Int)
  | .kt k => some k
  | _ => none
def keyK : D → Option Key
  | .int n => some (.inl n)
  | .str s => some (.inr ⟨s.toArray⟩)
  | _ => none
def dcGet : KS → List D → D → Option (Option D)
  | .t ks, ds, kd => (keyT kd).map fun k => valL ks ds k
  | .k ks, ds, kd => (keyK kd).map fun k => valL ks ds k
def dcPut : KS → List D → D → D → Option (KS × List D)
  | .t ks, ds, kd, d => (keyT kd).map fun k => (.t (putL ks ds k d).1, (putL ks ds k d).2)
  | .k ks, ds, kd, d => (keyK kd).map fun k => (.k (putL ks ds k d).1, (putL ks ds k d).2)
def keysP (ks : List (List Int)) : PyData := .list (ks.map fun k => .tuple (k.map .int))
def eqKeys (ks r : List (List Int)) : Option Bool := if SeqAt.shaped (keysP ks) = true ∧ SeqAt.shaped (keysP r) = true then some (PyData.eqv (keysP ks) (keysP r)) else none
def inKeys (ks : List (List Int)) (r : List (List (List Int))) : Option Bool := if SeqAt.shaped (keysP ks) = true ∧ SeqAt.shaped (.list (r.map keysP)) = true then some ((r.map keysP).any fun y => PyData.eqv y (keysP ks)) else none
/-! ### a dict of the module -/
def gdN : Str := "PARTS"
def ginF (neg : Bool) (G : D) (d : D) : Option D := match G, d with
  | .dc _ (.k ks) ds, .str s => some (.bl (neg != (valL ks ds (.inr ⟨s.toArray⟩)).isSome))
  | _, _ => none
def gixF (G : D) (d : D) : Option D := match G, d with
  | .dc _ (.k ks) ds, .str s => valL ks ds (.inr ⟨s.toArray⟩)
  | _, _ => none
/-! ### the state's operations -/
def shal : D → D
  | .lst .own ds => .lst .own (fzL ds)
  | d => fz d
def setS (s : S) (i : Nat) (o : Option D) : S := { s with sl := s.sl.set i o }
def view (i : Nat) : M D := fun s => match s.sl[i]? with
  | some (some d) => some (.val (fz d) (setS s i (some (shal d))))
  | _ => none
def rdV (i : Nat) : M D := fun s => match s.sl[i]? with
  | some (some d) => some (.val (fz d) (setS s i (some (fz d))))
  | _ => none
def mvV (i : Nat) : M D := fun s => match s.sl[i]? with
  | some (some d) => some (.val d (setS s i none))
  | _ => none
def isVar : C → Bool
  | .var _ => true
  | _ => false
/-- an operand: a name is looked at later -/
def hasV (c : C) : M (Option D) := fun s => match c with
  | .var i => (match s.sl[i]? with
    | some (some _) => some (.val none s)
    | _ => none)
  | _ => none
def opd (c : C) (m : M D) : M (Option D) := if isVar c then hasV c else bnd m fun d => ret (some (fz d))
def fill1 (c : C) (o : Option D) : M D := match o with
  | some d => ret d
  | none => match c with
    | .var i => view i
    | _ => stuck
/-- operands looked at -/
def fillP : Cs → List (Option D) → M (List D)
  | .nil, [] => ret []
  | .cons a as, o :: os => bnd (fill1 a o) fun d => bnd (fillP as os) fun ds => ret (d :: ds)
  | _, _ => stuck
/-- a def's arguments: shared ones, and those that are given over -/
def fillC : Cs → List (Option D) → M (List D)
  | .nil, [] => ret []
  | .cons a as, o :: os => bnd (match o with
      | some d => ret d
      | none => match a with
        | .var i => mvV i
        | _ => stuck) fun d => bnd (fillC as os) fun ds => ret (d :: ds)
  | _, _ => stuck
def ioSl : List Md → Cs → List Nat
  | .io :: ms, .cons a as => (match a with
    | .var i => i :: ioSl ms as
    | _ => ioSl ms as)
  | .val :: ms, .cons _ as => ioSl ms as
  | _, _ => []
def putB : List Nat → List D → List (Option D) → Option (List (Option D))
  | [], [], sl => some sl
  | i :: is, d :: ds, sl => if i < sl.length then putB is ds (sl.set i (some d)) else none
  | _, _, _ => none
mutual
def asg : Tg → D → M Unit
  | .nm i, d => fun s => if i < s.sl.length then some (.val () (setS s i (some d))) else none
  | .tp ts, d => match d with
    | .tup ds => asgs ts ds
    | _ => stuck
def asgs : List Tg → List D → M Unit
  | [], [] => ret ()
  | t :: ts, d :: ds => bnd (asg t d) fun _ => asgs ts ds
  | _, _ => stuck
end
def wipeD (sl : List (Option D)) : List Nat → List (Option D)
  | [] => sl
  | v :: vs => (wipeD sl vs).set v none
def restD (sl old : List (Option D)) : List Nat → List (Option D)
  | [] => sl
  | v :: vs => (restD sl old vs).set v ((old[v]?).getD none)
def lcGo (own : List Nat) (f : D → M (Option D)) : List D → List D → M (List D)
  | [], acc => ret acc
  | x :: xs, acc => fun s => match f x { s with sl := wipeD s.sl own } with
    | some (.val (some d) s') => if acc.length < lim then lcGo own f xs (acc ++ [d]) s' else none
    | some (.val none s') => lcGo own f xs acc s'
    | _ => none
def callF (F : Fn) (slots : List Nat) (ds : List D) : M D := fun s => match F.run ds s.os with
  | some (.ret d outs os') => (match putB slots outs s.sl with
    | some sl' => some (.val d ⟨sl', os'⟩)
    | none => none)
  | some (.exc x) => some (.exc x)
  | none => none
def mutL (m : Mu) (i : Nat) (ds : List D) : M D := fun s => match s.sl[i]? with
  | some (some (.lst .own es)) => (match muF m es ds with
    | some (d, es') => some (.val d (setS s i (some (.lst .own es'))))
    | none => none)
  | _ => none
def isLst (i : Nat) (s : S) : Bool := match s.sl[i]? with
  | some (some (.lst _ _)) => true
  | _ => false
def kindIs (c : C) (T : String) (o : Option D) (s : S) : Bool := match o with
  | some d => decide (tyOf d = some T)
  | none => match c with
    | .var i => (match s.sl[i]? with
      | some (some d) => decide (tyOf d = some T)
      | _ => false)
    | _ => false
def isDc (i : Nat) (s : S) : Bool := match s.sl[i]? with
  | some (some (.dc .own _ _)) => true
  | _ => false
def dgetM (i : Nat) (kd e : D) : M D := fun s => match s.sl[i]? with
  | some (some (.dc .own ks ds)) => (match dcGet ks ds kd with
    | some (some d) => some (.val d s)
    | some none => some (.val e s)
    | none => none)
  | _ => none
def didxM (i : Nat) (kd : D) : M D := fun s => match s.sl[i]? with
  | some (some (.dc .own ks ds)) => (match dcGet ks ds kd with
    | some (some d) => some (.val d s)
    | _ => none)
  | _ => none
def keysM (i : Nat) : M (List (List Int)) := fun s => match s.sl[i]? with
  | some (some (.dc .own (.t ks) _)) => some (.val ks s)
  | _ => none
/-- the list within the list in slot i: the items, the place, what stands there -/
def innL (i : Nat) (xd : D) (s : S) : Option (List D × Nat × List D) := match s.sl[i]?, xd with
  | some (some (.lst .own es)), .int z => (match ixN es.length z with
    | some j => (match es[j]? with
      | some (.lst .own fs) => if fs.length < lim then some (es, j, fs) else none
      | _ => none)
    | none => none)
  | _, _ => none
/-- the item is reckoned while the list is out of its slot -/
def mutAM (i : Nat) (xd : D) (m : M D) : M D := fun s => match innL i xd s with
  | some (es, j, fs) => (match m (setS s i none) with
    | some (.val d s') => some (.val .non (setS s' i (some (.lst .own (es.set j (.lst .own (fs ++ [fz d])))))))
    | some (.exc x) => some (.exc x)
    | none => none)
  | none => none
def enL (k : Nat) : List D → List D
  | [] => []
  | d :: ds => .tup [.int (k : Nat), d] :: enL (k + 1) ds
def signs (s : List Nat) : List D := s.map fun c => .str [c]
def zipD : List D → Option (List D)
  | [.tup ds, .tup es] => some ((ds.zip es).map fun p => .tup [p.1, p.2])
  | _ => none
/-! ### refused -/
/-- the word of a class, by its number; the field that it keeps -/
def clWord : Nat → List Nat
  | 0 => [110, 117, 109, 98, 101, 114]
  | 1 => [114, 117, 108, 101]
  | 2 => [119, 97, 107, 101, 115]
  | 3 => [112, 108, 97, 110]
  | _ => [116, 101, 120, 116]
def clFld : Nat → Str
  | 2 => "number"
  | _ => "why"
/-- what _law_refused makes of an exception -/
def jdg (x : Exn) (w : List Nat) (v : D) : Option Bool :=
  if x.cls < 5 then
    if clWord x.cls = w then
      if x.cls = 1 ∨ x.cls = 3 then (match x.pay, v with
        | [(f, .str z)], .str u => if f = "why" then some (decide (z = u)) else none
        | _, _ => none)
      else if x.cls = 2 then none
      else some true
    else some false
  else none
/-- the slots that a lambda may read are shared from now on; the others are hidden from it -/
def shrL : List Nat → List (Option D) → List (Option D)
  | [], sl => sl
  | i :: is, sl => shrL is (sl.set i (((sl[i]?).getD none).map fz))
def hidE (is : List Nat) : Nat → List (Option D) → List (Option D)
  | _, [] => []
  | i, o :: sl => (if i ∈ is then o else none) :: hidE is (i + 1) sl
def rfsM (is : List Nat) (m : M D) (w : List Nat) (v : D) : M D := fun s => if s.os.isEmpty && decide (w ≠ clWord 2) then (match m ⟨hidE is 0 (shrL is s.sl), []⟩ with
  | some (.val _ _) => some (.val (.bl false) ⟨shrL is s.sl, []⟩)
  | some (.exc x) => (jdg x w v).map fun b => .val (.bl b) ⟨shrL is s.sl, []⟩
  | none => none) else none
/-! ### looked at alone -/
mutual
def noDc : D → Bool
  | .tup ds => noDcL ds
  | .lst _ ds => noDcL ds
  | .dc _ _ _ => false
  | _ => true
def noDcL : List D → Bool
  | [] => true
  | d :: ds => noDc d && noDcL ds
end
/-- the slots as they are looked at: those of is shared for the time, of the others the flat ones -/
def pkD (is : List Nat) (j : Nat) : Option D → Option D
  | none => none
  | some d => if j ∈ is then some (fz d) else if flatD d = true then some d else none
def pkS (is : List Nat) : Nat → List (Option D) → List (Option D)
  | _, [] => []
  | j, o :: sl => pkD is j o :: pkS is (j + 1) sl
def pkOk (is : List Nat) : Nat → List (Option D) → Bool
  | _, [] => true
  | j, o :: sl => (match o with
    | some d => !decide (j ∈ is) || noDc d
    | none => true) && pkOk is (j + 1) sl
def pkM (is : List Nat) (m : M D) : M D := fun s => if s.os.isEmpty && pkOk is 0 s.sl then (match m ⟨pkS is 0 s.sl, []⟩ with
  | some (.val d s') => if flatD d = true then some (.val d s) else none
  | some (.exc x) => some (.exc x)
  | none => none) else none
/-- an item is appended with all that is its own -/
def appM (i : Nat) (d : D) : M D := fun s => match s.sl[i]? with
  | some (some (.lst .own es)) => if es.length < lim then some (.val .non (setS s i (some (.lst .own (es ++ [d]))))) else none
  | _ => none
def grd (p : S → Bool) : M Unit := fun s => if p s then some (.val () s) else none
section
variable (Γ : Tb)
mutual
def ev : C → M D
  | .bad => stuck
  | .cst d => ret d
  | .glo x => lift (Γ.glo x)
  | .var i => rdV i
  | .mv i => mvV i
  | .neg a => bnd (opd a (ev a)) fun x => bnd (fill1 a x) fun d => lift (negD d)
  | .not a => bnd (ev a) fun d => lift (notD d)
  | .isN a => bnd (opd a (ev a)) fun x => bnd (fill1 a x) fun d => ret (.bl (isNonD d))
  | .notN a => bnd (opd a (ev a)) fun x => bnd (fill1 a x) fun d => ret (.bl (!isNonD d))
  | .op2 o a b => bnd (opd a (ev a)) fun x => bnd (opd b (ev b)) fun y => bnd (fill1 a x) fun d => bnd (fill1 b y) fun e => lift (opF o d e)
  | .and a b => bnd (ev a) fun d => match d with
    | .bl true => ev b
    | .bl false => ret (.bl false)
    | _ => stuck
  | .or a b => bnd (ev a) fun d => match d with
    | .bl true => ret (.bl true)
    | .bl false => ev b
    | _ => stuck
  | .chain o o' a b c => bnd (opd a (ev a)) fun x => bnd (opd b (ev b)) fun y => bnd (fill1 a x) fun d => bnd (fill1 b y) fun e =>
      bnd (lift (opF o d e)) fun r => match r with
        | .bl true => bnd (opd c (ev c)) fun z => bnd (fill1 c z) fun f => if flatD e = true then lift (opF o' e f) else stuck
        | .bl false => ret (.bl false)
        | _ => stuck
  | .ite t a b => bnd (ev t) fun d => match d with
    | .bl true => ev a
    | .bl false => ev b
    | _ => stuck
  | .tup as => bnd (evs as) fun ds => if ds.length ≤ lim then ret (.tup ds) else stuck
  | .lst as => bnd (evs as) fun ds => if ds.length ≤ lim then ret (.lst .own ds) else stuck
  | .idx a i => bnd (opd a (ev a)) fun x => bnd (opd i (ev i)) fun y => bnd (fill1 a x) fun d => bnd (fill1 i y) fun e => lift (idxD d e)
  | .slc a lo hi => bnd (opd a (ev a)) fun x => bnd (evo lo) fun l => bnd (evo hi) fun h => bnd (fill1 a x) fun d => lift (slcI d l h)
  | .cal f as => match Γ.fn f with
    | some F => bnd (evOps F.io as) fun os => bnd (fillC as os) fun ds => callF F (ioSl F.io as) ds
    | none => stuck
  | .bi b as => bnd (evPk as) fun os => bnd (fillP as os) fun ds => lift (biF b ds)
  | .isi T a => bnd (opd a (ev a)) fun x => bnd (fill1 a x) fun d => lift (isiF T [d])
  | .tupRg a => bnd (opd a (ev a)) fun x => bnd (fill1 a x) fun d => match d with
    | .int n => if smallR n then ret (.tup (rngL 0 n)) else stuck
    | _ => stuck
  | .lstRg a => bnd (opd a (ev a)) fun x => bnd (fill1 a x) fun d => match d with
    | .int n => if smallR n then ret (.lst .own (rngL 0 n)) else stuck
    | _ => stuck
  | .srtSet a => bnd (opd a (ev a)) fun x => bnd (fill1 a x) fun d => lift (setSrt d)
  | .srtKey a => bnd (opd a (ev a)) fun x => bnd (fill1 a x) fun d => lift (keySrt d)
  | .mth m o a => bnd (opd o (ev o)) fun x => bnd (grd (kindIs o (mtT m) x)) fun _ => bnd (opd a (ev a)) fun y => bnd (fill1 o x) fun d => bnd (fill1 a y) fun e => lift (mtF m d e)
  | .mut m i as => bnd (grd (isLst i)) fun _ => bnd (evFz as) fun ds => mutL m i ds
  | .dnew t => ret (.dc .own (if t then .t [] else .k []) [])
  | .ktup as => bnd (evs as) fun ds => match intsOf ds with
    | some ks => if ks.length ≤ lim then ret (.kt ks) else stuck
    | none => stuck
  | .dget i k e => bnd (grd (isDc i)) fun _ => bnd (ev k) fun kd => bnd (ev e) fun d => dgetM i kd d
  | .didx i k => bnd (grd (isDc i)) fun _ => bnd (ev k) fun kd => didxM i kd
  | .dlEq i r => bnd (keysM i) fun ks => lift ((eqKeys ks r).map .bl)
  | .dlIn i r => bnd (keysM i) fun ks => lift ((inKeys ks r).map .bl)
  | .mutA i ix a => bnd (grd (isLst i)) fun _ => bnd (ev ix) fun xd => mutAM i xd (ev a)
  | .lc own tg it cond elt => bnd (evIt it) fun xs => fun s =>
      match lcGo own (fun x => bnd (asg tg x) fun _ => bnd (evc cond) fun b => if b then bnd (ev elt) fun d => ret (some d) else ret none) xs [] { s with sl := wipeD s.sl own } with
      | some (.val ds s1) => some (.val (.lst .own ds) { s1 with sl := restD s1.sl s.sl own })
      | _ => none
  | .lenSet a => bnd (opd a (ev a)) fun x => bnd (fill1 a x) fun d => lift (lenSetF d)
  | .dlit kvs => ret (.dc .own (.k (kvs.map fun p => .inr ⟨p.1.toArray⟩)) (kvs.map fun p => .int p.2))
  | .lam k _ => match Γ.lam k with
    | some _ => ret (.lam k)
    | none => stuck
  | .lcl i => fun s => match s.sl[i]? with
    | some (some (.lam k)) => (match Γ.lam k with
      | some m => m s
      | none => none)
    | _ => none
  | .rfs hide as => bnd (evFz as) fun ds => match ds with
    | [.lam k, .str w, v] => (match Γ.lam k with
      | some m => rfsM hide m w v
      | none => stuck)
    | _ => stuck
  | .gin neg a => match Γ.glo gdN with
    | some G => bnd (opd a (ev a)) fun x => bnd (fill1 a x) fun d => lift (ginF neg G d)
    | none => stuck
  | .gix a => match Γ.glo gdN with
    | some G => bnd (opd a (ev a)) fun x => bnd (fill1 a x) fun d => lift (gixF G d)
    | none => stuck
  | .pk is a => pkM is (ev a)
  | .app i a => bnd (grd (isLst i)) fun _ => bnd (ev a) fun d => appM i d
/-- the items, each with what is its own -/
def evs : Cs → M (List D)
  | .nil => ret []
  | .cons a as => bnd (ev a) fun d => bnd (evs as) fun ds => ret (d :: ds)
def evOps : List Md → Cs → M (List (Option D))
  | [], .nil => ret []
  | .val :: ms, .cons a as => bnd (bnd (ev a) fun d => ret (some (fz d))) fun o => bnd (evOps ms as) fun os => ret (o :: os)
  | .io :: ms, .cons a as => bnd (hasV a) fun o => bnd (evOps ms as) fun os => ret (o :: os)
  | _, _ => stuck
def evPk : Cs → M (List (Option D))
  | .nil => ret []
  | .cons a as => bnd (opd a (ev a)) fun o => bnd (evPk as) fun os => ret (o :: os)
def evFz : Cs → M (List D)
  | .nil => ret []
  | .cons a as => bnd (ev a) fun d => bnd (evFz as) fun ds => ret (fz d :: ds)
def evo : Co → M (Option Int)
  | .no => ret none
  | .yes a => bnd (ev a) fun d => match d with
    | .int i => ret (some i)
    | _ => stuck
def evc : Co → M Bool
  | .no => ret true
  | .yes a => bnd (ev a) fun d => match d with
    | .bl b => ret b
    | _ => stuck
def evIt : It → M (List D)
  | .seq a => bnd (ev a) fun d => match fz d with
    | .lst _ ds => ret ds
    | .tup ds => ret ds
    | .str s => if s.length ≤ lim then ret (signs s) else stuck
    | _ => stuck
  | .rng1 a => bnd (ev a) fun d => match d with
    | .int n => if smallR n then ret (rngL 0 n) else stuck
    | _ => stuck
  | .rng2 a b => bnd (ev a) fun d => bnd (ev b) fun e => match d, e with
    | .int n, .int m => if smallR n && smallR m then ret (rngL n m) else stuck
    | _, _ => stuck
  | .rev a => bnd (ev a) fun d => match fz d with
    | .lst _ ds => ret ds.reverse
    | _ => stuck
  | .zip as => bnd (evFz as) fun ds => lift (zipD ds)
  | .en a => bnd (ev a) fun d => match fz d with
    | .lst _ ds => ret (enL 0 ds)
    | .str s => if s.length ≤ lim then ret (enL 0 (signs s)) else stuck
    | _ => stuck
end
end
inductive Rs where
  | nx (s : S)
  | rt (d : D) (s : S)
  | ex (x : Exn)
def thn (x : Option (Ex α)) (k : α → S → Option Rs) : Option Rs := match x with
  | some (.val a s) => k a s
  | some (.exc e) => some (.ex e)
  | none => none
def sthn (x : Option Rs) (k : S → Option Rs) : Option Rs := match x with
  | some (.nx s) => k s
  | r => r
def forGo (f : D → S → Option Rs) : List D → S → Option Rs
  | [], s => some (.nx s)
  | x :: xs, s => sthn (f x s) (forGo f xs)
def whilGo (c : M D) (f : S → Option Rs) : Nat → S → Option Rs
  | 0, _ => none
  | n + 1, s => thn (c s) fun d s' => match d with
    | .bl true => sthn (f s') (whilGo c f n)
    | .bl false => some (.nx s')
    | _ => none
def setiM (i : Nat) (kd d : D) (s : S) : Option Rs := match s.sl[i]?, kd with
  | some (some (.lst .own es)), .int z => (match ixN es.length z with
    | some j => some (.nx (setS s i (some (.lst .own (es.set j d)))))
    | none => none)
  | _, _ => none
def dsetM (i : Nat) (kd d : D) (s : S) : Option Rs := match s.sl[i]? with
  | some (some (.dc .own ks ds)) => if ds.length < lim then (match dcPut ks ds kd d with
    | some (ks', ds') => some (.nx (setS s i (some (.dc .own ks' ds'))))
    | none => none) else none
  | _ => none
/-- each item is lent to slot x -/
def lendGo (f : S → Option Rs) (x : Nat) : List D → List D → S → Option (List D × S)
  | [], acc, s => some (acc, s)
  | e :: es, acc, s => if x < s.sl.length then (match f (setS s x (some e)) with
    | some (.nx s') => (match s'.sl[x]? with
      | some (some e') => lendGo f x es (acc ++ [e']) (setS s' x none)
      | _ => none)
    | _ => none) else none
def forBM (f : S → Option Rs) (x i : Nat) (s : S) : Option Rs := match s.sl[i]? with
  | some (some (.lst .own es)) => (match lendGo f x es [] (setS s i none) with
    | some (es', s') => if i < s'.sl.length then some (.nx (setS s' i (some (.lst .own es')))) else none
    | none => none)
  | _ => none
section
variable (Γ : Tb)
mutual
def exec : T → S → Option Rs
  | .bad => fun _ => none
  | .doc => fun s => some (.nx s)
  | .set tg e => fun s => thn (ev Γ e s) fun d s1 => thn (asg tg d s1) fun _ s2 => some (.nx s2)
  | .seti i k e => fun s => thn (bnd (ev Γ e) (fun d => bnd (grd (isLst i)) fun _ => bnd (ev Γ k) fun kd => ret (kd, fz d)) s) fun p s2 => setiM i p.1 p.2 s2
  | .dset i k e => fun s => thn (bnd (ev Γ e) (fun d => bnd (grd (isDc i)) fun _ => bnd (ev Γ k) fun kd => ret (kd, fz d)) s) fun p s2 => dsetM i p.1 p.2 s2
  | .aug i e => fun s => match s.sl[i]? with
    | some (some (.int x)) => thn (ev Γ e s) fun d s1 => match d with
      | .int y => if i < s1.sl.length then some (.nx (setS s1 i (some (.int (x + y))))) else none
      | _ => none
    | _ => none
  | .expr e => fun s => thn (ev Γ e s) fun _ s1 => some (.nx s1)
  | .ret e => fun s => thn (ev Γ e s) fun d s1 => some (.rt d s1)
  | .retn => fun s => some (.rt .non s)
  | .ife c a b => fun s => thn (ev Γ c s) fun d s1 => match d with
    | .bl true => execs a s1
    | .bl false => execs b s1
    | _ => none
  | .forr tg it body => fun s => thn (evIt Γ it s) fun xs s1 => forGo (fun x s2 => thn (asg tg x s2) fun _ s3 => execs body s3) xs s1
  | .whil n c body => whilGo (ev Γ c) (execs body) n
  | .rse i => fun _ => some (.ex ⟨i, []⟩)
  | .rsi i e => fun s => thn (ev Γ e s) fun d _ => some (.ex ⟨i, [(clFld i, fz d)]⟩)
  | .forB x i body => forBM (execs body) x i
def execs : Ts → S → Option Rs
  | .nil => fun s => some (.nx s)
  | .cons t ts => fun s => sthn (exec t s) (execs ts)
end
end
def outsOf : List Md → List (Option D) → Option (List D)
  | [], _ => some []
  | .io :: ms, some d :: sl => (outsOf ms sl).map (d :: ·)
  | .io :: _, _ => none
  | _ :: ms, _ :: sl => outsOf ms sl
  | _ :: _, [] => none
def startS (n : Nat) (ds : List D) (os : List Ob) : S := ⟨ds.map some ++ List.replicate (n - ds.length) none, os⟩
def runB (Γ : Tb) (n : Nat) (io : List Md) (body : Ts) (ds : List D) (os : List Ob) : Option Ro := match execs Γ body (startS n ds os) with
  | some (.rt d s') => (match outsOf io s'.sl with
    | some outs => some (.ret d outs s'.os)
    | none => none)
  | some (.nx s') => (match outsOf io s'.sl with
    | some outs => some (.ret .non outs s'.os)
    | none => none)
  | some (.ex x) => some (.exc x)
  | none => none
end Den
/-! Den3: operations by values: what the machine does at what stands for D is what opF, idxD, biF .. say. -/
namespace Den
open PySem PySem.Spec L2
/-- v stands for d now (a list by what stands in the heap, its items shared) -/
def PkR (g : Gx) (Φ H : Hp) (ρ : List Addr) : D → V → Prop
  | .lst .fz ds, v => ∃ a vs, v = .ref a ∧ H a = some (.lst vs) ∧ RepL g Φ H ρ ds vs []
  | d, v => Rep g Φ H ρ d v []
section
variable {g : Gx} {Φ Φ' H H' : Hp} {ρ : List Addr}
theorem PkR.of (sb : Sub Φ H) : ∀ {d : D} {v : V}, Rep g Φ H ρ d v [] → PkR g Φ H ρ d v
  | .lst .fz ds, v, h => by
    simp only [Rep] at h
    obtain ⟨a, vs, ev, t, _, r⟩ := h
    exact ⟨a, vs, ev, sub_lst sb t, r⟩
  | .lst .own ds, v, h => h
  | .lst .ro ds, v, h => h
  | .non, _, h => h
  | .bl _, _, h => h
  | .int _, _, h => h
  | .str _, _, h => h
  | .tup _, _, h => h
  | .obj _, _, h => h
  | .kt _, _, h => h
  | .dc _ _ _, _, h => h
  | .lam _, _, h => h
  | .any, _, h => h
theorem Rep.nil_mono (e : Ext Φ Φ') {d : D} {v : V} (r : Rep g Φ H ρ d v []) : Rep g Φ' H' ρ d v [] := Rep.mono e (List.prefix_refl ρ) d v [] (fun a ha => by cases ha) r
theorem RepL.nil_mono (e : Ext Φ Φ') {d : List D} {v : List V} (r : RepL g Φ H ρ d v []) : RepL g Φ' H' ρ d v [] := RepL.mono e (List.prefix_refl ρ) d v [] (fun a ha => by cases ha) r
theorem PkR.mono (e : Ext Φ Φ') : ∀ {d : D} {v : V}, PkR g Φ H ρ d v → PkR g Φ' H ρ d v
  | .lst .fz ds, v, h => by
    obtain ⟨a, vs, ev, t, r⟩ := h
    exact ⟨a, vs, ev, t, r.nil_mono e⟩
  | .lst .own ds, v, h => Rep.nil_mono e (d := .lst .own ds) h
  | .lst .ro ds, v, h => Rep.nil_mono e (d := .lst .ro ds) h
  | .non, _, h => h
  | .bl _, _, h => h
  | .int _, _, h => h
  | .str _, _, h => h
  | .tup ds, v, h => Rep.nil_mono e (d := .tup ds) h
  | .obj n, v, h => Rep.nil_mono (g := g) (H := H) (H' := H) e (d := .obj n) h
  | .kt n, v, h => Rep.nil_mono (g := g) (H := H) (H' := H) (ρ := ρ) e (d := .kt n) h
  | .dc o n ds, v, h => Rep.nil_mono (g := g) (H := H) (H' := H) e (d := .dc o n ds) h
  | .lam n, v, h => Rep.nil_mono (g := g) (H := H) (H' := H) (ρ := ρ) e (d := .lam n) h
  | .any, v, h => Rep.nil_mono (g := g) (Φ := Φ) (H := H) (H' := H) (ρ := ρ) e (d := .any) (v := v) h
theorem PkR.lst {o : Ow} {ds : List D} {v : V} (sb : Sub Φ H) (h : PkR g Φ H ρ (.lst o ds) v) : ∃ a vs, v = .ref a ∧ SqL g.K H a vs ∧ RepL g Φ H ρ ds vs [] := by
  cases o with
  | own =>
    have h : Rep g Φ H ρ (.lst .own ds) v [] := h
    simp only [Rep] at h
    obtain ⟨a, vs, f', _, _, _, e, _⟩ := h
    cases e
  | fz =>
    obtain ⟨a, vs, ev, t, r⟩ := h
    exact ⟨a, vs, ev, SqL.of t, r⟩
  | ro =>
    have h : Rep g Φ H ρ (.lst .ro ds) v [] := h
    simp only [Rep] at h
    obtain ⟨a, vs, ev, t, _, r⟩ := h
    exact ⟨a, vs, ev, sub_l sb t, r⟩
theorem PkR.tup {ds : List D} {v : V} (sb : Sub Φ H) (h : PkR g Φ H ρ (.tup ds) v) : ∃ a vs, v = .ref a ∧ TpK g.K Φ a vs ∧ SqT g.K H a vs ∧ RepL g Φ H ρ ds vs [] := by
  have h : Rep g Φ H ρ (.tup ds) v [] := h
  simp only [Rep] at h
  obtain ⟨a, vs, ev, t, r⟩ := h
  exact ⟨a, vs, ev, t, sub_t sb t.sq, r⟩
theorem PkR.int {i : Int} {v : V} (h : PkR g Φ H ρ (.int i) v) : v = .int i := (show _ ∧ _ by simpa only [PkR, Rep] using h).1
theorem PkR.bl {b : Bool} {v : V} (h : PkR g Φ H ρ (.bl b) v) : v = .bl b := (show _ ∧ _ by simpa only [PkR, Rep] using h).1
theorem PkR.str {s : List Nat} {v : V} (h : PkR g Φ H ρ (.str s) v) : v = .str ⟨s.toArray⟩ := (show _ ∧ _ by simpa only [PkR, Rep] using h).1
theorem PkR.non {v : V} (h : PkR g Φ H ρ .non v) : v = .non := (show _ ∧ _ by simpa only [PkR, Rep] using h).1
theorem rep_int {i : Int} : Rep g Φ H ρ (.int i) (.int i) [] := by simp [Rep]
theorem rep_bl {b : Bool} : Rep g Φ H ρ (.bl b) (.bl b) [] := by simp [Rep]
theorem rep_str {s : List Nat} : Rep g Φ H ρ (.str s) (.str ⟨s.toArray⟩) [] := by simp [Rep]
theorem rep_non : Rep g Φ H ρ .non .non [] := by simp [Rep]
/-- a new list, a new tuple of shared items -/
theorem new_lst {p : Addr} {ds : List D} {vs : List V} (sb : Sub Φ H) (r : RepL g Φ H ρ ds vs []) (n : H p = none) : Grow g Φ H Φ (upd H p (.lst vs)) ∧ Rep g Φ (upd H p (.lst vs)) ρ (.lst .own ds) (.ref p) [p] := by
  refine ⟨Grow.own sb n, ?_⟩
  simp only [Rep]
  exact ⟨p, vs, [], rfl, upd_same, sub_none sb n, rfl, r.nil_mono fun _ _ h => h⟩
theorem new_tup {p : Addr} {o : Obj} {ds : List D} {vs : List V} (sb : Sub Φ H) (r : RepL g Φ H ρ ds vs []) (n : H p = none) (hd : o.dict = none) :
    Grow g Φ H (upd Φ p (.frz o (.tup vs))) (upd H p (.frz o (.tup vs))) ∧ Rep g (upd Φ p (.frz o (.tup vs))) (upd H p (.frz o (.tup vs))) ρ (.tup ds) (.ref p) [] := by
  have w : Grow g Φ H (upd Φ p (.frz o (.tup vs))) (upd H p (.frz o (.tup vs))) := Grow.shared sb n (fun _ => HO.noConfusion)
  refine ⟨w, ?_⟩
  simp only [Rep]
  exact ⟨p, vs, rfl, .inl ⟨o, upd_same, hd⟩, r.nil_mono w.ext⟩
theorem RepL.cut {ds : List D} {vs : List V} (r : RepL g Φ H ρ ds vs []) (lo hi : Option Int) : RepL g Φ H ρ (cutL ds lo hi) (cutV vs lo hi) [] := by
  have e := RepL.len _ _ _ r
  have e2 : cutV vs lo hi = cutL vs lo hi := rfl
  rw [e2]
  unfold cutL
  rw [e]
  refine RepL.of_get _ _ (by simp [e]) fun i d v h1 h2 => ?_
  rw [List.getElem?_take] at h1 h2
  split at h1
  · rename_i hlt
    rw [if_pos hlt, List.getElem?_drop] at h2
    rw [List.getElem?_drop] at h1
    obtain ⟨v', e1, r1⟩ := RepL.get _ _ r _ _ h1
    rw [h2] at e1; cases e1; exact r1
  · cases h1
theorem RepL.rep {ds : List D} {vs : List V} (r : RepL g Φ H ρ ds vs []) : ∀ n : Nat, RepL g Φ H ρ (repL n ds) (List.replicate n vs).flatten []
  | 0 => by simp only [repL, List.replicate, List.flatten, RepL]; exact ⟨trivial, trivial⟩
  | n + 1 => by
    have h := RepL.app _ _ _ _ _ _ r (RepL.rep r n)
    simp only [repL, List.replicate_succ, List.flatten_cons] at h ⊢
    exact h
mutual
theorem dp_of (sb : Sub Φ H) : ∀ (d : D) (v : V) (f : List Addr), Rep g Φ H ρ d v f → (toP d).canLay0 = true → Dp g.K H v (toP d)
  | .non, v, f, r, c => by simp only [Rep] at r; rw [r.1]; exact .non
  | .bl b, v, f, r, c => by simp only [Rep] at r; rw [r.1]; exact .bl b
  | .int i, v, f, r, c => by simp only [Rep] at r; rw [r.1]; exact .int i
  | .str s, v, f, r, c => by simp only [Rep] at r; rw [r.1]; exact .str _
  | .tup ds, v, f, r, c => by
    simp only [Rep] at r
    obtain ⟨a, vs, rfl, t, r⟩ := r
    simp only [toP, PyData.canLay0] at c ⊢
    exact .tup (sub_t sb t.sq) (dpA_of sb ds vs f r c)
  | .lst .own ds, v, f, r, c => by
    simp only [Rep] at r
    obtain ⟨a, vs, f', rfl, t, n, rfl, r⟩ := r
    simp only [toP, PyData.canLay0] at c ⊢
    exact .lst (SqL.of t) (dpA_of sb ds vs f' r c)
  | .lst .fz ds, v, f, r, c => by
    simp only [Rep] at r
    obtain ⟨a, vs, rfl, t, _, r⟩ := r
    simp only [toP, PyData.canLay0] at c ⊢
    exact .lst (SqL.of (sub_lst sb t)) (dpA_of sb ds vs [] r c)
  | .lst .ro ds, v, f, r, c => by
    simp only [Rep] at r
    obtain ⟨a, vs, rfl, t, _, r⟩ := r
    simp only [toP, PyData.canLay0] at c ⊢
    exact .lst (sub_l sb t) (dpA_of sb ds vs [] r c)
  | .obj n, v, f, r, c => by simp [toP, PyData.canLay0] at c
  | .kt n, v, f, r, c => by simp [toP, PyData.canLay0] at c
  | .dc _ _ _, v, f, r, c => by simp [toP, PyData.canLay0] at c
theorem dpA_of (sb : Sub Φ H) : ∀ (ds : List D) (vs : List V) (f : List Addr), RepL g Φ H ρ ds vs f → PyData.canLayAll0 (toPs ds) = true → DpAll g.K H vs (toPs ds)
  | [], vs, f, r, c => by simp only [RepL] at r; rw [r.1]; exact .nil
  | d :: ds, vs, f, r, c => by
    simp only [RepL] at r
    obtain ⟨v, vs', f1, f2, rfl, rfl, r1, r2⟩ := r
    simp only [toPs, PyData.canLayAll0, Bool.and_eq_true] at c ⊢
    exact .cons (dp_of sb d v f1 r1 c.1) (dpA_of sb ds vs' f2 r2 c.2)
end
theorem PkR.dp (sb : Sub Φ H) {d : D} {v : V} (r : PkR g Φ H ρ d v) (c : SeqAt.shaped (toP d) = true) : Dp g.K H v (toP d) := by
  have c' := SeqAt.canLay_of_shaped c
  cases d with
  | lst o ds =>
    obtain ⟨a, vs, rfl, t, r⟩ := r.lst sb
    simp only [toP, PyData.canLay0] at c' ⊢
    exact .lst t (dpA_of sb ds vs [] r c')
  | non => exact dp_of (ρ := ρ) sb _ _ _ r c'
  | bl b => exact dp_of (ρ := ρ) sb _ _ _ r c'
  | int i => exact dp_of (ρ := ρ) sb _ _ _ r c'
  | str s => exact dp_of (ρ := ρ) sb _ _ _ r c'
  | tup ds => exact dp_of (ρ := ρ) sb _ _ _ r c'
  | obj n => exact dp_of (ρ := ρ) sb _ _ _ r c'
  | kt n => simp [toP, PyData.canLay0] at c'
  | dc _ _ _ => simp [toP, PyData.canLay0] at c'
  | lam _ => simp [toP, PyData.canLay0] at c'
  | any => simp [toP, PyData.canLay0] at c'
theorem PkR.dpL (sb : Sub Φ H) {o : Ow} {ds : List D} {v : V} (r : PkR g Φ H ρ (.lst o ds) v) (c : SeqAt.shaped (.list (toPs ds)) = true) : Dp g.K H v (.list (toPs ds)) := r.dp sb (d := .lst o ds) c
end
/-- nothing of ours is there -/
def NoO (H : Hp) (a : Addr) : Prop := ∀ u, H a = some u → ∃ ps, u = .tbl ps
theorem NoO.of {H : Hp} {a : Addr} (h : H a = none) : NoO H a := fun u e => by rw [h] at e; cases e
/-- what follows a value that an operation gives: it may be new -/
def Aft (g : Gx) (Φ H : Hp) (ρ : List Addr) (r : D) (Q : VK) : Prop := ∀ Φ' H' v f, Grow g Φ H Φ' H' → Rep g Φ' H' ρ r v f → f.Nodup → (∀ a ∈ f, NoO H a) → Q v H'
def OpV (g : Gx) (k : D → D → Option D) : R2 := fun x y H Q => ∃ (Φ : Hp) (ρ : List Addr) (d e r : D), Sub Φ H ∧ PkR g Φ H ρ d x ∧ PkR g Φ H ρ e y ∧ k d e = some r ∧ Aft g Φ H ρ r Q
inductive PkRs (g : Gx) (Φ H : Hp) (ρ : List Addr) : List D → List V → Prop
  | nil : PkRs g Φ H ρ [] []
  | cons {d : D} {ds : List D} {v : V} {vs : List V} : PkR g Φ H ρ d v → PkRs g Φ H ρ ds vs → PkRs g Φ H ρ (d :: ds) (v :: vs)
def CbV (g : Gx) (k : List D → Option D) : List V → Hp → VK → Prop := fun vs H Q => ∃ (Φ : Hp) (ρ : List Addr) (ds : List D) (r : D), Sub Φ H ∧ PkRs g Φ H ρ ds vs ∧ k ds = some r ∧ Aft g Φ H ρ r Q
section
variable {g : Gx} {Φ H : Hp} {ρ : List Addr} {Q : VK} {X : Cx}
theorem Aft.flat {r : D} {v : V} (h : Aft g Φ H ρ r Q) (sb : Sub Φ H) (k : Rep g Φ H ρ r v []) : Q v H := h Φ H v [] (Grow.refl sb) k List.nodup_nil fun a ha => by cases ha
theorem Aft.int {i : Int} (h : Aft g Φ H ρ (.int i) Q) (sb : Sub Φ H) : Q (.int i) H := h.flat sb rep_int
theorem Aft.bl {i : Bool} (h : Aft g Φ H ρ (.bl i) Q) (sb : Sub Φ H) : Q (.bl i) H := h.flat sb rep_bl
theorem Aft.str {i : List Nat} (h : Aft g Φ H ρ (.str i) Q) (sb : Sub Φ H) : Q (.str ⟨i.toArray⟩) H := h.flat sb rep_str
theorem Aft.non (h : Aft g Φ H ρ .non Q) (sb : Sub Φ H) : Q .non H := h.flat sb rep_non
theorem Aft.lst {ds : List D} {vs : List V} (h : Aft g Φ H ρ (.lst .own ds) Q) (sb : Sub Φ H) (r : RepL g Φ H ρ ds vs []) : ∀ p, H p = none → Q (.ref p) (upd H p (.lst vs)) := fun p n => by
  obtain ⟨w, r'⟩ := new_lst sb r n
  exact h _ _ _ [p] w r' (by simp) fun a ha => by simp at ha; rw [ha]; exact .of n
theorem Aft.tup {ds : List D} {vs : List V} (h : Aft g Φ H ρ (.tup ds) Q) (sb : Sub Φ H) (r : RepL g Φ H ρ ds vs []) : ∀ (p : Addr) (o : Obj), H p = none → o.dict = none → Q (.ref p) (upd H p (.frz o (.tup vs))) := fun p o n hd => by
  obtain ⟨w, r'⟩ := new_tup sb r n hd
  exact h _ _ _ [] w r' (by simp) fun a ha => by cases ha
theorem lim_le : lim ≤ sizeLine := by rw [sizeLine_eq]; decide
theorem S_len (a : List Nat) : (⟨a.toArray⟩ : Str).length = a.length := by simp [Str.length]
theorem S_app (a b : List Nat) : (⟨a.toArray⟩ : Str) ++ ⟨b.toArray⟩ = ⟨(a ++ b).toArray⟩ := by
  show (⟨a.toArray ++ b.toArray⟩ : Str) = _
  simp
/-- a new tuple is laid and its object kept in mind -/
theorem laidT {pins : List (Addr × Obj)} {σ : L2.St} {H : Hp} {s : Shared} {h' : Heap} {t' : Nat} {a : Addr} {us : List Value} {xs : List V} (I : Inv X pins σ H s) (k : ∀ b u, s.heap.get? b = some u → h'.get? b = some u) (hp : s.heap.objs.size ≤ a)
    (ho : h'.get? a = some { cls := .type "tuple", data := .seq us.toArray }) (r : Vals xs us) (z : xs.length ≤ sizeLine) :
    Inv X pins σ (upd H a (.frz { cls := .type "tuple", data := .seq us.toArray } (.tup xs))) { s with heap := h', toks := t' } :=
  I.laid k hp ⟨ho, z, us, r, ⟨_, ho, rfl, _, rfl⟩⟩
/-- t + u, the new one's object known -/
def rCatF (K : PySem.W.Frag) : R2 := fun x y H Q => ∃ a b xs ys, x = .ref a ∧ y = .ref b ∧ SqT K H a xs ∧ SqT K H b ys ∧ xs.length + ys.length ≤ sizeLine ∧
  (xs = [] → Q (.ref b) H) ∧ (xs ≠ [] → ys = [] → Q (.ref a) H) ∧ (xs ≠ [] → ys ≠ [] → ∀ (p : Addr) (o : Obj), H p = none → o.dict = none → Q (.ref p) (upd H p (.frz o (.tup (xs ++ ys)))))
theorem op_catF : OpR X (binaryOp .Add) (rCatF X.K) := by
  intro pins s σ H x y v u Q I rx ry h
  obtain ⟨a, b, xs, ys, rfl, rfl, ha, hb, hz, q0, q1, q2⟩ := h
  cases rx; cases ry
  obtain ⟨its, r1, p1, _⟩ := I.tuple ha
  obtain ⟨its2, r2, p2, _⟩ := I.tuple hb
  by_cases hx : xs = []
  · subst hx
    cases r1
    exact cat_tup0 p1 p2 ⟨.ref b, H, I, rfl, q0 rfl⟩
  · have hn : its ≠ [] := fun e => hx (by
      have := r1.length
      rw [e] at this
      exact List.eq_nil_of_length_eq_zero this)
    have hl : its.length + its2.length ≤ sizeLine := by rw [← r1.length, ← r2.length]; exact hz
    refine HT.cat_tup p1 p2 hn (fun e => ?_) (fun e => ?_) hl
    · refine ⟨.ref a, H, I, rfl, q1 hx ?_⟩
      exact r2.nil_iff.mp e
    · have hy : ys ≠ [] := fun z => e (r2.nil_iff.mpr z)
      refine ⟨.ref s.heap.objs.size, _, laidT (t' := s.toks) I (fun b u e => Heap.get?_push_of_some _ e) (Nat.le_refl _) (Heap.get?_push_size _ rfl) (r1.append r2) (by rw [List.length_append]; exact hz), rfl, ?_⟩
      exact q2 hx hy _ _ (I.hok.fresh (Nat.le_refl _)) rfl
theorem opv_add (hK : X.K = g.K) : OpR X (binaryOp .Add) (OpV g addD) := by
  intro pins s σ H x y v u Q I rx ry h
  obtain ⟨Φ, ρ, d, e, r, sb, rd, re, hk, q⟩ := h
  unfold addD at hk
  split at hk
  · cases hk
    cases rd.int; cases re.int
    exact op_add pins s σ H _ _ v u Q I rx ry ⟨_, _, rfl, rfl, q.int sb⟩
  · split at hk
    · cases hk
      cases rd.str; cases re.str
      refine op_add_str pins s σ H _ _ v u Q I rx ry ⟨_, _, rfl, rfl, ?_, ?_⟩
      · rw [S_len, S_len]; exact Nat.le_trans (by assumption) lim_le
      · rw [S_app]; exact q.str sb
    · cases hk
  · split at hk
    · cases hk
      obtain ⟨a, vs, rfl, t, r⟩ := rd
      obtain ⟨b, ws, rfl, t', r'⟩ := re
      refine op_cat pins s σ H _ _ v u Q I rx ry ⟨a, b, vs, ws, rfl, rfl, t, t', ?_, q.lst sb (RepL.app _ _ _ _ _ _ r r')⟩
      rw [RepL.len _ _ _ r, RepL.len _ _ _ r']; exact Nat.le_trans (by assumption) lim_le
    · cases hk
  · rename_i ds es
    split at hk
    · cases hk
      obtain ⟨a, vs, rfl, tf, t, r⟩ := rd.tup sb
      obtain ⟨b, ws, rfl, tf', t', r'⟩ := re.tup sb
      have e := RepL.len _ _ _ r
      have e' := RepL.len _ _ _ r'
      refine op_catF pins s σ H _ _ v u Q I rx ry ⟨a, b, vs, ws, rfl, rfl, by rw [hK]; exact t, by rw [hK]; exact t', ?_, fun z => ?_, fun z z' => ?_, fun _ _ => q.tup sb (RepL.app _ _ _ _ _ _ r r')⟩
      · rw [e, e']; exact Nat.le_trans (by assumption) lim_le
      · subst z
        cases ds with
        | nil => exact q.flat sb (by simp only [Rep]; exact ⟨b, ws, rfl, tf', r'⟩)
        | cons _ _ => simp at e
      · subst z'
        cases es with
        | nil => exact q.flat sb (by simp only [Rep]; exact ⟨a, vs, rfl, tf, by simpa using r⟩)
        | cons _ _ => simp at e'
    · cases hk
  · cases hk
theorem opv_sub : OpR X (binaryOp .Sub) (OpV g subD) := by
  intro pins s σ H x y v u Q I rx ry h
  obtain ⟨Φ, ρ, d, e, r, sb, rd, re, hk, q⟩ := h
  unfold subD at hk
  split at hk
  · cases hk
    cases rd.int; cases re.int
    exact op_sub pins s σ H _ _ v u Q I rx ry ⟨_, _, rfl, rfl, q.int sb⟩
  · cases hk
/-! tuple * int, the answer's make known -/
theorem tmul_one (l : Addr) (its : Array Value) (n : Nat) (dd : Option Addr) (sl : Array (Option Value)) (u : Tok) :
    Meets (Builtin.«tuple.__mul__» ⟨[.ref l, .int 1 u], []⟩) (fun _ R s => s.heap.get? l = some { cls := .type "tuple", dict := dd, data := .seq its n, slots := sl } ∧ R (.ok (.ret (Value.ref l))) s) :=
  .of_wp fun prog w A R s h => by
    obtain ⟨hp, g, d, tk, os⟩ := s
    obtain ⟨hl, h⟩ := h
    have f1 := AutoSeq1.idx_int
    have e0 : (decide ((1 : Int) < -(2 ^ 63)) || decide ((1 : Int) ≥ 2 ^ 63)) = false := by decide
    have e1 : (its.isEmpty || (1 : Int) == 1) = true := by simp
    wp_walk using AutoSeq1.wpAny_loadPart' hl
    repeat (first
      | (refine wpAny_ite_false (decide_eq_false (by rw [e0]; decide)) ?_; wp_walk using AutoSeq1.wpAny_loadPart' hl)
      | (refine wpAny_ite_true (decide_eq_true (by rw [e1])) ?_; wp_walk using AutoSeq1.wpAny_loadPart' hl))
    all_goals exact ⟨_, rfl, h⟩
def rRepF (K : PySem.W.Frag) : R2 := fun x y H Q => ∃ l k xs, x = .ref l ∧ y = .int k ∧ SqT K H l xs ∧ xs ≠ [] ∧ 1 ≤ k ∧ k ≤ 1000 ∧ xs.length ≤ 1000 ∧ (k = 1 → Q (.ref l) H) ∧
  (2 ≤ k → ∀ (p : Addr) (o : Obj), H p = none → o.dict = none → Q (.ref p) (upd H p (.frz o (.tup (List.replicate k.toNat xs).flatten))))
theorem op_repF : OpR X (binaryOp .Mult) (rRepF X.K) := by
  intro pins s σ H x y v u Q I rx ry h
  obtain ⟨l, k, xs, rfl, rfl, hT, hne, k1, k2, hz, q1, q2⟩ := h
  cases rx
  obtain ⟨t, rfl⟩ := ry
  obtain ⟨its, r, ⟨⟨cls, dd, data, sl⟩, ho, hc, n, hd⟩, hs⟩ := I.tuple hT
  simp only at hc hd
  subst hc hd
  have hlen := r.length
  have go : ∀ {R : Value → Shared → Prop}, wpAny (model X.prog X.w) X.A (call (.builtin "tuple.__mul__") [.ref l, .int k t]) R X.xe s → wpAny (model X.prog X.w) X.A (binaryOp .Mult (.ref l) (.int k t)) R X.xe s := fun {R} z =>
    wpAny_binaryOp_repeat_ref (T := "tuple") (U := "int") (by decide) ⟨_, ho, rfl⟩ (fun s' => typeIs_int s' k t) noFill_tuple_mul F.fills_int_mul F.slot_int_rmul repeat_tuple F.slot_int_index.lookup
      (call_meets F.slot_int_rmul (typeIs_int s k t) F.entry_int_rmul (F.args_int_rmul_2 _ _) (int_rmul_tuple k t l its.toArray n dd sl) ⟨ho, rfl, ⟨_, ho, rfl⟩, z⟩)
  by_cases e1 : k = 1
  · subst e1
    exact go (call_meets F.slot_tuple_mul ⟨_, ho, rfl⟩ F.entry_tuple_mul (F.args_tuple_mul_2 _ _) (tmul_one l its.toArray n dd sl t) ⟨ho, .ref l, H, I, rfl, q1 rfl⟩)
  · have e2 : 2 ≤ k := by omega
    have n0 : its ≠ [] := fun e => hne (List.eq_nil_of_length_eq_zero (by rw [hlen, e]; rfl))
    have i0 : its.toArray.isEmpty = false := by
      cases its with
      | nil => exact absurd rfl n0
      | cons _ _ => rfl
    have z0 : its.toArray.size = xs.length := by rw [List.size_toArray]; omega
    have b0 : ((its.toArray.size : Nat) : Int) * k ≤ 1000000 := by
      rw [z0]
      exact Int.le_trans (Int.mul_le_mul_of_nonneg_right (show ((xs.length : Nat) : Int) ≤ 1000 by omega) (by omega)) (by omega)
    have b1 : k.toNat * xs.length ≤ 1000000 := Nat.le_trans (Nat.mul_le_mul (show k.toNat ≤ 1000 by omega) hz) (by decide)
    have d0 : (decide (k < -(2 ^ 63)) || decide (k ≥ 2 ^ 63)) = false := by rw [decide_eq_false (by omega), decide_eq_false (by omega)]; rfl
    have d1 : (its.toArray.isEmpty || k == 1) = false := by rw [i0, beq_eq_false_iff_ne.mpr e1]; rfl
    have d2 : (decide (k ≤ 0) || its.toArray.isEmpty) = false := by rw [i0, decide_eq_false (by omega)]; rfl
    have d4 : Builtin.Tuple.tupleTooMany (((its.toArray.size : Nat) : Int) * k) = false := by
      unfold Builtin.Tuple.tupleTooMany
      exact decide_eq_false (by rw [sizeLine_eq]; omega)
    have d5 : (List.foldl (fun x1 x2 => x1 ++ x2) #[] (List.replicate k.toNat its.toArray)).size ≤ sizeLine := by
      rw [size_rep, List.size_toArray, PyProof.Rows.lm_len_rep_flat, ← hlen, sizeLine_eq]
      omega
    refine go (call_meets F.slot_tuple_mul ⟨_, ho, rfl⟩ F.entry_tuple_mul (F.args_tuple_mul_2 _ _) (tuple_mulW l its.toArray n dd sl k t d0 d1 d2 (by omega) d4 d5) ⟨ho, ?_⟩)
    rw [size_rep]
    refine ⟨.ref s.heap.objs.size, _, laidT (t' := s.toks) I (fun b ob z => Heap.get?_push_of_some _ z) (Nat.le_refl _) (Heap.get?_push_size _ rfl) (r.rep k.toNat) (by rw [PyProof.Rows.lm_len_rep_flat, sizeLine_eq]; omega), rfl, ?_⟩
    exact q2 e2 _ _ (I.hok.fresh (Nat.le_refl _)) rfl
theorem foldl_app : ∀ (l : List (Array Nat)) (b : Array Nat), (l.foldl (· ++ ·) b).toList = b.toList ++ (l.map (·.toList)).flatten
  | [], b => by simp
  | x :: l, b => by
    rw [List.foldl_cons, foldl_app l (b ++ x)]
    simp
theorem mul_S {a : List Nat} {k : Int} (h : 0 ≤ k) : Txt.mul (SX.S a) k = SX.S (repS k.toNat a) := by
  refine TL.ext_tl ?_
  show (Txt.mul (SX.S a) k).cps.toList = repS k.toNat a
  unfold Txt.mul
  by_cases h1 : k < 1
  · rw [if_pos h1]
    have : k = 0 := by omega
    subst this
    rfl
  · rw [if_neg h1]
    by_cases h2 : (k == 1 || (SX.S a).length == 0) = true
    · rw [if_pos h2]
      rw [Bool.or_eq_true] at h2
      rcases h2 with h2 | h2
      · have := eq_of_beq h2
        subst this
        show a = _
        simp [repS]
      · have h3 := eq_of_beq h2
        rw [SX.S_len] at h3
        have := List.length_eq_zero_iff.mp h3
        subst this
        show [] = _
        unfold repS
        simp
    · rw [if_neg h2]
      show ((List.replicate k.toNat a.toArray).foldl (· ++ ·) #[]).toList = _
      rw [foldl_app]
      simp [repS]
theorem opv_mul (hK : X.K = g.K) : OpR X (binaryOp .Mult) (OpV g mulD) := by
  intro pins s σ H x y v u Q I rx ry h
  obtain ⟨Φ, ρ, d, e, r, sb, rd, re, hk, q⟩ := h
  unfold mulD at hk
  split at hk
  · split at hk
    · rename_i hs
      cases hk
      cases rd.int; cases re.int
      simp only [small, Bool.or_eq_true, Bool.and_eq_true, decide_eq_true_eq] at hs
      exact op_mul pins s σ H _ _ v u Q I rx ry ⟨_, _, rfl, rfl, hs, q.int sb⟩
    · cases hk
  · rename_i a k
    split at hk
    · rename_i hs
      cases hk
      simp only [Bool.and_eq_true, decide_eq_true_eq] at hs
      obtain ⟨⟨k0, k1⟩, la⟩ := hs
      cases rd.str; cases re.int
      obtain ⟨t, rfl⟩ := rx
      obtain ⟨t', rfl⟩ := ry
      have hlen : (SX.S a).length * k.toNat ≤ 1000000 := by
        rw [SX.S_len]
        calc a.length * k.toNat ≤ 1000 * 1000 := Nat.mul_le_mul la (by omega)
          _ = 1000000 := rfl
      refine SB.mul (x := SX.S a) ⟨?_, fun h1 h2 => ?_, fun h1 h2 => ?_⟩ fun tk k' => ⟨.str (SX.S (repS k.toNat a)), H, I.tok _, ⟨tk, by rw [mul_S k0]⟩, q.str sb⟩
      · have e1 : ¬ k < -(2 ^ 63 : Int) := by omega
        have e2 : ¬ k ≥ 2 ^ 63 := by omega
        rw [decide_eq_false e1, decide_eq_false e2]; rfl
      · have e1 : ((SX.S a).length : Int) ≤ 1000 := by rw [SX.S_len]; omega
        have e2 : (1000 : Int) ≤ (2 ^ 63 - 1) / k := (Int.le_ediv_iff_mul_le (by omega)).mpr (by
          have : 1000 * k ≤ 1000 * 1000 := by omega
          omega)
        omega
      · unfold Builtin.Str.tooLong
        rw [decide_eq_false_iff_not]
        have := sizeLine_eq
        omega
    · cases hk
  · split at hk
    · rename_i hs
      cases hk
      simp only [Bool.and_eq_true, decide_eq_true_eq] at hs
      obtain ⟨a, vs, rfl, t, r⟩ := rd
      cases re.int
      have e := RepL.len _ _ _ r
      exact op_rep pins s σ H _ _ v u Q I rx ry ⟨a, _, vs, rfl, rfl, t, by omega, by omega, by rw [e]; exact Nat.le_trans hs.2 lim_le, q.lst sb (r.rep _)⟩
    · cases hk
  · rename_i ds k
    split at hk
    · rename_i hs
      cases hk
      simp only [Bool.and_eq_true, decide_eq_true_eq, Bool.not_eq_true'] at hs
      obtain ⟨⟨⟨h1, h2⟩, h3⟩, h4⟩ := hs
      obtain ⟨a, vs, rfl, tf, t, r⟩ := rd.tup sb
      cases re.int
      have e := RepL.len _ _ _ r
      have hne : vs ≠ [] := fun z => by
        rw [z] at e
        cases ds with
        | nil => cases h4
        | cons _ _ => cases e
      refine op_repF pins s σ H _ _ v u Q I rx ry ⟨a, k, vs, rfl, rfl, by rw [hK]; exact t, hne, h1, h2, by omega, fun z => ?_, fun z => ?_⟩
      · subst z
        have : repL (Int.toNat 1) ds = ds := by simp [repL]
        rw [this] at q
        exact q.flat sb (by simp only [Rep]; exact ⟨a, vs, rfl, tf, r⟩)
      · exact q.tup sb (r.rep _)
    · cases hk
  · cases hk
theorem opv_fdiv : OpR X (binaryOp .FloorDiv) (OpV g fdivD) := by
  intro pins s σ H x y v u Q I rx ry h
  obtain ⟨Φ, ρ, d, e, r, sb, rd, re, hk, q⟩ := h
  unfold fdivD at hk
  split at hk
  · split at hk
    · rename_i hs
      cases hk
      cases rd.int; cases re.int
      simp only [Bool.and_eq_true, decide_eq_true_eq] at hs
      exact op_fdiv pins s σ H _ _ v u Q I rx ry ⟨_, _, rfl, rfl, hs, q.int sb⟩
    · cases hk
  · cases hk
theorem opv_mod : OpR X (binaryOp .Mod) (OpV g modD) := by
  intro pins s σ H x y v u Q I rx ry h
  obtain ⟨Φ, ρ, d, e, r, sb, rd, re, hk, q⟩ := h
  unfold modD at hk
  split at hk
  · split at hk
    · rename_i hs
      cases hk
      cases rd.int; cases re.int
      simp only [decide_eq_true_eq] at hs
      exact op_mod pins s σ H _ _ v u Q I rx ry ⟨_, _, rfl, rfl, hs, q.int sb⟩
    · cases hk
  · cases hk
theorem opv_pow : OpR X (binaryOp .Pow) (OpV g powD) := by
  intro pins s σ H x y v u Q I rx ry h
  obtain ⟨Φ, ρ, d, e, r, sb, rd, re, hk, q⟩ := h
  unfold powD at hk
  split at hk
  · split at hk
    · rename_i hs
      cases hk
      cases rd.int; cases re.int
      simp only [small, Bool.and_eq_true, decide_eq_true_eq] at hs
      exact op_pow pins s σ H _ _ v u Q I rx ry ⟨_, _, rfl, rfl, ⟨hs.1.1, hs.1.2, by omega⟩, q.int sb⟩
    · cases hk
  · cases hk
theorem opv_cmp {op : CmpOp} {p : Int → Int → Bool} (ho : OpR X (compareOp op) (rI0 fun i j => .bl (p i j))) : OpR X (compareOp op) (OpV g (cmpD p)) := by
  intro pins s σ H x y v u Q I rx ry h
  obtain ⟨Φ, ρ, d, e, r, sb, rd, re, hk, q⟩ := h
  unfold cmpD at hk
  split at hk
  · cases hk
    cases rd.int; cases re.int
    exact ho pins s σ H _ _ v u Q I rx ry ⟨_, _, rfl, rfl, q.bl sb⟩
  · cases hk
theorem opv_lt : OpR X (compareOp .Lt) (OpV g (opF .lt)) := by
  intro pins s σ H x y v u Q I rx ry h
  obtain ⟨Φ, ρ, d, e, r, sb, rd, re, hk, q⟩ := h
  by_cases hs : ∃ a b, d = .str a ∧ e = .str b
  · obtain ⟨a, b, rfl, rfl⟩ := hs
    have hk : some (D.bl (ExO.ltS a b)) = some r := hk
    cases hk
    have e1 := rd.str
    have e2 := re.str
    subst e1
    subst e2
    refine op_lt_str pins s σ H _ _ v u Q I rx ry ⟨_, _, rfl, rfl, ?_⟩
    have := q.bl sb
    rw [ExO.ltS_eq] at this
    simpa using this
  · have hk' : cmpD (fun i j => decide (i < j)) d e = some r := by
      have : opF .lt d e = cmpD (fun i j => decide (i < j)) d e := by
        unfold opF
        split <;> first | rfl | (exfalso; exact hs ⟨_, _, rfl, rfl⟩) | contradiction
      rw [← this]; exact hk
    exact opv_cmp (p := fun i j => decide (i < j)) op_lt pins s σ H x y v u Q I rx ry ⟨Φ, ρ, d, e, r, sb, rd, re, hk', q⟩
theorem opv_eq (hK : X.K = g.K) (hu : X.A.units + 64 < cLine) : OpR X (compareOp .Eq) (OpV g fun a b => (eqD a b).map .bl) := by
  intro pins s σ H x y v u Q I rx ry h
  obtain ⟨Φ, ρ, d, e, r, sb, rd, re, hk, q⟩ := h
  dsimp only at hk
  unfold eqD at hk
  split at hk
  · rename_i hs
    cases hk
    exact op_eqD hu pins s σ H _ _ v u Q I rx ry ⟨_, _, by rw [hK]; exact rd.dp sb hs.1, by rw [hK]; exact re.dp sb hs.2, hs.1, hs.2, q.bl sb⟩
  · cases hk
theorem opv_ne (hK : X.K = g.K) (hu : X.A.units + 64 < cLine) : OpR X (compareOp .NotEq) (OpV g fun a b => (eqD a b).map fun x => .bl (!x)) := by
  intro pins s σ H x y v u Q I rx ry h
  obtain ⟨Φ, ρ, d, e, r, sb, rd, re, hk, q⟩ := h
  dsimp only at hk
  unfold eqD at hk
  split at hk
  · rename_i hs
    cases hk
    exact op_neD hu pins s σ H _ _ v u Q I rx ry ⟨_, _, by rw [hK]; exact rd.dp sb hs.1, by rw [hK]; exact re.dp sb hs.2, hs.1, hs.2, q.bl sb⟩
  · cases hk
theorem flat_rep {d : D} {v : V} (h : flatD d = true) (r : Rep g Φ H ρ d v []) : flatV v = true ∧ ∀ {e : D} {w : V}, flatD e = true → Rep g Φ H ρ e w [] → eqV w v = PyData.eqv (toP e) (toP d) := by
  cases d with
  | non => simp only [Rep] at r; rw [r.1]; refine ⟨rfl, fun {e w} he re => ?_⟩; cases e <;> simp [flatD] at he <;> (simp only [Rep] at re; rw [re.1]; rfl)
  | bl b => simp only [Rep] at r; rw [r.1]; refine ⟨rfl, fun {e w} he re => ?_⟩; cases e <;> simp [flatD] at he <;> (simp only [Rep] at re; rw [re.1]; rfl)
  | int i => simp only [Rep] at r; rw [r.1]; refine ⟨rfl, fun {e w} he re => ?_⟩; cases e <;> simp [flatD] at he <;> (simp only [Rep] at re; rw [re.1]; rfl)
  | str i => simp only [Rep] at r; rw [r.1]; refine ⟨rfl, fun {e w} he re => ?_⟩; cases e <;> simp [flatD] at he <;> (simp only [Rep] at re; rw [re.1]; rfl)
  | tup _ => simp [flatD] at h
  | lst _ _ => simp [flatD] at h
  | obj _ => simp [flatD] at h
  | kt _ => simp [flatD] at h
  | dc _ _ _ => simp [flatD] at h
  | lam _ => simp [flatD] at h
  | any => simp [flatD] at h
theorem flat_all {d : D} {v : V} (h : flatD d = true) (r : Rep g Φ H ρ d v []) : ∀ (ds : List D) (vs : List V), ds.all flatD = true → RepL g Φ H ρ ds vs [] → vs.all flatV = true ∧ inV v vs = inL d ds
  | [], vs, _, k => by simp only [RepL] at k; rw [k.1]; exact ⟨rfl, rfl⟩
  | e :: ds, vs, a, k => by
    simp only [RepL] at k
    obtain ⟨w, vs', f1, f2, rfl, ef, r1, r2⟩ := k
    obtain ⟨rfl, rfl⟩ := List.append_eq_nil_iff.mp ef.symm
    simp only [List.all_cons, Bool.and_eq_true] at a
    obtain ⟨h1, h2⟩ := flat_all h r ds vs' a.2 r2
    refine ⟨by simp only [List.all_cons, Bool.and_eq_true]; exact ⟨(flat_rep a.1 r1).1, h1⟩, ?_⟩
    have e1 := (flat_rep h r).2 a.1 r1
    simp only [inV, inL, toPs, List.any_cons] at h2 ⊢
    rw [e1, h2]
theorem opv_in (hK : X.K = g.K) (hu : X.A.units + 65 < cLine) : OpR X (compareOp .In) (OpV g fun a b => (inD a b).map .bl) := by
  intro pins s σ H x y v u Q I rx ry h
  obtain ⟨Φ, ρ, d, e, r, sb, rd, re, hk, q⟩ := h
  dsimp only at hk
  unfold inD at hk
  split at hk
  · split at hk
    · rename_i hs
      cases hk
      exact op_inD hu pins s σ H _ _ v u Q I rx ry ⟨_, _, by rw [hK]; exact rd.dp sb hs.1, by rw [hK]; exact re.dpL sb hs.2, hs.1, hs.2, q.bl sb⟩
    · cases hk
  · split at hk
    · rename_i hs
      cases hk
      obtain ⟨a, vs, rfl, tf, t, r⟩ := re.tup sb
      have rd' : Rep g Φ H ρ d x [] := by cases d <;> first | exact rd | simp [flatD] at hs
      obtain ⟨h1, h2⟩ := flat_all hs.1 rd' _ _ hs.2 r
      exact op_in_seq pins s σ H _ _ v u Q I rx ry ⟨a, vs, rfl, .inr (by rw [hK]; exact t), (flat_rep hs.1 rd').1, h1, by rw [h2]; exact q.bl sb⟩
    · cases hk
  · split at hk
    · cases hk
      cases rd.str; cases re.str
      exact op_in_sign pins s σ H _ _ v u Q I rx ry ⟨_, _, rfl, rfl, q.bl sb⟩
    · cases hk
  · cases hk
theorem opv_notin (hK : X.K = g.K) (hu : X.A.units + 65 < cLine) : OpR X (compareOp .NotIn) (OpV g fun a b => (inD a b).map fun x => .bl (!x)) := by
  intro pins s σ H x y v u Q I rx ry h
  obtain ⟨Φ, ρ, d, e, r, sb, rd, re, hk, q⟩ := h
  dsimp only at hk
  unfold inD at hk
  split at hk
  · split at hk
    · rename_i hs
      cases hk
      exact op_notInD hu pins s σ H _ _ v u Q I rx ry ⟨_, _, by rw [hK]; exact rd.dp sb hs.1, by rw [hK]; exact re.dpL sb hs.2, hs.1, hs.2, q.bl sb⟩
    · cases hk
  · split at hk
    · rename_i hs
      cases hk
      obtain ⟨a, vs, rfl, tf, t, r⟩ := re.tup sb
      have rd' : Rep g Φ H ρ d x [] := by cases d <;> first | exact rd | simp [flatD] at hs
      obtain ⟨h1, h2⟩ := flat_all hs.1 rd' _ _ hs.2 r
      exact op_notIn_seq pins s σ H _ _ v u Q I rx ry ⟨a, vs, rfl, .inr (by rw [hK]; exact t), (flat_rep hs.1 rd').1, h1, by rw [h2]; exact q.bl sb⟩
    · cases hk
  · split at hk
    · cases hk
      cases rd.str; cases re.str
      exact op_notIn_sign pins s σ H _ _ v u Q I rx ry ⟨_, _, rfl, rfl, q.bl sb⟩
    · cases hk
  · cases hk
end
end Den
/-! ExN: str(a tuple of texts), whatever is under way. -/
namespace ExN
open PySem PySem.Spec L2
section
variable {prog : Program} {w : World} {A : Around} {E : Value → Shared → Prop} {s : Shared} {a : Addr} {o : Obj} {items : Array Value} {n : Nat} {ts : List Str}
theorem own_any {c : Code} {f : Code × Pos → Bool} {Q : Bool → Shared → Prop} (h : ∀ b, Q b s) : wpOwn (model prog w) A c (do return (← stack).tail.any f) Q E s := fun Γ p _ hΓ => h _
theorem call_tup {Q : Value → Shared → Prop} (hTy : s.TypeIs (.ref a) "tuple") (ha : s.heap.get? a = some o) (hd : o.data = .seq items n) (hT : ReprAll prog w items.toList ts)
    (hQ : ∀ x u tk, Q (.str x u) { s with toks := tk }) (hsz : (tupleText ts).length ≤ sizeLine) :
    wpAny (model prog w) A (call (.builtin "tuple.__repr__") [.ref a]) Q E s :=
  wpAny_call
    (codeAny_call_builtin_own (Code.quiet_builtin _ (by decide +kernel)) F.entry_tuple_repr (F.slot_tuple_repr.check _ _ _ _ _ _ _ _ hTy (F.args_tuple_repr_1 _)
      (by
        show wpOwn _ _ _ (Builtin.tupleReprAt 0 ⟨[.ref a], []⟩) _ _ _
        rw [tuple_repr_tree, tupleReprUnderWay_eq]
        refine wpOwn_bind (own_any fun b => ?_)
        cases b with
        | true =>
          show wpOwn _ _ _ (do rule "tuple.repr.in-itself"; retStr "(...)") _ _ _
          exact wpOwn_of_wpAny (wpAny_bind (wpAny_rule (wpAny_bind (wpAny_mkStr (wpAny_pure (hQ _ _ _)) (by rw [sizeLine_eq]; decide)))))
        | false => exact wpOwn_of_wpAny (wpAny_tupleReprRest ha hd hT (fun u tk => hQ _ u tk) (by omega)))))
theorem str_tup {Q : Value → Shared → Prop} (hu : A.units + 8 < cLine) (hTy : s.TypeIs (.ref a) "tuple") (ha : s.heap.get? a = some o) (hd : o.data = .seq items n) (hT : ∀ (prog : Program) (w : World), ReprAll prog w items.toList ts)
    (hQ : ∀ x u tk, Q (.str x u) { s with toks := tk }) (hsz : (tupleText ts).length ≤ sizeLine) :
    wpAny (model prog w) A (call (.type "str") [.ref a]) Q E s :=
  callType_new F.called_str (by decide) (F.typeCall_str_1 _) (F.newCall_str_1 _) (fun obj => F.args_object_init_2 obj _) F.entry_str_new
    (meets_str_new (S := fun A' R s' => A'.units + 7 < cLine ∧ s'.TypeIs (.ref a) "tuple" ∧ s'.heap.get? a = some o ∧
        ∀ x u tk, R (.ok (.ret (.str x u))) { s' with toks := tk })
      fun prog' w' A' R s' h => wpAny_strOf_slot rfl (by show A'.in1.units + 1 < cLine; have := h.1; show A'.units + 1 + 1 < cLine; omega) h.2.1 F.slot_tuple_str F.slot_tuple_repr
        (call_tup h.2.1 h.2.2.1 hd (hT _ _) (fun x u tk => ⟨x, u, rfl, h.2.2.2 x u tk⟩) hsz))
    ⟨by show A.units + 1 + 7 < cLine; omega, hTy, ha, fun x u tk => ⟨typeIs_str _ _ _, hQ x u tk⟩⟩
end
end ExN
/-! Den4: subscripts, slices, built-ins, methods by values. -/
namespace Den
open PySem PySem.Spec L2
section
variable {g : Gx} {Φ H : Hp} {ρ : List Addr} {Q : VK} {X : Cx}
theorem atI_rep {ds : List D} {vs : List V} {i : Int} {r : D} (h : RepL g Φ H ρ ds vs []) (e : atI ds i = some r) : ∃ v, atI vs i = some v ∧ Rep g Φ H ρ r v [] := by
  unfold atI at e ⊢
  rw [RepL.len _ _ _ h]
  cases q : ixN ds.length i with
  | none => rw [q] at e; cases e
  | some j =>
    rw [q] at e
    exact RepL.get _ _ h j r e
theorem ixv (hK : X.K = g.K) : IxR X (OpV g idxD) := by
  intro value slice pins s σ H x y v u Q I rx ry h hp
  obtain ⟨Φ, ρ, d, e, r, sb, rd, re, hk, q⟩ := h
  unfold idxD at hk
  split at hk
  · obtain ⟨a, vs, rfl, t, rr⟩ := rd.lst sb
    cases re.int
    obtain ⟨z, e1, rz⟩ := atI_rep rr hk
    exact ix_list value slice pins s σ H _ _ v u Q I rx ry ⟨a, vs, _, z, rfl, rfl, by rw [hK]; exact t, e1, q.flat sb rz⟩ hp
  · obtain ⟨a, vs, rfl, _, t, rr⟩ := rd.tup sb
    cases re.int
    obtain ⟨z, e1, rz⟩ := atI_rep rr hk
    exact ix_tup value slice pins s σ H _ _ v u Q I rx ry ⟨a, vs, _, z, rfl, rfl, by rw [hK]; exact t, e1, q.flat sb rz⟩ hp
  · split at hk
    · rename_i hl
      cases rd.str; cases re.int
      cases ec : atI ‹List Nat› ‹Int› with
      | none => rw [ec] at hk; cases hk
      | some c =>
        rw [ec] at hk
        cases hk
        refine ix_str value slice pins s σ H _ _ v u Q I rx ry ⟨_, _, c, rfl, rfl, by rw [S_len]; exact Nat.le_trans hl lim_le, ec, q.str sb⟩ hp
    · cases hk
  · cases hk
/-- a slice, by values -/
def SlV (g : Gx) : V → Option Int → Option Int → Hp → VK → Prop := fun x lo hi H Q => ∃ (Φ : Hp) (ρ : List Addr) (d r : D), Sub Φ H ∧ PkR g Φ H ρ d x ∧ slcI d lo hi = some r ∧ Aft g Φ H ρ r Q
theorem slv (hK : X.K = g.K) : SlR X (SlV g) := by
  intro pins s σ H x v vl vu lo hi sl Q I rx hs pl pu h
  obtain ⟨Φ, ρ, d, r, sb, rd, hk, q⟩ := h
  unfold slcI at hk
  split at hk
  · cases hk
    obtain ⟨a, vs, rfl, t, rr⟩ := rd.lst sb
    exact sl_list pins s σ H _ v vl vu lo hi sl Q I rx hs pl pu ⟨a, vs, rfl, by rw [hK]; exact t, q.lst sb (rr.cut lo hi)⟩
  · cases hk
    obtain ⟨a, vs, rfl, tf, t, rr⟩ := rd.tup sb
    have rc := rr.cut lo hi
    cases rx
    rw [← hK] at t
    obtain ⟨its, r, ht, hz⟩ := I.tuple t
    have hlen : its.toArray.size = vs.length := by rw [List.size_toArray]; exact r.length.symm
    refine ⟨"tuple", _, PyProof.Rows.slot_tuple_getitem.lookup, ht.typeIs, ?_⟩
    by_cases hw : HT.sIx vs.length 0 lo = 0 ∧ HT.sIx vs.length vs.length hi = vs.length
    · refine getItem_tuple_whole ht hs pl pu (by rw [hlen]; exact hw) ⟨.ref a, H, I, rfl, q.flat sb ?_⟩
      have e : cutV vs lo hi = vs := by
        unfold cutV
        rw [hw.1, hw.2]
        simp
      rw [e] at rc
      simp only [Rep]
      exact ⟨a, vs, rfl, tf, rc⟩
    · refine HT.getItem_tuple_cut ht hs pl pu (by rw [hlen]; exact hw) ?_ (by rw [hlen]; exact hz)
      rw [hlen]
      refine ⟨.ref s.heap.objs.size, _, laidT (t' := s.toks) I (fun b ob q => Heap.get?_push_of_some _ q) (Nat.le_refl _) (Heap.get?_push_size _ rfl) ((r.drop (HT.sIx vs.length 0 lo)).take (HT.sIx vs.length vs.length hi - HT.sIx vs.length 0 lo)) (Nat.le_trans (cutV_length vs lo hi) hz), rfl, ?_⟩
      exact q.tup sb rc _ _ (I.hok.fresh (Nat.le_refl _)) rfl
  · split at hk
    · rename_i hl
      cases hk
      cases rd.str
      refine sl_str pins s σ H _ v vl vu lo hi sl Q I rx hs pl pu ⟨_, rfl, by rw [S_len]; exact Nat.le_trans hl lim_le, ?_⟩
      have e : ∀ z : List Nat, cutS ⟨z.toArray⟩ lo hi = ⟨(cutL z lo hi).toArray⟩ := fun z => by unfold cutS cutL; rw [S_len]
      rw [e]
      exact q.str sb
    · cases hk
  · cases hk
/-! ### lists of ints -/
theorem ints_rep : ∀ {ds : List D} {vs : List V} {is : List Int}, RepL g Φ H ρ ds vs [] → intsOf ds = some is → vs = is.map V.int ∧ ds = is.map D.int
  | [], vs, is, r, e => by
    simp only [intsOf] at e; cases e
    simp only [RepL] at r
    exact ⟨r.1, rfl⟩
  | d :: ds, vs, is, r, e => by
    simp only [RepL] at r
    obtain ⟨v, vs', f1, f2, rfl, ef, r1, r2⟩ := r
    obtain ⟨rfl, rfl⟩ := List.append_eq_nil_iff.mp ef.symm
    cases d <;> simp only [intsOf] at e <;> try (cases e; done)
    rename_i i
    cases q : intsOf ds with
    | none => rw [q] at e; cases e
    | some js =>
      rw [q] at e
      cases e
      obtain ⟨h1, h2⟩ := ints_rep r2 q
      simp only [Rep] at r1
      exact ⟨by rw [r1.1, h1]; rfl, by rw [h2]; rfl⟩
theorem intsOf_map : ∀ is : List Int, intsOf (is.map D.int) = some is
  | [] => rfl
  | i :: is => by show (intsOf (is.map D.int)).map (i :: ·) = _; rw [intsOf_map is]; rfl
theorem rep_ints : ∀ is : List Int, RepL g Φ H ρ (is.map D.int) (is.map V.int) []
  | [] => by simp [RepL]
  | i :: is => by
    simp only [List.map_cons, RepL]
    exact ⟨_, _, [], [], rfl, rfl, rep_int, rep_ints is⟩
theorem bls_rep : ∀ {ds : List D} {vs : List V} {is : List Bool}, RepL g Φ H ρ ds vs [] → blsOf ds = some is → vs = is.map V.bl
  | [], vs, is, r, e => by
    simp only [blsOf] at e; cases e
    simp only [RepL] at r
    exact r.1
  | d :: ds, vs, is, r, e => by
    simp only [RepL] at r
    obtain ⟨v, vs', f1, f2, rfl, ef, r1, r2⟩ := r
    obtain ⟨rfl, rfl⟩ := List.append_eq_nil_iff.mp ef.symm
    cases d <;> simp only [blsOf] at e <;> try (cases e; done)
    cases q : blsOf ds with
    | none => rw [q] at e; cases e
    | some js =>
      rw [q] at e
      cases e
      simp only [Rep] at r1
      rw [r1.1, bls_rep r2 q]; rfl
theorem insI_perm (x : Int) : ∀ l : List Int, (insI x l).Perm (x :: l)
  | [] => List.Perm.refl _
  | y :: ys => by
    unfold insI
    split
    · exact List.Perm.refl _
    · exact ((insI_perm x ys).cons y).trans (List.Perm.swap x y ys)
theorem srtI_perm : ∀ l : List Int, (srtI l).Perm l
  | [] => List.Perm.refl _
  | x :: xs => (insI_perm x (srtI xs)).trans ((srtI_perm xs).cons x)
theorem insI_rise (x : Int) : ∀ l : List Int, l.Pairwise (· ≤ ·) → (insI x l).Pairwise (· ≤ ·)
  | [], _ => List.pairwise_singleton _ _
  | y :: ys, h => by
    have h' := List.pairwise_cons.mp h
    unfold insI
    split
    · rename_i hx
      exact List.pairwise_cons.mpr ⟨fun z hz => by
        rcases List.mem_cons.mp hz with rfl | hz
        · exact hx
        · exact Int.le_trans hx (h'.1 z hz), h⟩
    · rename_i hx
      exact List.pairwise_cons.mpr ⟨fun z hz => by
        rcases List.mem_cons.mp ((insI_perm x ys).mem_iff.mp hz) with rfl | hz
        · omega
        · exact h'.1 z hz, insI_rise x ys h'.2⟩
theorem srtI_rise : ∀ l : List Int, (srtI l).Pairwise (· ≤ ·)
  | [] => List.Pairwise.nil
  | x :: xs => insI_rise x _ (srtI_rise xs)
theorem rise_uniq : ∀ {l m : List Int}, l.Pairwise (· ≤ ·) → m.Pairwise (· ≤ ·) → l.Perm m → l = m
  | [], m, _, _, p => (List.Perm.eq_nil p.symm).symm
  | x :: l, [], _, _, p => absurd p.length_eq (by simp)
  | x :: l, y :: m, hl, hm, p => by
    have a := List.pairwise_cons.mp hl
    have b := List.pairwise_cons.mp hm
    have h1 : x ≤ y := by
      rcases List.mem_cons.mp (p.mem_iff.mpr List.mem_cons_self : y ∈ x :: l) with e | e
      · omega
      · exact a.1 y e
    have h2 : y ≤ x := by
      rcases List.mem_cons.mp (p.mem_iff.mp List.mem_cons_self : x ∈ y :: m) with e | e
      · omega
      · exact b.1 x e
    have e : x = y := by omega
    subst e
    rw [rise_uniq a.2 b.2 (List.Perm.cons_inv p)]
theorem maxI_ge : ∀ (l : List Int) (m : Int), m ≤ maxI m l ∧ ∀ y ∈ l, y ≤ maxI m l
  | [], m => ⟨Int.le_refl _, fun y h => by cases h⟩
  | x :: xs, m => by
    unfold maxI
    by_cases hx : m < x
    · rw [if_pos hx]
      obtain ⟨h1, h2⟩ := maxI_ge xs x
      refine ⟨by omega, fun y hy => ?_⟩
      rcases List.mem_cons.mp hy with rfl | hy
      · exact h1
      · exact h2 y hy
    · rw [if_neg hx]
      obtain ⟨h1, h2⟩ := maxI_ge xs m
      refine ⟨h1, fun y hy => ?_⟩
      rcases List.mem_cons.mp hy with rfl | hy
      · omega
      · exact h2 y hy
theorem maxI_mem : ∀ (l : List Int) (m : Int), maxI m l = m ∨ maxI m l ∈ l
  | [], m => .inl rfl
  | x :: xs, m => by
    unfold maxI
    rcases maxI_mem xs (if m < x then x else m) with h | h
    · rw [h]
      split
      · exact .inr List.mem_cons_self
      · exact .inl rfl
    · exact .inr (List.mem_cons_of_mem _ h)
theorem rngV_rep (a b : Int) : RepL g Φ H ρ (rngL a b) (rgV a b) [] := by
  have e : rngL a b = ((List.range (b - a).toNat).map fun i => a + ((i : Nat) : Int)).map D.int := by unfold rngL; rw [List.map_map]; rfl
  have e2 : rgV a b = ((List.range (b - a).toNat).map fun i => a + ((i : Nat) : Int)).map V.int := by unfold rgV; rw [List.map_map]; rfl
  rw [e, e2]
  exact rep_ints _
/-! ### built-ins -/
theorem PkRs.one {d : D} {vs : List V} (h : PkRs g Φ H ρ [d] vs) : ∃ v, vs = [v] ∧ PkR g Φ H ρ d v := by
  cases h with
  | cons r t => cases t; exact ⟨_, rfl, r⟩
theorem PkRs.two {d e : D} {vs : List V} (h : PkRs g Φ H ρ [d, e] vs) : ∃ v w, vs = [v, w] ∧ PkR g Φ H ρ d v ∧ PkR g Φ H ρ e w := by
  cases h with
  | cons r t => obtain ⟨w, rfl, q⟩ := t.one; exact ⟨_, _, rfl, r, q⟩
theorem bi_len (hK : X.K = g.K) : CallR X (.builtin "len") (CbV g lenF) := by
  intro pins s σ H vs us Q I r h
  obtain ⟨Φ, ρ, ds, z, sb, rs, hk, q⟩ := h
  refine call_len pins s σ H vs us Q I r ?_
  unfold lenF at hk
  split at hk
  · cases hk
    obtain ⟨v, rfl, rd⟩ := rs.one
    obtain ⟨a, ws, rfl, t, rr⟩ := rd.lst sb
    exact ⟨_, _, rfl, .inl ⟨ws, by rw [hK]; exact t, rfl⟩, by rw [RepL.len _ _ _ rr]; exact q.int sb⟩
  · cases hk
    obtain ⟨v, rfl, rd⟩ := rs.one
    obtain ⟨a, ws, rfl, _, t, rr⟩ := rd.tup sb
    exact ⟨_, _, rfl, .inr ⟨ws, by rw [hK]; exact t, rfl⟩, by rw [RepL.len _ _ _ rr]; exact q.int sb⟩
  · split at hk
    · rename_i hl
      cases hk
      obtain ⟨v, rfl, rd⟩ := rs.one
      cases rd.str
      exact ⟨_, _, rfl, ⟨by rw [S_len]; exact Nat.le_trans hl lim_le, rfl⟩, by rw [S_len]; exact q.int sb⟩
    · cases hk
  · cases hk
theorem bi_abs : CallR X (.builtin "abs") (CbV g absF) := by
  intro pins s σ H vs us Q I r h
  obtain ⟨Φ, ρ, ds, z, sb, rs, hk, q⟩ := h
  unfold absF at hk
  split at hk
  · cases hk
    obtain ⟨v, rfl, rd⟩ := rs.one
    cases rd.int
    exact call_abs pins s σ H _ us Q I r ⟨_, rfl, q.int sb⟩
  · cases hk
theorem bi_max2 (hc : X.calm = true) : CallR X (.builtin "max") (CbV g max2F) := by
  intro pins s σ H vs us Q I r h
  obtain ⟨Φ, ρ, ds, z, sb, rs, hk, q⟩ := h
  unfold max2F at hk
  split at hk
  · cases hk
    obtain ⟨v, w, rfl, rd, re⟩ := rs.two
    cases rd.int; cases re.int
    exact call_max2 hc pins s σ H _ us Q I r ⟨_, _, rfl, q.int sb⟩
  · cases hk
theorem bi_min2 (hc : X.calm = true) : CallR X (.builtin "min") (CbV g min2F) := by
  intro pins s σ H vs us Q I r h
  obtain ⟨Φ, ρ, ds, z, sb, rs, hk, q⟩ := h
  unfold min2F at hk
  split at hk
  · cases hk
    obtain ⟨v, w, rfl, rd, re⟩ := rs.two
    cases rd.int; cases re.int
    exact call_min2 hc pins s σ H _ us Q I r ⟨_, _, rfl, q.int sb⟩
  · cases hk
theorem bi_maxL (hK : X.K = g.K) (hc : X.calm = true) : CallR X (.builtin "max") (CbV g maxLF) := by
  intro pins s σ H vs us Q I r h
  obtain ⟨Φ, ρ, ds, z, sb, rs, hk, q⟩ := h
  unfold maxLF at hk
  split at hk
  · split at hk
    · rename_i x xs e
      cases hk
      obtain ⟨v, rfl, rd⟩ := rs.one
      obtain ⟨a, ws, rfl, t, rr⟩ := rd.lst sb
      obtain ⟨e1, e2⟩ := ints_rep rr e
      subst e1
      refine cr_max hc pins s σ H _ us Q I r ⟨a, _, rfl, by rw [hK]; exact t, by simp, fun m hm hle => ?_⟩
      have e3 : m = maxI x xs := by
        obtain ⟨h1, h2⟩ := maxI_ge xs x
        have h3 := maxI_mem xs x
        have h4 : maxI x xs ≤ m := hle _ (by rcases h3 with h3 | h3 <;> simp [h3])
        have h5 : m ≤ maxI x xs := by
          rcases List.mem_cons.mp hm with rfl | hm
          · exact h1
          · exact h2 m hm
        omega
      rw [e3]
      exact q.int sb
    · cases hk
  · cases hk
theorem bi_int : CallR X (.type "int") (CbV g intF) := by
  intro pins s σ H vs us Q I r h
  obtain ⟨Φ, ρ, ds, z, sb, rs, hk, q⟩ := h
  unfold intF at hk
  split at hk
  · cases hk
    obtain ⟨v, rfl, rd⟩ := rs.one
    cases rd.int
    exact call_int1 pins s σ H _ us Q I r (.inl ⟨_, rfl, q.int sb⟩)
  · cases hk
    obtain ⟨v, rfl, rd⟩ := rs.one
    cases rd.bl
    exact call_int1 pins s σ H _ us Q I r (.inr ⟨_, rfl, q.int sb⟩)
  · split at hk
    · rename_i hl
      obtain ⟨n, e, rfl⟩ := Option.map_eq_some_iff.mp hk
      obtain ⟨v, rfl, rd⟩ := rs.one
      cases rd.str
      exact call_int_str pins s σ H _ us Q I r ⟨_, n, rfl, e, by rw [S_len]; exact hl, q.int sb⟩
    · cases hk
  · cases hk
theorem tstrs_rep {g : Gx} {Φ H : Hp} {ρ : List Addr} : ∀ {ds : List D} {vs : List V} {ys : List (List Nat)}, RepL g Φ H ρ ds vs [] → tstrs ds = some ys → vs = ys.map fun y => V.str ⟨y.toArray⟩
  | [], vs, ys, r, e => by
    simp only [tstrs] at e; cases e
    simp only [RepL] at r
    exact r.1
  | d :: ds, vs, ys, r, e => by
    cases d with
    | str s =>
      simp only [tstrs] at e
      obtain ⟨zs, e1, rfl⟩ := Option.map_eq_some_iff.mp e
      simp only [RepL] at r
      obtain ⟨v, vs', f1, f2, rfl, ef, r1, r2⟩ := r
      obtain ⟨rfl, rfl⟩ := List.append_eq_nil_iff.mp ef.symm
      simp only [Rep] at r1
      obtain ⟨rfl, _⟩ := r1
      rw [tstrs_rep r2 e1]; rfl
    | _ => simp [tstrs] at e
theorem rep_all {prog : Program} {w : World} : ∀ {ys : List (List Nat)} {its : List Value}, Vals (ys.map fun y => V.str ⟨y.toArray⟩) its → ys.all (fun y => decide (y.length ≤ 1000) && y.all (· < 0x110000)) = true → ReprAll prog w its (ys.map fun y => reprText ⟨y.toArray⟩)
  | [], its, h, _ => by cases h; exact .nil
  | y :: ys, its, h, k => by
    cases h with
    | cons r rs =>
      obtain ⟨t, rfl⟩ := r
      simp only [List.all_cons, Bool.and_eq_true, decide_eq_true_eq] at k
      refine .cons (ReprIs.str _ t ?_) (rep_all rs k.2)
      have := StrLaws.reprText_len ⟨y.toArray⟩ (fun c hc => by
        have := List.all_eq_true.mp k.1.2 c (by simpa using hc)
        have := of_decide_eq_true this
        exact Nat.lt_of_lt_of_le this (by decide))
      have e : (⟨y.toArray⟩ : Str).length = y.length := S_len y
      rw [e] at this
      rw [sizeLine_eq]; omega
theorem piled_le : ∀ {ys : List (List Nat)}, ys.all (fun y => decide (y.length ≤ 1000) && y.all (· < 0x110000)) = true → piled (ys.map fun y => reprText ⟨y.toArray⟩) ≤ 10004 * ys.length
  | [], _ => by simp [piled]
  | y :: ys, k => by
    simp only [List.all_cons, Bool.and_eq_true, decide_eq_true_eq] at k
    have := piled_le k.2
    have h2 := StrLaws.reprText_len ⟨y.toArray⟩ (fun c hc => by
        have := List.all_eq_true.mp k.1.2 c (by simpa using hc)
        have := of_decide_eq_true this
        exact Nat.lt_of_lt_of_le this (by decide))
    have e : (⟨y.toArray⟩ : Str).length = y.length := S_len y
    rw [e] at h2
    rw [List.map_cons, piled_cons, List.length_cons]
    omega
theorem tup_len (ts : List Str) : (tupleText ts).length ≤ piled ts + 3 := by
  unfold tupleText
  rw [strLen_append, strLen_append]
  have e1 : ((("(" : String) : Str)).length = 1 := rfl
  have e3 : (((if ts.length == 1 then ",)" else ")" : String) : Str)).length ≤ 2 := by split <;> decide
  rw [e1]
  by_cases h : ts = []
  · subst h
    have : (Str.join (", " : String) []).length = 0 := rfl
    omega
  · have := join_length_add ts h
    omega
theorem bi_str (hK : X.K = g.K) (hu : X.A.units + 8 < cLine) : CallR X (.type "str") (CbV g strF) := by
  intro pins s σ H vs us Q I r h
  obtain ⟨Φ, ρ, ds, z, sb, rs, hk, q⟩ := h
  unfold strF at hk
  split at hk
  · split at hk
    · rename_i hl
      cases hk
      obtain ⟨v, rfl, rd⟩ := rs.one
      cases rd.int
      exact call_str_int pins s σ H _ us Q I r ⟨_, rfl, hl, q.str sb⟩
    · cases hk
  · cases hk
    obtain ⟨v, rfl, rd⟩ := rs.one
    cases rd.str
    exact SkE.call_str_str pins s σ H _ us Q I r ⟨_, rfl, q.str sb⟩
  · split at hk
    · rename_i ys e
      split at hk
      · rename_i hl
        cases hk
        obtain ⟨v, rfl, rd⟩ := rs.one
        obtain ⟨a, ws, rfl, tf, t, rr⟩ := rd.tup sb
        have ew := tstrs_rep rr e
        subst ew
        obtain ⟨u, rfl, rx⟩ := vals1 r
        cases rx
        obtain ⟨its, vr, ⟨o, h1, h2, n, h3⟩, _⟩ := I.tuple (by rw [hK]; exact t)
        have hp := piled_le hl.2
        have ht := tup_len (ys.map fun y => reprText ⟨y.toArray⟩)
        refine ExN.str_tup hu ⟨o, h1, h2⟩ h1 h3 (fun prog w => rep_all vr hl.2) (fun x u tk => ⟨.str x, H, I.tok _, ⟨u, rfl⟩, ?_⟩) (by rw [sizeLine_eq]; omega)
        refine q.flat sb ?_
        simp only [Rep]
        exact ⟨.inr ⟨x, rfl⟩, trivial⟩
      · cases hk
    · cases hk
  · cases hk
theorem bi_list (hK : X.K = g.K) : CallR X (.type "list") (CbV g listF) := by
  intro pins s σ H vs us Q I r h
  obtain ⟨Φ, ρ, ds, z, sb, rs, hk, q⟩ := h
  unfold listF at hk
  split at hk
  · cases hk
    obtain ⟨v, rfl, rd⟩ := rs.one
    obtain ⟨a, ws, rfl, t, rr⟩ := rd.lst sb
    exact call_list_of pins s σ H _ us Q I r ⟨_, _, rfl, .inl (by rw [hK]; exact t), q.lst sb rr⟩
  · cases hk
    obtain ⟨v, rfl, rd⟩ := rs.one
    obtain ⟨a, ws, rfl, _, t, rr⟩ := rd.tup sb
    exact call_list_of pins s σ H _ us Q I r ⟨_, _, rfl, .inr (by rw [hK]; exact t), q.lst sb rr⟩
  · cases hk
theorem bi_tuple (hK : X.K = g.K) : CallR X (.type "tuple") (CbV g tupleF) := by
  intro pins s σ H vs us Q I r h
  obtain ⟨Φ, ρ, ds, z, sb, rs, hk, q⟩ := h
  unfold tupleF at hk
  split at hk
  · cases hk
    obtain ⟨v, rfl, rd⟩ := rs.one
    obtain ⟨a, ws, rfl, t, rr⟩ := rd.lst sb
    obtain ⟨u, rfl, rx⟩ := vals1 r
    cases rx
    rw [← hK] at t
    obtain ⟨its, r', pl, hz⟩ := I.list t
    refine call_tuple_list pl.isList (fun h' kp => ?_) (by simp only [List.size_toArray]; rw [← r'.length]; exact hz)
    have I1 : Inv X pins σ H { s with heap := h' } := I.kept (t' := s.toks) kp
    refine ⟨.ref h'.objs.size, _, laidT (s := { s with heap := h' }) (t' := s.toks) I1 (fun b o e => Heap.get?_push_of_some _ e) (Nat.le_refl _) (Heap.get?_push_size _ rfl) r' hz, rfl, ?_⟩
    exact q.tup sb rr _ _ (I1.hok.fresh (Nat.le_refl _)) rfl
  · cases hk
    obtain ⟨v, rfl, rd⟩ := rs.one
    obtain ⟨a, ws, rfl, tf, t, rr⟩ := rd.tup sb
    exact call_tupleT pins s σ H _ us Q I r ⟨_, _, rfl, by rw [hK]; exact t, q.flat sb (by simp only [Rep]; exact ⟨a, ws, rfl, tf, rr⟩)⟩
  · cases hk
theorem strs_repA : ∀ {ds : List D} {vs : List V} {ys : List (List Nat)}, RepL g Φ H ρ ds vs [] → strsOf ds = some ys → vs = (ys.map fun y => (⟨y.toArray⟩ : Str)).map V.str
  | [], vs, ys, r, e => by
    simp only [strsOf] at e; cases e
    simp only [RepL] at r
    exact r.1
  | d :: ds, vs, ys, r, e => by
    simp only [RepL] at r
    obtain ⟨v, vs', f1, f2, rfl, ef, r1, r2⟩ := r
    obtain ⟨rfl, rfl⟩ := List.append_eq_nil_iff.mp ef.symm
    cases d <;> simp only [strsOf] at e <;> try (cases e; done)
    rename_i z
    cases q : strsOf ds with
    | none => rw [q] at e; cases e
    | some js =>
      rw [q] at e
      cases e
      have h1 := strs_repA r2 q
      simp only [Rep] at r1
      rw [r1.1, h1]; rfl
theorem rep_strsA : ∀ is : List (List Nat), RepL g Φ H ρ (is.map D.str) ((is.map fun y => (⟨y.toArray⟩ : Str)).map V.str) []
  | [] => by simp [RepL]
  | i :: is => by
    simp only [List.map_cons, RepL]
    exact ⟨_, _, [], [], rfl, rfl, by simp only [Rep]; exact ⟨trivial, trivial⟩, rep_strsA is⟩
theorem bi_sorted (hK : X.K = g.K) : CallR X (.builtin "sorted") (CbV g sortedF) := by
  intro pins s σ H vs us Q I r h
  obtain ⟨Φ, ρ, ds, z, sb, rs, hk, q⟩ := h
  have go : ∀ {a : Addr} {ds : List D} {ws : List V}, vs = [.ref a] → (SqL g.K H a ws ∨ SqT g.K H a ws) → RepL g Φ H ρ ds ws [] → sortedT ds = some z → wpAny (model X.prog X.w) X.A (call (.builtin "sorted") us) (EP X pins σ Q) X.xe s := fun {a ds ws} ev t rr hk => by
    subst ev
    unfold sortedT at hk
    split at hk
    · rename_i ss e
      split at hk
      · rename_i h64
        cases hk
        have e1 := strs_repA rr e
        subst e1
        refine ExO.cr_sortedX pins s σ H _ us Q I r ⟨a, _, rfl, by rw [hK]; exact t, by simpa using h64, fun ys p hp hs hn => ?_⟩
        rw [ExO.sorted_is hs hp]
        exact q.lst sb (rep_strsA _) p hn
      · cases hk
    · cases hk
  unfold sortedF at hk
  split at hk
  rotate_left
  · obtain ⟨v, rfl, rd⟩ := rs.one
    obtain ⟨a, ws, rfl, tf, t, rr⟩ := rd.tup sb
    exact go rfl (.inr t) rr hk
  · cases hk
  · split at hk
    rotate_left
    · obtain ⟨v, rfl, rd⟩ := rs.one
      obtain ⟨a, ws, rfl, t, rr⟩ := rd.lst sb
      exact go rfl (.inl t) rr hk
    · rename_i e
      cases hk
      obtain ⟨v, rfl, rd⟩ := rs.one
      obtain ⟨a, ws, rfl, t, rr⟩ := rd.lst sb
      obtain ⟨e1, e2⟩ := ints_rep rr e
      subst e1
      refine cr_sortedI pins s σ H _ us Q I r ⟨a, _, rfl, by rw [hK]; exact t, fun ns' p hp hs hn => ?_⟩
      rw [rise_uniq hs (srtI_rise _) (hp.trans (srtI_perm _).symm)]
      exact q.lst sb (rep_ints _) p hn
theorem bi_sum (hK : X.K = g.K) (hc : X.calm = true) : CallR X (.builtin "sum") (CbV g sumF) := by
  intro pins s σ H vs us Q I r h
  obtain ⟨Φ, ρ, ds, z, sb, rs, hk, q⟩ := h
  unfold sumF at hk
  split at hk
  · split at hk
    · rename_i is e
      cases hk
      obtain ⟨v, rfl, rd⟩ := rs.one
      obtain ⟨a, ws, rfl, t, rr⟩ := rd.lst sb
      obtain ⟨e1, e2⟩ := ints_rep rr e
      subst e1
      exact cr_sum hc pins s σ H _ us Q I r ⟨a, _, rfl, by rw [hK]; exact t, q.int sb⟩
    · cases hk
  · cases hk
theorem bi_all (hK : X.K = g.K) (hc : X.calm = true) : CallR X (.builtin "all") (CbV g allF) := by
  intro pins s σ H vs us Q I r h
  obtain ⟨Φ, ρ, ds, z, sb, rs, hk, q⟩ := h
  unfold allF at hk
  split at hk
  · split at hk
    · rename_i e
      cases hk
      obtain ⟨v, rfl, rd⟩ := rs.one
      obtain ⟨a, ws, rfl, t, rr⟩ := rd.lst sb
      have e1 := bls_rep rr e
      subst e1
      exact cr_all hc pins s σ H _ us Q I r ⟨a, _, rfl, by rw [hK]; exact t, q.bl sb⟩
    · cases hk
  · cases hk
/-! ### isinstance -/
theorem ty_rep {d : D} {v : V} {ty : String} (sb : Sub Φ H) (h : PkR g Φ H ρ d v) (e : tyOf d = some ty) : TyX g.K H v (.type ty) := by
  cases d <;> simp only [tyOf] at e
  · cases e; rw [h.non]; exact .base .non
  · cases e; rw [h.bl]; exact .base (.bl _)
  · cases e; rw [h.int]; exact .base (.int _)
  · cases e; rw [h.str]; exact .base (.str _)
  · cases e
    have h : Rep g Φ H ρ (.tup _) v [] := h
    simp only [Rep] at h
    obtain ⟨a, vs, rfl, t, _⟩ := h
    rcases sub_tp sb t with ⟨o, q, _⟩ | ⟨o, its, n, h1, h2, _⟩
    · exact .fTuple q
    · exact .kTuple h1 h2
  · cases e
    obtain ⟨a, vs, rfl, t, _⟩ := h.lst sb
    rcases t with (q | ⟨o, q⟩) | ⟨o, its, n, h1, h2, _⟩
    · exact .base (.lst q)
    · exact .base (.frz q)
    · exact .kList h1 h2
  · cases e
  · cases e
  · cases e
  · cases e
  · cases e
theorem bi_isi (hK : X.K = g.K) {T : String} {d r : D} {v : V} {Q : VK} {pins : List (Addr × Obj)} {s : Shared} {σ : L2.St} {us : List Value} (sb : Sub Φ H) (rd : PkR g Φ H ρ d v) (hk : isiF T [d] = some r) (q : Aft g Φ H ρ r Q)
    (I : Inv X pins σ H s) (rs : Vals [v, .ty T] us) : wpAny (model X.prog X.w) X.A (call (.builtin "isinstance") us) (EP X pins σ Q) X.xe s := by
  simp only [isiF, isiD] at hk
  cases e : tyOf d with
  | none => rw [e] at hk; cases hk
  | some t =>
    rw [e] at hk
    dsimp only at hk
    cases eb : kitB t T with
    | none => rw [eb] at hk; cases hk
    | some b =>
      rw [eb] at hk
      cases hk
      exact call_isi pins s σ H _ us Q I rs ⟨v, .ty T, _, _, b, rfl, .ty T, by rw [hK]; exact ty_rep sb rd e, kit_ty eb, q.bl sb⟩
/-! ### sorted(set(t)) -/
theorem insS_mem (x : Int) : ∀ (l : List Int) (y : Int), y ∈ insS x l ↔ y = x ∨ y ∈ l
  | [], y => by simp [insS]
  | z :: zs, y => by
    unfold insS
    split
    · simp
    · split
      · rename_i e
        subst e
        simp
      · simp only [List.mem_cons, insS_mem x zs y]
        constructor <;> (intro h; rcases h with h | h | h <;> simp [h])
theorem setI_mem : ∀ (l : List Int) (y : Int), y ∈ setI l ↔ y ∈ l
  | [], y => by simp [setI]
  | x :: xs, y => by simp only [setI, insS_mem, List.mem_cons, setI_mem xs y]
theorem insS_rise (x : Int) : ∀ l : List Int, l.Pairwise (· < ·) → (insS x l).Pairwise (· < ·)
  | [], _ => List.pairwise_singleton _ _
  | y :: ys, h => by
    have h' := List.pairwise_cons.mp h
    unfold insS
    split
    · rename_i hx
      exact List.pairwise_cons.mpr ⟨fun z hz => by
        rcases List.mem_cons.mp hz with rfl | hz
        · exact hx
        · exact Int.lt_trans hx (h'.1 z hz), h⟩
    · split
      · exact h
      · exact List.pairwise_cons.mpr ⟨fun z hz => by
          rcases (insS_mem x ys z).mp hz with rfl | hz
          · omega
          · exact h'.1 z hz, insS_rise x ys h'.2⟩
theorem setI_rise : ∀ l : List Int, (setI l).Pairwise (· < ·)
  | [] => List.Pairwise.nil
  | x :: xs => insS_rise x _ (setI_rise xs)
theorem strict_uniq : ∀ {l m : List Int}, l.Pairwise (· < ·) → m.Pairwise (· < ·) → (∀ x, x ∈ l ↔ x ∈ m) → l = m
  | [], [], _, _, _ => rfl
  | [], y :: m, _, _, h => absurd ((h y).mpr List.mem_cons_self) (by simp)
  | x :: l, [], _, _, h => absurd ((h x).mp List.mem_cons_self) (by simp)
  | x :: l, y :: m, hl, hm, h => by
    have a := List.pairwise_cons.mp hl
    have b := List.pairwise_cons.mp hm
    have e : x = y := by
      rcases List.mem_cons.mp ((h x).mp List.mem_cons_self) with e | e
      · exact e
      · rcases List.mem_cons.mp ((h y).mpr List.mem_cons_self) with e' | e'
        · exact e'.symm
        · have := a.1 y e'
          have := b.1 x e
          omega
    subst e
    rw [strict_uniq a.2 b.2 fun z => ?_]
    constructor
    · intro hz
      rcases List.mem_cons.mp ((h z).mp (List.mem_cons_of_mem _ hz)) with e | e
      · subst e
        have := a.1 z hz
        omega
      · exact e
    · intro hz
      rcases List.mem_cons.mp ((h z).mpr (List.mem_cons_of_mem _ hz)) with e | e
      · subst e
        have := b.1 z hz
        omega
      · exact e
def rSetI (K : PySem.W.Frag) (w : World) : List V → Hp → VK → Prop := fun xs H Q => ∃ (p : Addr) (ns : List Int), xs = [.ref p] ∧ SqT K H p (ns.map V.int) ∧ ns.length ≤ 50 ∧
  ∀ a c, H a = none → c ≤ ns.length → Q (.ref a) (upd H a (SetO w a (fun j => decide (j ∈ ns)) c))
theorem cr_setI (hc : X.calm = true) : CallR X (.type "set") (rSetI X.K X.w) := by
  intro pins s σ H vs us Q I r h
  obtain ⟨p, ns, rfl, hq, hl, q⟩ := h
  obtain ⟨u, rfl, rx⟩ := vals1 r
  cases rx
  obtain ⟨its, rv, pt, hz⟩ := I.tuple hq
  refine call_set_tupI ns (I.ok.hd hc) (show s.heap.IsTuple p its.toArray from pt) (by simpa using rv.ints) (by unfold scanBound; omega) fun h' tk c R1 hcn k => ?_
  have I1 : Inv X pins σ (upd H s.heap.objs.size (SetO X.w s.heap.objs.size (fun j => decide (j ∈ ns)) c)) { s with heap := h', toks := tk } :=
    I.laid k (Nat.le_refl _) (setO_new R1)
  exact ⟨.ref s.heap.objs.size, _, I1, rfl, q _ _ (I.hok.fresh (Nat.le_refl _)) hcn⟩
/-- the two calls, one behind the other -/
def rSrtSet (g : Gx) : V → Hp → VK → Prop := fun v H Q => ∃ (Φ : Hp) (ρ : List Addr) (d r : D), Sub Φ H ∧ PkR g Φ H ρ d v ∧ setSrt d = some r ∧ Aft g Φ H ρ r Q
theorem srtSet_to (hK : X.K = g.K) {v : V} {H : Hp} {Q : VK} (h : rSrtSet g v H Q) : rSetI X.K X.w [v] H fun y H1 => rSortedSet X.w [y] H1 Q := by
  obtain ⟨Φ, ρ, d, r, sb, rd, hk, q⟩ := h
  unfold setSrt at hk
  split at hk
  · split at hk
    · split at hk
      · rename_i is e hl
        cases hk
        obtain ⟨a, vs, rfl, _, t, rr⟩ := rd.tup sb
        obtain ⟨e1, e2⟩ := ints_rep rr e
        subst e1
        refine ⟨a, is, rfl, by rw [hK]; exact t, hl, fun b c hb hcn => ⟨b, _, c, rfl, upd_same, by omega, fun ns p hr hm hln hn => ?_⟩⟩
        have e3 : ns = setI is := strict_uniq hr (setI_rise _) fun x => by rw [hm, setI_mem]; simp
        subst e3
        have w1 : Grow g Φ H Φ (upd H b (SetO X.w b (fun j => decide (j ∈ is)) c)) := Grow.own sb hb
        obtain ⟨w2, r2⟩ := new_lst (g := g) (ρ := ρ) w1.sub (rep_ints (setI is)) hn
        refine q _ _ _ [p] (w1.trans w2) r2 (by simp) fun x hx => ?_
        simp only [List.mem_singleton] at hx
        subst hx
        refine .of ?_
        by_cases e : x = b
        · subst e; rw [upd_same] at hn; cases hn
        · rw [upd_ne e] at hn; exact hn
      · cases hk
    · cases hk
  · cases hk
/-! ### places -/
theorem findD_at (x : D) : ∀ (ds : List D) (k j : Nat), findD x ds k = some j → k ≤ j ∧ (∃ d, ds[j - k]? = some d ∧ PyData.eqv (toP d) (toP x) = true) ∧ ∀ m d, m < j - k → ds[m]? = some d → PyData.eqv (toP d) (toP x) = false
  | [], k, j, h => by simp [findD] at h
  | d :: ds, k, j, h => by
    unfold findD at h
    split at h
    · rename_i hd
      cases h
      exact ⟨Nat.le_refl _, ⟨d, by simp, hd⟩, fun m _ hm => by omega⟩
    · rename_i hd
      obtain ⟨h1, ⟨e, h2, h3⟩, h4⟩ := findD_at x ds (k + 1) j h
      refine ⟨by omega, ⟨e, ?_, h3⟩, fun m e' hm he => ?_⟩
      · rw [show j - k = (j - (k + 1)) + 1 by omega]; exact h2
      · cases m with
        | zero => simp at he; subst he; simpa using hd
        | succ m => exact h4 m e' (by omega) (by simpa using he)
theorem toPs_get : ∀ (ds : List D) (m : Nat), (toPs ds)[m]? = (ds[m]?).map toP
  | [], m => by simp [toPs]
  | d :: ds, 0 => by simp [toPs]
  | d :: ds, m + 1 => by simp only [toPs, List.getElem?_cons_succ]; exact toPs_get ds m
theorem mt_lindex (hK : X.K = g.K) (hu : X.A.units + 65 < cLine) : MtR X "list.index" (fun x xs H Q => ∃ (Φ : Hp) (ρ : List Addr) (o : Ow) (ds : List D) (e r : D) (y : V), xs = [y] ∧ Sub Φ H ∧ PkR g Φ H ρ (.lst o ds) x ∧ PkR g Φ H ρ e y ∧ mtF .lindex (.lst o ds) e = some r ∧ Aft g Φ H ρ r Q) := by
  intro pins s σ H x xs v us Q I rx rs h
  obtain ⟨Φ, ρ, o, ds, e, r, y, rfl, sb, rd, re, hk, q⟩ := h
  simp only [mtF] at hk
  split at hk
  · rename_i hs
    cases ef : findD e ds 0 with
    | none => rw [ef] at hk; cases hk
    | some j =>
      rw [ef] at hk
      cases hk
      obtain ⟨_, ⟨d, h2, h3⟩, h4⟩ := findD_at e ds 0 j ef
      have rl := rd.dpL sb hs.2
      obtain ⟨a, vs, rfl, t, rr⟩ := rd.lst sb
      refine mt_indexD hu pins s σ H _ _ v us Q I rx rs ⟨a, y, _, _, j, toP d, rfl, rfl, by rw [hK]; exact rl, by rw [hK]; exact re.dp sb hs.1, hs.2, hs.1, ?_, h3, fun m z hm hz => ?_, q.int sb⟩
      · rw [toPs_get]; simp at h2; rw [h2]; rfl
      · rw [toPs_get] at hz
        cases em : ds[m]? with
        | none => rw [em] at hz; cases hz
        | some d' => rw [em] at hz; cases hz; exact h4 m d' (by omega) em
  · cases hk
theorem mt_tindex (hK : X.K = g.K) : MtR X "tuple.index" (fun x xs H Q => ∃ (Φ : Hp) (ρ : List Addr) (ds : List D) (e r : D) (y : V), xs = [y] ∧ Sub Φ H ∧ PkR g Φ H ρ (.tup ds) x ∧ PkR g Φ H ρ e y ∧ mtF .tindex (.tup ds) e = some r ∧ Aft g Φ H ρ r Q) := by
  intro pins s σ H x xs v us Q I rx rs h
  obtain ⟨Φ, ρ, ds, e, r, y, rfl, sb, rd, re, hk, q⟩ := h
  simp only [mtF] at hk
  split at hk
  · rename_i hs
    cases ef : findD e ds 0 with
    | none => rw [ef] at hk; cases hk
    | some j =>
      rw [ef] at hk
      cases hk
      obtain ⟨_, ⟨d, h2, h3⟩, h4⟩ := findD_at e ds 0 j ef
      obtain ⟨a, vs, rfl, _, t, rr⟩ := rd.tup sb
      have re' : Rep g Φ H ρ e y [] := by cases e <;> first | exact re | simp [flatD] at hs
      have fa := flat_all hs.1 re' _ _ hs.2 rr
      have fy := (flat_rep hs.1 re').1
      cases rx
      obtain ⟨u, rfl, ru⟩ := vals1 rs
      rw [← hK] at t
      obtain ⟨its, rv, pl, hz⟩ := I.tuple t
      obtain ⟨⟨cls, dd, dt, sl⟩, ho, hc, n, hd⟩ := pl
      simp only at hc hd
      subst hc
      subst hd
      have hlen : its.length = ds.length := by rw [← rv.length, RepL.len _ _ _ rr]
      have key : ∀ (m : Nat) (hm : m < its.toArray.size), ∃ d', ds[m]? = some d' ∧ eqU y (its.toArray[m]) = PyData.eqv (toP d') (toP e) := fun m hm => by
        have hm' : m < ds.length := by simpa [hlen] using hm
        obtain ⟨w, hw, rw'⟩ := RepL.get _ _ rr m ds[m] (List.getElem?_eq_getElem hm')
        obtain ⟨u', hu', ru'⟩ := rv.get hw
        have fd : flatD ds[m] = true := List.all_eq_true.mp hs.2 _ (List.getElem_mem hm')
        have eu : its.toArray[m] = u' := by
          have := (List.getElem?_eq_some_iff.mp hu').2
          simpa using this
        refine ⟨ds[m], List.getElem?_eq_getElem hm', ?_⟩
        rw [eu, eqU_of ru' (flat_rep fd rw').1]
        exact (flat_rep hs.1 re').2 fd rw'
      have hj : j < its.toArray.size := by
        have := (List.getElem?_eq_some_iff.mp h2).1
        simp; omega
      refine call_meets PySem.F.slot_tuple_index ⟨_, ho, rfl⟩ PySem.F.entry_tuple_index (PySem.F.args_tuple_index_2 _ _) (TI.tuple_indexAt a its.toArray n dd sl u (eqU y) j hj ?_ ?_)
        ⟨ho, fun w hw => mem_eqAt ru fy rv fa.1 w (by simpa using hw), ⟨.int (j : Nat), H, I.tok _, ⟨_, rfl⟩, q.int sb⟩⟩
      · obtain ⟨d', h5, h6⟩ := key j hj
        simp at h2
        rw [h2] at h5
        cases h5
        rw [h6]; exact h3
      · intro m hm hmj
        obtain ⟨d', h5, h6⟩ := key m hm
        rw [h6]
        exact h4 m d' (by omega) h5
  · cases hk
end
end Den
/-! Den5: readings of evaluations. -/
namespace Den
open PySem PySem.Spec L2
/-- an exception as it lies behind the raise -/
def XAt (g : Gx) (Φ H : Hp) (ρ : List Addr) (x : Exn) (cls : Value) (dd : Option Addr) : Prop :=
  cls = .ref (g.cl x.cls) ∧ (x.pay = [] → dd = none) ∧ (x.pay ≠ [] → ∃ a vs, dd = some a ∧ H a = some (.xd ((x.pay.map (·.1)).zip vs)) ∧ RepL g Φ H ρ (x.pay.map (·.2)) vs [])
def PX (g : Gx) (E : XK) (Φ H : Hp) (ρ : List Addr) (F : Addr → Prop) (x : Exn) : Prop :=
  ∀ Φ' H' ρ' cls dd, Stp Φ H ρ F Φ' H' ρ' → Sub Φ' H' → LamX.Tabs g.T H' → XAt g Φ' H' ρ' x cls dd → E cls dd H'
/-- what is to follow an evaluation's end -/
def PV (g : Gx) (E : XK) (Φ H : Hp) (ρ : List Addr) (F : Addr → Prop) (σ : L2.St) (r : Ex D) (Q : VK) : Prop := match r with
  | .val d s' => ∀ Φ' H' ρ' v f fs', Stp Φ H ρ F Φ' H' ρ' → Ok g Φ' H' ρ' s' σ fs' (fadd f F) → Vl g Φ' H' ρ' d v f F → Q v H'
  | .exc x => PX g E Φ H ρ F x
def EvR (g : Gx) (E : XK) (m : M D) : TE := fun σ H Q => ∃ Φ ρ s fs F r, Ok g Φ H ρ s σ fs F ∧ m s = some r ∧ PV g E Φ H ρ F σ r Q
/-- an operand in hand: shared, or a name to be looked at -/
def Pend (g : Gx) (Φ : Hp) (ρ : List Addr) (σ : L2.St) (c : C) (o : Option D) (v : V) : Prop := match o with
  | some d => (∃ d', d = fz d') ∧ Rep g Φ (fun _ => none) ρ d v []
  | none => ∃ i, c = .var i ∧ σ[i]? = some (some v)
def PO' (g : Gx) (E : XK) (Φ H : Hp) (ρ : List Addr) (F : Addr → Prop) (σ : L2.St) (c : C) (r : Ex (Option D)) (Q : VK) : Prop := match r with
  | .val o s' => ∀ Φ' H' ρ' v fs', Stp Φ H ρ F Φ' H' ρ' → Ok g Φ' H' ρ' s' σ fs' F → Pend g Φ' ρ' σ c o v → Q v H'
  | .exc x => PX g E Φ H ρ F x
def OpdR (g : Gx) (E : XK) (c : C) (m : M (Option D)) : TE := fun σ H Q => ∃ Φ ρ s fs F r, Ok g Φ H ρ s σ fs F ∧ m s = some r ∧ PO' g E Φ H ρ F σ c r Q
/-- a test -/
def PT' (g : Gx) (E : XK) (Φ H : Hp) (ρ : List Addr) (F : Addr → Prop) (σ : L2.St) (r : Ex D) (Q : Bool → Hp → Prop) : Prop := match r with
  | .val d s' => ∃ b, d = .bl b ∧ ∀ Φ' H' ρ' fs', Stp Φ H ρ F Φ' H' ρ' → Ok g Φ' H' ρ' s' σ fs' F → Q b H'
  | .exc x => PX g E Φ H ρ F x
def TtR (g : Gx) (E : XK) (m : M D) : TT := fun σ H Q => ∃ Φ ρ s fs F r, Ok g Φ H ρ s σ fs F ∧ m s = some r ∧ PT' g E Φ H ρ F σ r Q
section
variable {g : Gx} {E : XK} {Φ Φ1 Φ' H H1 H' : Hp} {ρ ρ1 ρ' : List Addr} {F F1 : Addr → Prop} {σ : L2.St} {s : S} {fs : Ix → List Addr} {Q : VK}
theorem bnd_some {α β : Type} {m : M α} {k : α → M β} {s : S} {r : Ex β} (h : bnd m k s = some r) : (∃ a s1, m s = some (.val a s1) ∧ k a s1 = some r) ∨ ∃ x, m s = some (.exc x) ∧ r = .exc x := by
  unfold bnd at h
  split at h
  · exact .inl ⟨_, _, by assumption, h⟩
  · cases h; exact .inr ⟨_, by assumption, rfl⟩
  · cases h
theorem ret_some {α : Type} {a : α} {s : S} {r : Ex α} (h : ret a s = some r) : r = .val a s := by cases h; rfl
theorem lift_some {α : Type} {o : Option α} {s : S} {r : Ex α} (h : lift o s = some r) : ∃ a, o = some a ∧ r = .val a s := by
  unfold lift at h
  split at h
  · cases h; exact ⟨_, rfl, rfl⟩
  · cases h
theorem PX.shift {x : Exn} (h : PX g E Φ H ρ F x) (st : Stp Φ H ρ F Φ1 H1 ρ1) (hF : ∀ a, F a → F1 a) : PX g E Φ1 H1 ρ1 F1 x :=
  fun Φ' H' ρ' cls dd st' sb tb xa => h Φ' H' ρ' cls dd (st.trans st' hF) sb tb xa
theorem fadd_less {f : List Addr} (hF : ∀ a, F a → F1 a) : ∀ a, fadd f F a → fadd f F1 a := fun a h => h.imp_right (hF a)
theorem Vl.less {d : D} {v : V} {f : List Addr} (h : Vl g Φ H ρ d v f F1) (hF : ∀ a, F a → F1 a) : Vl g Φ H ρ d v f F := ⟨h.rep, h.nd, fun a ha z => h.out a ha (hF a z)⟩
theorem PV.shift {r : Ex D} (h : PV g E Φ H ρ F σ r Q) (st : Stp Φ H ρ F Φ1 H1 ρ1) (hF : ∀ a, F a → F1 a) : PV g E Φ1 H1 ρ1 F1 σ r Q := by
  cases r with
  | val d s' => exact fun Φ' H' ρ' v f fs' st' ok vl => h Φ' H' ρ' v f fs' (st.trans st' hF) (ok.less (fadd_less hF)) (vl.less hF)
  | exc x => exact PX.shift h st hF
theorem EvR.val {m : M D} {d : D} {s1 : S} (k : Ok g Φ H ρ s σ fs F) (h : m s = some (.val d s1))
    (hv : ∀ Φ' H' ρ' v f fs', Stp Φ H ρ F Φ' H' ρ' → Ok g Φ' H' ρ' s1 σ fs' (fadd f F) → Vl g Φ' H' ρ' d v f F → Q v H') : EvR g E m σ H Q := ⟨Φ, ρ, s, fs, F, _, k, h, hv⟩
theorem EvR.exc {m : M D} {x : Exn} (k : Ok g Φ H ρ s σ fs F) (h : m s = some (.exc x)) (hx : PX g E Φ H ρ F x) : EvR g E m σ H Q := ⟨Φ, ρ, s, fs, F, _, k, h, hx⟩
theorem OpdR.val {c : C} {m : M (Option D)} {o : Option D} {s1 : S} (k : Ok g Φ H ρ s σ fs F) (h : m s = some (.val o s1))
    (hv : ∀ Φ' H' ρ' v fs', Stp Φ H ρ F Φ' H' ρ' → Ok g Φ' H' ρ' s1 σ fs' F → Pend g Φ' ρ' σ c o v → Q v H') : OpdR g E c m σ H Q := ⟨Φ, ρ, s, fs, F, _, k, h, hv⟩
theorem OpdR.exc {c : C} {m : M (Option D)} {x : Exn} (k : Ok g Φ H ρ s σ fs F) (h : m s = some (.exc x)) (hx : PX g E Φ H ρ F x) : OpdR g E c m σ H Q := ⟨Φ, ρ, s, fs, F, _, k, h, hx⟩
theorem TtR.val {m : M D} {b : Bool} {s1 : S} {Q : Bool → Hp → Prop} (k : Ok g Φ H ρ s σ fs F) (h : m s = some (.val (.bl b) s1))
    (hv : ∀ Φ' H' ρ' fs', Stp Φ H ρ F Φ' H' ρ' → Ok g Φ' H' ρ' s1 σ fs' F → Q b H') : TtR g E m σ H Q := ⟨Φ, ρ, s, fs, F, _, k, h, b, rfl, hv⟩
theorem TtR.exc {m : M D} {x : Exn} {Q : Bool → Hp → Prop} (k : Ok g Φ H ρ s σ fs F) (h : m s = some (.exc x)) (hx : PX g E Φ H ρ F x) : TtR g E m σ H Q := ⟨Φ, ρ, s, fs, F, _, k, h, hx⟩
theorem Pend.stp {c : C} {o : Option D} {v : V} (p : Pend g Φ ρ σ c o v) (st : Stp Φ H ρ F Φ1 H1 ρ1) : Pend g Φ1 ρ1 σ c o v := by
  cases o with
  | some d => exact ⟨p.1, Rep.mono st.ext st.pre d v [] (fun a ha => by cases ha) p.2⟩
  | none => exact p
/-- a value that was just made, nothing else touched -/
theorem Ok.aft {d : D} (k : Ok g Φ H ρ s σ fs F) (h : PV g E Φ H ρ F σ (.val d s) Q) : Aft g Φ H ρ d Q := fun Φ' H' v f w r nd nf => by
  have h' : ∀ a ∈ f, ∀ b, Owd Φ H b → a ≠ b := fun a ha b hb e => by
    subst e
    obtain ⟨_, u, hu, nt⟩ := hb
    obtain ⟨ps, z⟩ := nf a ha u hu
    exact nt.1 ps z
  refine h Φ' H' ρ v f fs (k.gstp w) ((k.grow w).wide (Rep.at d v f r) fun a ha x hx => h' a ha a (k.at x a hx) rfl) ⟨r, nd, fun a ha hF => h' a ha a (k.fr a hF) rfl⟩
theorem Ok.view {d : D} {i : Nat} (k : Ok g Φ H ρ s σ fs F) (q : s.sl[i]? = some (some d)) :
    ∃ v Φ' fs', σ[i]? = some (some v) ∧ Stp Φ H ρ F Φ' H ρ ∧ Ok g Φ' H ρ (setS s i (some (shal d))) σ fs' F ∧ PkR g Φ' H ρ (fz d) v := by
  have other : (∀ ds, d ≠ .lst .own ds) → ∃ v Φ' fs', σ[i]? = some (some v) ∧ Stp Φ H ρ F Φ' H ρ ∧ Ok g Φ' H ρ (setS s i (some (shal d))) σ fs' F ∧ PkR g Φ' H ρ (fz d) v := fun hn => by
    obtain ⟨v, Φ', fs', e1, st, ok, r⟩ := k.share q
    have e : shal d = fz d := by unfold shal; split <;> first | rfl | exact absurd rfl (hn _)
    exact ⟨v, Φ', fs', e1, st, by rw [e]; exact ok, PkR.of ok.sub r⟩
  cases d with
  | lst o ds =>
    cases o with
    | own =>
      obtain ⟨v, e1, r, k2⟩ := k.take q
      have hi : i < s.sl.length := (List.getElem?_eq_some_iff.mp q).1
      obtain ⟨rr, nd, out⟩ := r
      simp only [Rep] at rr
      obtain ⟨a, vs, f', rfl, ha, na, ef, rl⟩ := rr
      rw [ef] at nd out k2
      have nd' := List.nodup_cons.mp nd
      have nf : ∀ b ∈ f', Φ b = none := fun b hb => (RepL.at _ _ _ rl b hb).1
      have k3 : Ok g (frzP Φ H f') H ρ { s with sl := s.sl.set i none } σ (updI fs (.inl i) []) (fadd [a] F) := by
        refine (k2.less (F := fadd [a] F) fun b hb => ?_).over (frzP_ext nf) (frzP_sub k.sub fun b hb => (RepL.at _ _ _ rl b hb).nt) k.tab fun b hb => ⟨rfl, ?_⟩
        · rcases hb with hb | hb
          · simp only [List.mem_singleton] at hb
            subst hb
            exact .inl List.mem_cons_self
          · exact .inr hb
        · rcases hb with hb | ⟨x, hb⟩
          · rcases hb with hb | hb
            · simp only [List.mem_singleton] at hb
              subst hb
              rw [frzP_out nd'.1]; exact na
            · rw [frzP_out fun z => out b (List.mem_cons_of_mem _ z) hb]; exact (k.fr b hb).1
          · rw [frzP_out fun z => k2.out x b hb (.inl (List.mem_cons_of_mem _ z))]; exact (k2.at x b hb).1
      have rl' := RepL.fz (frzP_ext nf) ds vs f' (fun b hb => frzP_in hb) rl
      have vl : Vl g (frzP Φ H f') H ρ (.lst .own (fzL ds)) (.ref a) [a] F := by
        refine ⟨?_, by simp, fun b hb => by simp only [List.mem_singleton] at hb; subst hb; exact out b List.mem_cons_self⟩
        simp only [Rep]
        exact ⟨a, vs, [], rfl, ha, by rw [frzP_out nd'.1]; exact na, rfl, rl'⟩
      have k4 := k3.put (i := i) vl (by simpa using hi) e1
      simp only [List.set_set] at k4
      refine ⟨.ref a, _, _, e1, frz_stp nf (fun b hb => out b (List.mem_cons_of_mem _ hb)) k.nF, k4, ?_⟩
      show PkR g (frzP Φ H f') H ρ (.lst .fz (fzL ds)) (.ref a)
      exact ⟨a, vs, rfl, ha, rl'⟩
    | fz => exact other fun ds e => by cases e
    | ro => exact other fun ds e => by cases e
  | non => exact other fun ds e => by cases e
  | bl _ => exact other fun ds e => by cases e
  | int _ => exact other fun ds e => by cases e
  | str _ => exact other fun ds e => by cases e
  | tup _ => exact other fun ds e => by cases e
  | obj _ => exact other fun ds e => by cases e
  | kt _ => exact other fun ds e => by cases e
  | dc _ _ _ => exact other fun ds e => by cases e
  | lam _ => exact other fun ds e => by cases e
  | any => exact other fun ds e => by cases e
theorem fill1_ok {c : C} {o : Option D} {v : V} {r : Ex D} (k : Ok g Φ H ρ s σ fs F) (p : Pend g Φ ρ σ c o v) (h : fill1 c o s = some r) :
    ∃ d s' Φ' fs', r = .val d s' ∧ Stp Φ H ρ F Φ' H ρ ∧ Ok g Φ' H ρ s' σ fs' F ∧ PkR g Φ' H ρ d v := by
  cases o with
  | some d =>
    cases ret_some h
    obtain ⟨⟨d', rfl⟩, rp⟩ := p
    exact ⟨_, s, Φ, fs, rfl, Stp.refl k.nF, k, PkR.of k.sub (Rep.mono (fun _ _ h => h) (List.prefix_refl ρ) _ _ _ (fun a ha => by cases ha) rp)⟩
  | none =>
    obtain ⟨i, rfl, hv⟩ := p
    simp only [fill1, Den.view] at h
    split at h
    · rename_i d q
      cases h
      obtain ⟨v', Φ', fs', e1, st, ok, pk⟩ := k.view q
      rw [hv] at e1
      cases e1
      exact ⟨_, _, Φ', fs', rfl, st, ok, pk⟩
    · cases h
theorem PkR.stp {d : D} {v : V} (p : PkR g Φ H ρ d v) (st : Stp Φ H ρ F Φ' H ρ) : PkR g Φ' H ρ d v := p.mono st.ext
end
/-- weaker readings -/
theorem pe_imp {X : Cx} {e : Expr} {t t' : TE} (h : PE X e t) (k : ∀ σ H Q, t' σ H Q → t σ H Q) : PE X e t' := ⟨fun pins s σ H Q I q => h.run pins s σ H Q I (k σ H Q q)⟩
theorem pt_imp {X : Cx} {e : Expr} {t t' : TT} (h : PT X e t) (k : ∀ σ H Q, t' σ H Q → t σ H Q) : PT X e t' := ⟨fun pins s σ H Q I q => h.run pins s σ H Q I (k σ H Q q)⟩
theorem pw_imp {X : Cx} {e : Expr} {t t' : TT} (h : PW X e t) (k : ∀ σ H Q, t' σ H Q → t σ H Q) : PW X e t' := ⟨fun w pins s σ H Q I q => h.run w pins s σ H Q I (k σ H Q q)⟩
theorem pa_imp {X : Cx} {e : List Expr} {t t' : TA} (h : PA X e t) (k : ∀ σ H Q, t' σ H Q → t σ H Q) : PA X e t' := ⟨fun p pins s σ H Q I q => h.run p pins s σ H Q I (k σ H Q q)⟩
theorem ps_imp {X : Cx} {e : Stmt} {t t' : TS} (h : PS X e t) (k : ∀ D σ H, t' D σ H → t D σ H) : PS X e t' := ⟨fun pins s σ H D I q => h.run pins s σ H D I (k D σ H q)⟩
theorem pss_imp {X : Cx} {e : List Stmt} {t t' : TS} (h : PSs X e t) (k : ∀ D σ H, t' D σ H → t D σ H) : PSs X e t' := ⟨fun pins s σ H D I q => h.run pins s σ H D I (k D σ H q)⟩
theorem pi_imp {X : Cx} {tg e : Expr} {t t' : TI} (h : PI X tg e t) (k : ∀ σ H Q, t' σ H Q → t σ H Q) : PI X tg e t' := ⟨fun pins s σ H Q I q => h.run pins s σ H Q I (k σ H Q q)⟩
section
variable {g : Gx} {E : XK} {X : Cx}
/-- an expression as an operand -/
theorem opd_ev {c : C} {e : Expr} {m : M D} (hc : isVar c = false) (h : PE X e (EvR g E m)) : PE X e (OpdR g E c (opd c m)) := pe_imp h fun σ H Q h => by
  obtain ⟨Φ, ρ, s, fs, F, r, k, hm, p⟩ := h
  simp only [opd, hc, Bool.false_eq_true, if_false] at hm
  rcases bnd_some hm with ⟨d, s1, h1, h2⟩ | ⟨x, h1, rfl⟩
  · cases ret_some h2
    refine EvR.val k h1 fun Φ' H' ρ' v f fs' st ok vl => ?_
    obtain ⟨ok2, st2, rp⟩ := ok.frz vl
    exact p _ _ _ v fs' (st.trans st2 fun _ h => h) ok2 ⟨⟨d, rfl⟩, Rep.mono (fun _ _ h => h) (List.prefix_refl _) _ _ _ (fun a ha => by cases ha) rp⟩
  · exact EvR.exc k h1 p
theorem opd_var {i : Nat} {e : Expr} {m : M D} (h : PE X e (tVar i)) : PE X e (OpdR g E (.var i) (opd (.var i) m)) := pe_imp h fun σ H Q h => by
  obtain ⟨Φ, ρ, s, fs, F, r, k, hm, p⟩ := h
  have hm : hasV (.var i) s = some r := hm
  simp only [hasV] at hm
  split at hm
  · rename_i d q
    cases hm
    obtain ⟨v, e1, _⟩ := k.slot i d q
    exact ⟨v, e1, p Φ H ρ v fs (Stp.refl k.nF) k ⟨i, rfl, e1⟩⟩
  · cases hm
theorem ev_var {i : Nat} {e : Expr} (h : PE X e (tVar i)) : PE X e (EvR g E (rdV i)) := pe_imp h fun σ H Q h => by
  obtain ⟨Φ, ρ, s, fs, F, r, k, hm, p⟩ := h
  simp only [rdV] at hm
  split at hm
  · rename_i d q
    cases hm
    obtain ⟨v, Φ', fs', e1, st, ok, rp⟩ := k.share q
    exact ⟨v, e1, p Φ' H ρ v [] fs' st (ok.wide (fun a ha => by cases ha) fun a ha => by cases ha) ⟨rp, List.nodup_nil, fun a ha => by cases ha⟩⟩
  · cases hm
theorem ev_mv {i : Nat} {e : Expr} (h : PE X e (tVar i)) : PE X e (EvR g E (mvV i)) := pe_imp h fun σ H Q h => by
  obtain ⟨Φ, ρ, s, fs, F, r, k, hm, p⟩ := h
  simp only [mvV] at hm
  split at hm
  · rename_i d q
    cases hm
    obtain ⟨v, e1, vl, ok⟩ := k.take q
    exact ⟨v, e1, p Φ H ρ v _ _ (Stp.refl k.nF) ok vl⟩
  · cases hm
theorem ev_cst {d : D} {v : V} {e : Expr} (h : PE X e (tC v)) (hr : ∀ Φ H ρ, Rep g Φ H ρ d v []) : PE X e (EvR g E (ret d)) := pe_imp h fun σ H Q h => by
  obtain ⟨Φ, ρ, s, fs, F, r, k, hm, p⟩ := h
  cases ret_some hm
  exact p Φ H ρ v [] fs (Stp.refl k.nF) (k.wide (fun a ha => by cases ha) fun a ha => by cases ha) ⟨hr _ _ _, List.nodup_nil, fun a ha => by cases ha⟩
theorem ev_stuck {e : Expr} : PE X e (EvR g E stuck) := ⟨fun pins s σ H Q I h => by obtain ⟨Φ, ρ, s, fs, F, r, k, hm, p⟩ := h; cases hm⟩
theorem tt_stuck {e : Expr} : PT X e (TtR g E stuck) := ⟨fun pins s σ H Q I h => by obtain ⟨Φ, ρ, s, fs, F, r, k, hm, p⟩ := h; cases hm⟩
/-- one operand, then an operation by value -/
theorem un_to {c : C} {m : M (Option D)} {n : D → Option D} {σ : L2.St} {H : Hp} {Q : VK} (h : EvR g E (bnd m fun x => bnd (fill1 c x) fun d => lift (n d)) σ H Q) {K : V → Hp → VK → Prop}
    (hK : ∀ Φ ρ H d r v, Sub Φ H → PkR g Φ H ρ d v → n d = some r → Aft g Φ H ρ r Q → K v H Q) : OpdR g E c m σ H fun v H1 => K v H1 Q := by
  obtain ⟨Φ, ρ, s, fs, F, r, k, hm, p⟩ := h
  rcases bnd_some hm with ⟨o, s1, h1, h2⟩ | ⟨x, h1, rfl⟩
  · refine OpdR.val k h1 fun Φ1 H1 ρ1 v fs1 st1 k1 pd => ?_
    rcases bnd_some h2 with ⟨d, s2, h3, h4⟩ | ⟨x, h3, rfl⟩
    · obtain ⟨d', s', Φ2, fs2, e, st2, k2, pk⟩ := fill1_ok k1 pd h3
      cases e
      obtain ⟨z, e1, rfl⟩ := lift_some h4
      exact hK _ _ _ _ _ _ k2.sub pk e1 (k2.aft (p.shift (st1.trans st2 fun _ h => h) fun _ h => h))
    · obtain ⟨_, _, _, _, e, _⟩ := fill1_ok k1 pd h3
      cases e
  · exact OpdR.exc k h1 p
/-- two operands, then an operation by values -/
theorem bin_to {a b : C} {m m' : M (Option D)} {n : D → D → Option D} {σ : L2.St} {H : Hp} {Q : VK} (h : EvR g E (bnd m fun x => bnd m' fun y => bnd (fill1 a x) fun d => bnd (fill1 b y) fun e => lift (n d e)) σ H Q) :
    tOp (OpV g n) (OpdR g E a m) (OpdR g E b m') σ H Q := by
  obtain ⟨Φ, ρ, s, fs, F, r, k, hm, p⟩ := h
  rcases bnd_some hm with ⟨o, s1, h1, h2⟩ | ⟨x, h1, rfl⟩
  · refine OpdR.val k h1 fun Φ1 H1 ρ1 v fs1 st1 k1 pd => ?_
    rcases bnd_some h2 with ⟨o', s2, h3, h4⟩ | ⟨x, h3, rfl⟩
    · refine OpdR.val k1 h3 fun Φ2 H2 ρ2 w fs2 st2 k2 pd' => ?_
      rcases bnd_some h4 with ⟨d, s3, h5, h6⟩ | ⟨x, h5, rfl⟩
      · obtain ⟨_, _, Φ3, fs3, e, st3, k3, pk⟩ := fill1_ok k2 (pd.stp st2) h5
        cases e
        rcases bnd_some h6 with ⟨d', s4, h7, h8⟩ | ⟨x, h7, rfl⟩
        · obtain ⟨_, _, Φ4, fs4, e, st4, k4, pk'⟩ := fill1_ok k3 (pd'.stp st3) h7
          cases e
          obtain ⟨z, e1, rfl⟩ := lift_some h8
          exact ⟨Φ4, ρ2, d, d', z, k4.sub, pk.stp st4, pk', e1, k4.aft (p.shift (((st1.trans st2 fun _ h => h).trans st3 fun _ h => h).trans st4 fun _ h => h) fun _ h => h)⟩
        · obtain ⟨_, _, _, _, e, _⟩ := fill1_ok k3 (pd'.stp st3) h7
          cases e
      · obtain ⟨_, _, _, _, e, _⟩ := fill1_ok k2 (pd.stp st2) h5
        cases e
    · exact OpdR.exc k1 h3 (PX.shift p st1 fun _ h => h)
  · exact OpdR.exc k h1 p
/-- a value as a test -/
theorem tt_of {m : M D} {σ : L2.St} {H : Hp} {Q : Bool → Hp → Prop} (h : TtR g E m σ H Q) : EvR g E m σ H fun x H1 => ∃ c, x = .bl c ∧ Q c H1 := by
  obtain ⟨Φ, ρ, s, fs, F, r, k, hm, p⟩ := h
  cases r with
  | exc x => exact EvR.exc k hm p
  | val d s' =>
    obtain ⟨b, rfl, q⟩ := p
    refine EvR.val k hm fun Φ' H' ρ' v f fs' st ok vl => ?_
    have e := vl.rep
    simp only [Rep] at e
    obtain ⟨rfl, rfl⟩ := e
    exact ⟨b, rfl, q Φ' H' ρ' fs' st ok.drop⟩
theorem pt_of {e : Expr} {m : M D} (h : PE X e (EvR g E m)) (he : ∀ whole, isTrue e X.env whole = (do let v ← whole; standAt e.pos; holding [v] (truthy v))) : PT X e (TtR g E m) := pt_imp (pt_val h he) fun σ H Q q => tt_of q
/-- and, or, not -/
theorem tt_and {m m' : M D} {σ : L2.St} {H : Hp} {Q : Bool → Hp → Prop} (h : TtR g E (bnd m fun d => match d with | .bl true => m' | .bl false => ret (.bl false) | _ => stuck) σ H Q) : tAnd (TtR g E m) (TtR g E m') σ H Q := by
  obtain ⟨Φ, ρ, s, fs, F, r, k, hm, p⟩ := h
  rcases bnd_some hm with ⟨d, s1, h1, h2⟩ | ⟨x, h1, rfl⟩
  · split at h2
    · refine TtR.val k h1 fun Φ1 H1 ρ1 fs1 st1 k1 => ?_
      refine iteT ⟨Φ1, ρ1, s1, fs1, F, r, k1, h2, ?_⟩
      cases r with
      | exc x => exact PX.shift p st1 fun _ h => h
      | val d' s' =>
        obtain ⟨b, rfl, q⟩ := p
        exact ⟨b, rfl, fun Φ' H' ρ' fs' st ok => q Φ' H' ρ' fs' (st1.trans st fun _ h => h) ok⟩
    · cases ret_some h2
      refine TtR.val k h1 fun Φ1 H1 ρ1 fs1 st1 k1 => ?_
      obtain ⟨b, e, q⟩ := p
      cases e
      exact iteF (q Φ1 H1 ρ1 fs1 st1 k1)
    · cases h2
  · exact TtR.exc k h1 p
theorem tt_or {m m' : M D} {σ : L2.St} {H : Hp} {Q : Bool → Hp → Prop} (h : TtR g E (bnd m fun d => match d with | .bl true => ret (.bl true) | .bl false => m' | _ => stuck) σ H Q) : tOr (TtR g E m) (TtR g E m') σ H Q := by
  obtain ⟨Φ, ρ, s, fs, F, r, k, hm, p⟩ := h
  rcases bnd_some hm with ⟨d, s1, h1, h2⟩ | ⟨x, h1, rfl⟩
  · split at h2
    · cases ret_some h2
      refine TtR.val k h1 fun Φ1 H1 ρ1 fs1 st1 k1 => ?_
      obtain ⟨b, e, q⟩ := p
      cases e
      exact iteT (q Φ1 H1 ρ1 fs1 st1 k1)
    · refine TtR.val k h1 fun Φ1 H1 ρ1 fs1 st1 k1 => ?_
      refine iteF ⟨Φ1, ρ1, s1, fs1, F, r, k1, h2, ?_⟩
      cases r with
      | exc x => exact PX.shift p st1 fun _ h => h
      | val d' s' =>
        obtain ⟨b, rfl, q⟩ := p
        exact ⟨b, rfl, fun Φ' H' ρ' fs' st ok => q Φ' H' ρ' fs' (st1.trans st fun _ h => h) ok⟩
    · cases h2
  · exact TtR.exc k h1 p
theorem tt_not {m : M D} {σ : L2.St} {H : Hp} {Q : Bool → Hp → Prop} (h : TtR g E (bnd m fun d => lift (notD d)) σ H Q) : tNot (TtR g E m) σ H Q := by
  obtain ⟨Φ, ρ, s, fs, F, r, k, hm, p⟩ := h
  rcases bnd_some hm with ⟨d, s1, h1, h2⟩ | ⟨x, h1, rfl⟩
  · obtain ⟨z, e1, rfl⟩ := lift_some h2
    unfold notD at e1
    split at e1
    · cases e1
      refine TtR.val k h1 fun Φ1 H1 ρ1 fs1 st1 k1 => ?_
      obtain ⟨b, e, q⟩ := p
      cases e
      exact q Φ1 H1 ρ1 fs1 st1 k1
    · cases e1
  · exact TtR.exc k h1 p
/-- a bool in hand -/
theorem Vl.isBl {Φ H : Hp} {ρ : List Addr} {b : Bool} {v : V} {f : List Addr} {F : Addr → Prop} (h : Vl g Φ H ρ (.bl b) v f F) : v = .bl b ∧ f = [] := by
  have e := h.rep
  simpa only [Rep] using e
theorem ev_and {m m' : M D} {σ : L2.St} {H : Hp} {Q : VK} (h : EvR g E (bnd m fun d => match d with | .bl true => m' | .bl false => ret (.bl false) | _ => stuck) σ H Q) : tAndV (EvR g E m) (EvR g E m') σ H Q := by
  obtain ⟨Φ, ρ, s, fs, F, r, k, hm, p⟩ := h
  rcases bnd_some hm with ⟨d, s1, h1, h2⟩ | ⟨x, h1, rfl⟩
  · split at h2
    · refine EvR.val k h1 fun Φ1 H1 ρ1 v f fs1 st1 k1 vl => ?_
      obtain ⟨rfl, rfl⟩ := vl.isBl
      exact ⟨true, rfl, iteT ⟨Φ1, ρ1, s1, fs1, F, r, k1.drop, h2, p.shift st1 fun _ h => h⟩⟩
    · cases ret_some h2
      refine EvR.val k h1 fun Φ1 H1 ρ1 v f fs1 st1 k1 vl => ?_
      obtain ⟨rfl, rfl⟩ := vl.isBl
      exact ⟨false, rfl, iteF (p Φ1 H1 ρ1 _ _ fs1 st1 k1 vl)⟩
    · cases h2
  · exact EvR.exc k h1 p
theorem ev_or {m m' : M D} {σ : L2.St} {H : Hp} {Q : VK} (h : EvR g E (bnd m fun d => match d with | .bl true => ret (.bl true) | .bl false => m' | _ => stuck) σ H Q) : tOrV (EvR g E m) (EvR g E m') σ H Q := by
  obtain ⟨Φ, ρ, s, fs, F, r, k, hm, p⟩ := h
  rcases bnd_some hm with ⟨d, s1, h1, h2⟩ | ⟨x, h1, rfl⟩
  · split at h2
    · cases ret_some h2
      refine EvR.val k h1 fun Φ1 H1 ρ1 v f fs1 st1 k1 vl => ?_
      obtain ⟨rfl, rfl⟩ := vl.isBl
      exact ⟨true, rfl, iteT (p Φ1 H1 ρ1 _ _ fs1 st1 k1 vl)⟩
    · refine EvR.val k h1 fun Φ1 H1 ρ1 v f fs1 st1 k1 vl => ?_
      obtain ⟨rfl, rfl⟩ := vl.isBl
      exact ⟨false, rfl, iteF ⟨Φ1, ρ1, s1, fs1, F, r, k1.drop, h2, p.shift st1 fun _ h => h⟩⟩
    · cases h2
  · exact EvR.exc k h1 p
theorem ev_not {m : M D} {σ : L2.St} {H : Hp} {Q : VK} (h : EvR g E (bnd m fun d => lift (notD d)) σ H Q) : tNotV (EvR g E m) σ H Q := by
  obtain ⟨Φ, ρ, s, fs, F, r, k, hm, p⟩ := h
  rcases bnd_some hm with ⟨d, s1, h1, h2⟩ | ⟨x, h1, rfl⟩
  · obtain ⟨z, e1, rfl⟩ := lift_some h2
    unfold notD at e1
    split at e1
    · cases e1
      refine EvR.val k h1 fun Φ1 H1 ρ1 v f fs1 st1 k1 vl => ?_
      obtain ⟨rfl, rfl⟩ := vl.isBl
      exact ⟨_, rfl, p Φ1 H1 ρ1 _ [] fs1 st1 k1 ⟨rep_bl, List.nodup_nil, fun a ha => by cases ha⟩⟩
    · cases e1
  · exact EvR.exc k h1 p
theorem ev_ite {m m1 m2 : M D} {σ : L2.St} {H : Hp} {Q : VK} (h : EvR g E (bnd m fun d => match d with | .bl true => m1 | .bl false => m2 | _ => stuck) σ H Q) : tIf (TtR g E m) (EvR g E m1) (EvR g E m2) σ H Q := by
  obtain ⟨Φ, ρ, s, fs, F, r, k, hm, p⟩ := h
  rcases bnd_some hm with ⟨d, s1, h1, h2⟩ | ⟨x, h1, rfl⟩
  · split at h2
    · exact TtR.val k h1 fun Φ1 H1 ρ1 fs1 st1 k1 => iteT ⟨Φ1, ρ1, s1, fs1, F, r, k1, h2, p.shift st1 fun _ h => h⟩
    · exact TtR.val k h1 fun Φ1 H1 ρ1 fs1 st1 k1 => iteF ⟨Φ1, ρ1, s1, fs1, F, r, k1, h2, p.shift st1 fun _ h => h⟩
    · cases h2
  · exact TtR.exc k h1 p
end
end Den
/-! Den6: argument lists, displays, built-ins called, methods, lists changed. -/
namespace Den
open PySem PySem.Spec L2
structure VlL (g : Gx) (Φ H : Hp) (ρ : List Addr) (ds : List D) (vs : List V) (f : List Addr) (F : Addr → Prop) : Prop where
  rep : RepL g Φ H ρ ds vs f
  nd : f.Nodup
  out : ∀ a ∈ f, ¬ F a
inductive Pends (g : Gx) (Φ : Hp) (ρ : List Addr) (σ : L2.St) : Cs → List (Option D) → List V → Prop
  | nil : Pends g Φ ρ σ .nil [] []
  | cons {a : C} {as : Cs} {o : Option D} {os : List (Option D)} {v : V} {vs : List V} : Pend g Φ ρ σ a o v → Pends g Φ ρ σ as os vs → Pends g Φ ρ σ (.cons a as) (o :: os) (v :: vs)
def EvsR (g : Gx) (E : XK) (m : M (List D)) : TA := fun σ H Q => ∃ Φ ρ s fs F r, Ok g Φ H ρ s σ fs F ∧ m s = some r ∧ match r with
  | .val ds s' => ∀ Φ' H' ρ' vs f fs', Stp Φ H ρ F Φ' H' ρ' → Ok g Φ' H' ρ' s' σ fs' (fadd f F) → VlL g Φ' H' ρ' ds vs f F → Q vs H'
  | .exc x => PX g E Φ H ρ F x
def PksR (g : Gx) (E : XK) (cs : Cs) (m : M (List (Option D))) : TA := fun σ H Q => ∃ Φ ρ s fs F r, Ok g Φ H ρ s σ fs F ∧ m s = some r ∧ match r with
  | .val os s' => ∀ Φ' H' ρ' vs fs', Stp Φ H ρ F Φ' H' ρ' → Ok g Φ' H' ρ' s' σ fs' F → Pends g Φ' ρ' σ cs os vs → Q vs H'
  | .exc x => PX g E Φ H ρ F x
def FzR (g : Gx) (E : XK) (m : M (List D)) : TA := fun σ H Q => ∃ Φ ρ s fs F r, Ok g Φ H ρ s σ fs F ∧ m s = some r ∧ match r with
  | .val ds s' => ∀ Φ' H' ρ' vs fs', Stp Φ H ρ F Φ' H' ρ' → Ok g Φ' H' ρ' s' σ fs' F → RepL g Φ' (fun _ => none) ρ' ds vs [] → Q vs H'
  | .exc x => PX g E Φ H ρ F x
section
variable {g : Gx} {E : XK} {X : Cx} {Φ Φ1 Φ' H H1 H' : Hp} {ρ ρ1 ρ' : List Addr} {F F1 : Addr → Prop} {σ : L2.St} {s : S} {fs : Ix → List Addr} {Q : VK}
theorem RepL.any {ds : List D} {vs : List V} (r : RepL g Φ H ρ ds vs []) : RepL g Φ H' ρ ds vs [] := r.nil_mono fun _ _ h => h
theorem Rep.any {d : D} {v : V} (r : Rep g Φ H ρ d v []) : Rep g Φ H' ρ d v [] := r.nil_mono fun _ _ h => h
theorem RepL.sh {ds : List D} {vs : List V} (r : RepL g Φ H ρ ds vs []) (st : Stp Φ H1 ρ F Φ' H' ρ') : RepL g Φ' H ρ' ds vs [] := RepL.mono st.ext st.pre ds vs [] (fun a ha => by cases ha) r
theorem Rep.sh {d : D} {v : V} (r : Rep g Φ H ρ d v []) (st : Stp Φ H1 ρ F Φ' H' ρ') : Rep g Φ' H ρ' d v [] := Rep.mono st.ext st.pre d v [] (fun a ha => by cases ha) r
theorem Pends.stp {cs : Cs} {os : List (Option D)} {vs : List V} (p : Pends g Φ ρ σ cs os vs) (st : Stp Φ H ρ F Φ' H' ρ') : Pends g Φ' ρ' σ cs os vs := by
  induction p with
  | nil => exact .nil
  | cons p _ ih => exact .cons (p.stp st) ih
theorem Ok.nof (k : Ok g Φ H ρ s σ fs F) : Ok g Φ H ρ s σ fs (fadd [] F) := k.wide (fun a ha => by cases ha) fun a ha => by cases ha
theorem evs_nil {σ : L2.St} {H : Hp} {Q : List V → Hp → Prop} (h : EvsR g E (ret []) σ H Q) : tNil σ H Q := by
  obtain ⟨Φ, ρ, s, fs, F, r, k, hm, p⟩ := h
  cases ret_some hm
  exact p Φ H ρ [] [] fs (Stp.refl k.nF) k.nof ⟨by simp only [RepL]; exact ⟨trivial, trivial⟩, List.nodup_nil, fun a ha => by cases ha⟩
theorem evs_cons {m : M D} {m' : M (List D)} {σ : L2.St} {H : Hp} {Q : List V → Hp → Prop} (h : EvsR g E (bnd m fun d => bnd m' fun ds => ret (d :: ds)) σ H Q) : tCons (EvR g E m) (EvsR g E m') σ H Q := by
  obtain ⟨Φ, ρ, s, fs, F, r, k, hm, p⟩ := h
  rcases bnd_some hm with ⟨d, s1, h1, h2⟩ | ⟨x, h1, rfl⟩
  · refine EvR.val k h1 fun Φ1 H1 ρ1 v f fs1 st1 k1 vl => ?_
    rcases bnd_some h2 with ⟨ds, s2, h3, h4⟩ | ⟨x, h3, rfl⟩
    · cases ret_some h4
      refine ⟨Φ1, ρ1, s1, fs1, fadd f F, _, k1, h3, fun Φ2 H2 ρ2 vs f' fs2 st2 k2 vs2 => ?_⟩
      have m1 : ∀ a, fadd (f ++ f') F a → fadd f' (fadd f F) a := fun a ha => by
        rcases ha with ha | ha
        · rcases List.mem_append.mp ha with ha | ha
          · exact .inr (.inl ha)
          · exact .inl ha
        · exact .inr (.inr ha)
      refine p Φ2 H2 ρ2 (v :: vs) (f ++ f') fs2 (st1.trans st2 fun _ h => .inr h) (k2.less m1) ⟨?_, ?_, fun a ha => ?_⟩
      · simp only [RepL]
        exact ⟨v, vs, f, f', rfl, rfl, vl.rep.stp st2 fun a ha => .inl ha, vs2.rep⟩
      · exact List.nodup_append.mpr ⟨vl.nd, vs2.nd, fun a ha b hb e => vs2.out b hb (.inl (e ▸ ha))⟩
      · rcases List.mem_append.mp ha with ha | ha
        · exact vl.out a ha
        · exact fun z => vs2.out a ha (.inr z)
    · exact ⟨Φ1, ρ1, s1, fs1, fadd f F, _, k1, h3, PX.shift p st1 fun _ h => .inr h⟩
  · exact EvR.exc k h1 p
theorem fz_nil {σ : L2.St} {H : Hp} {Q : List V → Hp → Prop} (h : FzR g E (ret []) σ H Q) : tNil σ H Q := by
  obtain ⟨Φ, ρ, s, fs, F, r, k, hm, p⟩ := h
  cases ret_some hm
  exact p Φ H ρ [] fs (Stp.refl k.nF) k (by simp only [RepL]; exact ⟨trivial, trivial⟩)
theorem fz_cons {m : M D} {m' : M (List D)} {σ : L2.St} {H : Hp} {Q : List V → Hp → Prop} (h : FzR g E (bnd m fun d => bnd m' fun ds => ret (fz d :: ds)) σ H Q) : tCons (EvR g E m) (FzR g E m') σ H Q := by
  obtain ⟨Φ, ρ, s, fs, F, r, k, hm, p⟩ := h
  rcases bnd_some hm with ⟨d, s1, h1, h2⟩ | ⟨x, h1, rfl⟩
  · refine EvR.val k h1 fun Φ1 H1 ρ1 v f fs1 st1 k1 vl => ?_
    obtain ⟨k1', st1', rv⟩ := k1.frz vl
    have st := st1.trans st1' fun _ h => h
    rcases bnd_some h2 with ⟨ds, s2, h3, h4⟩ | ⟨x, h3, rfl⟩
    · cases ret_some h4
      refine ⟨_, ρ1, s1, fs1, F, _, k1', h3, fun Φ2 H2 ρ2 vs fs2 st2 k2 vs2 => ?_⟩
      refine p Φ2 H2 ρ2 (v :: vs) fs2 (st.trans st2 fun _ h => h) k2 ?_
      simp only [RepL]
      exact ⟨v, vs, [], [], rfl, rfl, (rv.sh st2).any, vs2⟩
    · exact ⟨_, ρ1, s1, fs1, F, _, k1', h3, PX.shift p st fun _ h => h⟩
  · exact EvR.exc k h1 p
theorem pks_nil {σ : L2.St} {H : Hp} {Q : List V → Hp → Prop} (h : PksR g E .nil (ret []) σ H Q) : tNil σ H Q := by
  obtain ⟨Φ, ρ, s, fs, F, r, k, hm, p⟩ := h
  cases ret_some hm
  exact p Φ H ρ [] fs (Stp.refl k.nF) k .nil
theorem pks_cons {a : C} {as : Cs} {m : M (Option D)} {m' : M (List (Option D))} {σ : L2.St} {H : Hp} {Q : List V → Hp → Prop} (h : PksR g E (.cons a as) (bnd m fun o => bnd m' fun os => ret (o :: os)) σ H Q) :
    tCons (OpdR g E a m) (PksR g E as m') σ H Q := by
  obtain ⟨Φ, ρ, s, fs, F, r, k, hm, p⟩ := h
  rcases bnd_some hm with ⟨d, s1, h1, h2⟩ | ⟨x, h1, rfl⟩
  · refine OpdR.val k h1 fun Φ1 H1 ρ1 v fs1 st1 k1 pd => ?_
    rcases bnd_some h2 with ⟨ds, s2, h3, h4⟩ | ⟨x, h3, rfl⟩
    · cases ret_some h4
      exact ⟨Φ1, ρ1, s1, fs1, F, _, k1, h3, fun Φ2 H2 ρ2 vs fs2 st2 k2 vs2 => p Φ2 H2 ρ2 (v :: vs) fs2 (st1.trans st2 fun _ h => h) k2 (.cons (pd.stp st2) vs2)⟩
    · exact ⟨Φ1, ρ1, s1, fs1, F, _, k1, h3, PX.shift p st1 fun _ h => h⟩
  · exact OpdR.exc k h1 p
theorem opd_fz {c : C} {e : Expr} {m : M D} (h : PE X e (EvR g E m)) : PE X e (OpdR g E c (bnd m fun d => ret (some (fz d)))) := pe_imp h fun σ H Q h => by
  obtain ⟨Φ, ρ, s, fs, F, r, k, hm, p⟩ := h
  rcases bnd_some hm with ⟨d, s1, h1, h2⟩ | ⟨x, h1, rfl⟩
  · cases ret_some h2
    refine EvR.val k h1 fun Φ' H' ρ' v f fs' st ok vl => ?_
    obtain ⟨ok2, st2, rp⟩ := ok.frz vl
    exact p _ _ _ v fs' (st.trans st2 fun _ h => h) ok2 ⟨⟨d, rfl⟩, rp.any⟩
  · exact EvR.exc k h1 p
theorem opd_has {i : Nat} {e : Expr} (h : PE X e (tVar i)) : PE X e (OpdR g E (.var i) (hasV (.var i))) := opd_var (m := stuck) h
theorem fillP_ok : ∀ {as : Cs} {os : List (Option D)} {vs : List V} {Φ H : Hp} {s : S} {fs : Ix → List Addr} {r : Ex (List D)}, Ok g Φ H ρ s σ fs F → Pends g Φ ρ σ as os vs → fillP as os s = some r →
    ∃ ds s' Φ' fs', r = .val ds s' ∧ Stp Φ H ρ F Φ' H ρ ∧ Ok g Φ' H ρ s' σ fs' F ∧ PkRs g Φ' H ρ ds vs
  | _, _, _, Φ, H, s, fs, r, k, .nil, h => by
    cases ret_some h
    exact ⟨[], s, Φ, fs, rfl, Stp.refl k.nF, k, .nil⟩
  | _, _, _, Φ, H, s, fs, r, k, .cons pd ps, h => by
    unfold fillP at h
    rcases bnd_some h with ⟨d, s1, h1, h2⟩ | ⟨x, h1, rfl⟩
    · obtain ⟨_, _, Φ1, fs1, e, st1, k1, pk⟩ := fill1_ok k pd h1
      cases e
      rcases bnd_some h2 with ⟨ds, s2, h3, h4⟩ | ⟨x, h3, rfl⟩
      · cases ret_some h4
        obtain ⟨_, _, Φ2, fs2, e, st2, k2, pks⟩ := fillP_ok k1 (ps.stp st1) h3
        cases e
        exact ⟨_, _, Φ2, fs2, rfl, st1.trans st2 fun _ h => h, k2, .cons (pk.stp st2) pks⟩
      · obtain ⟨_, _, _, _, e, _⟩ := fillP_ok k1 (ps.stp st1) h3
        cases e
    · obtain ⟨_, _, _, _, e, _⟩ := fill1_ok k pd h1
      cases e
theorem bi_to {as : Cs} {m : M (List (Option D))} {n : List D → Option D} {σ : L2.St} {H : Hp} {Q : VK} (h : EvR g E (bnd m fun os => bnd (fillP as os) fun ds => lift (n ds)) σ H Q) : tCB (CbV g n) (PksR g E as m) σ H Q := by
  obtain ⟨Φ, ρ, s, fs, F, r, k, hm, p⟩ := h
  rcases bnd_some hm with ⟨os, s1, h1, h2⟩ | ⟨x, h1, rfl⟩
  · refine ⟨Φ, ρ, s, fs, F, _, k, h1, fun Φ1 H1 ρ1 vs fs1 st1 k1 ps => ?_⟩
    rcases bnd_some h2 with ⟨ds, s2, h3, h4⟩ | ⟨x, h3, rfl⟩
    · obtain ⟨_, _, Φ2, fs2, e, st2, k2, pks⟩ := fillP_ok k1 ps h3
      cases e
      obtain ⟨z, e1, rfl⟩ := lift_some h4
      exact ⟨Φ2, ρ1, ds, z, k2.sub, pks, e1, k2.aft (p.shift (st1.trans st2 fun _ h => h) fun _ h => h)⟩
    · obtain ⟨_, _, _, _, e, _⟩ := fillP_ok k1 ps h3
      cases e
  · exact ⟨Φ, ρ, s, fs, F, _, k, h1, p⟩
/-! ### displays -/
def tTupF (t : TA) : TE := fun σ H Q => t σ H fun xs H1 => xs.length ≤ sizeLine ∧ ∀ (p : Addr) (o : Obj), H1 p = none → o.dict = none → Q (.ref p) (upd H1 p (.frz o (.tup xs)))
theorem pe_tupF {es : List Expr} {pos : Pos} {t : TA} {x1 : Nat} (h : PA X es t) : PE X (.Tuple es x1 pos) (tTupF t) :=
  ⟨fun pins s σ H Q I hq => wpAny_Tuple_spliced (L2.thn (h.run pos pins s σ H _ I hq) fun us s1 z => by
    obtain ⟨xs, H1, I1, r, hz, q⟩ := z
    refine ⟨by rw [← r.length]; exact hz, .ref s1.heap.objs.size, _, laidT (t' := s1.toks) I1 (fun b u e => Heap.get?_push_of_some _ e) (Nat.le_refl _) (Heap.get?_push_size _ rfl) r hz, rfl, ?_⟩
    exact q _ _ (I1.hok.fresh (Nat.le_refl _)) rfl)⟩
abbrev PlnO (u : HO) : Prop := Pl u
theorem pln_lst {vs : List V} : PlnO (.lst vs) := ⟨fun _ => HO.noConfusion, fun _ => HO.noConfusion⟩
theorem tabs_wr {T : List (Addr × Str)} {a : Addr} {u o : HO} (t : LamX.Tabs T H) (hu : H a = some u) (hp : PlnO u) : LamX.Tabs T (upd H a o) := fun p hpT => by
  obtain ⟨ps, h1, h2, h3⟩ := t p hpT
  have n1 : p.1 ≠ a := fun z => by rw [z, hu] at h1; cases h1; exact hp.1 ps rfl
  refine ⟨ps, by rw [upd_ne n1]; exact h1, h2, fun pos cv hc => ?_⟩
  obtain ⟨c, e1, e2⟩ := h3 pos cv hc
  have n2 : c ≠ a := fun z => by
    rw [z, hu] at e2
    unfold LamX.CodeO at e2
    exact hp.2 _ (Option.some.inj e2)
  exact ⟨c, e1, by rw [upd_ne n2]; exact e2⟩
/-- a new object that holds values in hand -/
theorem Ok.lay {p : Addr} {o : HO} (k : Ok g Φ H ρ s σ fs F) (n : H p = none) (nt : Pl o) : Ok g Φ (upd H p o) ρ s σ fs (fadd [p] F) ∧ Stp Φ H ρ F Φ (upd H p o) ρ ∧ ¬ F p ∧ Φ p = none := by
  have w : Grow g Φ H Φ (upd H p o) := Grow.own k.sub n
  have nf : ¬ F p := fun z => by obtain ⟨u, e⟩ := (k.fr p z).ex; rw [n] at e; cases e
  refine ⟨(k.grow w).wide (fun a ha => ?_) fun a ha x hx => ?_, k.gstp w, nf, sub_none k.sub n⟩
  · simp only [List.mem_singleton] at ha
    subst ha
    exact ⟨sub_none k.sub n, _, upd_same, nt⟩
  · simp only [List.mem_singleton] at ha
    subst ha
    obtain ⟨u, e⟩ := (k.at x a hx).ex
    rw [n] at e; cases e
theorem Ok.layS {p : Addr} {o : HO} (k : Ok g Φ H ρ s σ fs F) (n : H p = none) (nt : ∀ ps, o ≠ .tbl ps) : Ok g (upd Φ p o) (upd H p o) ρ s σ fs F ∧ Stp Φ H ρ F (upd Φ p o) (upd H p o) ρ :=
  ⟨k.grow (Grow.shared k.sub n nt), k.gstp (Grow.shared k.sub n nt)⟩
theorem tup_to {m : M (List D)} {σ : L2.St} {H : Hp} {Q : VK} (h : EvR g E (bnd m fun ds => if ds.length ≤ lim then ret (.tup ds) else stuck) σ H Q) : tTupF (EvsR g E m) σ H Q := by
  obtain ⟨Φ, ρ, s, fs, F, r, k, hm, p⟩ := h
  rcases bnd_some hm with ⟨ds, s1, h1, h2⟩ | ⟨x, h1, rfl⟩
  · refine ⟨Φ, ρ, s, fs, F, _, k, h1, fun Φ1 H1 ρ1 vs f fs1 st1 k1 vl => ?_⟩
    have hl := RepL.len _ _ _ vl.rep
    split at h2
    · rename_i hz
      cases ret_some h2
      refine ⟨by rw [hl]; exact Nat.le_trans hz lim_le, fun q o hq hd => ?_⟩
      obtain ⟨k2, st2⟩ := k1.layS (o := .frz o (.tup vs)) hq fun _ => HO.noConfusion
      refine p _ _ ρ1 (.ref q) f fs1 (st1.trans st2 fun _ h => .inr h) k2 ⟨?_, vl.nd, vl.out⟩
      simp only [Rep]
      exact ⟨q, vs, rfl, .inl ⟨o, upd_same, hd⟩, vl.rep.stp st2 fun a ha => .inl ha⟩
    · cases h2
  · exact ⟨Φ, ρ, s, fs, F, _, k, h1, p⟩
theorem lst_to {m : M (List D)} {σ : L2.St} {H : Hp} {Q : VK} (h : EvR g E (bnd m fun ds => if ds.length ≤ lim then ret (.lst .own ds) else stuck) σ H Q) : tLst (EvsR g E m) σ H Q := by
  obtain ⟨Φ, ρ, s, fs, F, r, k, hm, p⟩ := h
  rcases bnd_some hm with ⟨ds, s1, h1, h2⟩ | ⟨x, h1, rfl⟩
  · refine ⟨Φ, ρ, s, fs, F, _, k, h1, fun Φ1 H1 ρ1 vs f fs1 st1 k1 vl => ?_⟩
    have hl := RepL.len _ _ _ vl.rep
    split at h2
    · rename_i hz
      cases ret_some h2
      refine ⟨by rw [hl]; exact Nat.le_trans hz lim_le, fun q hq => ?_⟩
      obtain ⟨k2, st2, nf, np⟩ := k1.lay (o := .lst vs) hq pln_lst
      refine p _ _ ρ1 (.ref q) (q :: f) fs1 (st1.trans st2 fun _ h => .inr h) (k2.less fun a ha => ?_) ⟨?_, ?_, fun a ha => ?_⟩
      · rcases ha with ha | ha
        · rcases List.mem_cons.mp ha with rfl | ha
          · exact .inl List.mem_cons_self
          · exact .inr (.inl ha)
        · exact .inr (.inr ha)
      · simp only [Rep]
        exact ⟨q, vs, f, rfl, upd_same, np, rfl, vl.rep.stp st2 fun a ha => .inl ha⟩
      · exact List.nodup_cons.mpr ⟨fun z => nf (.inl z), vl.nd⟩
      · rcases List.mem_cons.mp ha with rfl | ha
        · exact fun z => nf (.inr z)
        · exact vl.out a ha
    · cases h2
  · exact ⟨Φ, ρ, s, fs, F, _, k, h1, p⟩
/-! ### a list in its slot is changed -/
theorem RepL.pick : ∀ (ds : List D) (vs : List V) (f : List Addr) (i : Nat) (d : D), RepL g Φ H ρ ds vs f → ds[i]? = some d →
    ∃ v f1 f2, vs[i]? = some v ∧ Rep g Φ H ρ d v f1 ∧ RepL g Φ H ρ (ds.eraseIdx i) (vs.eraseIdx i) f2 ∧ f.Perm (f1 ++ f2)
  | [], _, _, i, d, _, h => by simp at h
  | x :: ds, _, _, 0, d, r, h => by
    simp only [RepL] at r
    obtain ⟨v, vs', f1, f2, rfl, rfl, r1, r2⟩ := r
    simp at h
    subst h
    exact ⟨v, f1, f2, rfl, r1, r2, List.Perm.refl _⟩
  | x :: ds, _, _, i + 1, d, r, h => by
    simp only [RepL] at r
    obtain ⟨v, vs', f1, f2, rfl, rfl, r1, r2⟩ := r
    obtain ⟨w, g1, g2, e1, q1, q2, q3⟩ := RepL.pick ds vs' f2 i d r2 (by simpa using h)
    refine ⟨w, g1, f1 ++ g2, by simpa using e1, q1, ?_, ?_⟩
    · simp only [List.eraseIdx_cons_succ, RepL]
      exact ⟨v, _, f1, g2, rfl, rfl, r1, q2⟩
    · refine (List.Perm.append_left f1 q3).trans ?_
      rw [← List.append_assoc, ← List.append_assoc]
      exact List.Perm.append_right g2 List.perm_append_comm
theorem Ok.wr {a : Addr} {o : HO} {f : List Addr} (k : Ok g Φ H ρ s σ fs (fadd f F)) (ha : a ∈ f) {u : HO} (hu : H a = some u) (hp : PlnO u) (ho : PlnO o) : Ok g Φ (upd H a o) ρ s σ fs (fadd f F) := by
  have n : Φ a = none := (k.fr a (.inl ha)).1
  refine ⟨fun b u e => ⟨(k.sub b u e).1, ?_⟩, tabs_wr k.tab hu hp, fun b hb => ⟨(k.fr b hb).1, ?_⟩, k.len, fun i d q => ?_, k.slot0, k.obl, fun m x q => ?_, k.obj0, k.nd, k.sep, k.out⟩
  · have hne : b ≠ a := fun z => by rw [z, n] at e; cases e
    rw [upd_ne hne]; exact (k.sub b u e).2
  · by_cases e : b = a
    · subst e; exact ⟨_, upd_same, ho⟩
    · rw [upd_ne e]; exact (k.fr b hb).2
  · obtain ⟨v, e1, r⟩ := k.slot i d q
    exact ⟨v, e1, Rep.mono (fun _ _ h => h) (List.prefix_refl ρ) d v _ (fun b hb => ⟨upd_ne fun z => k.out _ b hb (.inl (z ▸ ha)), (k.at _ b hb).1⟩) r⟩
  · obtain ⟨b, e1, dx, vs, f', h1, h2, p1, p2, ne, ef, r⟩ := k.obj m x q
    have hx : ∀ c ∈ fs (.inr m), c ≠ a := fun c hc z => k.out _ c hc (.inl (z ▸ ha))
    rw [ef] at hx
    exact ⟨b, e1, dx, vs, f', by rw [upd_ne (hx b List.mem_cons_self)]; exact h1, by rw [upd_ne (hx dx (List.mem_cons_of_mem _ List.mem_cons_self))]; exact h2, p1, p2, ne, ef,
      RepL.mono (fun _ _ h => h) (List.prefix_refl ρ) _ _ _ (fun c hc => ⟨upd_ne (hx c (List.mem_cons_of_mem _ (List.mem_cons_of_mem _ hc))), (RepL.at _ _ _ r c hc).1⟩) r⟩
theorem wr_stp {a : Addr} {o : HO} (k : ∀ b, F b → Φ b = none) (ha : ¬ F a) : Stp Φ H ρ F Φ (upd H a o) ρ := ⟨fun _ _ h => h, List.prefix_refl ρ, fun b hb => ⟨upd_ne fun z => ha (z ▸ hb), k b hb⟩⟩
/-- the list in slot i: written, an item handed out -/
theorem Ok.chg {i : Nat} {es es' : List D} (k : Ok g Φ H ρ s σ fs F) (q : s.sl[i]? = some (some (.lst .own es))) :
    ∃ a vs fl, σ[i]? = some (some (.ref a)) ∧ H a = some (.lst vs) ∧ RepL g Φ H ρ es vs fl ∧
      ∀ (vs' : List V) (y : D) (w : V) (fy fr : List Addr), (∀ H', (∀ b ∈ fl, H' b = H b) → Rep g Φ H' ρ y w fy ∧ RepL g Φ H' ρ es' vs' fr) → fl.Perm (fy ++ fr) →
        PV g E Φ H ρ F σ (.val y (setS s i (some (.lst .own es')))) Q → Q w (upd H a (.lst vs')) := by
  obtain ⟨v, e1, r, k2⟩ := k.take q
  have hi : i < s.sl.length := (List.getElem?_eq_some_iff.mp q).1
  obtain ⟨rr, nd, out⟩ := r
  simp only [Rep] at rr
  obtain ⟨a, vs, f', rfl, ha, na, ef, rl⟩ := rr
  rw [ef] at nd out k2
  refine ⟨a, vs, f', e1, ha, rl, fun vs' y w fy fr hr hp p => ?_⟩
  have nd' := List.nodup_cons.mp nd
  have k3 := k2.wr (o := .lst vs') List.mem_cons_self ha pln_lst pln_lst
  have mf : ∀ b, b ∈ f' ↔ b ∈ fy ∨ b ∈ fr := fun b => by rw [hp.mem_iff]; exact List.mem_append
  have ndp : (fy ++ fr).Nodup := hp.nodup_iff.mp nd'.2
  obtain ⟨n1, n2, n3⟩ := List.nodup_append.mp ndp
  obtain ⟨ry, rr⟩ := hr (upd H a (.lst vs')) fun b hb => upd_ne fun z => nd'.1 (z ▸ hb)
  have k4 : Ok g Φ (upd H a (.lst vs')) ρ { s with sl := s.sl.set i none } σ (updI fs (.inl i) []) (fadd (a :: fr) (fadd fy F)) := k3.less fun b hb => by
    rcases hb with hb | hb | hb
    · rcases List.mem_cons.mp hb with rfl | hb
      · exact .inl List.mem_cons_self
      · exact .inl (List.mem_cons_of_mem _ ((mf b).mpr (.inr hb)))
    · exact .inl (List.mem_cons_of_mem _ ((mf b).mpr (.inl hb)))
    · exact .inr hb
  have vl : Vl g Φ (upd H a (.lst vs')) ρ (.lst .own es') (.ref a) (a :: fr) (fadd fy F) := by
    refine ⟨?_, List.nodup_cons.mpr ⟨fun z => nd'.1 ((mf a).mpr (.inr z)), n2⟩, fun b hb z => ?_⟩
    · simp only [Rep]
      exact ⟨a, vs', fr, rfl, upd_same, na, rfl, rr⟩
    · rcases z with z | z
      · rcases List.mem_cons.mp hb with rfl | hb
        · exact nd'.1 ((mf b).mpr (.inl z))
        · exact n3 b z b hb rfl
      · rcases List.mem_cons.mp hb with rfl | hb
        · exact out b List.mem_cons_self z
        · exact out b (List.mem_cons_of_mem _ ((mf b).mpr (.inr hb))) z
  have k5 := k4.put (i := i) vl (by simpa using hi) e1
  simp only [List.set_set] at k5
  exact p _ _ ρ w fy _ (wr_stp k.nF (out a List.mem_cons_self)) k5 ⟨ry, n1, fun b hb => out b (List.mem_cons_of_mem _ ((mf b).mpr (.inl hb)))⟩
end
end Den
/-! Den7: defs called, methods of built-ins. -/
namespace Den
open PySem PySem.Spec L2
def outsSl : List Md → List D → List (Option D)
  | [], _ => []
  | .val :: ms, ds => none :: outsSl ms ds
  | .io :: ms, [] => none :: outsSl ms []
  | .io :: ms, d :: ds => some d :: outsSl ms ds
/-- a def's promise: it does what run says -/
def spD (g : Gx) (F : Fn) : Sp := fun vs H Q E => ∃ Φ ρ ds os fs Fr r, Ok g Φ H ρ ⟨ds.map some, os⟩ (vs.map some) fs Fr ∧ ds.length = F.io.length ∧ F.run ds os = some r ∧ match r with
  | .ret d outs os' => ∀ Φ' H' ρ' v f fs', Stp Φ H ρ Fr Φ' H' ρ' → Ok g Φ' H' ρ' ⟨outsSl F.io outs, os'⟩ (vs.map some) fs' (fadd f Fr) → Vl g Φ' H' ρ' d v f Fr → Q v H'
  | .exc x => PX g E Φ H ρ Fr x
def LateOk : List Md → List (Option D) → Prop
  | [], [] => True
  | .val :: ms, o :: os => (∃ d, o = some d) ∧ LateOk ms os
  | .io :: ms, o :: os => o = none ∧ LateOk ms os
  | _, _ => False
section
variable {g : Gx} {E : XK} {X : Cx} {Φ Φ1 Φ' H H1 H' : Hp} {ρ ρ1 ρ' : List Addr} {F F1 : Addr → Prop} {σ : L2.St} {s : S} {fs : Ix → List Addr} {Q : VK}
theorem evOps_late {Γ : Tb} : ∀ (ms : List Md) (as : Cs) (s : S) (os : List (Option D)) (s' : S), evOps Γ ms as s = some (.val os s') → LateOk ms os
  | [], .nil, s, os, s', h => by simp only [evOps] at h; cases ret_some h; exact trivial
  | [], .cons _ _, s, os, s', h => by simp [evOps, stuck] at h
  | _ :: _, .nil, s, os, s', h => by simp [evOps, stuck] at h
  | .val :: ms, .cons a as, s, os, s', h => by
    simp only [evOps] at h
    rcases bnd_some h with ⟨o, s1, h1, h2⟩ | ⟨x, h1, e⟩
    · rcases bnd_some h2 with ⟨os', s2, h3, h4⟩ | ⟨x, h3, e⟩
      · cases ret_some h4
        refine ⟨?_, evOps_late ms as _ _ _ h3⟩
        rcases bnd_some h1 with ⟨d, s3, h5, h6⟩ | ⟨x, h5, e⟩
        · cases ret_some h6; exact ⟨_, rfl⟩
        · cases e
      · cases e
    · cases e
  | .io :: ms, .cons a as, s, os, s', h => by
    simp only [evOps] at h
    rcases bnd_some h with ⟨o, s1, h1, h2⟩ | ⟨x, h1, e⟩
    · rcases bnd_some h2 with ⟨os', s2, h3, h4⟩ | ⟨x, h3, e⟩
      · cases ret_some h4
        refine ⟨?_, evOps_late ms as _ _ _ h3⟩
        unfold hasV at h1
        split at h1
        · split at h1
          · cases h1; rfl
          · cases h1
        · cases h1
      · cases e
    · cases e
/-- arguments in hand: each with its own addresses -/
structure Args (g : Gx) (Φ H : Hp) (ρ : List Addr) (ds : List D) (vs : List V) (fa : Nat → List Addr) (F : Addr → Prop) : Prop where
  len : ds.length = vs.length
  rep : ∀ (j : Nat) (d : D), ds[j]? = some d → ∃ v, vs[j]? = some v ∧ Rep g Φ H ρ d v (fa j)
  nil : ∀ j, ds.length ≤ j → fa j = []
  nd : ∀ j, (fa j).Nodup
  sep : ∀ j k a, a ∈ fa j → a ∈ fa k → j = k
  out : ∀ j a, a ∈ fa j → ¬ F a
def gof (fa : Nat → List Addr) (F : Addr → Prop) : Addr → Prop := fun a => (∃ j, a ∈ fa j) ∨ F a
def consF (f : List Addr) (fa : Nat → List Addr) : Nat → List Addr
  | 0 => f
  | j + 1 => fa j
theorem fillC_ok : ∀ {as : Cs} {os : List (Option D)} {vs : List V} {s : S} {fs : Ix → List Addr} {F : Addr → Prop} {r : Ex (List D)}, Ok g Φ H ρ s σ fs F → Pends g Φ ρ σ as os vs → fillC as os s = some r →
    ∃ ds s' fa fs', r = .val ds s' ∧ Ok g Φ H ρ s' σ fs' (gof fa F) ∧ Args g Φ H ρ ds vs fa F ∧ s'.os = s.os
  | _, _, _, s, fs, F, r, k, .nil, h => by
    cases ret_some h
    exact ⟨[], s, fun _ => [], fs, rfl, k.less fun a ha => ha.elim (fun ⟨j, z⟩ => by cases z) fun z => z, ⟨rfl, fun j d e => by simp at e, fun _ _ => rfl, fun _ => List.nodup_nil, fun _ _ _ z => (by cases z), fun _ _ z => (by cases z)⟩, rfl⟩
  | _, _, _, s, fs, F, r, k, .cons (a := a) (o := o) (v := v) (vs := vs) pd ps, h => by
    have fin : ∀ (d : D) (s1 : S) (f : List Addr) (fs1 : Ix → List Addr), Ok g Φ H ρ s1 σ fs1 (fadd f F) → Vl g Φ H ρ d v f F → s1.os = s.os → ∀ (as : Cs) (os : List (Option D)), Pends g Φ ρ σ as os vs → bnd (fillC as os) (fun ds => ret (d :: ds)) s1 = some r →
        ∃ ds s' fa fs', r = .val ds s' ∧ Ok g Φ H ρ s' σ fs' (gof fa F) ∧ Args g Φ H ρ ds (v :: vs) fa F ∧ s'.os = s.os := fun d s1 f fs1 k1 vl eo as os ps h2 => by
      rcases bnd_some h2 with ⟨ds, s2, h3, h4⟩ | ⟨x, h3, rfl⟩
      · cases ret_some h4
        obtain ⟨_, _, fa, fs2, e, k2, A, eo2⟩ := fillC_ok k1 ps h3
        cases e
        refine ⟨d :: ds, s2, consF f fa, fs2, rfl, k2.less fun b hb => ?_, ⟨by simp [A.len], fun j d' e => ?_, fun j hj => ?_, fun j => ?_, fun j l b hj hl => ?_, fun j b hj => ?_⟩, eo2.trans eo⟩
        · rcases hb with ⟨j, hj⟩ | hb
          · cases j with
            | zero => exact .inr (.inl hj)
            | succ j => exact .inl ⟨j, hj⟩
          · exact .inr (.inr hb)
        · cases j with
          | zero => simp at e; subst e; exact ⟨v, rfl, vl.rep⟩
          | succ j => exact A.rep j d' (by simpa using e)
        · cases j with
          | zero => simp at hj
          | succ j => exact A.nil j (by simpa using hj)
        · cases j with
          | zero => exact vl.nd
          | succ j => exact A.nd j
        · cases j with
          | zero =>
            cases l with
            | zero => rfl
            | succ l => exact absurd (.inl hj) (A.out l b hl)
          | succ j =>
            cases l with
            | zero => exact absurd (.inl hl) (A.out j b hj)
            | succ l => rw [A.sep j l b hj hl]
        · cases j with
          | zero => exact vl.out b hj
          | succ j => exact fun z => A.out j b hj (.inr z)
      · obtain ⟨_, _, _, _, e, _⟩ := fillC_ok k1 ps h3
        cases e
    unfold fillC at h
    rcases bnd_some h with ⟨d, s1, h1, h2⟩ | ⟨x, h1, rfl⟩
    · cases o with
      | some d0 =>
        cases ret_some h1
        exact fin d s [] fs k.nof ⟨pd.2.any, List.nodup_nil, fun a ha => by cases ha⟩ rfl _ _ ps h2
      | none =>
        obtain ⟨i, rfl, hv⟩ := pd
        simp only [mvV] at h1
        split at h1
        · rename_i q
          cases h1
          obtain ⟨v', e1, vl, ok⟩ := k.take q
          rw [hv] at e1
          cases e1
          exact fin _ _ _ _ ok vl rfl _ _ ps h2
        · cases h1
    · cases o with
      | some d0 => cases ret_some h1
      | none =>
        obtain ⟨i, rfl, hv⟩ := pd
        simp only [mvV] at h1
        split at h1 <;> cases h1
theorem putB_ok {os' : List Ob} : ∀ {as : Cs} {os : List (Option D)} {vs : List V} {ms : List Md} {outs : List D} {sl sl' : List (Option D)} {fo : Nat → List Addr} {fs : Ix → List Addr}, Pends g Φ ρ1 σ as os vs → LateOk ms os → putB (ioSl ms as) outs sl = some sl' →
    Ok g Φ' H' ρ' ⟨sl, os'⟩ σ fs (gof fo F) → (∀ (j : Nat) (d : D), (outsSl ms outs)[j]? = some (some d) → ∃ v, vs[j]? = some v ∧ Rep g Φ' H' ρ' d v (fo j)) → (∀ j, (fo j).Nodup) → (∀ j k a, a ∈ fo j → a ∈ fo k → j = k) → (∀ j a, a ∈ fo j → ¬ F a) →
    ∃ fs', Ok g Φ' H' ρ' ⟨sl', os'⟩ σ fs' F
  | _, _, _, [], outs, sl, sl', fo, fs, .nil, l, h, k, hr, hn, hs, ho => by
    cases outs with
    | nil => simp only [ioSl, putB] at h; cases h; exact ⟨fs, k.less fun a ha => .inr ha⟩
    | cons _ _ => simp [ioSl, putB] at h
  | _, _, _, .val :: _, outs, sl, sl', fo, fs, .nil, l, h, k, hr, hn, hs, ho => l.elim
  | _, _, _, .io :: _, outs, sl, sl', fo, fs, .nil, l, h, k, hr, hn, hs, ho => l.elim
  | _, _, _, [], outs, sl, sl', fo, fs, .cons pd ps, l, h, k, hr, hn, hs, ho => l.elim
  | _, _, _, .val :: ms, outs, sl, sl', fo, fs, .cons pd ps, l, h, k, hr, hn, hs, ho => by
    refine putB_ok (ms := ms) (fo := fun j => fo (j + 1)) ps l.2 h (k.less fun a ha => ?_) (fun j d e => ?_) (fun j => hn _) (fun j l a h1 h2 => by have := hs _ _ a h1 h2; omega) fun j a h1 => ho _ a h1
    · exact ha.imp_left fun ⟨j, z⟩ => ⟨j + 1, z⟩
    · simpa using hr (j + 1) d (by simpa [outsSl] using e)
  | _, _, _, .io :: ms, outs, sl, sl', fo, fs, .cons (vs := vs) pd ps, l, h, k, hr, hn, hs, ho => by
    obtain ⟨rfl, l2⟩ := l
    obtain ⟨i, rfl, hv⟩ := pd
    simp only [ioSl] at h
    cases outs with
    | nil => simp [putB] at h
    | cons d outs =>
      simp only [putB] at h
      split at h
      · rename_i hi
        obtain ⟨v, e1, r⟩ := hr 0 d rfl
        simp at e1
        subst e1
        have k2 : Ok g Φ' H' ρ' ⟨sl, os'⟩ σ fs (fadd (fo 0) (gof (fun j => fo (j + 1)) F)) := k.less fun a ha => by
          rcases ha with ha | ⟨j, ha⟩ | ha
          · exact .inl ⟨0, ha⟩
          · exact .inl ⟨j + 1, ha⟩
          · exact .inr ha
        have k3 := k2.put (i := i) ⟨r, hn 0, fun a ha z => by
          rcases z with ⟨j, z⟩ | z
          · exact absurd (hs _ _ a ha z) (by omega)
          · exact ho 0 a ha z⟩ hi hv
        exact putB_ok (ms := ms) (fo := fun j => fo (j + 1)) ps l2 h k3 (fun j d' e => by simpa using hr (j + 1) d' (by simpa [outsSl] using e)) (fun j => hn _) (fun j l a h1 h2 => by have := hs _ _ a h1 h2; omega) fun j a h1 => ho _ a h1
      · cases h
theorem call_sp {F0 : Fn} {as : Cs} {os : List (Option D)} {vs : List V} {r : Ex D} (k : Ok g Φ H ρ s σ fs F) (ps : Pends g Φ ρ σ as os vs) (hl : LateOk F0.io os)
    (h : bnd (fillC as os) (fun ds => callF F0 (ioSl F0.io as) ds) s = some r) (p : PV g E Φ H ρ F σ r Q) (hlen : vs.length = F0.io.length) : spD g F0 vs H Q E := by
  rcases bnd_some h with ⟨ds, s1, h1, h2⟩ | ⟨x, h1, rfl⟩
  · obtain ⟨_, _, fa, fs1, e, k1, A, eo⟩ := fillC_ok k ps h1
    cases e
    let fsA : Ix → List Addr := fun x => match x with
      | .inl j => fa j
      | .inr n => fs1 (.inr n)
    let Fr : Addr → Prop := fun a => F a ∨ ∃ i, a ∈ fs1 (.inl i)
    have kA : Ok g Φ H ρ ⟨ds.map some, s1.os⟩ (vs.map some) fsA Fr := by
      refine ⟨k1.sub, k1.tab, fun a ha => ?_, by simp [A.len], fun i d q => ?_, fun i q => ?_, k1.obl, k1.obj, k1.obj0, fun x => ?_, fun x y a hx hy => ?_, fun x a hx => ?_⟩
      · rcases ha with ha | ⟨i, ha⟩
        · exact k1.fr a (.inr ha)
        · exact k1.at _ a ha
      · rw [List.getElem?_map] at q
        cases e : ds[i]? with
        | none => rw [e] at q; cases q
        | some d' =>
          rw [e] at q
          cases q
          obtain ⟨v, e1, r1⟩ := A.rep i _ e
          exact ⟨v, by rw [List.getElem?_map, e1]; rfl, r1⟩
      · refine A.nil i ?_
        cases e : ds[i]? with
        | none => exact List.getElem?_eq_none_iff.mp e
        | some d' => exact absurd (by rw [List.getElem?_map, e]; rfl) (q d')
      · cases x with
        | inl j => exact A.nd j
        | inr n => exact k1.nd _
      · cases x with
        | inl j =>
          cases y with
          | inl l => rw [A.sep j l a hx hy]
          | inr n => exact absurd (.inl ⟨j, hx⟩) (k1.out _ a hy)
        | inr n =>
          cases y with
          | inl l => exact absurd (.inl ⟨l, hy⟩) (k1.out _ a hx)
          | inr m => exact k1.sep _ _ a hx hy
      · cases x with
        | inl j =>
          intro z
          rcases z with z | ⟨i, z⟩
          · exact A.out j a hx z
          · exact k1.out _ a z (.inl ⟨j, hx⟩)
        | inr n =>
          intro z
          rcases z with z | ⟨i, z⟩
          · exact k1.out _ a hx (.inr z)
          · exact absurd (k1.sep _ _ a hx z) (by simp)
    unfold callF at h2
    refine ⟨Φ, ρ, ds, s1.os, fsA, Fr, ?_⟩
    cases er : F0.run ds s1.os with
    | none => rw [er] at h2; cases h2
    | some ro =>
      rw [er] at h2
      refine ⟨ro, kA, by rw [A.len, hlen], rfl, ?_⟩
      cases ro with
      | exc x =>
        cases h2
        exact PX.shift p (Stp.refl k.nF) fun a ha => .inl ha
      | ret d outs os' =>
        dsimp only at h2
        split at h2
        · rename_i sl' hp
          cases h2
          intro Φ' H' ρ' v f fsA' st kA' vl
          let fsB : Ix → List Addr := fun x => match x with
            | .inl i => fs1 (.inl i)
            | .inr n => fsA' (.inr n)
          have kB : Ok g Φ' H' ρ' ⟨s1.sl, os'⟩ σ fsB (gof (fun j => fsA' (.inl j)) (fadd f F)) := by
            refine ⟨kA'.sub, kA'.tab, fun a ha => ?_, k1.len, fun i d' q => ?_, k1.slot0, kA'.obl, kA'.obj, kA'.obj0, fun x => ?_, fun x y a hx hy => ?_, fun x a hx => ?_⟩
            · rcases ha with ⟨j, ha⟩ | ha | ha
              · exact kA'.at _ a ha
              · exact kA'.fr a (.inl ha)
              · exact kA'.fr a (.inr (.inl ha))
            · obtain ⟨w, e1, r1⟩ := k1.slot i d' q
              exact ⟨w, e1, r1.stp st fun a ha => .inr ⟨i, ha⟩⟩
            · cases x with
              | inl i => exact k1.nd _
              | inr n => exact kA'.nd _
            · cases x with
              | inl i =>
                cases y with
                | inl l => exact k1.sep _ _ a hx hy
                | inr n => exact absurd (.inr (.inr ⟨i, hx⟩)) (kA'.out _ a hy)
              | inr n =>
                cases y with
                | inl l => exact absurd (.inr (.inr ⟨l, hy⟩)) (kA'.out _ a hx)
                | inr m => exact kA'.sep _ _ a hx hy
            · cases x with
              | inl i =>
                intro z
                rcases z with ⟨j, z⟩ | z | z
                · exact kA'.out _ a z (.inr (.inr ⟨i, hx⟩))
                · exact vl.out a z (.inr ⟨i, hx⟩)
                · exact k1.out _ a hx (.inr z)
              | inr n =>
                intro z
                rcases z with ⟨j, z⟩ | z | z
                · exact absurd (kA'.sep _ _ a hx z) (by simp)
                · exact kA'.out _ a hx (.inl z)
                · exact kA'.out _ a hx (.inr (.inl z))
          obtain ⟨fs', k'⟩ := putB_ok ps hl hp kB (fun j d' e => by
              obtain ⟨w, e1, r1⟩ := kA'.slot j d' e
              rw [List.getElem?_map] at e1
              cases ev : vs[j]? with
              | none => rw [ev] at e1; cases e1
              | some w' => rw [ev] at e1; cases e1; exact ⟨_, rfl, r1⟩) (fun j => kA'.nd _) (fun j l a h1 h2 => Sum.inl.inj (kA'.sep _ _ a h1 h2)) fun j a h1 z => by
            rcases z with z | z
            · exact kA'.out _ a h1 (.inl z)
            · exact kA'.out _ a h1 (.inr (.inl z))
          exact p Φ' H' ρ' v f fs' (st.less fun a ha => .inl ha) k' (vl.less fun a ha => .inl ha)
        · cases h2
  · obtain ⟨_, _, _, _, e, _⟩ := fillC_ok k ps h1
    cases e
theorem call_to {F0 : Fn} {as : Cs} {m : M (List (Option D))} {σ : L2.St} {H : Hp} {Q : VK} (hl : ∀ s os s', m s = some (.val os s') → LateOk F0.io os) (h : EvR g E (bnd m fun os => bnd (fillC as os) fun ds => callF F0 (ioSl F0.io as) ds) σ H Q) :
    tCall (spD g F0) [] E (PksR g E as m) σ H Q := by
  obtain ⟨Φ, ρ, s, fs, F, r, k, hm, p⟩ := h
  rcases bnd_some hm with ⟨os, s1, h1, h2⟩ | ⟨x, h1, rfl⟩
  · refine ⟨Φ, ρ, s, fs, F, _, k, h1, fun Φ1 H1 ρ1 vs fs1 st1 k1 ps => ?_⟩
    have l := hl _ _ _ h1
    have lens : ∀ {as : Cs} {os : List (Option D)} {vs : List V} {ms : List Md}, Pends g Φ1 ρ1 σ as os vs → LateOk ms os → vs.length = ms.length := by
      intro as os vs ms ps
      induction ps generalizing ms with
      | nil => intro l; cases ms with | nil => rfl | cons m ms => cases m <;> exact l.elim
      | cons _ _ ih => intro l; cases ms with | nil => exact l.elim | cons m ms => cases m <;> simp [ih l.2]
    show spD g F0 (vs ++ []) H1 Q E
    rw [List.append_nil]
    exact call_sp k1 ps l h2 (p.shift st1 fun _ h => h) (lens ps l)
  · exact ⟨Φ, ρ, s, fs, F, _, k, h1, p⟩
/-! ### methods -/
/-- o.name(e, ..): the receiver is of the built-in type T -/
theorem pe_bmG {X : Cx} {o e : Expr} {es : List Expr} {to : TE} {t : TA} {name : Str} {apos cpos : Pos} {T id : String} {ty : V → Hp → Prop} {r : V → List V → Hp → VK → Prop} (pa : PlainAttrs T) (slot : Slot T name id) (hty : typeOf (.builtin id) = pure (.type "method_descriptor")) (hm : MtR X id r)
    (hT : ∀ (pins : List (Addr × Obj)) (σ : L2.St) (H : Hp) (s : Shared) (x : V) (v : Value), Inv X pins σ H s → RelV x v → ty x H → s.TypeIs v T ∧ ∀ a, v = .ref a → ∃ ob, s.heap.get? a = some ob ∧ ob.dict = none)
    (ho : PE X o to) (ha : PA X (e :: es) t) (hbase : attributeBase o name X.env (eval o X.env) = eval o X.env)
    (hfew : ((backTo cpos (starEach (e :: es) X.env)).all (fun x => !x.1) && (backToKw cpos (keywordEach [] X.env)).all (fun x => x.1.isSome)
      && decide ((e :: es).length + ([] : List Keyword).length + (if ([] : List Keyword).isEmpty then 0 else 1) < 30)) = true)
    (hline : (apos.endLine == cpos.line) = true) (hs : starEach (e :: es) X.env = (false, eval e X.env) :: starEach es X.env) (hpl : (backTo cpos (starEach es X.env)).any (·.1) = false) :
    PE X (.Call (.Attribute o name apos) (e :: es) [] cpos) (fun σ H Q => to σ H fun x H1 => ty x H1 ∧ t σ H1 fun xs H2 => r x xs H2 Q) :=
  ⟨fun pins s σ H Q I h => wpAny_Call_method_late hbase hfew hline rfl (L2.thn (ho.run pins s σ H _ I h) fun v s1 z => by
    obtain ⟨x, H1, I1, r1, tx, q1⟩ := z
    obtain ⟨h1, h2⟩ := hT _ _ _ _ _ _ I1 r1 tx
    refine ⟨T, id, pa, slot, hty, h1, h2, ?_⟩
    have hA := ha.run cpos pins s1 σ H1 _ I1 q1
    rw [hs] at hA ⊢
    refine Calls.callWith_builtin (by show (false || (backTo cpos (starEach es X.env)).any (·.1)) = false; rw [hpl]; rfl) (Calls.evalArgs_plain (L2.thn hA fun us s2 z2 => ?_))
    obtain ⟨vs, H2, I2, r2, q2⟩ := z2
    exact hm pins s2 σ H2 x vs v us Q I2 r1 r2 q2)⟩
theorem Pend.kind {c : C} {o : Option D} {v : V} (k : Ok g Φ H ρ s σ fs F) (p : Pend g Φ ρ σ c o v) {T : String} (h : kindIs c T o s = true) : ∃ d f, tyOf d = some T ∧ Rep g Φ H ρ d v f := by
  cases o with
  | some d =>
    simp only [kindIs, decide_eq_true_eq] at h
    exact ⟨d, [], h, p.2.any⟩
  | none =>
    obtain ⟨i, rfl, hv⟩ := p
    simp only [kindIs] at h
    split at h
    · rename_i d q
      simp only [decide_eq_true_eq] at h
      obtain ⟨v', e1, r⟩ := k.slot i d q
      rw [hv] at e1
      cases e1
      exact ⟨d, _, h, r⟩
    · cases h
theorem rep_list (sb : Sub Φ H) {d : D} {v : V} {f : List Addr} (h : tyOf d = some "list") (r : Rep g Φ H ρ d v f) : ∃ a vs, v = .ref a ∧ SqL g.K H a vs := by
  cases d with
  | lst o ds =>
    cases o with
    | own => simp only [Rep] at r; obtain ⟨a, vs, f', rfl, t, _⟩ := r; exact ⟨a, vs, rfl, SqL.of t⟩
    | fz => simp only [Rep] at r; obtain ⟨a, vs, rfl, t, _⟩ := r; exact ⟨a, vs, rfl, SqL.of (sub_lst sb t)⟩
    | ro => simp only [Rep] at r; obtain ⟨a, vs, rfl, t, _⟩ := r; exact ⟨a, vs, rfl, sub_l sb t⟩
  | _ => exact absurd h (by simp [tyOf])
theorem rep_tuple (sb : Sub Φ H) {d : D} {v : V} {f : List Addr} (h : tyOf d = some "tuple") (r : Rep g Φ H ρ d v f) : ∃ a vs, v = .ref a ∧ TpK g.K H a vs := by
  cases d with
  | tup ds => simp only [Rep] at r; obtain ⟨a, vs, rfl, t, _⟩ := r; exact ⟨a, vs, rfl, sub_tp sb t⟩
  | _ => exact absurd h (by simp [tyOf])
theorem tuple_is {pins : List (Addr × Obj)} {s : Shared} {v : Value} {x : V} (hK : X.K = g.K) (I : Inv X pins σ H s) (rx : RelV x v) (h : ∃ a vs, x = .ref a ∧ TpK g.K H a vs) : s.TypeIs v "tuple" ∧ ∀ a, v = .ref a → ∃ ob, s.heap.get? a = some ob ∧ ob.dict = none := by
  obtain ⟨a, vs, rfl, t⟩ := h
  cases rx
  rcases t with ⟨o, h1, hd⟩ | ⟨o, its, n, h1, h2, hd, _⟩
  · obtain ⟨e, _, _, _, ob, e2, hc, _⟩ := I.hok a _ h1
    rw [e] at e2
    cases e2
    exact ⟨⟨o, e, hc⟩, fun b hb => by cases hb; exact ⟨o, e, hd⟩⟩
  · rw [← hK] at h1
    have e := I.kIn a o h1
    exact ⟨⟨o, e, h2⟩, fun b hb => by cases hb; exact ⟨o, e, hd⟩⟩
/-- a method's reading: receiver, its kind, one argument -/
theorem mth_to {o a : C} {mo ma : M (Option D)} {T : String} {n : D → D → Option D} {σ : L2.St} {H : Hp} {Q : VK}
    (h : EvR g E (bnd mo fun x => bnd (grd (kindIs o T x)) fun _ => bnd ma fun y => bnd (fill1 o x) fun d => bnd (fill1 a y) fun e => lift (n d e)) σ H Q) {ty : V → Hp → Prop}
    (hT : ∀ Φ H ρ d v f, Sub Φ H → tyOf d = some T → Rep g Φ H ρ d v f → ty v H) {rr : V → List V → Hp → VK → Prop}
    (hr : ∀ Φ ρ H d e z x y, Sub Φ H → PkR g Φ H ρ d x → PkR g Φ H ρ e y → n d e = some z → Aft g Φ H ρ z Q → rr x [y] H Q) :
    OpdR g E o mo σ H fun x H1 => ty x H1 ∧ tCons (OpdR g E a ma) tNil σ H1 fun xs H2 => rr x xs H2 Q := by
  obtain ⟨Φ, ρ, s, fs, F, r, k, hm, p⟩ := h
  rcases bnd_some hm with ⟨x, s1, h1, h2⟩ | ⟨x, h1, rfl⟩
  · refine OpdR.val k h1 fun Φ1 H1 ρ1 v fs1 st1 k1 pd => ?_
    rcases bnd_some h2 with ⟨u, s2, h3, h4⟩ | ⟨x, h3, rfl⟩
    · unfold grd at h3
      split at h3
      · rename_i hg
        cases h3
        obtain ⟨d0, f0, ht, r0⟩ := pd.kind k1 hg
        refine ⟨hT _ _ _ _ _ _ k1.sub ht r0, ?_⟩
        rcases bnd_some h4 with ⟨y, s3, h5, h6⟩ | ⟨x, h5, rfl⟩
        · refine OpdR.val k1 h5 fun Φ2 H2 ρ2 w fs2 st2 k2 pd' => ?_
          rcases bnd_some h6 with ⟨d, s4, h7, h8⟩ | ⟨x, h7, rfl⟩
          · obtain ⟨_, _, Φ3, fs3, e, st3, k3, pk⟩ := fill1_ok k2 (pd.stp st2) h7
            cases e
            rcases bnd_some h8 with ⟨e', s5, h9, h10⟩ | ⟨x, h9, rfl⟩
            · obtain ⟨_, _, Φ4, fs4, e, st4, k4, pk'⟩ := fill1_ok k3 (pd'.stp st3) h9
              cases e
              obtain ⟨z, e1, rfl⟩ := lift_some h10
              exact hr _ _ _ _ _ _ _ _ k4.sub (pk.stp st4) pk' e1 (k4.aft (p.shift (((st1.trans st2 fun _ h => h).trans st3 fun _ h => h).trans st4 fun _ h => h) fun _ h => h))
            · obtain ⟨_, _, _, _, e, _⟩ := fill1_ok k3 (pd'.stp st3) h9
              cases e
          · obtain ⟨_, _, _, _, e, _⟩ := fill1_ok k2 (pd.stp st2) h7
            cases e
        · exact OpdR.exc k1 h5 (PX.shift p st1 fun _ h => h)
      · cases h3
    · unfold grd at h3
      split at h3 <;> cases h3
  · exact OpdR.exc k h1 p
end
end Den
/-! DenS: sorting by (length, tuple of ints). -/
namespace Den
open PySem PySem.Spec
theorem lexAt_eq : ∀ (ns ms : List Int) (i : Nat) (e r : Nat → Bool), (∀ j, j < min ns.length ms.length → e (i + j) = decide (ns.getD j 0 = ms.getD j 0)) → (∀ j, j < min ns.length ms.length → r (i + j) = decide (ns.getD j 0 < ms.getD j 0)) →
    _root_.Ob.lexAt e r (decide (ns.length < ms.length)) i (min ns.length ms.length) = HT.lexLt ns ms
  | [], [], i, e, r, _, _ => rfl
  | [], _ :: _, i, e, r, _, _ => by simp [_root_.Ob.lexAt, HT.lexLt]
  | _ :: _, [], i, e, r, _, _ => by simp [_root_.Ob.lexAt, HT.lexLt]
  | x :: xs, y :: ys, i, e, r, he, hr => by
    have hm : min (x :: xs).length (y :: ys).length = min xs.length ys.length + 1 := by simp only [List.length_cons]; omega
    have e0 := he 0 (by rw [hm]; omega)
    have r0 := hr 0 (by rw [hm]; omega)
    simp only [Nat.add_zero, List.getD_cons_zero] at e0 r0
    rw [hm, _root_.Ob.lexAt_succ, e0, r0, HT.lexLt_cons]
    have ih := lexAt_eq xs ys (i + 1) e r (fun j hj => by
      have := he (j + 1) (by rw [hm]; omega)
      simpa [Nat.add_assoc, Nat.add_comm 1 j] using this) (fun j hj => by
      have := hr (j + 1) (by rw [hm]; omega)
      simpa [Nat.add_assoc, Nat.add_comm 1 j] using this)
    have hz : decide ((x :: xs).length < (y :: ys).length) = decide (xs.length < ys.length) := decide_eq_decide.mpr (by simp)
    rw [hz, ih]
    by_cases q : x = y
    · rw [if_pos q, if_pos (decide_eq_true q)]
    · rw [if_neg q, if_neg (by rw [decide_eq_false q]; simp)]
theorem lexLt_irr : ∀ a : List Int, HT.lexLt a a = false
  | [] => rfl
  | x :: xs => by rw [HT.lexLt_cons, if_pos rfl]; exact lexLt_irr xs
theorem lexLt_asym : ∀ a b : List Int, HT.lexLt a b = true → HT.lexLt b a = false
  | [], [], h => by cases h
  | [], _ :: _, _ => rfl
  | _ :: _, [], h => by cases h
  | x :: xs, y :: ys, h => by
    rw [HT.lexLt_cons] at h ⊢
    by_cases q : x = y
    · rw [if_pos q] at h
      rw [if_pos q.symm]
      exact lexLt_asym xs ys h
    · rw [if_neg q] at h
      rw [if_neg (Ne.symm q)]
      have := of_decide_eq_true h
      exact decide_eq_false (by omega)
theorem lexLt_tr : ∀ a b c : List Int, HT.lexLt b a = false → HT.lexLt c b = false → HT.lexLt c a = false
  | [], [], c, h1, h2 => h2
  | [], y :: ys, [], h1, h2 => rfl
  | [], y :: ys, z :: zs, h1, h2 => rfl
  | x :: xs, [], c, h1, h2 => by cases h1
  | x :: xs, y :: ys, [], h1, h2 => by cases h2
  | x :: xs, y :: ys, z :: zs, h1, h2 => by
    rw [HT.lexLt_cons] at h1 h2 ⊢
    by_cases q : y = x
    · rw [if_pos q] at h1
      by_cases q2 : z = y
      · rw [if_pos q2] at h2
        rw [if_pos (q2.trans q)]
        exact lexLt_tr xs ys zs h1 h2
      · rw [if_neg q2] at h2
        rw [if_neg (fun e => q2 (e.trans q.symm)), ← q]
        exact h2
    · rw [if_neg q] at h1
      have h1' := of_decide_eq_false h1
      by_cases q2 : z = y
      · rw [if_neg (fun e => q (q2.symm.trans e)), q2]
        exact h1
      · rw [if_neg q2] at h2
        have h2' := of_decide_eq_false h2
        rw [if_neg (by omega)]
        exact decide_eq_false (by omega)
theorem lexLt_eq : ∀ a b : List Int, HT.lexLt a b = false → HT.lexLt b a = false → a = b
  | [], [], _, _ => rfl
  | [], _ :: _, h, _ => by cases h
  | _ :: _, [], _, h => by cases h
  | x :: xs, y :: ys, h1, h2 => by
    rw [HT.lexLt_cons] at h1 h2
    by_cases q : x = y
    · rw [if_pos q] at h1
      rw [if_pos q.symm] at h2
      rw [q, lexLt_eq xs ys h1 h2]
    · rw [if_neg q] at h1
      rw [if_neg (Ne.symm q)] at h2
      have := of_decide_eq_false h1
      have := of_decide_eq_false h2
      omega
theorem swo_ltK : SrtO.Swo ltK := by
  refine ⟨fun p q h => ?_, fun p q r h1 h2 => ?_⟩
  · unfold ltK at h ⊢
    by_cases e : p.1 = q.1
    · rw [if_pos e] at h
      rw [if_pos e.symm]
      exact lexLt_asym _ _ h
    · rw [if_neg e] at h
      rw [if_neg (Ne.symm e)]
      have := of_decide_eq_true h
      exact decide_eq_false (by omega)
  · unfold ltK at h1 h2 ⊢
    by_cases e : q.1 = p.1
    · rw [if_pos e] at h1
      by_cases e2 : r.1 = q.1
      · rw [if_pos e2] at h2
        rw [if_pos (e2.trans e)]
        exact lexLt_tr _ _ _ h1 h2
      · rw [if_neg e2] at h2
        rw [if_neg (fun z => e2 (z.trans e.symm)), ← e]
        exact h2
    · rw [if_neg e] at h1
      have h1' := of_decide_eq_false h1
      by_cases e2 : r.1 = q.1
      · rw [if_neg (fun z => e (e2.symm.trans z)), e2]
        exact h1
      · rw [if_neg e2] at h2
        have h2' := of_decide_eq_false h2
        rw [if_neg (by omega)]
        exact decide_eq_false (by omega)
theorem swo_by {α β : Type} {lt : β → β → Bool} (O : SrtO.Swo lt) (f : α → β) : SrtO.Swo fun x y => lt (f x) (f y) := ⟨fun x y => O.asym _ _, fun x y z => O.tr _ _ _⟩
theorem ltK_eq {p q : Int × List Int} (h1 : ltK p q = false) (h2 : ltK q p = false) : p = q := by
  unfold ltK at h1 h2
  by_cases e : p.1 = q.1
  · rw [if_pos e] at h1
    rw [if_pos e.symm] at h2
    exact Prod.ext e (lexLt_eq _ _ h1 h2)
  · rw [if_neg e] at h1
    rw [if_neg (Ne.symm e)] at h2
    have := of_decide_eq_false h1
    have := of_decide_eq_false h2
    omega
theorem insP_perm (x : Int × List Int) : ∀ l, (insP x l).Perm (x :: l)
  | [] => List.Perm.refl _
  | y :: ys => by
    unfold insP
    split
    · exact ((insP_perm x ys).cons y).trans (List.Perm.swap x y ys)
    · exact List.Perm.refl _
theorem srtP_perm : ∀ l, (srtP l).Perm l
  | [] => List.Perm.refl _
  | x :: xs => (insP_perm x _).trans ((srtP_perm xs).cons x)
theorem insP_srt (x : Int × List Int) : ∀ l, SrtO.Srtd ltK l → SrtO.Srtd ltK (insP x l)
  | [], _ => List.pairwise_singleton _ _
  | y :: ys, h => by
    have h' := List.pairwise_cons.mp h
    unfold insP
    split
    · rename_i hx
      refine List.pairwise_cons.mpr ⟨fun z hz => ?_, insP_srt x ys h'.2⟩
      rcases List.mem_cons.mp ((insP_perm x ys).mem_iff.mp hz) with rfl | hz
      · exact swo_ltK.asym _ _ hx
      · exact h'.1 z hz
    · rename_i hx
      have hx : ltK y x = false := by simpa using hx
      refine List.pairwise_cons.mpr ⟨fun z hz => ?_, h⟩
      rcases List.mem_cons.mp hz with rfl | hz
      · exact hx
      · exact swo_ltK.tr x y z hx (h'.1 z hz)
theorem srtP_srt : ∀ l, SrtO.Srtd ltK (srtP l)
  | [] => List.Pairwise.nil
  | x :: xs => insP_srt x _ (srtP_srt xs)
theorem srtd_uniq : ∀ {l m : List (Int × List Int)}, SrtO.Srtd ltK l → SrtO.Srtd ltK m → l.Perm m → l = m
  | [], m, _, _, p => (List.nil_perm.mp p).symm
  | x :: l, [], _, _, p => absurd p.length_eq (by simp)
  | x :: l, y :: m, hl, hm, p => by
    have a := List.pairwise_cons.mp hl
    have b := List.pairwise_cons.mp hm
    have e : x = y := by
      rcases List.mem_cons.mp (p.mem_iff.mp List.mem_cons_self) with e | e
      · exact e
      · rcases List.mem_cons.mp (p.mem_iff.mpr List.mem_cons_self) with e' | e'
        · exact e'.symm
        · exact ltK_eq (b.1 x e) (a.1 y e')
    subst e
    rw [srtd_uniq a.2 b.2 (List.Perm.cons_inv p)]
/-! ### the machine's comparison -/
/-- a key: (int, tuple of ints) -/
def KT (h : Heap) (v : Value) (p : Int × List Int) : Prop := ∃ a o t b k its, v = .ref a ∧ h.get? a = some o ∧ o.cls = .type "tuple" ∧ o.data = .seq #[.int p.1 t, .ref b] k ∧ h.IsTuple b its ∧ PyProof.Rows.IntsAre its.toList p.2
theorem KT.keeps {h h' : Heap} {v : Value} {p : Int × List Int} (x : KT h v p) (k : ∀ b o, h.get? b = some o → o.cls = .type "tuple" → h'.get? b = some o) : KT h' v p := by
  obtain ⟨a, o, t, b, n, its, e, ho, hc, hd, ⟨ob, hb, hbc, hbd⟩, hi⟩ := x
  exact ⟨a, o, t, b, n, its, e, k _ _ ho hc, hc, hd, ⟨ob, k _ _ hb hbc, hbc, hbd⟩, hi⟩
section
variable {prog : Program} {w : World} {A : Around} {E : Value → Shared → Prop} {s : Shared}
theorem getD_at {its : Array Value} {ns : List Int} (h : PyProof.Rows.IntsAre its.toList ns) (j : Nat) (hj : j < its.size) : ∃ t, its[j] = .int (ns.getD j 0) t := by
  have := PyProof.Rows.IntsAre.int_at h j (its[j]) (by simp [hj])
  exact this
theorem eq_ref {b b' : Addr} {its its' : Array Value} {ns ms : List Int} (hb : s.heap.IsTuple b its) (hb' : s.heap.IsTuple b' its') (hi : PyProof.Rows.IntsAre its.toList ns) (hi' : PyProof.Rows.IntsAre its'.toList ms) (hu : A.units < cLine) : SeqAt.EqAt A s (.ref b) (.ref b') (decide (ns = ms)) := by
  by_cases e : b = b'
  · subst e
    obtain ⟨o, ho, _, n, hd⟩ := hb
    obtain ⟨o', ho', _, n', hd'⟩ := hb'
    rw [ho] at ho'
    cases ho'
    rw [hd] at hd'
    cases hd'
    have e2 : ns = ms := by rw [← hi.nums, ← hi'.nums]
    rw [decide_eq_true e2]
    exact SeqAt.EqAt.same _
  · have l1 := hi.length
    have l2 := hi'.length
    simp only [Array.length_toList] at l1 l2
    have R := SeqAt.RcAt.tuples (A := A) (s := s) (e := fun j => decide (ns.getD j 0 = ms.getD j 0)) hb hb' hu (fun j h1 h2 => by
      obtain ⟨t, et⟩ := getD_at hi j h1
      obtain ⟨t', et'⟩ := getD_at hi' j h2
      rw [et, et']
      have z : (ns.getD j 0 == ms.getD j 0) = decide (ns.getD j 0 = ms.getD j 0) := by
        by_cases q : ns.getD j 0 = ms.getD j 0
        · rw [decide_eq_true q]; exact beq_iff_eq.mpr q
        · rw [decide_eq_false q]; exact beq_eq_false_iff_ne.mpr q
      rw [← z]
      exact SeqAt.EqAt.int_int _ _ _ _)
    have ev : ((List.range (min its.size its'.size)).all (fun j => decide (ns.getD j 0 = ms.getD j 0)) && its.size == its'.size) = decide (ns = ms) := by
      rw [l1, l2]
      by_cases q : ns = ms
      · subst q
        simp
      · rw [decide_eq_false q]
        by_cases ql : ns.length = ms.length
        · have : ∃ j, j < ns.length ∧ ns.getD j 0 ≠ ms.getD j 0 := by
            apply Classical.byContradiction
            intro hn
            apply q
            apply List.ext_getElem ql
            intro j h1 h2
            apply Classical.byContradiction
            intro hne
            exact hn ⟨j, h1, by simpa [List.getD_eq_getElem?_getD, h1, h2] using hne⟩
          obtain ⟨j, hj, hne⟩ := this
          have : (List.range (min ns.length ms.length)).all (fun j => decide (ns.getD j 0 = ms.getD j 0)) = false := by
            rw [List.all_eq_false]
            exact ⟨j, List.mem_range.mpr (by omega), by simpa using hne⟩
          rw [this]; rfl
        · have : (ns.length == ms.length) = false := beq_eq_false_iff_ne.mpr ql
          rw [this, Bool.and_false]
    rw [ev] at R
    exact SeqAt.EqAt.of_refs e R
open PyProof.Rows in
theorem kt_lt {v u : Value} {p q : Int × List Int} {Q : Bool → Shared → Prop} (hv : KT s.heap v p) (hu' : KT s.heap u q) (hu : A.units < cLine) (h : Q (ltK p q) s) : wpAny (model prog w) A (keyLt' (tuples' true) v u) Q E s := by
  obtain ⟨a, o, t, b, k, its, rfl, ho, hc, hd, hb, hi⟩ := hv
  obtain ⟨a', o', t', b', k', its', rfl, ho', hc', hd', hb', hi'⟩ := hu'
  refine PySem.W.kat_lt ho hd ho' hd' ?_
  show PySem.W.KatLex prog w A true (decide (2 < 2)) _ [(.int p.1 t, .int q.1 t'), (.ref b, .ref b')] 0 s
  refine PySem.W.kat_cons (SeqAt.EqAt.int_int p.1 t q.1 t' prog w _ _ ?_)
  unfold ltK at h
  refine PySem.W.kat_go (fun e1 => ?_) (fun e1 => ?_)
  · have ex : p.1 = q.1 := by simpa using e1
    rw [if_pos ex] at h
    refine PySem.W.kat_yes (PySem.W.kat_cons (eq_ref hb hb' hi hi' hu prog w _ _ ?_))
    refine PySem.W.kat_go (fun e2 => ?_) (fun e2 => ?_)
    · have ey : p.2 = q.2 := of_decide_eq_true e2
      rw [ey, lexLt_irr] at h
      exact PySem.W.kat_yes (PySem.W.kat_nil h)
    · have l1 := hi.length
      have l2 := hi'.length
      simp only [Array.length_toList] at l1 l2
      refine PySem.W.kat_no (PySem.W.kat_one _ _ ?_)
      have R := _root_.Ob.RcOp.tuples_lt (A := A) (s := s) (e := fun j => decide (p.2.getD j 0 = q.2.getD j 0)) (r := fun j => decide (p.2.getD j 0 < q.2.getD j 0)) hb hb' hu (fun j h1 h2 => by
        obtain ⟨t, et⟩ := getD_at hi j h1
        obtain ⟨t', et'⟩ := getD_at hi' j h2
        rw [et, et']
        have z : (p.2.getD j 0 == q.2.getD j 0) = decide (p.2.getD j 0 = q.2.getD j 0) := by
          by_cases q' : p.2.getD j 0 = q.2.getD j 0
          · rw [decide_eq_true q']; exact beq_iff_eq.mpr q'
          · rw [decide_eq_false q']; exact beq_eq_false_iff_ne.mpr q'
        rw [← z]
        exact SeqAt.EqAt.int_int _ _ _ _) (fun j h1 h2 _ => by
        obtain ⟨t, et⟩ := getD_at hi j h1
        obtain ⟨t', et'⟩ := getD_at hi' j h2
        rw [et, et']
        exact _root_.Ob.RcOp.lt_int _ _ _ _)
      rw [l1, l2] at R
      have ez : _root_.Ob.lexAt (fun j => decide (p.2.getD j 0 = q.2.getD j 0)) (fun j => decide (p.2.getD j 0 < q.2.getD j 0)) (decide (p.2.length < q.2.length)) 0 (min p.2.length q.2.length) = HT.lexLt p.2 q.2 :=
        lexAt_eq _ _ 0 _ _ (fun j _ => by simp) (fun j _ => by simp)
      rw [ez] at R
      exact R prog w _ _ h
  · have ex : ¬ p.1 = q.1 := by simpa using e1
    rw [if_neg ex] at h
    exact PySem.W.kat_no (oneLt_int h)
theorem KT.inj {h : Heap} {v : Value} {p q : Int × List Int} (hv : KT h v p) (hu : KT h v q) : p = q := by
  obtain ⟨a, o, t, b, k, its, rfl, ho, hc, hd, ⟨ob, hb, _, n, hbd⟩, hi⟩ := hv
  obtain ⟨a', o', t', b', k', its', e, ho', hc', hd', ⟨ob', hb', _, n', hbd'⟩, hi'⟩ := hu
  cases e
  rw [ho] at ho'; cases ho'
  rw [hd] at hd'
  injection hd' with e1 e2
  have e3 := congrArg Array.toList e1
  simp only [List.cons.injEq, Value.int.injEq, Value.ref.injEq, and_true] at e3
  obtain ⟨⟨e4, _⟩, e5⟩ := e3
  subst e5
  rw [hb] at hb'; cases hb'
  rw [hbd] at hbd'
  injection hbd' with e6 e7
  subst e6
  exact Prod.ext e4 (by rw [← hi.nums, ← hi'.nums])
theorem kt_firsts {h : Heap} {kf : Value → Int × List Int} : ∀ {vs : List Value}, (∀ v ∈ vs, KT h v (kf v)) → ∃ fs : List Value, PySem.W.KatTups h vs fs ∧ fs.length = vs.length ∧ ∀ f ∈ fs, ∃ x t, f = Value.int x t
  | [], _ => ⟨[], PySem.W.KatTups.nil, rfl, fun _ hm => by simp at hm⟩
  | v :: vs, hp => by
    obtain ⟨fs, h1, h2, h3⟩ := kt_firsts (vs := vs) fun v' hm => hp v' (List.mem_cons_of_mem _ hm)
    obtain ⟨a, o, t, b, k, its, e, ho, hc, hd, _⟩ := hp v List.mem_cons_self
    subst e
    refine ⟨.int (kf (.ref a)).1 t :: fs, PySem.W.KatTups.cons ho hc hd rfl h1, by rw [List.length_cons, List.length_cons, h2], fun f hm => ?_⟩
    rcases List.mem_cons.mp hm with rfl | hm
    · exact ⟨_, t, rfl⟩
    · exact h3 f hm
open PyProof.Rows in
theorem kt_kind {vs : List Value} {kf : Value → Int × List Int} {Q : SortKind → Shared → Prop} (h0 : 0 < vs.length) (hp : ∀ v ∈ vs, KT s.heap v (kf v)) (h : Q (tuples' true) s) : wpAny (model prog w) A (keyKind' vs.toArray) Q E s := by
  obtain ⟨fs, h1, h2, h3⟩ := kt_firsts hp
  refine PySem.W.kat_kind (T := .type "int") h1 (by omega) (fun f hm => ?_) (by rfl) ?_
  · obtain ⟨x, t, rfl⟩ := h3 f hm
    exact PySem.W.Looks.now
  · have e : (Value.type "int" != Value.type "tuple") = true := by first | decide +kernel | rfl | decide
    rw [e]
    exact h
theorem kt_sortable {a : Addr} {vs : List Value} {kf : Value → Int × List Int} (h0 : 0 < vs.length) (hu : A.units < cLine) (hp : ∀ v ∈ vs, KT s.heap v (kf v)) (ha : ∀ o, s.heap.get? a = some o → o.cls ≠ .type "tuple") : SrtO.SortableO prog w A s a vs fun v u => ltK (kf v) (kf u) := by
  intro h' keep
  have hp' : ∀ v ∈ vs, KT h' v (kf v) := fun v hm => (hp v hm).keeps fun b o e c => keep b o (fun z => by subst z; exact ha o e c) e
  refine ⟨PyProof.Rows.tuples' true, fun Q E hq => kt_kind h0 hp' hq, fun p q hm hm' => ?_⟩
  exact kt_lt (hp' _ hm) (hp' _ hm') hu ⟨rfl, rfl⟩
end
section
variable {g : Gx} {X : L2.Cx} {Φ H : L2.Hp} {ρ : List Addr}
theorem pairOf_get : ∀ {ds : List D} {l : List (Int × List Int)}, pairOf ds = some l → ds = l.map pairD
  | [], l, h => by simp only [pairOf, Option.some.injEq] at h; subst h; rfl
  | .tup [.int n, .tup ns] :: r, l, h => by
    simp only [pairOf] at h
    split at h
    · rename_i is l' e1 e2
      cases h
      have e3 : ns = is.map D.int := by
        induction ns generalizing is with
        | nil => simp only [intsOf, Option.some.injEq] at e1; subst e1; rfl
        | cons d ds ih =>
          cases d with
          | int i =>
            simp only [intsOf] at e1
            cases q : intsOf ds with
            | none => rw [q] at e1; cases e1
            | some l => rw [q] at e1; cases e1; rw [ih _ q]; rfl
          | _ => simp [intsOf] at e1
      rw [List.map_cons, ← pairOf_get e2, e3]
      rfl
    · cases h
  | .tup [] :: r, l, h => by simp [pairOf] at h
  | .tup [_] :: r, l, h => by simp [pairOf] at h
  | .tup (_ :: _ :: _ :: _) :: r, l, h => by simp [pairOf] at h
  | .tup [.int _, .int _] :: r, l, h => by simp [pairOf] at h
  | .tup [.int _, .non] :: r, l, h => by simp [pairOf] at h
  | .tup [.int _, .bl _] :: r, l, h => by simp [pairOf] at h
  | .tup [.int _, .str _] :: r, l, h => by simp [pairOf] at h
  | .tup [.int _, .lst _ _] :: r, l, h => by simp [pairOf] at h
  | .tup [.int _, .obj _] :: r, l, h => by simp [pairOf] at h
  | .tup [.int _, .kt _] :: r, l, h => by simp [pairOf] at h
  | .tup [.int _, .dc _ _ _] :: r, l, h => by simp [pairOf] at h
  | .tup [.non, _] :: r, l, h => by simp [pairOf] at h
  | .tup [.bl _, _] :: r, l, h => by simp [pairOf] at h
  | .tup [.str _, _] :: r, l, h => by simp [pairOf] at h
  | .tup [.tup _, _] :: r, l, h => by simp [pairOf] at h
  | .tup [.lst _ _, _] :: r, l, h => by simp [pairOf] at h
  | .tup [.obj _, _] :: r, l, h => by simp [pairOf] at h
  | .tup [.kt _, _] :: r, l, h => by simp [pairOf] at h
  | .tup [.dc _ _ _, _] :: r, l, h => by simp [pairOf] at h
  | .non :: r, l, h => by simp [pairOf] at h
  | .bl _ :: r, l, h => by simp [pairOf] at h
  | .int _ :: r, l, h => by simp [pairOf] at h
  | .str _ :: r, l, h => by simp [pairOf] at h
  | .lst _ _ :: r, l, h => by simp [pairOf] at h
  | .obj _ :: r, l, h => by simp [pairOf] at h
  | .kt _ :: r, l, h => by simp [pairOf] at h
  | .dc _ _ _ :: r, l, h => by simp [pairOf] at h
  | .lam _ :: r, l, h => by simp [pairOf] at h
  | .any :: r, l, h => by simp [pairOf] at h
/-- a tuple that stands for ints, in the machine -/
theorem tup_ints {pins : List (Addr × Obj)} {σ : L2.St} {s : Shared} {v : L2.V} {is : List Int} (hK : X.K = g.K) (I : L2.Inv X pins σ H s) (sb : Sub Φ H) (r : Rep g Φ H ρ (tupI is) v []) : ∃ b its, v = .ref b ∧ s.heap.IsTuple b its ∧ PyProof.Rows.IntsAre its.toList is := by
  simp only [tupI, Rep] at r
  obtain ⟨b, vs, rfl, t, rr⟩ := r
  have e := (ints_rep rr (intsOf_map is)).1
  subst e
  have t' := sub_t sb t.sq
  rw [← hK] at t'
  obtain ⟨its, rv, pt, hz⟩ := I.tuple t'
  exact ⟨b, its.toArray, rfl, pt, by simpa using rv.ints⟩
theorem kt_of {pins : List (Addr × Obj)} {σ : L2.St} {s : Shared} {v : L2.V} {p : Int × List Int} (hK : X.K = g.K) (I : L2.Inv X pins σ H s) (sb : Sub Φ H) (r : Rep g Φ H ρ (pairD p) v []) : ∃ a, v = .ref a ∧ KT s.heap (.ref a) p := by
  simp only [pairD, Rep] at r
  obtain ⟨a, vs, rfl, t, rr⟩ := r
  simp only [RepL] at rr
  obtain ⟨v1, w1, f1, f2, rfl, e1, r1, v2, w2, f3, f4, rfl, e2, r2, rfl, rfl⟩ := rr
  simp only [Rep] at r1
  obtain ⟨rfl, rfl⟩ := r1
  simp only [List.nil_append, List.append_nil] at e1 e2
  subst e1
  subst e2
  obtain ⟨b, its, rfl, hb, hi⟩ := tup_ints hK I sb r2
  have t' := sub_t sb t.sq
  rw [← hK] at t'
  obtain ⟨us, rv, ⟨o, ho, hc, n, hd⟩, hz⟩ := I.tuple t'
  obtain ⟨u1, u2, rfl, q1, q2⟩ := L2.vals2 rv
  obtain ⟨tk, rfl⟩ := q1
  cases q2
  exact ⟨a, rfl, a, o, tk, b, n, its, rfl, ho, hc, hd, hb, hi⟩
theorem bi_sortedP (hK : X.K = g.K) (hu : X.A.units + 16 < cLine) : L2.CallR X (.builtin "sorted") (CbV g sortPF) := by
  intro pins s σ H vs us Q I r h
  obtain ⟨Φ, ρ, ds, z, sb, rs, hk, q⟩ := h
  unfold sortPF at hk
  split at hk
  · split at hk
    · rename_i l e
      cases hk
      obtain ⟨v, rfl, rd⟩ := rs.one
      obtain ⟨a, ws, rfl, t, rr⟩ := rd.lst sb
      have e1 := pairOf_get e
      subst e1
      obtain ⟨u, rfl, ru⟩ := L2.vals1 r
      cases ru
      rw [← hK] at t
      obtain ⟨its, rv, pl, hz⟩ := I.list t
      have hlen := RepL.len _ _ _ rr
      have hits := rv.length
      have at_ : ∀ (i : Nat) (u : Value), its[i]? = some u → ∃ p w, l[i]? = some p ∧ ws[i]? = some w ∧ Rep g Φ H ρ (pairD p) w [] ∧ (∃ b, w = .ref b ∧ u = .ref b) ∧ KT s.heap u p := fun i u hi => by
        have hl : i < its.length := (List.getElem?_eq_some_iff.mp hi).1
        have hl2 : i < l.length := by rw [List.length_map] at hlen; omega
        have hd : (l.map pairD)[i]? = some (pairD l[i]) := by rw [List.getElem?_map, List.getElem?_eq_getElem hl2]; rfl
        obtain ⟨w, hw, rw'⟩ := RepL.get _ _ rr i _ hd
        obtain ⟨b, rfl, kt⟩ := kt_of hK I sb rw'
        obtain ⟨u', hu', ru'⟩ := rv.get hw
        rw [hi] at hu'
        cases hu'
        cases ru'
        exact ⟨l[i], .ref b, List.getElem?_eq_getElem hl2, hw, rw', ⟨b, rfl, rfl⟩, kt⟩
      obtain ⟨kf, hkf⟩ : ∃ kf : Value → Int × List Int, ∀ u ∈ its, KT s.heap u (kf u) := by
        classical
        refine ⟨fun u => if h : ∃ p, KT s.heap u p then h.choose else (0, []), fun u hm => ?_⟩
        obtain ⟨i, hi⟩ := List.getElem?_of_mem hm
        obtain ⟨p, w, _, _, _, _, kt⟩ := at_ i u hi
        have hx : ∃ p, KT s.heap u p := ⟨p, kt⟩
        dsimp only
        rw [dif_pos hx]
        exact hx.choose_spec
      have hkl : its.map kf = l := by
        apply List.ext_getElem?
        intro i
        rw [List.getElem?_map]
        cases hi : its[i]? with
        | none =>
          have h1 : its.length ≤ i := List.getElem?_eq_none_iff.mp hi
          rw [List.length_map] at hlen
          rw [List.getElem?_eq_none_iff.mpr (by omega)]; rfl
        | some u =>
          obtain ⟨p, w, hp, _, _, _, kt⟩ := at_ i u hi
          rw [hp]
          show some (kf u) = some p
          rw [(hkf u (List.mem_of_getElem? hi)).inj kt]
      have refs : ∀ u ∈ its, ∃ b, u = Value.ref b := fun u hm => by
        obtain ⟨i, hi⟩ := List.getElem?_of_mem hm
        obtain ⟨p, w, _, _, _, ⟨b, _, e⟩, _⟩ := at_ i u hi
        exact ⟨b, e⟩
      refine SrtO.sorted_ord (swo_by swo_ltK kf) pl.isList (by rw [← hits]; exact hz) (fun h2 h₁ a' ha kk => ?_) fun out h1 h2 => ?_
      · refine kt_sortable (s := { s with heap := h₁ }) (by omega) (by show X.A.units + 1 + 1 < cLine; omega) (fun v hm => (hkf v hm).keeps fun b o e _ => (kk b o e).2) fun o e => ?_
        have e' : some o = some (PyProof.Rows.seqObj "list" its.toArray 0) := e.symm.trans ha
        cases e'
        intro c
        exact absurd (Value.type.inj c) (by decide)
      · have hp : out.Perm its := h2.perm
        have h3 : ∀ u ∈ out, ∃ a, u = Value.ref a := fun u hu => refs u (hp.mem_iff.mp hu)
        have es : out.map kf = srtP l := by
          refine srtd_uniq (List.pairwise_map.mpr h1) (srtP_srt l) ?_
          rw [← hkl]
          exact (hp.map kf).trans (srtP_perm _).symm
        obtain ⟨ep, he'⟩ := PyProof.Rows.sortedAll_at s.heap its out.toArray
        have hlen2 : (out.map L2.backV).length ≤ sizeLine := by rw [List.length_map, hp.length_eq, ← hits]; exact hz
        refine ⟨.ref _, L2.upd H (s.heap.objs.size + 1) (.lst (out.map L2.backV)), I.laid (t' := s.toks) (fun _ _ => PyProof.Rows.sortedAll_old) (Nat.le_succ _) ⟨hlen2, _, ep, L2.vals_back h3, he'⟩, rfl, ?_⟩
        refine q.lst sb (RepL.of_get _ _ (by rw [List.length_map, List.length_map, ← es, List.length_map]) fun i d v hd hv => ?_) _ (I.hok.fresh (Nat.le_succ _))
        rw [List.getElem?_map] at hd hv
        rw [← es, List.getElem?_map] at hd
        cases ho : out[i]? with
        | none => rw [ho] at hv; cases hv
        | some u =>
          rw [ho] at hv hd
          cases hv
          cases hd
          have hm : u ∈ its := hp.mem_iff.mp (List.mem_of_getElem? ho)
          obtain ⟨j, hj⟩ := List.getElem?_of_mem hm
          obtain ⟨p, w, _, _, rw', ⟨b, rfl, rfl⟩, kt⟩ := at_ j u hj
          rw [(hkf _ hm).inj kt]
          exact rw'
    · cases hk
  · cases hk
end
end Den
/-! DenK: sorted(l, key=lambda x: (len(x), x)). -/
namespace Den
open PySem PySem.Spec PyProof.Rows L2
def star : Expr → Bool
  | .Starred _ _ => true
  | _ => false
section
variable {X : Cx} {pins : List (Addr × Obj)} {σ : L2.St} {H : Hp} {s : Shared}
/-- a record of ours is tracked from now on -/
theorem inv_adopt {a : Addr} {u : HO} (I : Inv X pins σ H s) (fp : FpOk X pins H a) (new : ObjOk X.prog X.w (upd H a u) s.heap a u) : Inv X pins σ (upd H a u) s := by
  obtain ⟨f0, f1, f2, f3, f4, f5⟩ := fp
  have ne : ∀ b v, H b = some v → b ≠ a := fun b v e z => by rw [z, f0] at e; cases e
  have J := I.step (h' := s.heap) (g' := s.gens) (d' := s.drawn) (t' := s.toks) (H' := upd H a u) (ch := [a]) (fun b hb => by
      have e : b = a := by simpa using hb
      subst e
      exact ⟨f3, f1, f4, f5⟩) (fun b o _ _ _ e _ => e) (fun b o _ _ _ e _ => ⟨o.slots, e⟩) (fun b o hc e n => by rw [upd_ne (fun z => hc (by simp [z]))]; exact n) (fun b o _ e => ⟨o, e⟩)
    (fun b xs e => by rw [upd_ne (ne b _ e)]; exact e) (fun b o w e => by rw [upd_ne (ne b _ e)]; exact e) (fun b ps e => ⟨#[], by rw [upd_ne (ne b _ e), e]; simp⟩) (fun m hm => hm) (fun b w e => ?_) I.bare
  · exact J
  · by_cases hb : b = a
    · subst hb
      rw [upd_same] at e
      cases e
      exact new
    · rw [upd_ne hb] at e
      exact (I.hok b w e).stay (fun c v _ q => q) (fun c q => by rw [upd_ne (ne c _ q)]; exact q) fun c xs q => by rw [upd_ne (ne c _ q)]; exact q
theorem stk_young {b : Addr} (I : Inv X pins σ H s) (h : s.heap.objs.size ≤ b) : b ∉ frs X.stack := fun z => by
  rcases List.mem_cons.mp (I.stkSub _ z) with e | e
  · have h1 := I.lt
    rw [← e] at h1
    exact Nat.lt_irrefl _ (Nat.lt_of_lt_of_le h1 h)
  · exact I.nofs h e
abbrev lamO (qual : Str) (params : Arguments) (body : Expr) (sc : Scope) (pm : Value) (c' : Addr) (ctv : Value) : Obj := PySem.W.kla_obj "<lambda>" qual params body sc [] pm c' ctv
/-- a lambda with one parameter, nothing captured, is called -/
theorem lam_call1 {k : Nat} {A : Around} {f c' : Addr} {qual y : Str} {params : Arguments} {body : Expr} {sc : Scope} {pm ctv u : Value} {w : V} {t : TE} {Q : VK} (I : Inv X pins σ H s) (hA : A = X.A.in1.in1) (hr : Room (k + 1) A) (hc0 : X.calm = true) (S : FnScope [y] [y] sc)
    (hcl : cellsFrom (s.heap.objs.size + 1) sc.names [] = [])
    (hf : s.heap.get? f = some (lamO qual params body sc pm c' ctv)) (hc : H c' = some (LamX.CodeO c' qual))
    (hb : ∀ (cl : List (Str × Addr)) (pm cv ctv v : Value), bindArgs (PySem.W.kla_fn "<lambda>" qual params body sc cl pm cv ctv) ⟨[v], []⟩ = pure [(y, v)])
    (r : RelV w u)
    (hbody : ∀ A', Room k A' → PE { cxOf (L2N.CX X.prog X.w) X.prog X.w X.K X.mg X.base [y] qual sc f (.ref c') A X.stack s H E0 with A := A' } body t) (ht : t [some w] H Q) :
    wpAny (model X.prog X.w) A (call (.ref f) [u]) (fun v s2 => ∃ x H', Inv X pins σ H' s2 ∧ Un (frs X.stack) [] H H' s.heap s2.heap ∧ RelV x v ∧ Q x H') (fun _ _ => False) s := by
  subst hA
  obtain ⟨⟨oc, vs, tt, hoc, hdc, hvc⟩, _, _⟩ := I.hok c' _ hc
  have e0 : Env0 X.prog X.w X.K X.mg X.base X.A.in1.in1 X.stack s H := I.env0.in1.in1
  have rc : codeAny (model X.prog X.w) X.A.in1.in1 (.call (.ref f) ⟨[u], []⟩) (CR (L2N.CX X.prog X.w) X.stack X.prog X.w H s Q E0) s := by
    refine PySem.W.kla_callFunE hr.depth hf rfl S.co S.gen rfl ⟨c', oc, vs, tt, rfl, hoc, hdc, hvc⟩ ?_
    rw [hb]
    refine wpAny_pure (wpAny_newFunctionEnv_cells S.kind (fun x hx => ?_) fun env he s1 x => ?_)
    · have e : x = (y, u) := by simpa using hx
      subst e
      rcases S.par y (by simp) with q | q
      · exact .inl q
      · exact .inr ⟨q, PySem.W.cellsFrom_some _ _ _ (.inl q)⟩
    subst he
    refine ⟨I.nolimit.keeps x.toInCall.keep, ?_⟩
    have J : Inv (cxOf (L2N.CX X.prog X.w) X.prog X.w X.K X.mg X.base [y] qual sc f (.ref c') X.A.in1.in1 X.stack s H E0) [] (L2.start [y] [w]) H s1 := inv_start (ps := [y]) (us := [u]) S hr.hd e0 rfl (.cons r .nil) x
    refine PySem.W.kla_codeExpr (wpAny_mono ((hbody _ (hr.deeper _)).run [] s1 (L2.start [y] [w]) H Q J ht) (fun v s' hq => ?_) fun e s' hq => hq)
    obtain ⟨w', H', J', rv, q⟩ := hq
    exact ⟨w', H', J'.os, J'.bare, J'.base, J'.hok, rv, q⟩
  refine wpAny_call (codeAny_mono rc fun r s' hq => ?_)
  cases r with
  | error e =>
    obtain ⟨_, _, _, _, _, _, _, _, _, _, _, _, z⟩ := hq
    exact z.elim
  | ok fl =>
    cases fl with
    | ret v =>
      obtain ⟨x, H', os, bare, un, hok, rv, q⟩ := hq
      obtain ⟨hh, g', d', t', os'⟩ := s'
      obtain rfl : os' = s.os := os
      exact ⟨x, H', I.call (h' := hh) (g' := g') (d' := d') (t' := t') (ch := []) un hok bare (fun b z => absurd z (by simp)), un, rv, q⟩
    | next => exact False.elim hq
    | brk => exact False.elim hq
    | cont => exact False.elim hq
/-- a key in hand: (n, w) -/
def KeyAt (Hc : Hp) (u : Value) (n : Int) (w : V) : Prop := ∃ t o, u = .ref t ∧ Hc t = some (.frz o (.tup [.int n, w]))
/-- where the keys have been made -/
structure Keyed0 (X : Cx) (pins : List (Addr × Obj)) (σ : L2.St) (H : Hp) (f a kS : Addr) (fo : Obj) (e1 : Nat) (ws : List V) (nf : Nat → Int) (j : Nat) (kA : Array Value) (Hc : Hp) (s' : Shared) : Prop where
  inv : Inv X pins σ Hc s'
  ext : ∀ b o, H b = some o → Hc b = some o
  hf : Hc f = none ∧ s'.heap.get? f = some fo
  hk : Hc kS = none ∧ ∃ e, s'.heap.get? kS = some (seqObj "list" kA e)
  ha : Hc a = none ∧ s'.heap.get? a = some (seqObj "list" #[] e1)
  sz : kA.size = j
  keys : ∀ i, i < j → ∃ u w, kA[i]? = some u ∧ ws[i]? = some w ∧ KeyAt Hc u (nf i) w
theorem key_tree {a f : Addr} {fo : Obj} {vs : List Value} {ws : List V} {n : Nat} {nf : Nat → Int} {R : PySem.Fin → Shared → Prop} {E : Value → Shared → Prop} (I : Inv X pins σ H s) (fa : FpOk X pins H a) (nfa : a ∉ frs X.stack) (hof : s.heap.get? f = some fo) (hfn : H f = none) (hff : f ∉ frs X.stack) (haf : a ≠ f)
    (ho : s.heap.get? a = some (seqObj "list" vs.toArray n)) (hz : vs.length ≤ sizeLine) (rv : Vals ws vs)
    (hcall : ∀ (i : Nat) (v : Value) (w : V), vs[i]? = some v → ws[i]? = some w → ∀ (s1 : Shared) (H1 : Hp), Inv X pins σ H1 s1 → (∀ b o, H b = some o → H1 b = some o) → s1.heap.get? f = some fo →
      wpAny (model X.prog X.w) X.A.in1.in1 (call (.ref f) [v]) (fun u s2 => ∃ H2, Inv X pins σ H2 s2 ∧ Un (frs X.stack) [] H1 H2 s1.heap s2.heap ∧ (∀ b o, H1 b = some o → H2 b = some o) ∧ KeyAt H2 u (nf i) w) (fun _ _ => False) s1)
    (h : ∀ (kS : Addr) (e1 : Nat) (kA : Array Value) (Hc : Hp) (s' : Shared), Keyed0 X pins σ H f a kS fo e1 ws nf vs.length kA Hc s' → kS ≠ a → (∀ Hc, Hc kS = none → FpOk X pins Hc kS) → wpAny (model X.prog X.w) X.A.in1.in1 (ksk_end a false vs.toArray e1 (.ref kS) kA) R E s') :
    wpAny (model X.prog X.w) X.A.in1.in1 (ksk_tree a (.ref f) false) R E s := by
  have hla : a < s.heap.objs.size := Heap.lt_size ho
  have s1 := Heap.SameBut.update s.heap a (Obj.mapSeq fun _ => (#[] : Array Value))
  obtain ⟨e1, ho1⟩ : ∃ e1, (s.heap.update a (Obj.mapSeq fun _ => (#[] : Array Value))).get? a = some (seqObj "list" #[] e1) := ⟨_, get?_update_seq ho fun _ => #[]⟩
  have hkS : ((s.heap.update a (Obj.mapSeq fun _ => (#[] : Array Value))).push (seqObj "tuple" vs.toArray 0)).objs.size = s.heap.objs.size + 1 := by rw [size_push', Heap.size_update]
  obtain ⟨f0, f1, f2, f3, f4, f5⟩ := id fa
  have I1 : Inv X pins σ H { s with heap := s.heap.update a (Obj.mapSeq fun _ => (#[] : Array Value)) } := I.turned (t' := s.toks) (fun b o hb e => (s1.2 b hb).trans e) f0 f1 f3 f4 f5
  have I2 : Inv X pins σ H { s with heap := ((s.heap.update a (Obj.mapSeq fun _ => (#[] : Array Value))).push (seqObj "tuple" vs.toArray 0)).push (seqObj "list" #[] 0) } := I1.kept (t' := s.toks) fun b o e => Heap.get?_push_of_some _ (Heap.get?_push_of_some _ e)
  unfold ksk_tree
  refine wpAny_bind (listItems_at ho rfl ?_)
  refine wpAny_bind (listUpdate_at ho rfl ?_ (by rw [List.size_toArray]; exact hz) (Nat.zero_le _))
  refine wpAny_bind (seqEpoch_at ho1 rfl ?_)
  refine wpAny_bind (wpAny_newTuple ?_ (by show vs.length ≤ _; exact hz))
  refine wpAny_bind (wpAny_newList ?_ (Nat.zero_le _))
  refine wpAny_holding ?_
  generalize hks : ((s.heap.update a (Obj.mapSeq fun _ => (#[] : Array Value))).push (seqObj "tuple" vs.toArray 0)).objs.size = kS at hkS
  have kge : s.heap.objs.size ≤ kS := by rw [hkS]; exact Nat.le_succ _
  have nka : kS ≠ a := Nat.ne_of_gt (Nat.lt_of_lt_of_le hla kge)
  have nkf : kS ≠ f := Nat.ne_of_gt (Nat.lt_of_lt_of_le (Heap.lt_size hof) kge)
  have fkS : ∀ Hc : Hp, Hc kS = none → FpOk X pins Hc kS := fun Hc hc => ⟨hc, (I.fpOk kge (I.hok.fresh kge)).2⟩
  have nfk : kS ∉ frs X.stack := stk_young I kge
  have fk0 : ∀ Hc : Hp, Hc a = none → FpOk X pins Hc a := fun Hc hc => ⟨hc, fa.2⟩
  show wpAny (model X.prog X.w) X.A.in1.in1 (ksk_rest a (.ref f) false vs.toArray e1 (.ref kS)) R E { s with heap := ((s.heap.update a (Obj.mapSeq fun _ => (#[] : Array Value))).push (seqObj "tuple" vs.toArray 0)).push (seqObj "list" #[] 0) }
  unfold ksk_rest
  refine wpAny_bind (wpAny_rule ?_)
  first
    | rw [List.forIn_toArray]
    | (rw [← Array.forIn_toList]; simp only [List.toList_toArray])
    | rw [← Array.forIn_toList]
  refine wpAny_bind (ksk_fold (fun i s' => ∃ kA Hc, Keyed0 X pins σ H f a kS fo e1 ws nf i kA Hc s') vs 0 _ ⟨#[], H, I2, fun _ _ e => e, ⟨hfn, ?_⟩, ⟨I.hok.fresh kge, 0, ?_⟩, ⟨f0, ?_⟩, rfl, fun i hi => by omega⟩ ?step ?done)
  · exact Heap.get?_push_of_some _ (Heap.get?_push_of_some _ ((s1.2 f (Ne.symm haf)).trans hof))
  · rw [← hks]; exact Heap.get?_push_size _ rfl
  · exact Heap.get?_push_of_some _ (Heap.get?_push_of_some _ ho1)
  case step =>
    rintro j x s' hx ⟨kA, Hc, K⟩
    simp only [Nat.zero_add] at K ⊢
    have hj : j < vs.length := (List.getElem?_eq_some_iff.mp hx).1
    have hlen := rv.length
    have hw : ws[j]? = some ws[j] := List.getElem?_eq_getElem (by omega)
    refine wpAny_bind (wpAny_attempt (wpAny_mono (hcall j x _ hx hw s' Hc K.inv K.ext K.hf.2) (fun v s'' he => ?_) fun _ _ hF => hF.elim))
    obtain ⟨H2, J2, un, ex2, hkey⟩ := he
    try dsimp only
    obtain ⟨k1, e, k2⟩ := K.hk
    have kk : s''.heap.get? kS = some (seqObj "list" kA e) := un.keep kS _ k2 k1 nfk (by simp)
    have kn : H2 kS = none := un.free kS _ k2 k1 (by simp)
    have aa : s''.heap.get? a = some (seqObj "list" #[] e1) := un.keep a _ K.ha.2 K.ha.1 nfa (by simp)
    have an : H2 a = none := un.free a _ K.ha.2 K.ha.1 (by simp)
    have ff : s''.heap.get? f = some fo := un.keep f _ K.hf.2 K.hf.1 hff (by simp)
    have fn : H2 f = none := un.free f _ K.hf.2 K.hf.1 (by simp)
    have s2 := Heap.SameBut.update s''.heap kS (Obj.mapSeq (·.push v))
    obtain ⟨c2, hc2⟩ : ∃ c2, (s''.heap.update kS (Obj.mapSeq (·.push v))).get? kS = some (seqObj "list" (kA.push v) c2) := ⟨_, get?_update_seq kk (·.push v)⟩
    obtain ⟨g0, g1, g2, g3, g4, g5⟩ := fkS H2 kn
    have ksz := K.sz
    have hz2 := hz
    rw [sizeLine_eq] at hz2
    refine wpAny_bind (listUpdate_at kk rfl ?_ (by rw [sizeLine_eq]; omega) (Nat.le_trans (Nat.le_of_eq (Array.size_push ..)) (by rw [sizeLine_eq]; omega)))
    refine wpAny_pure ⟨rfl, kA.push v, H2, J2.turned (t' := s''.toks) (fun b o hb e => (s2.2 b hb).trans e) g0 g1 g3 g4 g5, fun b o e => ex2 b o (K.ext b o e), ⟨fn, (s2.2 f (Ne.symm nkf)).trans ff⟩, ⟨kn, c2, hc2⟩, ⟨an, (s2.2 a (Ne.symm nka)).trans aa⟩, by rw [Array.size_push, ksz], fun i hi => ?_⟩
    by_cases hij : i = j
    · subst hij
      exact ⟨v, ws[i], by rw [Array.getElem?_push]; simp [ksz], hw, hkey⟩
    · obtain ⟨u, w, h1, h2, t, o, h3, h4⟩ := K.keys i (by omega)
      refine ⟨u, w, ?_, h2, t, o, h3, ex2 _ _ h4⟩
      rw [Array.getElem?_push, if_neg (by omega)]; exact h1
  case done =>
    rintro s' ⟨kA, Hc, K⟩
    simp only [Nat.zero_add] at K
    obtain ⟨k1, e, k2⟩ := K.hk
    try dsimp only
    refine wpAny_bind (listItems_at k2 rfl ?_)
    exact h kS e1 kA Hc s' K nka fkS
def keyOf (ns : List Int) : Int × List Int := ((ns.length : Int), ns)
theorem key_end {a f kS : Addr} {fo : Obj} {e1 : Nat} {vs : List Value} {ws : List V} {nf : Nat → Int} {kA : Array Value} {Hc : Hp} {s' : Shared} {R : PySem.Fin → Shared → Prop} {E : Value → Shared → Prop} {itf : Value → List Int} (K : Keyed0 X pins σ H f a kS fo e1 ws nf vs.length kA Hc s')
    (fa : ∀ Hc : Hp, Hc a = none → FpOk X pins Hc a) (nka : kS ≠ a) (fk : ∀ Hc : Hp, Hc kS = none → FpOk X pins Hc kS) (hu : X.A.units + 16 < cLine) (hz : vs.length ≤ sizeLine) (rv : Vals ws vs) (refs : ∀ v ∈ vs, ∃ b, v = Value.ref b)
    (hk : ∀ (i : Nat) (u v : Value), kA[i]? = some u → vs[i]? = some v → KT s'.heap u (keyOf (itf v)))
    (h : ∀ (out : List Value) (s2 : Shared) (c : Nat), out.Perm vs → out.map (fun v => keyOf (itf v)) = srtP (vs.map fun v => keyOf (itf v)) → Inv X pins σ Hc s2 → s2.heap.get? a = some (seqObj "list" out.toArray c) → Inv X pins σ (upd Hc a (.lst (out.map backV))) s2 → R (.done (.ret .none)) s2) :
    wpAny (model X.prog X.w) X.A.in1.in1 (ksk_end a false vs.toArray e1 (.ref kS) kA) R E s' := by
  obtain ⟨k1, e, k2⟩ := K.hk
  obtain ⟨an, a2⟩ := K.ha
  have ksz := K.sz
  have I := K.inv
  have ptl : (kA.zip vs.toArray).toList = kA.toList.zip vs := ksk_zip kA vs
  have memP : ∀ p : Keyed, p ∈ (kA.zip vs.toArray).toList → ∃ i : Nat, kA[i]? = some p.1 ∧ vs[i]? = some p.2 := fun p hp => by
    rw [ptl] at hp
    obtain ⟨i, hi⟩ := List.getElem?_of_mem hp
    rw [List.getElem?_zip_eq_some] at hi
    exact ⟨i, by simpa using hi.1, hi.2⟩
  obtain ⟨kf, hkf⟩ : ∃ kf : Value → Int × List Int, ∀ u p, KT s'.heap u p → kf u = p := by
    classical
    refine ⟨fun u => if h : ∃ p, KT s'.heap u p then h.choose else (0, []), fun u p kt => ?_⟩
    have hx : ∃ p, KT s'.heap u p := ⟨p, kt⟩
    dsimp only
    rw [dif_pos hx]
    exact hx.choose_spec.inj kt
  have kfP : ∀ p : Keyed, p ∈ (kA.zip vs.toArray).toList → KT s'.heap p.1 (kf p.1) ∧ kf p.1 = keyOf (itf p.2) := fun p hp => by
    obtain ⟨i, h1, h2⟩ := memP p hp
    have kt := hk i _ _ h1 h2
    rw [hkf _ _ kt]
    exact ⟨kt, rfl⟩
  -- the end, from any arrangement that is sorted
  have tail : ∀ st : SortSt, SrtO.Srtd (fun p q : Keyed => ltK (kf p.1) (kf q.1)) (arrOf st).toList → (arrOf st).toList.Perm (kA.zip vs.toArray).toList → failedOf st = none → wpAny (model X.prog X.w) X.A.in1.in1 (ksk_tail a false e1 (.ref kS) st) R E s' := fun st hs hp hf => by
    have hlen : (arrOf st).size = vs.length := by
      have := hp.length_eq
      rw [Array.length_toList, ptl, List.length_zip, Array.length_toList, ksz, Nat.min_self] at this
      exact this
    have s1 := Heap.SameBut.update s'.heap kS (Obj.mapSeq fun _ => (#[] : Array Value))
    have a3 : (s'.heap.update kS (Obj.mapSeq fun _ => (#[] : Array Value))).get? a = some (seqObj "list" #[] e1) := (s1.2 a (Ne.symm nka)).trans a2
    have s2 := Heap.SameBut.update (s'.heap.update kS (Obj.mapSeq fun _ => (#[] : Array Value))) a (Obj.mapSeq fun _ => (arrOf st).map (·.2))
    obtain ⟨c2, hc2⟩ : ∃ c2, ((s'.heap.update kS (Obj.mapSeq fun _ => (#[] : Array Value))).update a (Obj.mapSeq fun _ => (arrOf st).map (·.2))).get? a = some (seqObj "list" ((arrOf st).map (·.2)) c2) := ⟨_, get?_update_seq a3 fun _ => (arrOf st).map (·.2)⟩
    obtain ⟨g0, g1, g2, g3, g4, g5⟩ := fk Hc k1
    obtain ⟨f0, f1, f2, f3, f4, f5⟩ := fa Hc an
    have J1 : Inv X pins σ Hc { s' with heap := s'.heap.update kS (Obj.mapSeq fun _ => (#[] : Array Value)) } := I.turned (t' := s'.toks) (fun b o hb e => (s1.2 b hb).trans e) g0 g1 g3 g4 g5
    have J2 : Inv X pins σ Hc { s' with heap := (s'.heap.update kS (Obj.mapSeq fun _ => (#[] : Array Value))).update a (Obj.mapSeq fun _ => (arrOf st).map (·.2)) } := J1.turned (t' := s'.toks) (fun b o hb e => (s2.2 b hb).trans e) f0 f1 f3 f4 f5
    have eo : ((arrOf st).map (·.2)).toList = (arrOf st).toList.map (·.2) := Array.toList_map
    have zs : (kA.toList.zip vs).map (·.2) = vs := by
      have hl0 : kA.toList.length = vs.length := (Array.length_toList).trans ksz
      rw [List.map_snd_zip (Nat.le_of_eq hl0.symm)]
    have po : ((arrOf st).toList.map (·.2)).Perm vs := by
      have := hp.map (fun p : Keyed => p.2)
      rw [ptl, zs] at this
      exact this
    have ek : ((arrOf st).toList.map (·.2)).map (fun v => keyOf (itf v)) = (arrOf st).toList.map (fun p => kf p.1) := by
      rw [List.map_map]
      exact List.map_congr_left fun p hm => ((kfP p (hp.mem_iff.mp hm)).2).symm
    have es : ((arrOf st).toList.map (·.2)).map (fun v => keyOf (itf v)) = srtP (vs.map fun v => keyOf (itf v)) := by
      rw [ek]
      refine srtd_uniq (List.pairwise_map.mpr hs) (srtP_srt _) ?_
      rw [← ek]
      exact (po.map _).trans (srtP_perm _).symm
    have vb : Vals (((arrOf st).toList.map (·.2)).map backV) ((arrOf st).toList.map (·.2)) := vals_back fun u hu => refs u (po.mem_iff.mp hu)
    unfold ksk_tail
    try dsimp only
    refine wpAny_bind (listUpdate_at k2 rfl ?_ (by rw [ksz]; exact hz) (Nat.zero_le _))
    refine wpAny_bind (wpAny_letGo ?_)
    refine wpAny_bind (seqEpoch_at a3 rfl ?_)
    refine wpAny_bind (listUpdate_at a3 rfl ?_ (Nat.zero_le _) (by
      show ((arrOf st).map (·.2)).size ≤ sizeLine + 1
      rw [Array.size_map, hlen]; omega))
    rw [hf]
    simp only [bne_self_eq_false, Bool.false_eq_true, if_false]
    refine wpAny_pure ?_
    have hl3 : (((arrOf st).toList.map (·.2)).map backV).length ≤ sizeLine := by rw [List.length_map, List.length_map, Array.length_toList, hlen]; exact hz
    have ar : ((arrOf st).map (·.2)) = ((arrOf st).toList.map (·.2)).toArray := by rw [← eo, Array.toArray_toList]
    have hc3 : ((s'.heap.update kS (Obj.mapSeq fun _ => (#[] : Array Value))).update a (Obj.mapSeq fun _ => (arrOf st).map (·.2))).get? a = some (seqObj "list" ((arrOf st).toList.map (·.2)).toArray c2) := by rw [← ar]; exact hc2
    exact h ((arrOf st).toList.map (·.2)) _ c2 po es J2 hc3 (inv_adopt J2 (fa Hc an) ⟨hl3, _, c2, vb, hc3⟩)
  unfold ksk_end
  try dsimp only
  simp only [Bool.false_eq_true, if_false]
  by_cases h2 : vs.toArray.size < 2
  · rw [if_pos h2, if_pos h2]
    refine wpAny_bind (wpAny_pure ?_)
    rw [StateT.run_pure]
    refine wpAny_bind (wpAny_pure ?_)
    try dsimp only
    refine tail (SortSt.mk' general' (kA.zip vs.toArray) #[] 7 none) ?_ (List.Perm.refl _) rfl
    show SrtO.Srtd _ (kA.zip vs.toArray).toList
    rw [ptl]
    rw [List.size_toArray] at h2
    have hl : (kA.toList.zip vs).length < 2 := by rw [List.length_zip, Array.length_toList, ksz, Nat.min_self]; exact h2
    match kA.toList.zip vs, hl with
    | [], _ => exact List.Pairwise.nil
    | [v], _ => exact List.pairwise_singleton _ _
    | _ :: _ :: l, h => exact absurd h (by rw [List.length_cons, List.length_cons]; omega)
  · rw [if_neg h2, if_neg h2]
    rw [List.size_toArray] at h2
    have kt : ∀ u ∈ kA.toList, KT s'.heap u (kf u) := fun u hm => by
      obtain ⟨i, hi⟩ := List.getElem?_of_mem hm
      have hi2 : i < vs.length := by
        have := (List.getElem?_eq_some_iff.mp hi).1
        rw [Array.length_toList, ksz] at this
        exact this
      have := hk i u vs[i] (by simpa using hi) (List.getElem?_eq_getElem hi2)
      rw [hkf _ _ this]; exact this
    have ka : kA = kA.toList.toArray := by rw [Array.toArray_toList]
    refine wpAny_bind ?_
    rw [ka]
    refine kt_kind (kf := kf) (by rw [Array.length_toList, ksz]; omega) kt ?_
    rw [← ka]
    refine wpAny_bind (wpAny_mono (SrtO.wpS_sortO (lt := fun p q : Keyed => ltK (kf p.1) (kf q.1)) (P := fun p => p ∈ (kA.zip vs.toArray).toList) (st0 := SortSt.mk' (tuples' true) (kA.zip vs.toArray) #[] 7 none)
      (Q := fun _ st' => SrtO.Srtd (fun p q : Keyed => ltK (kf p.1) (kf q.1)) (arrOf st').toList ∧ SrtO.Stb (fun p q : Keyed => ltK (kf p.1) (kf q.1)) (arrOf st').toList (kA.zip vs.toArray).toList ∧ failedOf st' = none)
      (swo_by swo_ltK fun p : Keyed => kf p.1) (fun p q hp hq => kt_lt (kfP p hp).1 (kfP q hq).1 (by show X.A.units + 1 + 1 < cLine; omega) ⟨rfl, rfl⟩) rfl (fun p hp => hp) rfl rfl fun st' a1 a2 a3 => ⟨a1, a2, a3⟩) ?_ fun _ _ e => e)
    rintro ⟨⟨⟩, st'⟩ s2 ⟨rfl, hp1, hp2, hf⟩
    try dsimp only
    exact tail st' hp1 hp2.perm hf
theorem sorted_key {l f : Addr} {fo : Obj} {vs : List Value} {ws : List V} {nf : Nat → Int} {itf : Value → List Int} {Q : VK} {E : Value → Shared → Prop} (I : Inv X pins σ H s) (hl : s.heap.IsList l vs.toArray) (hz : vs.length ≤ sizeLine) (rv : Vals ws vs) (refs : ∀ v ∈ vs, ∃ b, v = Value.ref b)
    (hof : s.heap.get? f = some fo) (hfn : H f = none) (hff : f ∉ frs X.stack) (hu : X.A.units + 16 < cLine)
    (hcall : ∀ (i : Nat) (v : Value) (w : V), vs[i]? = some v → ws[i]? = some w → ∀ (s1 : Shared) (H1 : Hp), Inv X pins σ H1 s1 → (∀ b o, H b = some o → H1 b = some o) → s1.heap.get? f = some fo →
      wpAny (model X.prog X.w) X.A.in1.in1 (call (.ref f) [v]) (fun u s2 => ∃ H2, Inv X pins σ H2 s2 ∧ Un (frs X.stack) [] H1 H2 s1.heap s2.heap ∧ (∀ b o, H1 b = some o → H2 b = some o) ∧ KeyAt H2 u (nf i) w) (fun _ _ => False) s1)
    (hkt : ∀ (s' : Shared) (Hc : Hp), Inv X pins σ Hc s' → (∀ b o, H b = some o → Hc b = some o) → ∀ (i : Nat) (u v : Value) (w : V), vs[i]? = some v → ws[i]? = some w → KeyAt Hc u (nf i) w → KT s'.heap u (keyOf (itf v)))
    (q : ∀ (out : List Value) (a : Addr) (Hc : Hp), out.Perm vs → out.map (fun v => keyOf (itf v)) = srtP (vs.map fun v => keyOf (itf v)) → (∀ b o, H b = some o → Hc b = some o) → Hc a = none → s.heap.objs.size ≤ a → Q (.ref a) (upd Hc a (.lst (out.map backV)))) :
    wpAny (model X.prog X.w) X.A (call (.builtin "sorted") [.ref l] [(Str.ofString "key", .ref f)]) (EP X pins σ Q) E s := by
  refine call_function_entry_kw kind_sorted plain_sorted entry_sorted (ksk_s1 _ _) ?_
  unfold Builtin.«sorted»
  refine wpAny_bind (m := checkCount "sorted" 1 1 _) (wpAny_pure ?_)
  refine wpAny_bind (collect_list hl ?_ hz)
  refine wpAny_bind (wpAny_newList ?_ hz)
  have hsz : ((s.heap.push (seqObj "list" #[] 0)).update s.heap.objs.size (Obj.mapSeq (· ++ vs.toArray))).objs.size = s.heap.objs.size + 1 := by
    rw [Heap.size_update, size_push']
  have hoL : (((s.heap.push (seqObj "list" #[] 0)).update s.heap.objs.size (Obj.mapSeq (· ++ vs.toArray))).push (seqObj "list" vs.toArray 0)).get? (s.heap.objs.size + 1) = some (seqObj "list" vs.toArray 0) := by
    rw [← hsz]; exact Heap.get?_push_size _ rfl
  have keep : ∀ b o, s.heap.get? b = some o → (((s.heap.push (seqObj "list" #[] 0)).update s.heap.objs.size (Obj.mapSeq (· ++ vs.toArray))).push (seqObj "list" vs.toArray 0)).get? b = some o := fun b o e => by
    have hlt : b < s.heap.objs.size := Heap.lt_size e
    refine Heap.get?_push_of_some _ ?_
    rw [Heap.get?_update_ne _ _ _ _ (Nat.ne_of_lt hlt)]
    exact Heap.get?_push_of_some _ e
  have hge : s.heap.objs.size ≤ s.heap.objs.size + 1 := Nat.le_succ _
  have fpa : ∀ Hc : Hp, Hc (s.heap.objs.size + 1) = none → FpOk X pins Hc (s.heap.objs.size + 1) := fun Hc hc => ⟨hc, (I.fpOk hge (I.hok.fresh hge)).2⟩
  have I1 : Inv X pins σ H { s with heap := ((s.heap.push (seqObj "list" #[] 0)).update s.heap.objs.size (Obj.mapSeq (· ++ vs.toArray))).push (seqObj "list" vs.toArray 0) } := I.kept (t' := s.toks) keep
  show wpAny _ _ _ _ _ { s with heap := ((s.heap.push (seqObj "list" #[] 0)).update s.heap.objs.size (Obj.mapSeq (· ++ vs.toArray))).push (seqObj "list" vs.toArray 0) }
  rw [hsz]
  refine wpAny_bind (wpAny_holding (wpAny_call_entry_kw slot_list_sort ⟨_, hoL, rfl⟩ entry_list_sort ?body (ksk_l1 _ _)))
  case body =>
    show wpAny (model X.prog X.w) X.A.in1.in1 (Builtin.«list.sort» ⟨[.ref (s.heap.objs.size + 1)], [(Str.ofString "key", .ref f)]⟩) _ _ _
    rw [ksk_t1]
    refine key_tree (s := { s with heap := ((s.heap.push (seqObj "list" #[] 0)).update s.heap.objs.size (Obj.mapSeq (· ++ vs.toArray))).push (seqObj "list" vs.toArray 0) }) I1 (fpa H (I.hok.fresh hge)) (stk_young I hge) (keep _ _ hof) hfn hff (Nat.ne_of_gt (Nat.lt_succ_of_lt (Heap.lt_size hof))) hoL hz rv hcall fun kS e1 kA Hc s' K nka fk => ?_
    refine key_end (itf := itf) K fpa nka fk hu hz rv refs (fun i u v h1 h2 => ?_) fun out s2 c hp hm I2 hg2 J => ⟨_, rfl, ?_⟩
    · have hi : i < vs.length := (List.getElem?_eq_some_iff.mp h2).1
      obtain ⟨u', w, h3, h4, h5⟩ := K.keys i hi
      rw [h1] at h3
      cases h3
      exact hkt s' Hc K.inv K.ext i u v w h2 h4 h5
    · exact wpAny_pure ⟨_, rfl, .ref _, _, J, rfl, q out _ Hc hp hm K.ext K.ha.1 hge⟩
end
theorem star_no' {e : Expr} {es : List Expr} {env : Env} (h : star e = false) : starEach (e :: es) env = (false, eval e env) :: starEach es env := by
  cases e <;> first | rfl | simp [star] at h
/-- no captured name, no cell -/
def noCF (sc : Scope) : Bool := sc.names.all fun y => match y.2 with
  | .cell => false
  | .free => false
  | _ => true
theorem cloFrom_no {cells : List (Str × Addr)} : ∀ {names : List (Str × NameKind)} {acc : List (Str × Addr)}, (∀ y ∈ names, y.2 ≠ .free) → cloFrom cells names acc = acc
  | [], _, _ => rfl
  | (n, k) :: r, acc, h => by
    unfold cloFrom
    have hk : (k == NameKind.free) = false := by
      have := h (n, k) List.mem_cons_self
      cases k <;> first | rfl | exact absurd rfl this
    rw [hk]
    exact cloFrom_no fun y hy => h y (List.mem_cons_of_mem _ hy)
theorem cellsFrom_no : ∀ {names : List (Str × NameKind)} {n : Nat} {acc : List (Str × Addr)}, (∀ y ∈ names, y.2 ≠ .cell) → cellsFrom n names acc = acc
  | [], _, _, _ => rfl
  | (x, k) :: r, n, acc, h => by
    unfold cellsFrom
    have hk : (k == NameKind.cell) = false := by
      have := h (x, k) List.mem_cons_self
      cases k <;> first | rfl | exact absurd rfl this
    rw [hk]
    exact cellsFrom_no fun y hy => h y (List.mem_cons_of_mem _ hy)
theorem noCF_of {sc : Scope} (h : noCF sc = true) : (∀ y ∈ sc.names, y.2 ≠ .free) ∧ ∀ y ∈ sc.names, y.2 ≠ .cell := by
  refine ⟨fun y hy e => ?_, fun y hy e => ?_⟩
  all_goals
    have q := List.all_eq_true.mp h y hy
    rw [e] at q
    cases q
/-- the def's code object is known, and its table -/
def LamF (g : Gx) (X : Cx) : Prop := ∃ c P, LamX.TabB X.base X.mg c P ∧ X.env.code = .ref c ∧ (P, X.env.qual ++ "<lambda>") ∈ g.T ∧ ∀ p ∈ g.T, p.1 = P → p.2 = X.env.qual ++ "<lambda>"
section
variable {g : Gx} {E : XK} {X : Cx}
theorem sub_extN {Φ H H' : Hp} (sb : Sub Φ H) (e : LamX.ExtN H H') : Sub Φ H' := fun a u h => by
  obtain ⟨n, z⟩ := sb a u h
  refine ⟨n, ?_⟩
  rcases z with z | ⟨o, kvs, z, y⟩
  · exact .inl (e _ _ z n)
  · exact .inr ⟨o, kvs, z, e _ _ y fun _ => HO.noConfusion⟩
theorem seq_extN {H H' : Hp} {a : Addr} {xs : List V} (h : SqL g.K H a xs) (e : LamX.ExtN H H') : SqL g.K H' a xs := by
  rcases h with (h | ⟨o, h⟩) | h
  · exact .inl (.inl (e _ _ h fun _ => HO.noConfusion))
  · exact .inl (.inr ⟨o, e _ _ h fun _ => HO.noConfusion⟩)
  · exact .inr h
theorem tupsOf_get : ∀ {ds : List D} {l : List (List Int)}, tupsOf ds = some l → ds = l.map tupI
  | [], l, h => by simp only [tupsOf, Option.some.injEq] at h; subst h; rfl
  | .tup ns :: r, l, h => by
    simp only [tupsOf] at h
    split at h
    · rename_i is l' e1 e2
      cases h
      have e3 : ∀ {ns : List D} {is : List Int}, intsOf ns = some is → ns = is.map D.int := by
        intro ns
        induction ns with
        | nil => intro is e; simp only [intsOf, Option.some.injEq] at e; subst e; rfl
        | cons d ds ih =>
          intro is e
          cases d with
          | int i =>
            simp only [intsOf] at e
            cases q : intsOf ds with
            | none => rw [q] at e; cases e
            | some l => rw [q] at e; cases e; rw [ih q]; rfl
          | _ => simp [intsOf] at e
      rw [List.map_cons, ← tupsOf_get e2, e3 e1]
      rfl
    · cases h
  | .non :: r, l, h => by simp [tupsOf] at h
  | .bl _ :: r, l, h => by simp [tupsOf] at h
  | .int _ :: r, l, h => by simp [tupsOf] at h
  | .str _ :: r, l, h => by simp [tupsOf] at h
  | .lst _ _ :: r, l, h => by simp [tupsOf] at h
  | .obj _ :: r, l, h => by simp [tupsOf] at h
  | .kt _ :: r, l, h => by simp [tupsOf] at h
  | .dc _ _ _ :: r, l, h => by simp [tupsOf] at h
  | .lam _ :: r, l, h => by simp [tupsOf] at h
  | .any :: r, l, h => by simp [tupsOf] at h
/-- what is asked of the list -/
def rKey (g : Gx) : V → Hp → VK → Prop := fun v H Q => ∃ (Φ : Hp) (ρ : List Addr) (d r : D), Sub Φ H ∧ LamX.Tabs g.T H ∧ PkR g Φ H ρ d v ∧ keySrt d = some r ∧ Aft g Φ H ρ r Q
theorem key_to {c : C} {m : M (Option D)} {σ : L2.St} {H : Hp} {Q : VK} (h : EvR g E (bnd m fun x => bnd (fill1 c x) fun d => lift (keySrt d)) σ H Q) : OpdR g E c m σ H fun v H1 => rKey g v H1 Q := by
  obtain ⟨Φ, ρ, s, fs, F, r, k, hm, p⟩ := h
  rcases bnd_some hm with ⟨o, s1, h1, h2⟩ | ⟨x, h1, rfl⟩
  · refine OpdR.val k h1 fun Φ1 H1 ρ1 v fs1 st1 k1 pd => ?_
    rcases bnd_some h2 with ⟨d, s2, h3, h4⟩ | ⟨x, h3, rfl⟩
    · obtain ⟨d', s', Φ2, fs2, e, st2, k2, pk⟩ := fill1_ok k1 pd h3
      cases e
      obtain ⟨z, e1, rfl⟩ := lift_some h4
      exact ⟨Φ2, ρ1, d, z, k2.sub, k2.tab, pk, e1, k2.aft (p.shift (st1.trans st2 fun _ h => h) fun _ h => h)⟩
    · obtain ⟨_, _, _, _, e, _⟩ := fill1_ok k1 pd h3
      cases e
  · exact OpdR.exc k h1 p
theorem pe_srtKey {e : Expr} {a : C} {m : M (Option D)} {y : Str} {params : Arguments} {sc : Scope} {kk : Nat} {p p1 p2 p3 p4 p5 kpos lpos pos : Pos} (hK : X.K = g.K) (hcalm : X.calm = true) (hu : X.A.units + 65 < cLine) (hr : Room 2 X.A) (hL : LamF g X)
    (hg : Gl X "sorted") (hm : X.mg "sorted" = none) (hml : X.mg "len" = none) (he : PE X e (OpdR g E a m)) (hs : star e = false) (S : FnScope [y] [y] sc) (hn : noCF sc = true) (hlen : sc.names.lookup ("len" : Str) = some .globalImplicit)
    (hyd : (y == ("__debug__" : Str)) = false) (hyc : (y == ("__classdict__" : Str)) = false) (hdef : defaultsOf params X.env = ([], []))
    (hb : ∀ (qual : Str) (cl : List (Str × Addr)) (pm cv ctv v : Value), bindArgs (PySem.W.kla_fn "<lambda>" qual params (.Tuple [.Call (.Name "len" p1) [.Name y p2] [] p3, .Name y p4] kk p5) sc cl pm cv ctv) ⟨[v], []⟩ = pure [(y, v)]) :
    PE X (.Call (.Name "sorted" p) [e] [⟨some "key", .Lambda params (.Tuple [.Call (.Name "len" p1) [.Name y p2] [] p3, .Name y p4] kk p5) sc lpos, kpos⟩] pos) (EvR g E (bnd m fun x => bnd (fill1 a x) fun d => lift (keySrt d))) := by
  refine pe_imp (t := fun σ H Q => tCons (OpdR g E a m) tNil σ H fun vs H1 => ∃ v, vs = [v] ∧ rKey g v H1 Q) ⟨fun pins s σ H Q I h => ?_⟩ fun σ H Q h => ?_
  case refine_2 =>
    have z := key_to h
    obtain ⟨Φ, ρ, s, fs, F, r, k, hm, p⟩ := z
    refine ⟨Φ, ρ, s, fs, F, r, k, hm, ?_⟩
    cases r with
    | val o s' => exact fun Φ' H' ρ' v fs' st ok pd => ⟨v, rfl, p Φ' H' ρ' v fs' st ok pd⟩
    | exc x => exact p
  obtain ⟨hnf, hnc⟩ := noCF_of hn
  have hst : starEach [e] X.env = (false, eval e X.env) :: starEach [] X.env := star_no' hs
  refine wpAny_Call_Name_kw (ld_blt I hg hm (show bootBuiltins "sorted" = some (.builtin "sorted") by decide +kernel) ?_)
  refine callWith_kw (L2.thn ((pa_cons he pa_nil hst).run pos pins s σ H _ I h) fun us s1 z => ?_) (by rw [hst]; rfl) (by rw [hst]; rfl)
  obtain ⟨vs, H1, I1, r1, v, rfl, Φ, ρ, d, r, sb, tb, pk, hk, af⟩ := z
  obtain ⟨u, rfl, ru⟩ := vals1 r1
  obtain ⟨c, P, TB, hcode, hT, huq⟩ := hL
  show wpAny _ _ (evalAll [(do let v ← eval (.Lambda params (.Tuple [.Call (.Name "len" p1) [.Name y p2] [] p3, .Name y p4] kk p5) sc lpos) X.env; standAt pos; pure v)]) _ _ s1
  refine wpAny_evalAll_cons (wpAny_bind (LamX.lam_make2 I1 TB hcode hT huq tb hdef (fun y hy e => absurd e (hnf y hy)) fun f c' pm ctv H2 s2 I2 eN T2 hof hfn hff hco => wpAny_bind (wpAny_standAt (wpAny_pure (wpAny_evalAll_nil ?_)))))
  rw [cloFrom_no hnf] at hof
  show wpAny _ _ (call (.builtin "sorted") [u] [(Str.ofString "key", .ref f)]) _ _ s2
  -- the list
  cases d with
  | lst o ds =>
    simp only [keySrt] at hk
    cases q : tupsOf ds with
    | none => rw [q] at hk; cases hk
    | some l =>
      rw [q] at hk
      cases hk
      have e1 := tupsOf_get q
      subst e1
      obtain ⟨la, ws, rfl, t, rr⟩ := pk.lst sb
      cases ru
      have t2 : SqL X.K H2 la ws := by rw [hK]; exact seq_extN t eN
      have sb2 : Sub Φ H2 := sub_extN sb eN
      obtain ⟨its, rv, pl, hz⟩ := I2.list t2
      have hlenW := RepL.len _ _ _ rr
      rw [List.length_map] at hlenW
      have hits := rv.length
      have subE : ∀ {H3 : Hp}, (∀ b o, H2 b = some o → H3 b = some o) → Sub Φ H3 := fun {H3} ex a u h => by
        obtain ⟨n, z⟩ := sb2 a u h
        refine ⟨n, ?_⟩
        rcases z with z | ⟨o, kvs, z, y⟩
        · exact .inl (ex _ _ z)
        · exact .inr ⟨o, kvs, z, ex _ _ y⟩
      have at_ : ∀ (i : Nat) (u : Value) (w : V), its[i]? = some u → ws[i]? = some w → ∃ ns, l[i]? = some ns ∧ Rep g Φ (fun _ => none) ρ (tupI ns) w [] ∧ ∃ b, w = .ref b ∧ u = .ref b := fun i u w hi hw => by
        have hl : i < its.length := (List.getElem?_eq_some_iff.mp hi).1
        have hl2 : i < l.length := by omega
        have hd : (l.map tupI)[i]? = some (tupI l[i]) := by rw [List.getElem?_map, List.getElem?_eq_getElem hl2]; rfl
        obtain ⟨w', hw', rw'⟩ := RepL.get _ _ rr i _ hd
        rw [hw] at hw'
        cases hw'
        obtain ⟨u', hu', ru'⟩ := rv.get hw
        rw [hi] at hu'
        cases hu'
        have rw2 := rw'
        simp only [tupI, Rep] at rw2
        obtain ⟨b, _, rfl, _⟩ := rw2
        cases ru'
        exact ⟨l[i], List.getElem?_eq_getElem hl2, rw'.any, b, rfl, rfl⟩
      obtain ⟨itf, hitf⟩ : ∃ itf : Value → List Int, ∀ (i : Nat) (u : Value), its[i]? = some u → l[i]? = some (itf u) := by
        classical
        refine ⟨fun u => if h : ∃ ns b its, u = Value.ref b ∧ s2.heap.IsTuple b its ∧ IntsAre its.toList ns then h.choose else [], fun i u hi => ?_⟩
        have hl : i < its.length := (List.getElem?_eq_some_iff.mp hi).1
        have hw : ws[i]? = some ws[i] := List.getElem?_eq_getElem (by omega)
        obtain ⟨ns, h1, h2, b, h3, h4⟩ := at_ i u _ hi hw
        obtain ⟨b', its', e', ht, hia⟩ := tup_ints hK I2 sb2 (h2.any (H' := H2))
        rw [h3] at e'
        cases e'
        have hx : ∃ ns b its, u = Value.ref b ∧ s2.heap.IsTuple b its ∧ IntsAre its.toList ns := ⟨ns, b, its', h4, ht, hia⟩
        dsimp only
        rw [dif_pos hx, h1]
        obtain ⟨b2, its2, e2, ht2, hia2⟩ := hx.choose_spec
        rw [h4] at e2
        cases e2
        obtain ⟨o1, ho1, _, n1, hd1⟩ := ht
        obtain ⟨o2, ho2, _, n2, hd2⟩ := ht2
        rw [ho1] at ho2; cases ho2
        rw [hd1] at hd2
        injection hd2 with e6 e7
        subst e6
        exact congrArg some (by rw [← hia.nums, ← hia2.nums])
      have refs : ∀ v ∈ its, ∃ b, v = Value.ref b := fun v hv => by
        obtain ⟨i, hi⟩ := List.getElem?_of_mem hv
        have hl : i < its.length := (List.getElem?_eq_some_iff.mp hi).1
        obtain ⟨_, _, _, b, _, h4⟩ := at_ i v _ hi (List.getElem?_eq_getElem (show i < ws.length by omega))
        exact ⟨b, h4⟩
      have hpar : Vis sc y := by rcases S.par y (by simp) with k | k; exact .inl k; exact .inr (.inl k)
      refine sorted_key (nf := fun i => (((l[i]?).getD []).length : Nat)) (itf := itf) I2 pl.isList (by rw [← hits]; exact hz) rv refs hof hfn hff (by omega) (fun i v w hv hw s3 H3 I3 ex hof3 => ?_) (fun s3 Hc I3 ex i u v w hv hw hkey => ?_) fun out pa Hc hp hm ex hna hge => ?_
      · obtain ⟨ns, h1, h2, b, rfl, rfl⟩ := at_ i v w hv hw
        have sb3 := subE ex
        refine L2.thn (lam_call1 (k := 0) (w := .ref b) (y := y) (Q := fun x H' => (∀ b o, H3 b = some o → H' b = some o) ∧ ∃ t o, x = .ref t ∧ H' t = some (.frz o (.tup [.int (ns.length : Nat), .ref b]))) (t := tTupF (tCons (tCB (rLen X.K) (tCons (tVar 0) tNil)) (tCons (tVar 0) tNil))) I3 rfl ⟨hr.hd, ?_, ?_⟩ hcalm S (cellsFrom_no hnc) hof3 (ex _ _ hco) (fun cl pm cv ctv v => hb _ cl pm cv ctv v) rfl (fun A' hr' => ?_) ?_) fun x s4 z => ?_
        · have := hr.dp; show X.A.depth + 3 * 1 + 5 < _; omega
        · have := hr.un; show X.A.units + 1 + 1 + 16 * 1 + 200 < _; omega
        · exact pe_tupF (pa_cons (pe_callB call_len (by exact hlen) (by exact hml) (by decide +kernel) (pa_cons (pe_var (i := 0) rfl hpar hyd hyc) pa_nil rfl) (by decide) (by decide) rfl rfl) (pa_cons (pe_var (i := 0) rfl hpar hyd hyc) pa_nil rfl) rfl)
        · have rb := h2
          simp only [tupI, Rep] at rb
          obtain ⟨b2, wv, e2, tt, rrb⟩ := rb
          cases e2
          have hwl : wv.length = ns.length := by rw [RepL.len _ _ _ rrb, List.length_map]
          refine ⟨.ref b, rfl, .ref b, ns.length, rfl, .inr ⟨wv, by rw [hK]; exact sub_t sb3 tt.sq, hwl.symm⟩, .ref b, rfl, (show 2 ≤ sizeLine by decide), fun q o hq hd => ?_⟩
          exact ⟨fun b' o' e => by rw [upd_ne (ne_of_none e hq)]; exact e, q, o, rfl, upd_same⟩
        · obtain ⟨x', H', J, un, rx, ex4, t, o, rfl, ht⟩ := z
          cases rx
          refine ⟨H', J, un, ex4, t, o, rfl, ?_⟩
          have : ((l[i]?).getD []) = ns := by rw [h1]; rfl
          rw [this]; exact ht
      · obtain ⟨ns, h1, h2, b, rfl, rfl⟩ := at_ i v w hv hw
        have e2 := hitf i _ hv
        rw [h1] at e2
        cases e2
        obtain ⟨b', its', e', ht, hia⟩ := tup_ints hK I3 (subE ex) (h2.any (H' := Hc))
        cases e'
        obtain ⟨t, o, rfl, hh⟩ := hkey
        obtain ⟨e3, hz3, its3, rv3, ob, e4, hc4, n4, hd4⟩ := I3.hok t _ hh
        rw [e3] at e4
        cases e4
        obtain ⟨u1, u2, rfl, q1, q2⟩ := vals2 rv3
        obtain ⟨tk, rfl⟩ := q1
        cases q2
        have : ((l[i]?).getD []) = itf (.ref b) := by rw [h1]; rfl
        rw [this] at hd4
        exact ⟨t, o, tk, b, n4, its', rfl, e3, hc4, hd4, ht, hia⟩
      · have hml2 : its.map (fun v => keyOf (itf v)) = l.map fun a => ((a.length : Int), a) := by
          apply List.ext_getElem?
          intro i
          rw [List.getElem?_map, List.getElem?_map]
          cases hi : its[i]? with
          | none =>
            have h1 : its.length ≤ i := List.getElem?_eq_none_iff.mp hi
            rw [List.getElem?_eq_none_iff.mpr (by omega)]; rfl
          | some u => rw [hitf i u hi]; rfl
        have eds : (srtP (l.map fun a => ((a.length : Int), a))).map (fun p => tupI p.2) = out.map fun v => tupI (itf v) := by
          rw [← hml2, ← hm, List.map_map]; rfl
        rw [eds] at af
        have w1 : Grow g Φ H1 Φ Hc := ⟨fun b o e n => ex _ _ (eN _ _ e n), fun _ => T2.ext ex, fun _ _ h => h, subE ex, fun _ h => h.1⟩
        have rl : RepL g Φ Hc ρ (out.map fun v => tupI (itf v)) (out.map backV) [] := by
          refine RepL.of_get _ _ (by rw [List.length_map, List.length_map]) fun i d v hd hv => ?_
          rw [List.getElem?_map] at hd hv
          cases ho : out[i]? with
          | none => rw [ho] at hv; cases hv
          | some u =>
            rw [ho] at hv hd
            cases hv
            cases hd
            have hmem : u ∈ its := hp.mem_iff.mp (List.mem_of_getElem? ho)
            obtain ⟨j, hj⟩ := List.getElem?_of_mem hmem
            have hjl : j < its.length := (List.getElem?_eq_some_iff.mp hj).1
            obtain ⟨ns, h1, h2, b, h3, h4⟩ := at_ j u _ hj (List.getElem?_eq_getElem (show j < ws.length by omega))
            have e2 := hitf j _ hj
            rw [h1] at e2
            cases e2
            subst h4
            rw [h3] at h2
            exact h2.any
        obtain ⟨w2, r2⟩ := new_lst (subE ex) rl hna
        refine af _ _ _ [pa] (w1.trans w2) r2 (by simp) fun x hx u hu => ?_
        simp only [List.mem_singleton] at hx
        subst hx
        apply Classical.byContradiction
        intro hnt
        have := ex _ _ (eN _ _ hu fun ps z => hnt ⟨ps, z⟩)
        rw [hna] at this
        cases this
  | _ => simp [keySrt] at hk
end
end Den
/-! Den8: targets, what is walked, comprehensions. -/
namespace Den
open PySem PySem.Spec L2
mutual
def tgSl : Tg → List Nat
  | .nm i => [i]
  | .tp ts => tgSls ts
def tgSls : List Tg → List Nat
  | [] => []
  | t :: ts => tgSl t ++ tgSls ts
end
def isTp : Tg → Bool
  | .tp _ => true
  | _ => false
section
variable {g : Gx} {E : XK} {X : Cx} {Φ Φ1 Φ' H H1 H' : Hp} {ρ ρ1 ρ' : List Addr} {F F1 : Addr → Prop} {σ : L2.St} {s : S} {fs : Ix → List Addr} {Q : VK}
/-- a value, or (for a tuple target) a tuple of any make -/
def VlW (g : Gx) (Φ H : Hp) (ρ : List Addr) (tg : Tg) (d : D) (v : V) (f : List Addr) (F : Addr → Prop) : Prop :=
  Vl g Φ H ρ d v f F ∨ (isTp tg = true ∧ ∃ es a vs, d = .tup es ∧ v = .ref a ∧ SqT g.K Φ a vs ∧ VlL g Φ H ρ es vs f F)
def AsgR (g : Gx) (tg : Tg) : TG := fun v σ H Q => ∃ Φ ρ s s' fs F f d, Ok g Φ H ρ s σ fs (fadd f F) ∧ VlW g Φ H ρ tg d v f F ∧ asg tg d s = some (.val () s') ∧
  ∀ σ' fs', σ'.length = σ.length → (∀ j, j ∉ tgSl tg → σ'[j]? = σ[j]? ∧ s'.sl[j]? = s.sl[j]?) → Ok g Φ H ρ s' σ' fs' F → Q σ' H
def AsgRs (g : Gx) (ts : List Tg) : TGs := fun vs σ H Q => ∃ Φ ρ s s' fs F f ds, Ok g Φ H ρ s σ fs (fadd f F) ∧ VlL g Φ H ρ ds vs f F ∧ asgs ts ds s = some (.val () s') ∧
  ∀ σ' fs', σ'.length = σ.length → (∀ j, j ∉ tgSls ts → σ'[j]? = σ[j]? ∧ s'.sl[j]? = s.sl[j]?) → Ok g Φ H ρ s' σ' fs' F → Q σ' H
theorem pg_imp {e : Expr} {t t' : TG} (h : PG X e t) (k : ∀ v σ H Q, t' v σ H Q → t v σ H Q) : PG X e t' := ⟨fun pins s σ H v u Q I r q => h.run pins s σ H v u Q I r (k v σ H Q q)⟩
theorem pgs_imp {e : List Expr} {t t' : TGs} (h : PGs X e t) (k : ∀ v σ H Q, t' v σ H Q → t v σ H Q) : PGs X e t' := ⟨fun pins s σ H v u Q I r q => h.run pins s σ H v u Q I r (k v σ H Q q)⟩
theorem asg_nm {i : Nat} {e : Expr} (h : PG X e (gName i)) : PG X e (AsgR g (.nm i)) := pg_imp h fun v σ H Q h => by
  obtain ⟨Φ, ρ, s, s', fs, F, f, d, k, vl, hm, q⟩ := h
  have vl : Vl g Φ H ρ d v f F := by
    rcases vl with vl | ⟨h, _⟩
    · exact vl
    · simp [isTp] at h
  simp only [asg] at hm
  split at hm
  · rename_i hi
    cases hm
    refine q _ _ (by simp) (fun j hj => ?_) (k.set vl hi)
    simp only [tgSl, List.mem_singleton] at hj
    exact ⟨List.getElem?_set_ne (Ne.symm hj), List.getElem?_set_ne (Ne.symm hj)⟩
  · cases hm
theorem asgs_nil (h : PGs X [] gNil) : PGs X [] (AsgRs g []) := pgs_imp h fun v σ H Q h => by
  obtain ⟨Φ, ρ, s, s', fs, F, f, ds, k, vl, hm, q⟩ := h
  cases ds with
  | nil =>
    simp only [asgs] at hm
    cases ret_some hm
    have r := vl.rep
    simp only [RepL] at r
    exact ⟨r.1, q σ fs rfl (fun j _ => ⟨rfl, rfl⟩) k.drop⟩
  | cons _ _ => simp [asgs, stuck] at hm
theorem asgs_cons {t : Tg} {ts : List Tg} {e : Expr} {es : List Expr} (h : PGs X (e :: es) (gCons (AsgR g t) (AsgRs g ts))) : PGs X (e :: es) (AsgRs g (t :: ts)) := pgs_imp h fun v σ H Q h => by
  obtain ⟨Φ, ρ, s, s', fs, F, f, ds, k, vl, hm, q⟩ := h
  cases ds with
  | nil => simp [asgs, stuck] at hm
  | cons d ds =>
    simp only [asgs] at hm
    obtain ⟨r, nd, out⟩ := vl
    simp only [RepL] at r
    obtain ⟨v0, vs', f1, f2, rfl, rfl, r1, r2⟩ := r
    obtain ⟨n1, n2, n3⟩ := List.nodup_append.mp nd
    rcases bnd_some hm with ⟨⟨⟩, s1, h1, h2⟩ | ⟨x, h1, e⟩
    · refine ⟨v0, vs', rfl, Φ, ρ, s, s1, fs, fadd f2 F, f1, d, k.less fun a ha => ?_, .inl ⟨r1, n1, fun a ha z => ?_⟩, h1, fun σ' fs' hl hs ok => ?_⟩
      · rcases ha with ha | ha | ha
        · exact .inl (List.mem_append_left _ ha)
        · exact .inl (List.mem_append_right _ ha)
        · exact .inr ha
      · rcases z with z | z
        · exact n3 a ha a z rfl
        · exact out a (List.mem_append_left _ ha) z
      · refine ⟨Φ, ρ, s1, s', fs', F, f2, ds, ok, ⟨r2, n2, fun a ha => out a (List.mem_append_right _ ha)⟩, h2, fun σ2 fs2 hl2 hs2 ok2 => ?_⟩
        refine q σ2 fs2 (hl2.trans hl) (fun j hj => ?_) ok2
        simp only [tgSls, List.mem_append, not_or] at hj
        exact ⟨((hs2 j hj.2).1).trans (hs j hj.1).1, ((hs2 j hj.2).2).trans (hs j hj.1).2⟩
    · cases e
theorem asg_tp {ts : List Tg} {e : Expr} {n : Nat} (hK : X.K = g.K) (hn : ts.length = n) (h : PG X e (gTup X.K n (AsgRs g ts))) : PG X e (AsgR g (.tp ts)) := pg_imp h fun v σ H Q h => by
  obtain ⟨Φ, ρ, s, s', fs, F, f, d, k, vl, hm, q⟩ := h
  have lens : ∀ (ts : List Tg) (ds : List D) (s s' : S), asgs ts ds s = some (.val () s') → ds.length = ts.length := by
    intro ts
    induction ts with
    | nil => intro ds s s' h; cases ds with | nil => rfl | cons _ _ => simp [asgs, stuck] at h
    | cons t ts ih =>
      intro ds s s' h
      cases ds with
      | nil => simp [asgs, stuck] at h
      | cons d ds =>
        simp only [asgs] at h
        rcases bnd_some h with ⟨⟨⟩, s1, h1, h2⟩ | ⟨x, h1, e⟩
        · simp [ih _ _ _ h2]
        · cases e
  cases d with
  | tup es =>
    simp only [asg] at hm
    have fin : ∀ a vs, v = .ref a → SqT g.K Φ a vs → VlL g Φ H ρ es vs f F → gTup X.K n (AsgRs g ts) v σ H Q := fun a vs e t vv => by
      refine ⟨a, vs, e, by rw [hK]; exact sub_t k.sub t, ?_, Φ, ρ, s, s', fs, F, f, es, k, vv, hm, fun σ' fs' hl hs ok => q σ' fs' hl hs ok⟩
      rw [RepL.len _ _ _ vv.rep, lens _ _ _ _ hm, hn]
    rcases vl with vl | ⟨_, es', a, vs, e, rfl, t, vv⟩
    · obtain ⟨r, nd, out⟩ := vl
      simp only [Rep] at r
      obtain ⟨a, vs, rfl, t, r⟩ := r
      exact fin a vs rfl t.sq ⟨r, nd, out⟩
    · cases e
      exact fin a vs rfl t vv
  | _ => simp [asg, stuck] at hm
/-! ### what is walked -/
/-- J goes through the items ds -/
def Walk (g : Gx) (J : L2.It) (Φ1 : Hp) (ρ1 : List Addr) (tg : Tg) (ds : List D) : Prop := ∀ Φ2 H2 ρ2, Ext Φ1 Φ2 → ρ1 <+: ρ2 → Sub Φ2 H2 → ∀ i : Nat,
  (∀ d, ds[i]? = some d → J.go i H2 ∧ ∀ x H', J.yld i H2 x H' → ∃ Φ3, Grow g Φ2 H2 Φ3 H' ∧
    (Rep g Φ3 H' ρ2 d x [] ∨ (isTp tg = true ∧ ∃ es a vs, d = .tup es ∧ x = .ref a ∧ SqT g.K Φ3 a vs ∧ RepL g Φ3 H' ρ2 es vs []))) ∧
  (ds.length ≤ i → J.stop i H2)
def ItR (g : Gx) (E : XK) (tg : Tg) (m : M (List D)) : TI := fun σ H R => ∃ Φ ρ s fs F r, Ok g Φ H ρ s σ fs F ∧ m s = some r ∧ match r with
  | .val ds s' => ∀ Φ' H' ρ' fs' J, Stp Φ H ρ F Φ' H' ρ' → Ok g Φ' H' ρ' s' σ fs' F → Walk g J Φ' ρ' tg ds → R J H'
  | .exc x => PX g E Φ H ρ F x
theorem walk_list {a : Addr} {vs : List V} {ds : List D} {tg : Tg} (t : SqL g.K Φ1 a vs) (r : RepL g Φ1 H1 ρ1 ds vs []) : Walk g (Itl g.K a) Φ1 ρ1 tg ds := fun Φ2 H2 ρ2 e p sb i => by
  have t2 : SqL g.K H2 a vs := sub_l sb (ext_l e t)
  have hl := RepL.len _ _ _ r
  refine ⟨fun d hd => ?_, fun hi => ⟨vs, t2, by rw [hl]; exact hi⟩⟩
  obtain ⟨v, hv, rv⟩ := RepL.get _ _ r i d hd
  refine ⟨⟨vs, v, t2, hv⟩, fun x H' hy => ?_⟩
  obtain ⟨rfl, hy⟩ := hy
  have e1 := hy vs t2
  rw [hv] at e1
  cases e1
  exact ⟨Φ2, Grow.refl sb, .inl (Rep.mono e p d v [] (fun a ha => by cases ha) rv)⟩
theorem walk_tup {a : Addr} {vs : List V} {ds : List D} {tg : Tg} (t : SqT g.K Φ1 a vs) (r : RepL g Φ1 H1 ρ1 ds vs []) : Walk g (Itt g.K a) Φ1 ρ1 tg ds := fun Φ2 H2 ρ2 e p sb i => by
  have t2 : SqT g.K H2 a vs := sub_t sb (ext_t e t)
  have hl := RepL.len _ _ _ r
  refine ⟨fun d hd => ?_, fun hi => ⟨vs, t2, by rw [hl]; exact hi⟩⟩
  obtain ⟨v, hv, rv⟩ := RepL.get _ _ r i d hd
  refine ⟨⟨vs, v, t2, hv⟩, fun x H' hy => ?_⟩
  obtain ⟨rfl, hy⟩ := hy
  have e1 := hy vs t2
  rw [hv] at e1
  cases e1
  exact ⟨Φ2, Grow.refl sb, .inl (Rep.mono e p d v [] (fun a ha => by cases ha) rv)⟩
theorem walk_str {s : List Nat} {tg : Tg} : Walk g (Its ⟨s.toArray⟩) Φ1 ρ1 tg (signs s) := fun Φ2 H2 ρ2 e p sb i => by
  refine ⟨fun d hd => ?_, fun h => (show s.length ≤ i by simpa [signs] using h)⟩
  have hl : i < s.length := by have := (List.getElem?_eq_some_iff.mp hd).1; simpa [signs] using this
  simp only [signs, List.getElem?_map, List.getElem?_eq_getElem hl, Option.map_some, Option.some.injEq] at hd
  subst hd
  refine ⟨(show i < s.length from hl), fun x H' hy => ?_⟩
  obtain ⟨rfl, c, hc, rfl⟩ := hy
  have : c = s[i] := by
    simp only [List.getElem?_toArray, List.getElem?_eq_getElem hl, Option.some.injEq] at hc
    exact hc.symm
  subst this
  exact ⟨Φ2, Grow.refl sb, .inl (by simp only [Rep]; exact ⟨trivial, trivial⟩)⟩
theorem walk_rev {a : Addr} {vs : List V} {ds : List D} {tg : Tg} (t : SqL g.K Φ1 a vs) (r : RepL g Φ1 H1 ρ1 ds vs []) : Walk g (Itv g.K a vs.length) Φ1 ρ1 tg ds.reverse := fun Φ2 H2 ρ2 e p sb i => by
  have t2 : SqL g.K H2 a vs := sub_l sb (ext_l e t)
  have hl := RepL.len _ _ _ r
  refine ⟨fun d hd => ?_, fun hi => by simp only [List.length_reverse] at hi; show vs.length ≤ i; omega⟩
  have hi : i < ds.length := by have := (List.getElem?_eq_some_iff.mp hd).1; simpa using this
  rw [List.getElem?_reverse hi] at hd
  obtain ⟨v, hv, rv⟩ := RepL.get _ _ r _ d hd
  rw [← hl] at hv
  refine ⟨⟨by omega, vs, v, t2, hv⟩, fun x H' hy => ?_⟩
  obtain ⟨rfl, hy⟩ := hy
  have e1 := hy vs t2
  rw [hv] at e1
  cases e1
  exact ⟨Φ2, Grow.refl sb, .inl (Rep.mono e p d v [] (fun a ha => by cases ha) rv)⟩
theorem walk_rng {lo hi : Int} {tg : Tg} : Walk g (Itr lo (hi - lo).toNat) Φ1 ρ1 tg (rngL lo hi) := fun Φ2 H2 ρ2 e p sb i => by
  refine ⟨fun d hd => ?_, fun h => by simp only [rngL, List.length_map, List.length_range] at h; exact h⟩
  have h1 : i < (hi - lo).toNat := by have := (List.getElem?_eq_some_iff.mp hd).1; simpa [rngL] using this
  simp only [rngL, List.getElem?_map, List.getElem?_range h1, Option.map_some, Option.some.injEq] at hd
  subst hd
  refine ⟨h1, fun x H' hy => ?_⟩
  obtain ⟨rfl, rfl⟩ := hy
  exact ⟨Φ2, Grow.refl sb, .inl rep_int⟩
/-- a list or a tuple is walked -/
def iSeq (K : PySem.W.Frag) (tl : TE) : TI := fun σ H R => tl σ H fun x H1 => (∃ y, x = .str y ∧ R (Its y) H1) ∨ ∃ a, x = .ref a ∧ ((∃ xs, SqL K H1 a xs ∧ R (Itl K a) H1) ∨ ∃ xs, SqT K H1 a xs ∧ R (Itt K a) H1)
theorem pi_seq {tg l : Expr} {tl : TE} (hl : PE X l tl) : PI X tg l (iSeq X.K tl) := by
  refine ⟨fun pins s σ H R I h => ?_⟩
  refine L2.thn (hl.run pins s σ H _ I h) fun v s1 ⟨x, H1, I1, r1, q1⟩ => ?_
  rcases q1 with ⟨x, ex, q⟩ | ⟨a, e, q⟩
  · subst ex
    obtain ⟨t, rfl⟩ := r1
    cases ha : x.cps.all (· < 128)
    · exact wpAny_pyIter_wide ha (pi_one (tk := s1.toks) I1 _ (turn_str _ x t "str_iterator" (.inr rfl)) ⟨_, Heap.get?_push_size _ rfl, rfl, rfl⟩ q)
    · exact wpAny_pyIter_ascii ha (pi_one (tk := s1.toks) I1 _ (turn_str _ x t "str_ascii_iterator" (.inl rfl)) ⟨_, Heap.get?_push_size _ rfl, rfl, rfl⟩ q)
  subst e
  cases r1
  have fresh : ∀ b ∈ [s1.heap.objs.size], FpOk X pins H1 b := fun b hb => by
    have e : b = s1.heap.objs.size := by simpa using hb
    subst e
    exact I1.fpOk (Nat.le_refl _) (I1.hok.fresh (Nat.le_refl _))
  rcases q with ⟨xs, hq, q⟩ | ⟨xs, hq, q⟩
  · obtain ⟨its, rv, p, hz⟩ := I1.list hq
    refine wpAny_pyIter_list p.isList ?_
    exact ⟨s1.heap.objs.size, [s1.heap.objs.size], _, _, H1, rfl, I1.kept (t' := s1.toks) fun b o e => Heap.get?_push_of_some _ e, turn_list a _, ⟨_, Heap.get?_push_size _ rfl, rfl, rfl⟩, fresh, q⟩
  · obtain ⟨its, rv, p, hz⟩ := I1.tuple hq
    refine wpAny_pyIter_tuple (show s1.heap.IsTuple a its.toArray from p) ?_
    exact ⟨s1.heap.objs.size, [s1.heap.objs.size], _, _, H1, rfl, I1.kept (t' := s1.toks) fun b o e => Heap.get?_push_of_some _ e, turn_tuple a _, ⟨_, Heap.get?_push_size _ rfl, rfl, rfl⟩, fresh, q⟩
theorem Rep.lst {o : Ow} {ds : List D} {v : V} (h : Rep g Φ H ρ (.lst o ds) v []) : ∃ a vs, v = .ref a ∧ SqL g.K Φ a vs ∧ RepL g Φ H ρ ds vs [] := by
  cases o with
  | own => simp only [Rep] at h; obtain ⟨a, vs, f', _, _, _, e, _⟩ := h; cases e
  | fz => simp only [Rep] at h; obtain ⟨a, vs, ev, t, _, r⟩ := h; exact ⟨a, vs, ev, SqL.of t, r⟩
  | ro => simp only [Rep] at h; obtain ⟨a, vs, ev, t, _, r⟩ := h; exact ⟨a, vs, ev, t, r⟩
theorem itr_seq {m : M D} {tg : Tg} (hK : X.K = g.K) {σ : L2.St} {H : Hp} {R : L2.It → Hp → Prop} (h : ItR g E tg (bnd m fun d => match fz d with
    | .lst _ ds => ret ds
    | .tup ds => ret ds
    | .str s => if s.length ≤ lim then ret (signs s) else stuck
    | _ => stuck) σ H R) : iSeq X.K (EvR g E m) σ H R := by
  obtain ⟨Φ, ρ, s, fs, F, r, k, hm, p⟩ := h
  rcases bnd_some hm with ⟨d, s1, h1, h2⟩ | ⟨x, h1, rfl⟩
  · refine EvR.val k h1 fun Φ1 H1 ρ1 v f fs1 st1 k1 vl => ?_
    obtain ⟨k2, st2, rp⟩ := k1.frz vl
    have st := st1.trans st2 fun _ h => h
    generalize fz d = d' at h2 rp
    split at h2
    · cases ret_some h2
      obtain ⟨a, vs, rfl, t, r⟩ := rp.lst
      exact .inr ⟨a, rfl, .inl ⟨vs, by rw [hK]; exact sub_l k2.sub t, p _ _ _ _ _ st k2 (by rw [hK]; exact walk_list t r)⟩⟩
    · cases ret_some h2
      simp only [Rep] at rp
      obtain ⟨a, vs, rfl, t, r⟩ := rp
      exact .inr ⟨a, rfl, .inr ⟨vs, by rw [hK]; exact sub_t k2.sub t.sq, p _ _ _ _ _ st k2 (by rw [hK]; exact walk_tup t.sq r)⟩⟩
    · split at h2
      · cases ret_some h2
        simp only [Rep] at rp
        obtain ⟨rfl, _⟩ := rp
        exact .inl ⟨_, rfl, p _ _ _ _ _ st k2 walk_str⟩
      · cases h2
    · cases h2
  · exact EvR.exc k h1 p
theorem itr_rev {m : M D} {tg : Tg} (hK : X.K = g.K) {σ : L2.St} {H : Hp} {R : L2.It → Hp → Prop} (h : ItR g E tg (bnd m fun d => match fz d with
    | .lst _ ds => ret ds.reverse
    | _ => stuck) σ H R) : iRev X.K (tCons (EvR g E m) tNil) σ H R := by
  obtain ⟨Φ, ρ, s, fs, F, r, k, hm, p⟩ := h
  rcases bnd_some hm with ⟨d, s1, h1, h2⟩ | ⟨x, h1, rfl⟩
  · refine EvR.val k h1 fun Φ1 H1 ρ1 v f fs1 st1 k1 vl => ?_
    obtain ⟨k2, st2, rp⟩ := k1.frz vl
    have st := st1.trans st2 fun _ h => h
    generalize fz d = d' at h2 rp
    split at h2
    · cases ret_some h2
      obtain ⟨a, vs, rfl, t, r⟩ := rp.lst
      exact ⟨a, vs, rfl, by rw [hK]; exact sub_l k2.sub t, p _ _ _ _ _ st k2 (by rw [hK]; exact walk_rev t r)⟩
    · cases h2
  · exact EvR.exc k h1 p
theorem Vl.int {Φ H : Hp} {ρ : List Addr} {b : Int} {v : V} {f : List Addr} {F : Addr → Prop} (h : Vl g Φ H ρ (.int b) v f F) : v = .int b ∧ f = [] := by
  have e := h.rep
  simpa only [Rep] using e
theorem smallR_of {n : Int} (h : smallR n = true) : -(2 ^ 62) ≤ n ∧ n < 2 ^ 62 := by
  simp only [smallR, Bool.and_eq_true, decide_eq_true_eq] at h
  omega
theorem itr_rng1 {m : M D} {tg : Tg} {σ : L2.St} {H : Hp} {R : L2.It → Hp → Prop} (h : ItR g E tg (bnd m fun d => match d with
    | .int n => if smallR n then ret (rngL 0 n) else stuck
    | _ => stuck) σ H R) : iRng1 (tCons (EvR g E m) tNil) σ H R := by
  obtain ⟨Φ, ρ, s, fs, F, r, k, hm, p⟩ := h
  rcases bnd_some hm with ⟨d, s1, h1, h2⟩ | ⟨x, h1, rfl⟩
  · refine EvR.val k h1 fun Φ1 H1 ρ1 v f fs1 st1 k1 vl => ?_
    split at h2
    · split at h2
      · rename_i n hs
        cases ret_some h2
        obtain ⟨rfl, rfl⟩ := vl.int
        obtain ⟨h3, h4⟩ := smallR_of hs
        refine ⟨_, rfl, h3, h4, p _ _ _ _ _ st1 k1.drop ?_⟩
        have w := walk_rng (g := g) (Φ1 := Φ1) (ρ1 := ρ1) (lo := 0) (hi := n) (tg := tg)
        rw [Int.sub_zero] at w
        exact w
      · cases h2
    · cases h2
  · exact EvR.exc k h1 p
theorem itr_rng2 {m m' : M D} {tg : Tg} {σ : L2.St} {H : Hp} {R : L2.It → Hp → Prop} (h : ItR g E tg (bnd m fun d => bnd m' fun e => match d, e with
    | .int n, .int m => if smallR n && smallR m then ret (rngL n m) else stuck
    | _, _ => stuck) σ H R) : iRng2 (tCons (EvR g E m) (tCons (EvR g E m') tNil)) σ H R := by
  obtain ⟨Φ, ρ, s, fs, F, r, k, hm, p⟩ := h
  rcases bnd_some hm with ⟨d, s1, h1, h2⟩ | ⟨x, h1, rfl⟩
  · refine EvR.val k h1 fun Φ1 H1 ρ1 v f fs1 st1 k1 vl => ?_
    rcases bnd_some h2 with ⟨e, s2, h3, h4⟩ | ⟨x, h3, rfl⟩
    · refine EvR.val k1.drop h3 fun Φ2 H2 ρ2 v' f' fs2 st2 k2 vl' => ?_
      split at h4
      · split at h4
        · rename_i hs
          cases ret_some h4
          obtain ⟨rfl, rfl⟩ := vl.int
          obtain ⟨rfl, rfl⟩ := vl'.int
          simp only [Bool.and_eq_true] at hs
          obtain ⟨a1, a2⟩ := smallR_of hs.1
          obtain ⟨a3, a4⟩ := smallR_of hs.2
          exact ⟨_, _, rfl, ⟨a1, a2, a3, a4⟩, p _ _ _ _ _ (st1.trans st2 fun _ h => h) k2.drop walk_rng⟩
        · cases h4
      · cases h4
    · exact EvR.exc k1.drop h3 (PX.shift p st1 fun _ h => h)
  · exact EvR.exc k h1 p
end
end Den
/-! Den9: comprehensions. -/
namespace Den
open PySem PySem.Spec L2
theorem wipeD_out {sl : List (Option D)} : ∀ {own : List Nat} {j : Nat}, j ∉ own → (wipeD sl own)[j]? = sl[j]?
  | [], j, h => rfl
  | v :: vs, j, h => by
    simp only [List.mem_cons, not_or] at h
    simp only [wipeD]
    rw [List.getElem?_set_ne (Ne.symm h.1)]
    exact wipeD_out h.2
theorem wipeD_len {sl : List (Option D)} : ∀ {own : List Nat}, (wipeD sl own).length = sl.length
  | [] => rfl
  | v :: vs => by simp only [wipeD, List.length_set]; exact wipeD_len
theorem wipeD_in {sl : List (Option D)} : ∀ {own : List Nat} {j : Nat} {d : D}, j ∈ own → (wipeD sl own)[j]? ≠ some (some d)
  | [], j, d, h => by cases h
  | v :: vs, j, d, h => by
    simp only [wipeD]
    by_cases e : j = v
    · subst e
      intro z
      have hj : j < (wipeD sl vs).length := by have := (List.getElem?_eq_some_iff.mp z).1; simpa using this
      rw [List.getElem?_set_self hj] at z
      cases z
    · rw [List.getElem?_set_ne (Ne.symm e)]
      rcases List.mem_cons.mp h with h | h
      · exact absurd h e
      · exact wipeD_in h
theorem restD_len {sl old : List (Option D)} : ∀ {own : List Nat}, (restD sl old own).length = sl.length
  | [] => rfl
  | v :: vs => by simp only [restD, List.length_set]; exact restD_len
theorem restD_out {sl old : List (Option D)} : ∀ {own : List Nat} {j : Nat}, j ∉ own → (restD sl old own)[j]? = sl[j]?
  | [], j, h => rfl
  | v :: vs, j, h => by
    simp only [List.mem_cons, not_or] at h
    simp only [restD]
    rw [List.getElem?_set_ne (Ne.symm h.1)]
    exact restD_out h.2
theorem restD_in {sl old : List (Option D)} : ∀ {own : List Nat} {j : Nat} {d : D}, j ∈ own → (restD sl old own)[j]? = some (some d) → old[j]? = some (some d)
  | [], j, d, h => by cases h
  | v :: vs, j, d, h => by
    simp only [restD]
    by_cases e : j = v
    · subst e
      intro z
      have hj : j < (restD sl old vs).length := by have := (List.getElem?_eq_some_iff.mp z).1; simpa using this
      rw [List.getElem?_set_self hj] at z
      cases q : old[j]? with
      | none => rw [q] at z; cases z
      | some w => rw [q] at z; simp at z; rw [z]
    · rw [List.getElem?_set_ne (Ne.symm e)]
      rcases List.mem_cons.mp h with h | h
      · exact absurd h e
      · exact restD_in h
theorem restD_at {sl old : List (Option D)} : ∀ {own : List Nat} {j : Nat}, j ∈ own → j < sl.length → (restD sl old own)[j]? = some ((old[j]?).getD none)
  | [], j, h, _ => by cases h
  | v :: vs, j, h, hl => by
    simp only [restD]
    by_cases e : j = v
    · subst e
      rw [List.getElem?_set_self (by rw [restD_len]; exact hl)]
    · rw [List.getElem?_set_ne (Ne.symm e)]
      rcases List.mem_cons.mp h with h | h
      · exact absurd h e
      · exact restD_at h hl
theorem wipe_same {σ σ2 : L2.St} : ∀ {own : List Nat}, σ2.length = σ.length → (∀ j, j ∉ own → σ2[j]? = σ[j]?) → wipe σ2 own = wipe σ own := by
  intro own hl h
  apply List.ext_getElem?
  intro j
  by_cases hj : j ∈ own
  · have key : ∀ (τ : L2.St), (wipe τ own)[j]? = if j < τ.length then some none else none := by
      intro τ
      clear h hl
      revert hj
      induction own with
      | nil => intro hj; cases hj
      | cons v vs ih =>
        intro hj
        show ((wipe τ vs).set v none)[j]? = _
        by_cases e : j = v
        · subst e
          split
          · rename_i hlt
            rw [List.getElem?_set_self (by rw [wipe_length]; exact hlt)]
          · rename_i hge
            rw [List.getElem?_eq_none_iff]
            rw [List.length_set, wipe_length]; omega
        · rw [List.getElem?_set_ne (Ne.symm e)]
          rcases List.mem_cons.mp hj with hj | hj
          · exact absurd hj e
          · exact ih hj
    rw [key, key, hl]
  · rw [wipe_out hj, wipe_out hj]; exact h j hj
section
variable {g : Gx} {E : XK} {X : Cx} {Φ Φ1 Φ' H H1 H' : Hp} {ρ ρ1 ρ' : List Addr} {F F1 : Addr → Prop} {σ : L2.St} {s : S} {fs : Ix → List Addr} {Q : VK}
def wS (s : S) (own : List Nat) : S := { s with sl := wipeD s.sl own }
def wfs (fs : Ix → List Addr) (own : List Nat) : Ix → List Addr
  | .inl j => if j ∈ own then [] else fs (.inl j)
  | .inr n => fs (.inr n)
def ownF (fs : Ix → List Addr) (own : List Nat) (F : Addr → Prop) : Addr → Prop := fun a => F a ∨ ∃ v, v ∈ own ∧ a ∈ fs (.inl v)
theorem wfs_sub {own : List Nat} {x : Ix} {a : Addr} (h : a ∈ wfs fs own x) : a ∈ fs x ∧ ∀ v ∈ own, x ≠ .inl v := by
  cases x with
  | inl j =>
    simp only [wfs] at h
    split at h
    · cases h
    · rename_i hj
      exact ⟨h, fun v hv e => by cases e; exact hj hv⟩
  | inr n => exact ⟨h, fun v _ e => by cases e⟩
theorem Ok.wipe (k : Ok g Φ H ρ s σ fs F) (own : List Nat) : Ok g Φ H ρ (wS s own) (wipe σ own) (wfs fs own) (ownF fs own F) where
  sub := k.sub
  tab := k.tab
  fr := fun a ha => ha.elim (k.fr a) fun ⟨v, _, hv⟩ => k.at _ a hv
  len := by show (wipeD s.sl own).length = _; rw [wipeD_len, wipe_length]; exact k.len
  slot := fun i d q => by
    have q : (wipeD s.sl own)[i]? = some (some d) := q
    by_cases hi : i ∈ own
    · exact absurd q (wipeD_in hi)
    · rw [wipeD_out hi] at q
      obtain ⟨v, e, r⟩ := k.slot i d q
      exact ⟨v, by rw [wipe_out hi]; exact e, by simp only [wfs, if_neg hi]; exact r⟩
  slot0 := fun i q => by
    by_cases hi : i ∈ own
    · simp only [wfs, if_pos hi]
    · simp only [wfs, if_neg hi]
      exact k.slot0 i fun d z => q d (by show (wipeD s.sl own)[i]? = _; rw [wipeD_out hi]; exact z)
  obl := k.obl
  obj := k.obj
  obj0 := k.obj0
  nd := fun x => by
    cases x with
    | inl j => simp only [wfs]; split; exact List.nodup_nil; exact k.nd _
    | inr n => exact k.nd _
  sep := fun x y a hx hy => k.sep x y a (wfs_sub hx).1 (wfs_sub hy).1
  out := fun x a hx z => by
    obtain ⟨h1, h2⟩ := wfs_sub hx
    rcases z with z | ⟨v, hv, z⟩
    · exact k.out x a h1 z
    · exact h2 v hv (k.sep _ _ a h1 z)
theorem Ok.wipe0 (k : Ok g Φ H ρ s σ fs F) (own : List Nat) : Ok g Φ H ρ (wS s own) (L2.wipe σ own) (wfs fs own) F := (k.wipe own).less fun _ h => .inl h
/-- the block's own names as they stood -/
theorem Ok.rest {s1 : S} {fs1 : Ix → List Addr} {own : List Nat} {f : List Addr} (hf : ∀ a ∈ f, ¬ ownF fs own F a) (k0 : Ok g Φ H ρ s σ fs F) (st : Stp Φ H ρ (ownF fs own F) Φ' H' ρ') (k : Ok g Φ' H' ρ' (wS s1 own) (L2.wipe σ own) fs1 (fadd f (ownF fs own F))) :
    Ok g Φ' H' ρ' { s1 with sl := restD s1.sl s.sl own } σ (fun x => match x with | .inl j => if j ∈ own then fs (.inl j) else fs1 (.inl j) | .inr n => fs1 (.inr n)) (fadd f F) where
  sub := k.sub
  tab := k.tab
  fr := fun a ha => k.fr a (ha.imp_right .inl)
  len := by
    have := k.len
    simp only [wS, wipeD_len, wipe_length] at this
    simp only [restD_len]; exact this
  slot := fun i d q => by
    by_cases hi : i ∈ own
    · simp only [if_pos hi]
      have q' : s.sl[i]? = some (some d) := restD_in hi q
      obtain ⟨v, e, r⟩ := k0.slot i d q'
      exact ⟨v, e, r.stp st fun a ha => .inr ⟨i, hi, ha⟩⟩
    · simp only [if_neg hi]
      have q' : (wS s1 own).sl[i]? = some (some d) := by show (wipeD s1.sl own)[i]? = _; rw [wipeD_out hi, ← restD_out (old := s.sl) hi]; exact q
      obtain ⟨v, e, r⟩ := k.slot i d q'
      rw [wipe_out hi] at e
      exact ⟨v, e, r⟩
  slot0 := fun i q => by
    by_cases hi : i ∈ own
    · simp only [if_pos hi]
      refine k0.slot0 i fun d z => ?_
      have hl : i < s1.sl.length := by
        have h1 := (List.getElem?_eq_some_iff.mp z).1
        have h2 := k.len
        simp only [wS, wipeD_len, wipe_length] at h2
        rw [h2, ← k0.len]; exact h1
      exact q d (by show (restD s1.sl s.sl own)[i]? = _; rw [restD_at hi hl, z]; rfl)
    · simp only [if_neg hi]
      refine k.slot0 i fun d z => q d ?_
      have z : (wipeD s1.sl own)[i]? = some (some d) := z
      rw [wipeD_out hi] at z
      show (restD s1.sl s.sl own)[i]? = _
      rw [restD_out hi]; exact z
  obl := k.obl
  obj := k.obj
  obj0 := k.obj0
  nd := fun x => by
    cases x with
    | inl j => dsimp only; split; exact k0.nd _; exact k.nd _
    | inr n => exact k.nd _
  sep := fun x y a hx hy => by
    cases x with
    | inl i =>
      cases y with
      | inl j =>
        dsimp only at hx hy
        split at hx
        · rename_i hi
          split at hy
          · exact k0.sep _ _ a hx hy
          · exact absurd (.inr (.inr ⟨i, hi, hx⟩)) (k.out _ a hy)
        · split at hy
          · rename_i hj
            exact absurd (.inr (.inr ⟨j, hj, hy⟩)) (k.out _ a hx)
          · exact k.sep _ _ a hx hy
      | inr n =>
        dsimp only at hx hy
        split at hx
        · rename_i hi
          exact absurd (.inr (.inr ⟨i, hi, hx⟩)) (k.out _ a hy)
        · exact k.sep _ _ a hx hy
    | inr m =>
      cases y with
      | inl j =>
        dsimp only at hx hy
        split at hy
        · rename_i hj
          exact absurd (.inr (.inr ⟨j, hj, hy⟩)) (k.out _ a hx)
        · exact k.sep _ _ a hx hy
      | inr n => exact k.sep _ _ a hx hy
  out := fun x a hx z => by
    cases x with
    | inl i =>
      dsimp only at hx
      split at hx
      · rename_i hi
        rcases z with z | z
        · exact hf a z (.inr ⟨i, hi, hx⟩)
        · exact k0.out _ a hx z
      · exact k.out _ a hx (z.imp_right .inl)
    | inr n => exact k.out _ a hx (z.imp_right .inl)
/-- a clause's test -/
def TcR (g : Gx) (E : XK) (m : M Bool) : TT := fun σ H Q => ∃ Φ ρ s fs F r, Ok g Φ H ρ s σ fs F ∧ m s = some r ∧ match r with
  | .val b s' => ∀ Φ' H' ρ' fs', Stp Φ H ρ F Φ' H' ρ' → Ok g Φ' H' ρ' s' σ fs' F → Q b H'
  | .exc x => PX g E Φ H ρ F x
theorem pts_imp {e : List Expr} {t t' : TT} (h : PTs X e t) (k : ∀ σ H Q, t' σ H Q → t σ H Q) : PTs X e t' := ⟨fun pins s σ H Q I q => h.run pins s σ H Q I (k σ H Q q)⟩
theorem tc_no : PTs X [] (TcR g E (ret true)) := pts_imp pts_nil fun σ H Q h => by
  obtain ⟨Φ, ρ, s, fs, F, r, k, hm, p⟩ := h
  cases ret_some hm
  exact p Φ H ρ fs (Stp.refl k.nF) k
theorem tc_yes {e : Expr} {m : M D} (h : PT X e (TtR g E m)) : PTs X [e] (TcR g E (bnd m fun d => match d with
    | .bl b => ret b
    | _ => stuck)) := pts_imp (pts_one h) fun σ H Q h => by
  obtain ⟨Φ, ρ, s, fs, F, r, k, hm, p⟩ := h
  rcases bnd_some hm with ⟨d, s1, h1, h2⟩ | ⟨x, h1, rfl⟩
  · split at h2
    · cases ret_some h2
      exact TtR.val k h1 p
    · cases h2
  · exact TtR.exc k h1 p
def lcF (tg : Tg) (mc : M Bool) (me : M D) : D → M (Option D) := fun x => bnd (asg tg x) fun _ => bnd mc fun b => if b then bnd me fun d => ret (some d) else ret none
def lcM (own : List Nat) (tg : Tg) (mi : M (List D)) (mc : M Bool) (me : M D) : M D := bnd mi fun xs => fun s =>
  match lcGo own (lcF tg mc me) xs [] (wS s own) with
  | some (.val ds s1) => some (.val (.lst .own ds) { s1 with sl := restD s1.sl s.sl own })
  | _ => none
theorem lc_to {own : List Nat} {tg : Tg} {mi : M (List D)} {mc : M Bool} {me : M D} {σ : L2.St} {H : Hp} (hown : ∀ j ∈ tgSl tg, j ∈ own) (h : EvR g E (lcM own tg mi mc me) σ H Q) :
    tLc (ItR g E tg mi) (AsgR g tg) (TcR g E0 mc) (EvR g E0 me) own σ H Q := by
  obtain ⟨Φ, ρ, s, fs, F, r, k, hm, p⟩ := h
  rcases bnd_some hm with ⟨xs, s1, h1, h2⟩ | ⟨x, h1, rfl⟩
  · refine ⟨Φ, ρ, s, fs, F, _, k, h1, fun Φ1 H1 ρ1 fs1 J st1 k1 W Dd hD => ?_⟩
    split at h2
    · rename_i ds s2 hgo
      cases h2
      obtain ⟨kL, stL, nfL, npL⟩ := (k1.wipe own).lay (o := .lst []) hD pln_lst
      refine ⟨fun i m H => m = xs.length - i ∧ i ≤ xs.length ∧ ∃ Φ2 ρ2 s3 fs3 acc fa, Stp Φ1 (upd H1 Dd (.lst [])) ρ1 (ownF fs1 own F) Φ2 H ρ2 ∧ Ok g Φ2 H ρ2 (wS s3 own) (L2.wipe σ own) fs3 (fadd fa (ownF fs1 own F)) ∧
        Vl g Φ2 H ρ2 (.lst .own acc) (.ref Dd) fa (ownF fs1 own F) ∧ lcGo own (lcF tg mc me) (xs.drop i) acc s3 = some (.val ds s2), ⟨xs.length, by simp, Nat.zero_le _, Φ1, ρ1, wS s1 own, wfs fs1 own, [], [Dd], Stp.refl (k1.wipe own).nF, ?_, ⟨?_, by simp, ?_⟩, hgo⟩, ?_⟩
      · have e : wS (wS s1 own) own = wS s1 own := by
          have z : wipeD (wipeD s1.sl own) own = wipeD s1.sl own := by
            apply List.ext_getElem?
            intro j
            by_cases hj : j ∈ own
            · have key : ∀ (sl : List (Option D)), (wipeD sl own)[j]? = if j < sl.length then some none else none := fun sl => by
                cases q : (wipeD sl own)[j]? with
                | none =>
                  rw [List.getElem?_eq_none_iff, wipeD_len] at q
                  rw [if_neg (by omega)]
                | some o =>
                  have hl := (List.getElem?_eq_some_iff.mp q).1
                  rw [wipeD_len] at hl
                  rw [if_pos hl]
                  cases o with
                  | none => rfl
                  | some d => exact absurd q (wipeD_in hj)
              rw [key, key, wipeD_len]
            · rw [wipeD_out hj]
          show (⟨wipeD (wipeD s1.sl own) own, s1.os⟩ : S) = ⟨wipeD s1.sl own, s1.os⟩
          rw [z]
        rw [e]; exact kL
      · simp only [Rep]
        exact ⟨Dd, [], [], rfl, upd_same, npL, rfl, by simp only [RepL]; exact ⟨trivial, trivial⟩⟩
      · intro a ha
        simp only [List.mem_singleton] at ha
        subst ha; exact nfL
      · rintro i m H2 ⟨rfl, hi, Φ2, ρ2, s3, fs3, acc, fa, st2, k2, vl, hg⟩
        by_cases hlt : i < xs.length
        · obtain ⟨hgo1, _⟩ := W Φ2 H2 ρ2 st2.ext st2.pre k2.sub i
          have hx : xs[i]? = some xs[i] := List.getElem?_eq_getElem hlt
          obtain ⟨go, yl⟩ := hgo1 _ hx
          rw [List.drop_eq_getElem_cons hlt] at hg
          simp only [lcGo] at hg
          refine .inr ⟨go, fun H => ∃ Φ2 ρ2 s3 fs3 acc fa, Stp Φ1 (upd H1 Dd (.lst [])) ρ1 (ownF fs1 own F) Φ2 H ρ2 ∧ Ok g Φ2 H ρ2 (wS s3 own) (L2.wipe σ own) fs3 (fadd fa (ownF fs1 own F)) ∧
            Vl g Φ2 H ρ2 (.lst .own acc) (.ref Dd) fa (ownF fs1 own F) ∧ lcGo own (lcF tg mc me) (xs.drop (i + 1)) acc s3 = some (.val ds s2), fun H' h => ⟨xs.length - (i + 1), by omega, rfl, hlt, h⟩, fun x H3 hy => ?_⟩
          obtain ⟨Φ3, w3, rep3⟩ := yl x H3 hy
          have k3 := k2.grow w3
          have st3 := st2.trans ((k2.less (F := ownF fs1 own F) fun _ h => .inr h).gstp w3) fun _ h => h
          have st3' := k2.gstp w3
          have vl3 : Vl g Φ3 H3 ρ2 (.lst .own acc) (.ref Dd) fa (ownF fs1 own F) := vl.stp st3'
          split at hg
          · rename_i d s4 hf
            split at hg
            · rename_i hz
              rcases bnd_some hf with ⟨⟨⟩, s5, h3, h4⟩ | ⟨x, h3, e⟩
              · refine ⟨Φ3, ρ2, _, s5, fs3, fadd fa (ownF fs1 own F), [], _, k3.nof, ?_, h3, fun σ' fs' hl hs ok => ?_⟩
                · rcases rep3 with r | ⟨ht, es, a, vs, e1, e2, t, r⟩
                  · exact .inl ⟨r, List.nodup_nil, fun a ha => by cases ha⟩
                  · exact .inr ⟨ht, es, a, vs, e1, e2, t, r, List.nodup_nil, fun a ha => by cases ha⟩
                have ew : L2.wipe σ' own = L2.wipe σ own := wipe_same (by rw [hl, wipe_length]) fun j hj => by
                  rw [(hs j fun z => hj (hown j z)).1, wipe_out hj]
                refine ⟨ew, ?_⟩
                rcases bnd_some h4 with ⟨b, s6, h5, h6⟩ | ⟨x, h5, e⟩
                · refine ⟨Φ3, ρ2, s5, fs', _, _, ok, h5, fun Φ4 H4 ρ4 fs4 st4 k4 => ?_⟩
                  cases b with
                  | false => cases ret_some h6
                  | true =>
                    rw [if_pos rfl]
                    rcases bnd_some h6 with ⟨d', s7, h7, h8⟩ | ⟨x, h7, e⟩
                    · cases ret_some h8
                      refine EvR.val k4 h7 fun Φ5 H5 ρ5 v f fs5 st5 k5 vl5 => ?_
                      have st35 := st4.trans st5 fun _ h => h
                      have vlD := vl3.stp st35
                      obtain ⟨rD, ndD, outD⟩ := vlD
                      simp only [Rep] at rD
                      obtain ⟨a, vs, f', e, ha, na, rfl, rl⟩ := rD
                      cases e
                      refine ⟨vs, ha, ?_, ?_⟩
                      · rw [RepL.len _ _ _ rl]; exact Nat.lt_of_lt_of_le hz lim_le
                      have nd' := List.nodup_cons.mp ndD
                      have mf : ∀ b, fadd (Dd :: (f' ++ f)) (ownF fs1 own F) b → fadd f (fadd (Dd :: f') (ownF fs1 own F)) b := fun b hb => by
                        rcases hb with hb | hb
                        · rcases List.mem_cons.mp hb with rfl | hb
                          · exact .inr (.inl List.mem_cons_self)
                          · rcases List.mem_append.mp hb with hb | hb
                            · exact .inr (.inl (List.mem_cons_of_mem _ hb))
                            · exact .inl hb
                        · exact .inr (.inr hb)
                      have k6 := (k5.less mf).wr (o := .lst (vs ++ [v])) List.mem_cons_self ha pln_lst pln_lst
                      have hne : ∀ b ∈ f' ++ f, b ≠ Dd := fun b hb e => by
                        subst e
                        rcases List.mem_append.mp hb with hb | hb
                        · exact nd'.1 hb
                        · exact vl5.out _ hb (.inl List.mem_cons_self)
                      have st6 : Stp Φ5 H5 ρ5 (ownF fs1 own F) Φ5 (upd H5 Dd (.lst (vs ++ [v]))) ρ5 := wr_stp (fun b hb => (k5.fr b (.inr (.inr hb))).1) fun z => outD Dd List.mem_cons_self z
                      have k7 := k6.wipe0 own
                      rw [ew] at k7
                      refine ⟨Φ5, ρ5, s4, _, acc ++ [d], Dd :: (f' ++ f), (st3.trans (st35.less fun _ h => .inr h) fun _ h => h).trans st6 fun _ h => h, k7, ⟨?_, ?_, fun b hb z => ?_⟩, hg⟩
                      · simp only [Rep]
                        refine ⟨Dd, vs ++ [v], f' ++ f, rfl, upd_same, na, rfl, ?_⟩
                        have r1 : RepL g Φ5 (upd H5 Dd (.lst (vs ++ [v]))) ρ5 acc vs f' := RepL.mono (fun _ _ h => h) (List.prefix_refl _) _ _ _ (fun b hb => ⟨upd_ne (hne b (List.mem_append_left _ hb)), (RepL.at _ _ _ rl b hb).1⟩) rl
                        have r2 : Rep g Φ5 (upd H5 Dd (.lst (vs ++ [v]))) ρ5 d v f := Rep.mono (fun _ _ h => h) (List.prefix_refl _) _ _ _ (fun b hb => ⟨upd_ne (hne b (List.mem_append_right _ hb)), (Rep.at _ _ _ vl5.rep b hb).1⟩) vl5.rep
                        refine RepL.app _ _ _ _ _ _ r1 ?_
                        simp only [RepL]
                        exact ⟨v, [], f, [], rfl, by simp, r2, rfl, rfl⟩
                      · refine List.nodup_cons.mpr ⟨fun z => hne Dd z rfl, List.nodup_append.mpr ⟨nd'.2, vl5.nd, fun b hb c hc e => ?_⟩⟩
                        subst e
                        exact vl5.out b hc (.inl (List.mem_cons_of_mem _ hb))
                      · rcases List.mem_cons.mp hb with rfl | hb
                        · exact outD _ List.mem_cons_self z
                        · rcases List.mem_append.mp hb with hb | hb
                          · exact outD b (List.mem_cons_of_mem _ hb) z
                          · exact vl5.out b hb (.inr z)
                    · cases e
                · cases e
              · cases e
            · cases hg
          · rename_i s4 hf
            rcases bnd_some hf with ⟨⟨⟩, s5, h3, h4⟩ | ⟨x, h3, e⟩
            · refine ⟨Φ3, ρ2, _, s5, fs3, fadd fa (ownF fs1 own F), [], _, k3.nof, ?_, h3, fun σ' fs' hl hs ok => ?_⟩
              · rcases rep3 with r | ⟨ht, es, a, vs, e1, e2, t, r⟩
                · exact .inl ⟨r, List.nodup_nil, fun a ha => by cases ha⟩
                · exact .inr ⟨ht, es, a, vs, e1, e2, t, r, List.nodup_nil, fun a ha => by cases ha⟩
              have ew : L2.wipe σ' own = L2.wipe σ own := wipe_same (by rw [hl, wipe_length]) fun j hj => by
                rw [(hs j fun z => hj (hown j z)).1, wipe_out hj]
              refine ⟨ew, ?_⟩
              rcases bnd_some h4 with ⟨b, s6, h5, h6⟩ | ⟨x, h5, e⟩
              · refine ⟨Φ3, ρ2, s5, fs', _, _, ok, h5, fun Φ4 H4 ρ4 fs4 st4 k4 => ?_⟩
                cases b with
                | true =>
                  rcases bnd_some h6 with ⟨d', s7, h7, h8⟩ | ⟨x, h7, e⟩
                  · cases ret_some h8
                  · cases e
                | false =>
                  rw [if_neg Bool.false_ne_true]
                  cases ret_some h6
                  have k7 := k4.wipe0 own
                  rw [ew] at k7
                  exact ⟨Φ4, ρ4, _, _, acc, fa, st3.trans (st4.less fun _ h => .inr h) fun _ h => h, k7, vl3.stp st4, hg⟩
              · cases e
            · cases e
          · cases hg
        · have e : i = xs.length := by omega
          subst e
          rw [List.drop_length] at hg
          simp only [lcGo] at hg
          cases ret_some hg
          obtain ⟨_, hst⟩ := W Φ2 H2 ρ2 st2.ext st2.pre k2.sub xs.length
          refine .inl ⟨hst (Nat.le_refl _), ?_⟩
          have stF := ((k1.wipe own).less (F := ownF fs1 own F) fun _ h => h)
          have st0 : Stp Φ1 H1 ρ1 (ownF fs1 own F) Φ2 H2 ρ2 := stL.trans st2 fun _ h => h
          have kR := k1.rest (s1 := s2) (f := fa) vl.out st0 k2
          exact p _ _ _ _ _ _ (st1.trans (st0.less fun _ h => .inl h) fun _ h => h) kR ⟨vl.rep, vl.nd, fun a ha z => vl.out a ha (.inl z)⟩
    · cases h2
  · exact ⟨Φ, ρ, s, fs, F, _, k, h1, p⟩
end
end Den
/-! Den10: the other forms. -/
namespace Den
open PySem PySem.Spec L2
section
variable {g : Gx} {E : XK} {X : Cx} {Φ Φ1 Φ' H H1 H' : Hp} {ρ ρ1 ρ' : List Addr} {F F1 : Addr → Prop} {σ : L2.St} {s : S} {fs : Ix → List Addr} {Q : VK}
/-! ### parts of a slice -/
def EoR (g : Gx) (E : XK) (m : M (Option Int)) : TO := fun σ H Q => ∃ Φ ρ s fs F r, Ok g Φ H ρ s σ fs F ∧ m s = some r ∧ match r with
  | .val o s' => ∀ Φ' H' ρ' fs', Stp Φ H ρ F Φ' H' ρ' → Ok g Φ' H' ρ' s' σ fs' F → Q o H'
  | .exc x => PX g E Φ H ρ F x
theorem po_imp {e : Option Expr} {t t' : TO} (h : PO X e t) (k : ∀ σ H Q, t' σ H Q → t σ H Q) : PO X e t' := ⟨fun pins s σ H Q I q => h.run pins s σ H Q I (k σ H Q q)⟩
theorem eo_no : PO X none (EoR g E (ret none)) := po_imp po_none fun σ H Q h => by
  obtain ⟨Φ, ρ, s, fs, F, r, k, hm, p⟩ := h
  cases ret_some hm
  exact p Φ H ρ fs (Stp.refl k.nF) k
theorem eo_yes {e : Expr} {m : M D} (h : PE X e (EvR g E m)) : PO X (some e) (EoR g E (bnd m fun d => match d with
    | .int i => ret (some i)
    | _ => stuck)) := po_imp (po_some h) fun σ H Q h => by
  obtain ⟨Φ, ρ, s, fs, F, r, k, hm, p⟩ := h
  rcases bnd_some hm with ⟨d, s1, h1, h2⟩ | ⟨x, h1, rfl⟩
  · split at h2
    · cases ret_some h2
      refine EvR.val k h1 fun Φ1 H1 ρ1 v f fs1 st1 k1 vl => ?_
      obtain ⟨rfl, rfl⟩ := vl.int
      exact ⟨_, rfl, p _ _ _ _ st1 k1.drop⟩
    · cases h2
  · exact EvR.exc k h1 p
theorem fill1_noexc {c : C} {o : Option D} {s : S} {x : Exn} (h : fill1 c o s = some (.exc x)) : False := by
  revert h
  unfold fill1
  split
  · intro h; cases h
  · split
    · unfold Den.view; split <;> (intro h; cases h)
    · intro h; cases h
theorem slc_to {a : C} {m : M (Option D)} {ml mh : M (Option Int)} {σ : L2.St} {H : Hp} (h : EvR g E (bnd m fun x => bnd ml fun l => bnd mh fun h => bnd (fill1 a x) fun d => lift (slcI d l h)) σ H Q) :
    tSl (SlV g) (OpdR g E a m) (EoR g E ml) (EoR g E mh) σ H Q := by
  obtain ⟨Φ, ρ, s, fs, F, r, k, hm, p⟩ := h
  rcases bnd_some hm with ⟨o, s1, h1, h2⟩ | ⟨x, h1, rfl⟩
  · refine OpdR.val k h1 fun Φ1 H1 ρ1 v fs1 st1 k1 pd => ?_
    rcases bnd_some h2 with ⟨ol, s2, h3, h4⟩ | ⟨x, h3, rfl⟩
    · refine ⟨Φ1, ρ1, s1, fs1, F, _, k1, h3, fun Φ2 H2 ρ2 fs2 st2 k2 => ?_⟩
      rcases bnd_some h4 with ⟨oh, s3, h5, h6⟩ | ⟨x, h5, rfl⟩
      · refine ⟨Φ2, ρ2, s2, fs2, F, _, k2, h5, fun Φ3 H3 ρ3 fs3 st3 k3 => ?_⟩
        rcases bnd_some h6 with ⟨d, s4, h7, h8⟩ | ⟨x, h7, rfl⟩
        · obtain ⟨z, e1, rfl⟩ := lift_some h8
          obtain ⟨_, _, Φ4, fs4, e, st4, k4, pk⟩ := fill1_ok k3 ((pd.stp st2).stp st3) h7
          cases e
          exact ⟨Φ4, ρ3, d, z, k4.sub, pk, e1, k4.aft (p.shift (((st1.trans st2 fun _ h => h).trans st3 fun _ h => h).trans st4 fun _ h => h) fun _ h => h)⟩
        · exact (fill1_noexc h7).elim
      · exact ⟨Φ2, ρ2, s2, fs2, F, _, k2, h5, PX.shift p (st1.trans st2 fun _ h => h) fun _ h => h⟩
    · exact ⟨Φ1, ρ1, s1, fs1, F, _, k1, h3, PX.shift p st1 fun _ h => h⟩
  · exact OpdR.exc k h1 p
/-! ### chains -/
theorem flat_any {d : D} {v : V} (hf : flatD d = true) (h : PkR g Φ H ρ d v) : PkR g Φ' H' ρ' d v := by
  have rn : Rep g Φ' H' ρ' .non .non [] := rep_non
  have rb : ∀ b, Rep g Φ' H' ρ' (.bl b) (.bl b) [] := fun b => rep_bl
  have ri : ∀ b, Rep g Φ' H' ρ' (.int b) (.int b) [] := fun b => rep_int
  have rs : ∀ s : List Nat, Rep g Φ' H' ρ' (.str s) (.str ⟨s.toArray⟩) [] := fun b => rep_str
  cases d with
  | non => rw [h.non]; exact rn
  | bl b => rw [h.bl]; exact rb _
  | int i => rw [h.int]; exact ri _
  | str s => rw [h.str]; exact rs _
  | _ => simp [flatD] at hf
theorem chain_to {a b c : C} {ma mb mc : M (Option D)} {n n' : D → D → Option D} {σ : L2.St} {H : Hp} (h : EvR g E (bnd ma fun x => bnd mb fun y => bnd (fill1 a x) fun d => bnd (fill1 b y) fun e =>
      bnd (lift (n d e)) fun r => match r with
        | .bl true => bnd mc fun z => bnd (fill1 c z) fun f => if flatD e = true then lift (n' e f) else stuck
        | .bl false => ret (.bl false)
        | _ => stuck) σ H Q) : tChain (OpV g n) (OpV g n') (OpdR g E a ma) (OpdR g E b mb) (OpdR g E c mc) σ H Q := by
  obtain ⟨Φ, ρ, s, fs, F, r, k, hm, p⟩ := h
  rcases bnd_some hm with ⟨o, s1, h1, h2⟩ | ⟨x, h1, rfl⟩
  · refine OpdR.val k h1 fun Φ1 H1 ρ1 v fs1 st1 k1 pd => ?_
    rcases bnd_some h2 with ⟨o', s2, h3, h4⟩ | ⟨x, h3, rfl⟩
    · refine OpdR.val k1 h3 fun Φ2 H2 ρ2 w fs2 st2 k2 pd' => ?_
      rcases bnd_some h4 with ⟨d, s3, h5, h6⟩ | ⟨x, h5, rfl⟩
      · obtain ⟨_, _, Φ3, fs3, e, st3, k3, pk⟩ := fill1_ok k2 (pd.stp st2) h5
        cases e
        rcases bnd_some h6 with ⟨d', s4, h7, h8⟩ | ⟨x, h7, rfl⟩
        · obtain ⟨_, _, Φ4, fs4, e, st4, k4, pk'⟩ := fill1_ok k3 (pd'.stp st3) h7
          cases e
          have st14 := ((st1.trans st2 fun _ h => h).trans st3 fun _ h => h).trans st4 fun _ h => h
          rcases bnd_some h8 with ⟨z, s5, h9, h10⟩ | ⟨x, h9, rfl⟩
          · obtain ⟨z', e1, e2⟩ := lift_some h9
            cases e2
            refine ⟨Φ4, ρ2, d, d', z, k4.sub, pk.stp st4, pk', e1, k4.aft (E := E) fun Φ5 H5 ρ5 v5 f5 fs5 st5 k5 vl5 => ?_⟩
            have st15 := st14.trans st5 fun _ h => h
            split at h10
            · obtain ⟨rfl, rfl⟩ := vl5.isBl
              refine ⟨true, rfl, iteT ?_⟩
              rcases bnd_some h10 with ⟨o3, s6, h11, h12⟩ | ⟨x, h11, rfl⟩
              · refine OpdR.val k5.drop h11 fun Φ6 H6 ρ6 w6 fs6 st6 k6 pd6 => ?_
                rcases bnd_some h12 with ⟨d6, s7, h13, h14⟩ | ⟨x, h13, rfl⟩
                · obtain ⟨_, _, Φ7, fs7, e, st7, k7, pk7⟩ := fill1_ok k6 pd6 h13
                  cases e
                  split at h14
                  · rename_i hf
                    obtain ⟨z7, e7, rfl⟩ := lift_some h14
                    exact ⟨Φ7, ρ6, d', d6, z7, k7.sub, flat_any hf pk', pk7, e7, k7.aft (p.shift ((st15.trans st6 fun _ h => h).trans st7 fun _ h => h) fun _ h => h)⟩
                  · cases h14
                · exact (fill1_noexc h13).elim
              · exact OpdR.exc k5.drop h11 (PX.shift p st15 fun _ h => h)
            · obtain ⟨rfl, rfl⟩ := vl5.isBl
              cases ret_some h10
              exact ⟨false, rfl, iteF (p _ _ _ _ _ _ st15 k5 ⟨rep_bl, List.nodup_nil, fun a ha => by cases ha⟩)⟩
            · cases h10
          · obtain ⟨z', e1, e2⟩ := lift_some h9
            cases e2
        · exact (fill1_noexc h7).elim
      · exact (fill1_noexc h5).elim
    · exact OpdR.exc k1 h3 (PX.shift p st1 fun _ h => h)
  · exact OpdR.exc k h1 p
/-! ### isinstance -/
def rIsi (g : Gx) (T : String) : List V → Hp → VK → Prop := fun vs H Q => ∃ (Φ : Hp) (ρ : List Addr) (d r : D) (v : V), vs = [v, .ty T] ∧ Sub Φ H ∧ PkR g Φ H ρ d v ∧ isiF T [d] = some r ∧ Aft g Φ H ρ r Q
theorem cr_isi (hK : X.K = g.K) {T : String} : CallR X (.builtin "isinstance") (rIsi g T) := by
  intro pins s σ H vs us Q I r h
  obtain ⟨Φ, ρ, d, r', v, rfl, sb, rd, hk, q⟩ := h
  exact bi_isi hK sb rd hk q I r
theorem isi_to {a : C} {m : M (Option D)} {T : String} {σ : L2.St} {H : Hp} (h : EvR g E (bnd m fun x => bnd (fill1 a x) fun d => lift (isiF T [d])) σ H Q) :
    tCB (rIsi g T) (tCons (OpdR g E a m) (tCons (tC (.ty T)) tNil)) σ H Q := by
  show OpdR g E a m σ H fun v H1 => rIsi g T [v, .ty T] H1 Q
  exact un_to (n := fun d => isiF T [d]) (K := fun v H1 Q => rIsi g T [v, .ty T] H1 Q) h fun Φ ρ H d r v sb pk hn af => ⟨Φ, ρ, d, r, v, rfl, sb, pk, hn, af⟩
/-! ### range as a list, as a tuple -/
def tTupRgF (te : L2.St → Hp → (Int → Int → Hp → Prop) → Prop) : TE := fun σ H Q => te σ H fun a b H1 => RgOk a b ∧ ∀ (q : Addr) (o : Obj), H1 q = none → o.dict = none → Q (.ref q) (upd H1 q (.frz o (.tup (rgV a b))))
open PyProof.Rows in
theorem pe_tupRgF {e : Expr} {te : L2.St → Hp → (Int → Int → Hp → Prop) → Prop} {p pos : Pos} (hc : X.calm = true) (hg : Gl X "tuple") (hm : X.mg "tuple" = none) (he : PRg X e te) (na : starEach [e] X.env = (false, eval e X.env) :: starEach [] X.env) : PE X (.Call (.Name "tuple" p) [e] [] pos) (tTupRgF te) := by
  refine ⟨fun pins s σ H Q I h => ?_⟩
  refine Call_ (ld_blt I hg hm boot_tuple (PyProof.Rows.callWith_type1 (args_cons (L2.thn (he pins s σ H _ I h) fun x s1 ⟨r, a, b, t, u, v, H1, ex, hr, I1, ok, q⟩ => args_nil ?_) na) na))
  subst ex
  obtain ⟨b1, b2, b3, b4, b5⟩ := ok
  refine call_tuple_range (n := (b - a).toNat) (I1.ok.hd hc) hr (small_one b1 b2 b3 b4) (rangeSize_nat a b) b5 fun h' tk acc hk hi => ?_
  have I2 : Inv X pins σ H1 { s1 with heap := h', toks := tk } := I1.kept hk
  refine ⟨.ref h'.objs.size, _, laidT (s := { s1 with heap := h', toks := tk }) (t' := tk) (us := acc.toList) I2 (fun c o e => Heap.get?_push_of_some _ e) (Nat.le_refl _) ?_ (vals_rg hi) ?_, rfl, q _ _ (I2.hok.fresh (Nat.le_refl _)) rfl⟩
  · rw [Array.toArray_toList]; exact Heap.get?_push_size _ rfl
  · rw [rgV_length, sizeLine_eq]; omega
theorem tupRg_to {a : C} {m : M (Option D)} {σ : L2.St} {H : Hp} (h : EvR g E (bnd m fun x => bnd (fill1 a x) fun d => match d with
    | .int n => if smallR n then ret (.tup (rngL 0 n)) else stuck
    | _ => stuck) σ H Q) : tTupRgF (tRg1 (OpdR g E a m)) σ H Q := by
  obtain ⟨Φ, ρ, s, fs, F, r, k, hm, p⟩ := h
  rcases bnd_some hm with ⟨o, s1, h1, h2⟩ | ⟨x, h1, rfl⟩
  · refine OpdR.val k h1 fun Φ1 H1 ρ1 v fs1 st1 k1 pd => ?_
    rcases bnd_some h2 with ⟨d, s2, h3, h4⟩ | ⟨x, h3, rfl⟩
    · obtain ⟨_, _, Φ2, fs2, e, st2, k2, pk⟩ := fill1_ok k1 pd h3
      cases e
      split at h4
      · split at h4
        · rename_i n hs
          cases ret_some h4
          refine ⟨n, pk.int, ?_, fun q o hq hd => ?_⟩
          · simp only [smallR, Bool.and_eq_true, decide_eq_true_eq] at hs
            exact ⟨by omega, by omega, by omega, by omega, by omega⟩
          · exact (k2.aft (p.shift (st1.trans st2 fun _ h => h) fun _ h => h)).tup k2.sub (rngV_rep 0 n) q o hq hd
        · cases h4
      · cases h4
    · exact (fill1_noexc h3).elim
  · exact OpdR.exc k h1 p
theorem lstRg_to {a : C} {m : M (Option D)} {σ : L2.St} {H : Hp} (h : EvR g E (bnd m fun x => bnd (fill1 a x) fun d => match d with
    | .int n => if smallR n then ret (.lst .own (rngL 0 n)) else stuck
    | _ => stuck) σ H Q) : tLstRg (tRg1 (OpdR g E a m)) σ H Q := by
  obtain ⟨Φ, ρ, s, fs, F, r, k, hm, p⟩ := h
  rcases bnd_some hm with ⟨o, s1, h1, h2⟩ | ⟨x, h1, rfl⟩
  · refine OpdR.val k h1 fun Φ1 H1 ρ1 v fs1 st1 k1 pd => ?_
    rcases bnd_some h2 with ⟨d, s2, h3, h4⟩ | ⟨x, h3, rfl⟩
    · obtain ⟨_, _, Φ2, fs2, e, st2, k2, pk⟩ := fill1_ok k1 pd h3
      cases e
      split at h4
      · split at h4
        · rename_i n hs
          cases ret_some h4
          refine ⟨n, pk.int, ?_, fun q hq => ?_⟩
          · simp only [smallR, Bool.and_eq_true, decide_eq_true_eq] at hs
            exact ⟨by omega, by omega, by omega, by omega, by omega⟩
          · exact (k2.aft (p.shift (st1.trans st2 fun _ h => h) fun _ h => h)).lst k2.sub (rngV_rep 0 n) q hq
        · cases h4
      · cases h4
    · exact (fill1_noexc h3).elim
  · exact OpdR.exc k h1 p
/-! ### sorted(set(t)) -/
theorem srtSet_ev {a : C} {m : M (Option D)} {σ : L2.St} {H : Hp} (hK : X.K = g.K) (h : EvR g E (bnd m fun x => bnd (fill1 a x) fun d => lift (setSrt d)) σ H Q) :
    tCB (rSortedSet X.w) (tCons (tCB (rSetI X.K X.w) (tCons (OpdR g E a m) tNil)) tNil) σ H Q := by
  show OpdR g E a m σ H fun v H1 => rSetI X.K X.w [v] H1 fun y H2 => rSortedSet X.w [y] H2 Q
  refine un_to (K := fun v H1 Q => rSetI X.K X.w [v] H1 fun y H2 => rSortedSet X.w [y] H2 Q) h fun Φ ρ H d r v sb pk hn af => ?_
  exact srtSet_to hK ⟨Φ, ρ, d, r, sb, pk, hn, af⟩
end
end Den
/-! Den11: a list in its slot changed by a method, by an item. -/
namespace Den
open PySem PySem.Spec L2
section
variable {g : Gx} {E : XK} {X : Cx} {Φ Φ1 Φ' H H1 H' : Hp} {ρ ρ1 ρ' : List Addr} {F F1 : Addr → Prop} {σ : L2.St} {s : S} {fs : Ix → List Addr} {Q : VK}
def muId : Mu → String
  | .append => "list.append"
  | .pop0 => "list.pop"
  | .pop1 => "list.pop"
  | .remove => "list.remove"
/-- what a method does to the list at l -/
def rMu (g : Gx) (m : Mu) : V → List V → Hp → VK → Prop := fun x xs H Q => ∃ (l : Addr) (vs : List V) (es ds : List D) (y : D) (es' : List D) (Φ : Hp) (ρ : List Addr) (fl : List Addr),
  x = .ref l ∧ H l = some (.lst vs) ∧ RepL g Φ H ρ es vs fl ∧ RepL g Φ H ρ ds xs [] ∧ muF m es ds = some (y, es') ∧ Sub Φ H ∧
  ∀ (vs' : List V) (w : V) (fy fr : List Addr), (∀ H', (∀ b ∈ fl, H' b = H b) → Rep g Φ H' ρ y w fy ∧ RepL g Φ H' ρ es' vs' fr) → fl.Perm (fy ++ fr) → Q w (upd H l (.lst vs'))
theorem RepL.out {es : List D} {vs : List V} {fl : List Addr} (r : RepL g Φ H ρ es vs fl) {H' : Hp} (h : ∀ b ∈ fl, H' b = H b) : RepL g Φ H' ρ es vs fl :=
  RepL.mono (fun _ _ h => h) (List.prefix_refl _) _ _ _ (fun b hb => ⟨h b hb, (RepL.at _ _ _ r b hb).1⟩) r
theorem Rep.out {es : D} {vs : V} {fl : List Addr} (r : Rep g Φ H ρ es vs fl) {H' : Hp} (h : ∀ b ∈ fl, H' b = H b) : Rep g Φ H' ρ es vs fl :=
  Rep.mono (fun _ _ h => h) (List.prefix_refl _) _ _ _ (fun b hb => ⟨h b hb, (Rep.at _ _ _ r b hb).1⟩) r
theorem erase_at (k : Int) : ∀ (l : List Int), k ∈ l → ∃ j, l[j]? = some k ∧ (∀ m : Nat, m < j → l[m]? ≠ some k) ∧ l.erase k = l.eraseIdx j
  | [], h => by cases h
  | x :: xs, h => by
    by_cases e : x = k
    · subst e
      exact ⟨0, rfl, fun m hm => by omega, by simp⟩
    · rcases List.mem_cons.mp h with h | h
      · exact absurd h.symm e
      · obtain ⟨j, h1, h2, h3⟩ := erase_at k xs h
        refine ⟨j + 1, by simpa using h1, fun m hm => ?_, ?_⟩
        · cases m with
          | zero => simpa using e
          | succ m => simpa using h2 m (by omega)
        · rw [List.erase_cons_tail (by simpa using e), h3]; rfl
theorem erase_map (l : List Int) (j : Nat) : (l.map D.int).eraseIdx j = (l.eraseIdx j).map D.int := by
  induction l generalizing j with
  | nil => rfl
  | cons x xs ih => cases j with
    | zero => rfl
    | succ j => simp [ih]
theorem ints_repF : ∀ {ds : List D} {vs : List V} {is : List Int} {f : List Addr}, RepL g Φ H ρ ds vs f → intsOf ds = some is → vs = is.map V.int ∧ ds = is.map D.int ∧ f = []
  | [], vs, is, f, r, e => by
    simp only [RepL] at r
    simp only [intsOf, Option.some.injEq] at e
    subst e
    exact ⟨r.1, rfl, r.2⟩
  | d :: ds, vs, is, f, r, e => by
    simp only [RepL] at r
    obtain ⟨v, vs', f1, f2, rfl, rfl, r1, r2⟩ := r
    cases d with
    | int i =>
      simp only [intsOf] at e
      cases q : intsOf ds with
      | none => rw [q] at e; cases e
      | some l =>
        rw [q] at e
        simp only [Option.map_some, Option.some.injEq] at e
        subst e
        obtain ⟨rfl, rfl, rfl⟩ := ints_repF r2 q
        simp only [Rep] at r1
        obtain ⟨rfl, rfl⟩ := r1
        exact ⟨rfl, rfl, rfl⟩
    | _ => simp [intsOf] at e
theorem mt_mu (m : Mu) : MtM X (muId m) (rMu g m) := by
  intro pins s σ H x xs v us Q I rx rs h
  obtain ⟨l, vs, es, ds, y, es', Φ, ρ, fl, rfl, hl, re, rd, hm, sb, q⟩ := h
  have hlen := RepL.len _ _ _ re
  cases m with
  | append =>
    unfold muF at hm
    split at hm
    all_goals first | (rename_i e; cases e; done) | skip
    · rename_i x0 _
      split at hm
      · rename_i hz
        cases hm
        simp only [RepL] at rd
        obtain ⟨w, vs0, f1, f2, rfl, e1, r1, rfl, rfl⟩ := rd
        obtain ⟨rfl, _⟩ := List.append_eq_nil_iff.mp e1.symm
        refine mt_append pins s σ H _ _ v us Q I rx rs ⟨l, vs, w, rfl, rfl, hl, ?_, ?_⟩
        · rw [hlen]; exact Nat.lt_of_lt_of_le hz lim_le
        · refine q (vs ++ [w]) .non [] fl (fun H' hH => ⟨rep_non, ?_⟩) (List.Perm.refl _)
          have := RepL.app _ [x0] _ [w] _ [] (re.out hH) (by simp only [RepL]; exact ⟨w, [], [], [], rfl, rfl, r1.any, rfl, rfl⟩)
          simpa using this
      · cases hm
    all_goals cases hm
  | pop0 =>
    unfold muF at hm
    split at hm
    all_goals first | (rename_i e; cases e; done) | skip
    · split at hm
      · rename_i yy hy
        cases hm
        simp only [RepL] at rd
        obtain ⟨rfl, _⟩ := rd
        obtain ⟨w, f1, f2, e1, r1, r2, hp⟩ := RepL.pick _ _ _ _ _ re hy
        rw [← hlen] at e1 r2
        refine mt_pop pins s σ H _ _ v us Q I rx rs ⟨l, vs, w, rfl, rfl, hl, e1, ?_⟩
        rw [hlen, List.eraseIdx_length_sub_one] at r2
        rw [← hlen, List.eraseIdx_length_sub_one] at r2
        exact q vs.dropLast w f1 f2 (fun H' hH => ⟨r1.out fun b hb => hH b (hp.mem_iff.mpr (List.mem_append_left _ hb)), r2.out fun b hb => hH b (hp.mem_iff.mpr (List.mem_append_right _ hb))⟩) hp
      · cases hm
    all_goals cases hm
  | pop1 =>
    unfold muF at hm
    split at hm
    all_goals first | (rename_i e; cases e; done) | skip
    · rename_i i0 _
      split at hm
      · rename_i hs
        split at hm
        · rename_i k hk
          split at hm
          · rename_i yy hy
            cases hm
            simp only [RepL, Rep] at rd
            obtain ⟨w0, vs0, f1, f2, rfl, e1, ⟨rfl, rfl⟩, rfl, rfl⟩ := rd
            obtain ⟨w, f1, f2, e1, r1, r2, hp⟩ := RepL.pick _ _ _ _ _ re hy
            obtain ⟨k1, k2, k3, k4⟩ := ixN_seq hk
            obtain ⟨s1, s2⟩ := smallR_of hs
            refine mt_popAt pins s σ H _ _ v us Q I rx rs ⟨l, vs, i0, k, w, rfl, rfl, hl, by omega, by omega, by rw [hlen]; exact k1, e1, ?_⟩
            exact q (vs.eraseIdx k) w f1 f2 (fun H' hH => ⟨r1.out fun b hb => hH b (hp.mem_iff.mpr (List.mem_append_left _ hb)), r2.out fun b hb => hH b (hp.mem_iff.mpr (List.mem_append_right _ hb))⟩) hp
          · cases hm
        · cases hm
      · cases hm
    all_goals cases hm
  | remove =>
    unfold muF at hm
    split at hm
    all_goals first | (rename_i e; cases e; done) | skip
    · rename_i i0 _
      split at hm
      · rename_i is hi
        split at hm
        · rename_i hmem
          cases hm
          simp only [RepL, Rep] at rd
          obtain ⟨w0, vs0, f1, f2, rfl, e1, ⟨rfl, rfl⟩, rfl, rfl⟩ := rd
          obtain ⟨rfl, rfl, rfl⟩ := ints_repF re hi
          obtain ⟨j, h1, h2, h3⟩ := erase_at i0 is hmem
          refine mt_remove pins s σ H _ _ v us Q I rx rs ⟨l, is, i0, j, rfl, rfl, hl, h1, h2, ?_⟩
          rw [h3] at q
          exact q _ .non [] [] (fun H' hH => ⟨rep_non, rep_ints _⟩) (List.Perm.refl _)
        · cases hm
      · cases hm
    all_goals cases hm
theorem isLst_some {i : Nat} {s : S} (h : isLst i s = true) : ∃ o ds, s.sl[i]? = some (some (.lst o ds)) := by
  unfold isLst at h
  split at h
  · exact ⟨_, _, by assumption⟩
  · cases h
theorem mut_to {m : Mu} {i : Nat} {mz : M (List D)} {σ : L2.St} {H : Hp} (hK : X.K = g.K) (h : EvR g E (bnd (grd (isLst i)) fun _ => bnd mz fun ds => mutL m i ds) σ H Q) :
    tBM X.K "list" (rMu g m) (tVar i) (FzR g E mz) σ H Q := by
  obtain ⟨Φ, ρ, s, fs, F, r, k, hm, p⟩ := h
  rcases bnd_some hm with ⟨⟨⟩, s1, h1, h2⟩ | ⟨x, h1, rfl⟩
  · unfold grd at h1
    split at h1
    · rename_i hl
      cases h1
      obtain ⟨o, ds, q⟩ := isLst_some hl
      obtain ⟨v, e1, rv⟩ := k.slot i _ q
      refine ⟨v, e1, ?_⟩
      obtain ⟨a, vs, rfl, t⟩ := rep_list k.sub (d := .lst o ds) rfl rv
      refine ⟨.inl ⟨rfl, vs, by rw [hK]; exact t⟩, ?_⟩
      rcases bnd_some h2 with ⟨es, s2, h3, h4⟩ | ⟨x, h3, rfl⟩
      · refine ⟨Φ, ρ, s, fs, F, _, k, h3, fun Φ1 H1 ρ1 ws fs1 st1 k1 rw1 => ?_⟩
        unfold mutL at h4
        split at h4
        · rename_i es0 q1
          split at h4
          · rename_i d es' hmu
            cases h4
            obtain ⟨a', vs', fl, e2, ha, re, fin⟩ := k1.chg (E := E) (Q := Q) (es' := es') q1
            rw [e1] at e2
            cases e2
            refine ⟨a, vs', es0, es, d, es', Φ1, ρ1, fl, rfl, ha, re, rw1.any, hmu, k1.sub, fun vs2 w fy fr hr hp => ?_⟩
            exact fin vs2 d w fy fr hr hp (p.shift st1 fun _ h => h)
          · cases h4
        · cases h4
      · exact ⟨Φ, ρ, s, fs, F, _, k, h3, p⟩
    · cases h1
  · unfold grd at h1
    split at h1 <;> cases h1
end
end Den
/-! Den12: statements. -/
namespace Den
open PySem PySem.Spec L2
def PrOk (pr : List Nat) (σ σ' : L2.St) : Prop := σ'.length = σ.length ∧ ∀ j ∈ pr, σ'[j]? = σ[j]?
def ExR (g : Gx) (E : XK) (pr : List Nat) (m : S → Option Rs) : TS := fun D σ H => ∃ Φ ρ s fs F r, Ok g Φ H ρ s σ fs F ∧ m s = some r ∧ match r with
  | .nx s' => ∀ Φ' H' ρ' σ' fs', Stp Φ H ρ F Φ' H' ρ' → PrOk pr σ σ' → Ok g Φ' H' ρ' s' σ' fs' F → D.nx σ' H'
  | .rt d s' => ∀ Φ' H' ρ' v f σ' fs', Stp Φ H ρ F Φ' H' ρ' → PrOk pr σ σ' → Ok g Φ' H' ρ' s' σ' fs' (fadd f F) → Vl g Φ' H' ρ' d v f F → D.rt v H'
  | .ex x => PX g E Φ H ρ F x
section
variable {g : Gx} {E : XK} {X : Cx} {pr : List Nat} {Φ Φ1 Φ' H H1 H' : Hp} {ρ ρ1 ρ' : List Addr} {F F1 : Addr → Prop} {σ : L2.St} {s : S} {fs : Ix → List Addr} {Q : VK} {D0 : Ends}
theorem PrOk.refl : PrOk pr σ σ := ⟨rfl, fun _ _ => rfl⟩
theorem PrOk.trans {σ1 σ2 : L2.St} (a : PrOk pr σ σ1) (b : PrOk pr σ1 σ2) : PrOk pr σ σ2 := ⟨b.1.trans a.1, fun j hj => (b.2 j hj).trans (a.2 j hj)⟩
theorem thn_some {α : Type} {x : Option (Ex α)} {k : α → S → Option Rs} {r : Rs} (h : Den.thn x k = some r) : (∃ a s1, x = some (.val a s1) ∧ k a s1 = some r) ∨ ∃ e, x = some (.exc e) ∧ r = .ex e := by
  unfold Den.thn at h
  split at h
  · exact .inl ⟨_, _, rfl, h⟩
  · cases h; exact .inr ⟨_, rfl, rfl⟩
  · cases h
theorem asg_noexc : (∀ (tg : Tg) (d : D) (s : S) (x : Exn), asg tg d s ≠ some (.exc x)) ∧ ∀ (ts : List Tg) (ds : List D) (s : S) (x : Exn), asgs ts ds s ≠ some (.exc x) := by
  have key : ∀ n : Nat, (∀ tg, sizeOf tg ≤ n → ∀ (d : D) (s : S) (x : Exn), asg tg d s ≠ some (.exc x)) ∧ ∀ ts : List Tg, sizeOf ts ≤ n → ∀ (ds : List D) (s : S) (x : Exn), asgs ts ds s ≠ some (.exc x) := by
    intro n
    induction n with
    | zero =>
      refine ⟨fun tg h => ?_, fun ts h => ?_⟩
      · cases tg <;> simp at h
      · cases ts <;> simp at h
    | succ n ih =>
      refine ⟨fun tg h d s x e => ?_, fun ts h ds s x e => ?_⟩
      · cases tg with
        | nm i => simp only [asg] at e; split at e <;> cases e
        | tp ts =>
          simp only [asg] at e
          split at e
          · exact ih.2 ts (by simp at h; omega) _ _ _ e
          · cases e
      · cases ts with
        | nil => cases ds <;> simp [asgs, ret, stuck] at e
        | cons t ts =>
          cases ds with
          | nil => simp [asgs, stuck] at e
          | cons d ds =>
            simp only [asgs] at e
            rcases bnd_some e with ⟨⟨⟩, s1, h1, h2⟩ | ⟨x, h1, _⟩
            · exact ih.2 ts (by simp at h; omega) _ _ _ h2
            · exact ih.1 t (by simp at h; omega) _ _ _ h1
  exact ⟨fun tg => (key (sizeOf tg)).1 tg (Nat.le_refl _), fun ts => (key (sizeOf ts)).2 ts (Nat.le_refl _)⟩
/-- target = e -/
theorem set_to {tg : Tg} {m : M D} (hp : ∀ j ∈ pr, j ∉ tgSl tg) (h : ExR g E pr (fun s => Den.thn (m s) fun d s1 => Den.thn (asg tg d s1) fun _ s2 => some (.nx s2)) D0 σ H) : tAsg (EvR g E m) (AsgR g tg) D0 σ H := by
  obtain ⟨Φ, ρ, s, fs, F, r, k, hm, p⟩ := h
  rcases thn_some hm with ⟨d, s1, h1, h2⟩ | ⟨x, h1, rfl⟩
  · refine EvR.val k h1 fun Φ1 H1 ρ1 v f fs1 st1 k1 vl => ?_
    rcases thn_some h2 with ⟨⟨⟩, s2, h3, h4⟩ | ⟨x, h3, _⟩
    · cases h4
      exact ⟨Φ1, ρ1, s1, s2, fs1, F, f, d, k1, .inl vl, h3, fun σ' fs' hl hs ok => p _ _ _ _ _ st1 ⟨hl, fun j hj => (hs j (hp j hj)).1⟩ ok⟩
    · exact absurd h3 (asg_noexc.1 _ _ _ _)
  · exact EvR.exc k h1 p
/-- .. a name, of a new list -/
theorem nm_to {i : Nat} {v : V} {σ : L2.St} {H : Hp} {Q : L2.St → Hp → Prop} (h : AsgR g (.nm i) v σ H Q) : gName i v σ H Q := by
  obtain ⟨Φ, ρ, s, s', fs, F, f, d, k, vl, hm, q⟩ := h
  have vl : Vl g Φ H ρ d v f F := by
    rcases vl with vl | ⟨h, _⟩
    · exact vl
    · simp [isTp] at h
  simp only [asg] at hm
  split at hm
  · rename_i hi
    cases hm
    refine q _ _ (by simp) (fun j hj => ?_) (k.set vl hi)
    simp only [tgSl, List.mem_singleton] at hj
    exact ⟨List.getElem?_set_ne (Ne.symm hj), List.getElem?_set_ne (Ne.symm hj)⟩
  · cases hm
theorem EvR.imp {m : M D} {Q Q' : VK} (h : EvR g E m σ H Q) (k : ∀ v H1, Q v H1 → Q' v H1) : EvR g E m σ H Q' := by
  obtain ⟨Φ, ρ, s, fs, F, r, kk, hm, p⟩ := h
  refine ⟨Φ, ρ, s, fs, F, r, kk, hm, ?_⟩
  cases r with
  | val d s' => exact fun Φ' H' ρ' v f fs' st ok vl => k _ _ (p Φ' H' ρ' v f fs' st ok vl)
  | exc x => exact p
theorem drop_to {m : M D} (h : ExR g E pr (fun s => Den.thn (m s) fun _ s1 => some (.nx s1)) D0 σ H) : tDrop (EvR g E m) D0 σ H := by
  obtain ⟨Φ, ρ, s, fs, F, r, k, hm, p⟩ := h
  rcases thn_some hm with ⟨d, s1, h1, h2⟩ | ⟨x, h1, rfl⟩
  · cases h2
    exact EvR.val k h1 fun Φ1 H1 ρ1 v f fs1 st1 k1 vl => p _ _ _ _ _ st1 .refl k1.drop
  · exact EvR.exc k h1 p
theorem ret_to {m : M D} (h : ExR g E pr (fun s => Den.thn (m s) fun d s1 => some (.rt d s1)) D0 σ H) : tRet (EvR g E m) D0 σ H := by
  obtain ⟨Φ, ρ, s, fs, F, r, k, hm, p⟩ := h
  rcases thn_some hm with ⟨d, s1, h1, h2⟩ | ⟨x, h1, rfl⟩
  · cases h2
    exact EvR.val k h1 fun Φ1 H1 ρ1 v f fs1 st1 k1 vl => p _ _ _ _ _ _ _ st1 .refl k1 vl
  · exact EvR.exc k h1 p
theorem retn_to (h : ExR g E pr (fun s => some (.rt .non s)) D0 σ H) : tRetN D0 σ H := by
  obtain ⟨Φ, ρ, s, fs, F, r, k, hm, p⟩ := h
  cases hm
  exact p Φ H ρ .non [] σ fs (Stp.refl k.nF) .refl k.nof ⟨rep_non, List.nodup_nil, fun a ha => by cases ha⟩
theorem nx_to (h : ExR g E pr (fun s => some (.nx s)) D0 σ H) : tNext D0 σ H := by
  obtain ⟨Φ, ρ, s, fs, F, r, k, hm, p⟩ := h
  cases hm
  exact p Φ H ρ σ fs (Stp.refl k.nF) .refl k
theorem sthn_some {x : Option Rs} {k : S → Option Rs} {r : Rs} (h : sthn x k = some r) : (∃ s1, x = some (.nx s1) ∧ k s1 = some r) ∨ (x = some r ∧ ∀ s, r ≠ .nx s) := by
  unfold sthn at h
  split at h
  · exact .inl ⟨_, rfl, h⟩
  · rename_i hn
    refine .inr ⟨h, fun s e => ?_⟩
    subst e
    exact hn s h
/-- .. what follows, one behind another -/
theorem ExR.seq {m m' : S → Option Rs} (h : ExR g E pr (fun s => sthn (m s) m') D0 σ H) : ExR g E pr m { D0 with nx := ExR g E pr m' D0 } σ H := by
  obtain ⟨Φ, ρ, s, fs, F, r, k, hm, p⟩ := h
  rcases sthn_some hm with ⟨s1, h1, h2⟩ | ⟨h1, hn⟩
  · refine ⟨Φ, ρ, s, fs, F, _, k, h1, fun Φ1 H1 ρ1 σ1 fs1 st1 pk1 k1 => ⟨Φ1, ρ1, s1, fs1, F, r, k1, h2, ?_⟩⟩
    cases r with
    | nx s' => exact fun Φ' H' ρ' σ' fs' st pk ok => p Φ' H' ρ' σ' fs' (st1.trans st fun _ h => h) (pk1.trans pk) ok
    | rt d s' => exact fun Φ' H' ρ' v f σ' fs' st pk ok vl => p Φ' H' ρ' v f σ' fs' (st1.trans st fun _ h => h) (pk1.trans pk) ok vl
    | ex x => exact PX.shift p st1 fun _ h => h
  · refine ⟨Φ, ρ, s, fs, F, r, k, h1, ?_⟩
    cases r with
    | nx s' => exact absurd rfl (hn s')
    | rt d s' => exact p
    | ex x => exact p
theorem if_to {m : M D} {a b : S → Option Rs} (h : ExR g E pr (fun s => Den.thn (m s) fun d s1 => match d with
    | .bl true => a s1
    | .bl false => b s1
    | _ => none) D0 σ H) : tIfS (TtR g E m) (ExR g E pr a) (ExR g E pr b) D0 σ H := by
  obtain ⟨Φ, ρ, s, fs, F, r, k, hm, p⟩ := h
  have go : ∀ {Φ1 H1 ρ1 fs1 s1 m'}, Stp Φ H ρ F Φ1 H1 ρ1 → Ok g Φ1 H1 ρ1 s1 σ fs1 F → m' s1 = some r → ExR g E pr m' D0 σ H1 := fun {Φ1 H1 ρ1 fs1 s1 m'} st1 k1 h2 => by
    refine ⟨Φ1, ρ1, s1, fs1, F, r, k1, h2, ?_⟩
    cases r with
    | nx s' => exact fun Φ' H' ρ' σ' fs' st pk ok => p Φ' H' ρ' σ' fs' (st1.trans st fun _ h => h) pk ok
    | rt d s' => exact fun Φ' H' ρ' v f σ' fs' st pk ok vl => p Φ' H' ρ' v f σ' fs' (st1.trans st fun _ h => h) pk ok vl
    | ex x => exact PX.shift p st1 fun _ h => h
  rcases thn_some hm with ⟨d, s1, h1, h2⟩ | ⟨x, h1, rfl⟩
  · split at h2
    · exact TtR.val k h1 fun Φ1 H1 ρ1 fs1 st1 k1 => by rw [if_pos rfl]; exact go st1 k1 h2
    · exact TtR.val k h1 fun Φ1 H1 ρ1 fs1 st1 k1 => by rw [if_neg Bool.false_ne_true]; exact go st1 k1 h2
    · cases h2
  · exact TtR.exc k h1 p
theorem aug_to {i : Nat} {m : M D} (hi : i ∉ pr) (h : ExR g E pr (fun s => match s.sl[i]? with
    | some (some (.int x)) => Den.thn (m s) fun d s1 => match d with
      | .int y => if i < s1.sl.length then some (.nx (setS s1 i (some (.int (x + y))))) else none
      | _ => none
    | _ => none) D0 σ H) : tAug i (EvR g E m) (ipI fun i j => i + j) D0 σ H := by
  obtain ⟨Φ, ρ, s, fs, F, r, k, hm, p⟩ := h
  dsimp only at hm
  split at hm
  · rename_i x q
    obtain ⟨v, e1, rv⟩ := k.slot i _ q
    simp only [Rep] at rv
    obtain ⟨rfl, _⟩ := rv
    refine ⟨.int x, e1, ?_⟩
    rcases thn_some hm with ⟨d, s1, h1, h2⟩ | ⟨x, h1, rfl⟩
    · refine EvR.val k h1 fun Φ1 H1 ρ1 v f fs1 st1 k1 vl => ?_
      split at h2
      · split at h2
        · rename_i y hl
          cases h2
          obtain ⟨rfl, rfl⟩ := vl.int
          refine ⟨x, y, rfl, rfl, ?_⟩
          refine p Φ1 H1 ρ1 _ _ st1 ⟨by simp, fun j hj => List.getElem?_set_ne (fun z : i = j => hi (by rw [z]; exact hj))⟩ (k1.set (i := i) (d := .int (x + y)) (v := .int (x + y)) ⟨rep_int, List.nodup_nil, fun a ha => by cases ha⟩ hl)
        · cases h2
      · cases h2
    · exact EvR.exc k h1 p
  · cases hm
theorem RepL.setR : ∀ (ds : List D) (vs : List V) (f : List Addr) (i : Nat) (d : D) (v : V), i < ds.length → RepL g Φ H ρ ds vs f → Rep g Φ H ρ d v [] →
    ∃ f1 f2, RepL g Φ H ρ (ds.set i d) (vs.set i v) f2 ∧ f.Perm (f1 ++ f2)
  | [], _, _, i, d, v, h, _, _ => by simp at h
  | x :: ds, _, _, 0, d, v, h, r, rd => by
    simp only [RepL] at r
    obtain ⟨w, vs', f1, f2, rfl, rfl, r1, r2⟩ := r
    refine ⟨f1, f2, ?_, List.Perm.refl _⟩
    simp only [List.set_cons_zero, RepL]
    exact ⟨v, vs', [], f2, rfl, rfl, rd, r2⟩
  | x :: ds, _, _, i + 1, d, v, h, r, rd => by
    simp only [RepL] at r
    obtain ⟨w, vs', f1, f2, rfl, rfl, r1, r2⟩ := r
    obtain ⟨g1, g2, q2, q3⟩ := RepL.setR ds vs' f2 i d v (by simpa using h) r2 rd
    refine ⟨g1, f1 ++ g2, ?_, ?_⟩
    · simp only [List.set_cons_succ, RepL]
      exact ⟨w, _, f1, g2, rfl, rfl, r1, q2⟩
    · refine (List.Perm.append_left f1 q3).trans ?_
      rw [← List.append_assoc, ← List.append_assoc]
      exact List.Perm.append_right g2 List.perm_append_comm
/-- the list in slot i: written, what was there dropped -/
theorem Ok.chg0 {i : Nat} {es es' : List D} (k : Ok g Φ H ρ s σ fs F) (q : s.sl[i]? = some (some (.lst .own es))) :
    ∃ a vs fl, σ[i]? = some (some (.ref a)) ∧ H a = some (.lst vs) ∧ RepL g Φ H ρ es vs fl ∧
      ∀ (vs' : List V) (fy fr : List Addr), (∀ H', (∀ b ∈ fl, H' b = H b) → RepL g Φ H' ρ es' vs' fr) → fl.Perm (fy ++ fr) →
        ∃ fs', Stp Φ H ρ F Φ (upd H a (.lst vs')) ρ ∧ Ok g Φ (upd H a (.lst vs')) ρ (setS s i (some (.lst .own es'))) σ fs' F := by
  obtain ⟨v, e1, r, k2⟩ := k.take q
  have hi : i < s.sl.length := (List.getElem?_eq_some_iff.mp q).1
  obtain ⟨rr, nd, out⟩ := r
  simp only [Rep] at rr
  obtain ⟨a, vs, f', rfl, ha, na, ef, rl⟩ := rr
  rw [ef] at nd out k2
  refine ⟨a, vs, f', e1, ha, rl, fun vs' fy fr hr hp => ?_⟩
  have nd' := List.nodup_cons.mp nd
  have k3 := k2.wr (o := .lst vs') List.mem_cons_self ha pln_lst pln_lst
  have mf : ∀ b, b ∈ f' ↔ b ∈ fy ∨ b ∈ fr := fun b => by rw [hp.mem_iff]; exact List.mem_append
  have ndp : (fy ++ fr).Nodup := hp.nodup_iff.mp nd'.2
  obtain ⟨n1, n2, n3⟩ := List.nodup_append.mp ndp
  have rr := hr (upd H a (.lst vs')) fun b hb => upd_ne fun z => nd'.1 (z ▸ hb)
  have k4 : Ok g Φ (upd H a (.lst vs')) ρ { s with sl := s.sl.set i none } σ (updI fs (.inl i) []) (fadd (a :: fr) F) := k3.less fun b hb => by
    rcases hb with hb | hb
    · rcases List.mem_cons.mp hb with rfl | hb
      · exact .inl List.mem_cons_self
      · exact .inl (List.mem_cons_of_mem _ ((mf b).mpr (.inr hb)))
    · exact .inr hb
  have vl : Vl g Φ (upd H a (.lst vs')) ρ (.lst .own es') (.ref a) (a :: fr) F := by
    refine ⟨?_, List.nodup_cons.mpr ⟨fun z => nd'.1 ((mf a).mpr (.inr z)), n2⟩, fun b hb z => ?_⟩
    · simp only [Rep]
      exact ⟨a, vs', fr, rfl, upd_same, na, rfl, rr⟩
    · rcases List.mem_cons.mp hb with rfl | hb
      · exact out b List.mem_cons_self z
      · exact out b (List.mem_cons_of_mem _ ((mf b).mpr (.inr hb))) z
  have k5 := k4.put (i := i) vl (by simpa using hi) e1
  simp only [List.set_set] at k5
  exact ⟨_, wr_stp k.nF (out a List.mem_cons_self), k5⟩
theorem seti_to {i : Nat} {m mk : M D} (h : ExR g E pr (fun s => Den.thn (bnd m (fun d => bnd (grd (isLst i)) fun _ => bnd mk fun kd => ret (kd, Den.fz d)) s) fun p s2 => setiM i p.1 p.2 s2) D0 σ H) :
    tAsg (EvR g E m) (gSub (tVar i) (EvR g E mk) rSetL) D0 σ H := by
  obtain ⟨Φ, ρ, s, fs, F, r, k, hm, p⟩ := h
  rcases thn_some hm with ⟨⟨kd, d'⟩, s2, h1, h2⟩ | ⟨x, h1, rfl⟩
  · rcases bnd_some h1 with ⟨d, s3, h3, h4⟩ | ⟨x, h3, e⟩
    · refine EvR.val k h3 fun Φ1 H1 ρ1 v f fs1 st1 k1 vl => ?_
      obtain ⟨k1', st1', rv⟩ := k1.frz vl
      rcases bnd_some h4 with ⟨⟨⟩, s4, h5, h6⟩ | ⟨x, h5, e⟩
      · unfold grd at h5
        split at h5
        · rename_i hl
          cases h5
          obtain ⟨o, ds, q⟩ := isLst_some hl
          obtain ⟨w, e1, _⟩ := k1'.slot i _ q
          refine ⟨w, e1, ?_⟩
          rcases bnd_some h6 with ⟨kd', s5, h7, h8⟩ | ⟨x, h7, e⟩
          · cases ret_some h8
            refine EvR.val k1' h7 fun Φ2 H2 ρ2 u f2 fs2 st2 k2 vl2 => ?_
            dsimp only at h2
            unfold setiM at h2
            split at h2
            · split at h2
              · rename_i es z q1 _ j hj
                cases h2
                obtain ⟨rfl, rfl⟩ := vl2.int
                obtain ⟨a, vs, fl, e2, ha, re, fin⟩ := k2.drop.chg0 (es' := es.set j (Den.fz d)) q1
                rw [e1] at e2
                cases e2
                have hlen := RepL.len _ _ _ re
                obtain ⟨_, hjl, _⟩ := ixN_seq hj
                have rv2 : Rep g Φ2 H2 ρ2 (Den.fz d) v [] := (rv.sh st2).any
                obtain ⟨fy, fr, rr, hp⟩ := RepL.setR es vs fl j (Den.fz d) v hjl re rv2
                refine ⟨a, vs, z, j, rfl, rfl, ha, by rw [hlen]; exact hj, ?_⟩
                obtain ⟨fs3, st3, k3⟩ := fin (vs.set j v) fy fr (fun H' hH => rr.out fun b hb => hH b (hp.mem_iff.mpr (List.mem_append_right _ hb))) hp
                exact p _ _ _ _ _ (((st1.trans st1' fun _ h => h).trans st2 fun _ h => h).trans st3 fun _ h => h) .refl k3
              · cases h2
            · cases h2
          · cases e
        · cases h5
      · unfold grd at h5
        split at h5 <;> cases h5
    · cases e
  · rcases bnd_some h1 with ⟨d, s3, h3, h4⟩ | ⟨x', h3, e⟩
    · refine EvR.val k h3 fun Φ1 H1 ρ1 v f fs1 st1 k1 vl => ?_
      obtain ⟨k1', st1', rv⟩ := k1.frz vl
      rcases bnd_some h4 with ⟨⟨⟩, s4, h5, h6⟩ | ⟨x', h5, e⟩
      · unfold grd at h5
        split at h5
        · rename_i hl
          cases h5
          obtain ⟨o, ds, q⟩ := isLst_some hl
          obtain ⟨w, e1, _⟩ := k1'.slot i _ q
          refine ⟨w, e1, ?_⟩
          rcases bnd_some h6 with ⟨kd', s5, h7, h8⟩ | ⟨x', h7, e⟩
          · cases ret_some h8
          · cases e
            exact EvR.exc k1' h7 (PX.shift p (st1.trans st1' fun _ h => h) fun _ h => h)
        · cases h5
      · unfold grd at h5
        split at h5 <;> cases h5
    · cases e
      exact EvR.exc k h3 p
end
end Den
/-! DenX: exceptions: raised, refused. -/
namespace Den
open PySem PySem.Spec PyProof.Rows L2
section
variable {g : Gx} {E : XK} {Φ Φ1 Φ' H H1 H' : Hp} {ρ ρ1 ρ' : List Addr} {F F1 : Addr → Prop} {σ : L2.St} {s : S} {fs : Ix → List Addr} {Q : VK}
theorem Ok.share' {d : D} {i : Nat} (k : Ok g Φ H ρ s σ fs F) (q : s.sl[i]? = some (some d)) :
    ∃ Φ', Stp Φ H ρ F Φ' H ρ ∧ Ok g Φ' H ρ { s with sl := s.sl.set i (some (Den.fz d)) } σ (updI fs (.inl i) []) F := by
  obtain ⟨v, e1, r, k2⟩ := k.take q
  have hi : i < s.sl.length := (List.getElem?_eq_some_iff.mp q).1
  obtain ⟨k3, st, r3⟩ := k2.frz r
  have k4 : Ok g (frzP Φ H (fs (.inl i))) H ρ { s with sl := s.sl.set i none } σ (updI fs (.inl i) []) (fadd [] F) := k3.wide (fun a ha => by cases ha) (fun a ha => by cases ha)
  have k5 := k4.put (i := i) (d := Den.fz d) (v := v) ⟨r3, List.nodup_nil, fun a ha => by cases ha⟩ (by simpa using hi) e1
  simp only [List.set_set] at k5
  have e : updI (updI fs (.inl i) []) (.inl i) [] = updI fs (.inl i) [] := by
    funext x
    by_cases hx : x = .inl i
    · subst hx; rw [updI_same, updI_same]
    · rw [updI_ne hx]
  rw [e] at k5
  exact ⟨_, st, k5⟩
theorem Ok.shrs : ∀ (is : List Nat) {Φ : Hp} {s : S} {fs : Ix → List Addr}, Ok g Φ H ρ s σ fs F → ∃ Φ' fs', Stp Φ H ρ F Φ' H ρ ∧ Ok g Φ' H ρ { s with sl := shrL is s.sl } σ fs' F ∧ (∀ i ∈ is, fs' (.inl i) = []) ∧ ∀ i, fs (.inl i) = [] → fs' (.inl i) = []
  | [], Φ, s, fs, k => ⟨Φ, fs, Stp.refl k.nF, k, (fun i h => by cases h), fun i h => h⟩
  | i :: is, Φ, s, fs, k => by
    by_cases q : ∃ d, s.sl[i]? = some (some d)
    · obtain ⟨d, q⟩ := q
      obtain ⟨Φ1, st, k1⟩ := k.share' q
      obtain ⟨Φ2, fs2, st2, k2, h2, h3⟩ := Ok.shrs is k1
      refine ⟨Φ2, fs2, st.trans st2 fun _ h => h, ?_, fun j hj => ?_, fun j hj => h3 j ?_⟩
      · have e : shrL (i :: is) s.sl = shrL is (s.sl.set i (some (Den.fz d))) := by simp only [shrL, q]; rfl
        rw [e]; exact k2
      · rcases List.mem_cons.mp hj with rfl | hj
        · exact h3 j updI_same
        · exact h2 j hj
      · by_cases e : j = i
        · subst e; exact updI_same
        · rw [updI_ne (fun z => e (Sum.inl.inj z))]; exact hj
    · have e : s.sl.set i (((s.sl[i]?).getD none).map Den.fz) = s.sl := by
        apply List.ext_getElem?
        intro j
        by_cases hj : i = j
        · subst hj
          by_cases hl : i < s.sl.length
          · rw [List.getElem?_set_self hl]
            have e2 : s.sl[i]? = some s.sl[i] := List.getElem?_eq_getElem hl
            rw [e2]
            cases h : s.sl[i] with
            | none => rfl
            | some d => exact absurd ⟨d, by rw [e2, h]⟩ q
          · rw [List.getElem?_eq_none (by simpa using hl), List.getElem?_eq_none (by simpa using hl)]
        · rw [List.getElem?_set_ne hj]
      obtain ⟨Φ2, fs2, st2, k2, h2, h3⟩ := Ok.shrs is k
      refine ⟨Φ2, fs2, st2, ?_, fun j hj => ?_, h3⟩
      · have e' : shrL (i :: is) s.sl = shrL is s.sl := by simp only [shrL, e]
        rw [e']; exact k2
      · rcases List.mem_cons.mp hj with rfl | hj
        · exact h3 j (k.slot0 j fun d z => q ⟨d, z⟩)
        · exact h2 j hj
theorem hidE_get {is : List Nat} : ∀ (sl : List (Option D)) (n j : Nat), (hidE is n sl)[j]? = (sl[j]?).map fun o => if n + j ∈ is then o else none
  | [], n, j => by simp [hidE]
  | o :: sl, n, 0 => by simp [hidE]
  | o :: sl, n, j + 1 => by
    simp only [hidE, List.getElem?_cons_succ]
    rw [hidE_get sl (n + 1) j, show n + 1 + j = n + (j + 1) by omega]
theorem hidE_len {is : List Nat} : ∀ (sl : List (Option D)) (n : Nat), (hidE is n sl).length = sl.length
  | [], n => rfl
  | o :: sl, n => by simp [hidE, hidE_len sl (n + 1)]
/-- the slots hidden; what is theirs goes to the frame -/
def hidF (is : List Nat) (fs : Ix → List Addr) (F : Addr → Prop) : Addr → Prop := fun a => (∃ i, i ∉ is ∧ a ∈ fs (.inl i)) ∨ F a
theorem Ok.hide {is : List Nat} (k : Ok g Φ H ρ s σ fs F) (h0 : ∀ i ∈ is, fs (.inl i) = []) : Ok g Φ H ρ ⟨hidE is 0 s.sl, s.os⟩ σ (fun x => match x with | .inl _ => [] | .inr n => fs (.inr n)) (hidF is fs F) where
  sub := k.sub
  tab := k.tab
  fr := fun a ha => ha.elim (fun ⟨i, _, h⟩ => k.at _ a h) (k.fr a)
  len := by rw [show (⟨hidE is 0 s.sl, s.os⟩ : S).sl.length = s.sl.length from hidE_len _ _]; exact k.len
  slot := fun i d q => by
    have q : (hidE is 0 s.sl)[i]? = some (some d) := q
    rw [hidE_get] at q
    cases e : s.sl[i]? with
    | none => rw [e] at q; cases q
    | some o =>
      rw [e] at q
      simp only [Option.map_some, Nat.zero_add, Option.some.injEq] at q
      split at q
      · rename_i hi
        subst q
        obtain ⟨v, e1, r⟩ := k.slot i d e
        rw [h0 i hi] at r
        exact ⟨v, e1, r⟩
      · cases q
  slot0 := fun i _ => rfl
  obl := k.obl
  obj := k.obj
  obj0 := k.obj0
  nd := fun x => by cases x with | inl _ => exact List.nodup_nil | inr n => exact k.nd _
  sep := fun x y a hx hy => by
    cases x with
    | inl _ => cases hx
    | inr n =>
      cases y with
      | inl _ => cases hy
      | inr m => exact k.sep _ _ a hx hy
  out := fun x a hx => by
    cases x with
    | inl _ => cases hx
    | inr n =>
      rintro (⟨i, _, h⟩ | h)
      · cases k.sep _ _ a hx h
      · exact k.out _ a hx h
end
/-! ### refused -/
def cb (i : Nat) : Nat → Bool := fun j => decide (j = i)
def ClsD (g : Gx) : Addr → (Nat → Bool) → Prop := fun D b => ∃ i, i < 5 ∧ D = g.cl i ∧ b = cb i
def S! (w : List Nat) : Str := ⟨w.toArray⟩
theorem S!_inj {a b : List Nat} (h : S! a = S! b) : a = b := by
  unfold S! at h
  injection h with h
  simpa using congrArg Array.toList h
theorem isR_cb {c : Nat} (hc : c < 5) (w : List Nat) : ExI.isR (cb c) ⟨w.toArray⟩ = decide (clWord c = w) := by
  have e0 : ("number" : Str) = S! (clWord 0) := by decide +kernel
  have e1 : ("rule" : Str) = S! (clWord 1) := by decide +kernel
  have e2 : ("wakes" : Str) = S! (clWord 2) := by decide +kernel
  have e3 : ("plan" : Str) = S! (clWord 3) := by decide +kernel
  have e4 : ("text" : Str) = S! (clWord 4) := by decide +kernel
  have hd : ∀ k, decide ((⟨w.toArray⟩ : Str) = S! (clWord k)) = decide (clWord k = w) := fun k => by
    by_cases h : clWord k = w
    · rw [decide_eq_true h, decide_eq_true (show (⟨w.toArray⟩ : Str) = S! (clWord k) by rw [h]; rfl)]
    · rw [decide_eq_false h, decide_eq_false (fun z => h (S!_inj (show S! (clWord k) = S! w from z.symm)))]
  unfold ExI.isR
  simp only [ExI.isW, List.map_cons, List.map_nil, e0, e1, e2, e3, e4, hd]
  match c, hc with
  | 0, _ => by_cases h : clWord 0 = w
            · subst h; decide
            · rw [decide_eq_false h]; apply decide_eq_false; intro z; simp [cb] at z
  | 1, _ => by_cases h : clWord 1 = w
            · subst h; decide
            · rw [decide_eq_false h]; apply decide_eq_false; intro z; simp [cb] at z
  | 2, _ => by_cases h : clWord 2 = w
            · subst h; decide
            · rw [decide_eq_false h]; apply decide_eq_false; intro z; simp [cb] at z
  | 3, _ => by_cases h : clWord 3 = w
            · subst h; decide
            · rw [decide_eq_false h]; apply decide_eq_false; intro z; simp [cb] at z
  | 4, _ => by_cases h : clWord 4 = w
            · subst h; decide
            · rw [decide_eq_false h]; apply decide_eq_false; intro z; simp [cb] at z
theorem w_wakes {w : List Nat} (h : w ≠ clWord 2) : (⟨w.toArray⟩ : Str) ≠ "wakes" := fun z => h (S!_inj (show S! w = S! (clWord 2) from z.trans (by decide +kernel)))
theorem w_rp {w : List Nat} : ((⟨w.toArray⟩ : Str) = "rule" ∨ (⟨w.toArray⟩ : Str) = "plan") ↔ (w = clWord 1 ∨ w = clWord 3) := by
  have e1 : ("rule" : Str) = S! (clWord 1) := by decide +kernel
  have e3 : ("plan" : Str) = S! (clWord 3) := by decide +kernel
  rw [e1, e3]
  constructor
  · rintro (h | h)
    · exact .inl (S!_inj h)
    · exact .inr (S!_inj h)
  · rintro (rfl | rfl)
    · exact .inl rfl
    · exact .inr rfl
theorem clW_inj {c : Nat} (hc : c < 5) : (clWord c = clWord 1 ∨ clWord c = clWord 3) ↔ (c = 1 ∨ c = 3) := by
  match c, hc with
  | 0, _ => decide
  | 1, _ => decide
  | 2, _ => decide
  | 3, _ => decide
  | 4, _ => decide
section
variable {g : Gx} {E : XK} {X : Cx} {Q : VK}
theorem sub_up {Φ H H' : Hp} (sb : Sub Φ H) (e : ∀ y o, H y = some o → H' y = some o) : Sub Φ H' := fun a u h => by
  obtain ⟨n, z⟩ := sb a u h
  refine ⟨n, ?_⟩
  rcases z with z | ⟨o, kvs, z, y⟩
  · exact .inl (e _ _ z)
  · exact .inr ⟨o, kvs, z, e _ _ y⟩
theorem rep3 {Φ H : Hp} {ρ : List Addr} {a b c : D} {vs : List V} (r : RepL g Φ H ρ [a, b, c] vs []) : ∃ x y z, vs = [x, y, z] ∧ Rep g Φ H ρ a x [] ∧ Rep g Φ H ρ b y [] ∧ Rep g Φ H ρ c z [] := by
  have hl := RepL.len _ _ _ r
  match vs, hl with
  | [x, y, z], _ =>
    obtain ⟨x', e1, r1⟩ := RepL.get _ _ r 0 a rfl
    obtain ⟨y', e2, r2⟩ := RepL.get _ _ r 1 b rfl
    obtain ⟨z', e3, r3⟩ := RepL.get _ _ r 2 c rfl
    cases e1; cases e2; cases e3
    exact ⟨_, _, _, rfl, r1, r2, r3⟩
/-- what _law_refused is asked -/
theorem rfs_to {CA : Addr} {lam : Nat → Option (M D)} {is : List Nat} {as : Cs} {m : M (List D)} {σ : L2.St} {H : Hp} (hq : g.lq = X.env.qual) (hc : g.lc = X.env.cells) (hx : ∀ i, i < 5 → PySem.W.exmOne X.K (.ref (g.cl i)) (.ref CA) = some true)
    (hl : ∀ k l, g.Lp k l → ∃ m, lam k = some m)
    (h : EvR g E (bnd m fun ds => match ds with
      | [.lam k, .str w, v] => (match lam k with
        | some m => rfsM is m w v
        | none => stuck)
      | _ => stuck) σ H Q) : ExY.tRef X g.Lp CA (ClsD g) (fun k E' => EvR g E' ((lam k).getD stuck)) (FzR g E m) σ H Q := by
  obtain ⟨Φ, ρ, s, fs, F, r, k, hm, p⟩ := h
  rcases bnd_some hm with ⟨ds, s1, h1, h2⟩ | ⟨x, h1, rfl⟩
  · refine ⟨Φ, ρ, s, fs, F, _, k, h1, fun Φ1 H1 ρ1 vs fs1 st1 k1 rl => ?_⟩
    split at h2
    · rename_i kk w v
      obtain ⟨v0, v1, v2, rfl, r0, r1, r2⟩ := rep3 rl
      simp only [Rep] at r0 r1
      obtain ⟨a, rfl, ⟨l, c', dV, hlp, q1, q2, q3⟩, _⟩ := r0
      obtain ⟨rfl, _⟩ := r1
      obtain ⟨mb, hmb⟩ := hl kk l hlp
      rw [hmb] at h2
      have h2 : rfsM is mb w v s1 = some r := h2
      unfold rfsM at h2
      split at h2
      · rename_i hg
        obtain ⟨hos, hw⟩ : s1.os = [] ∧ w ≠ clWord 2 := by
          simp only [Bool.and_eq_true, List.isEmpty_iff, decide_eq_true_eq] at hg
          exact hg
        have hρ : ρ1 = [] := by
          have := k1.obl
          rw [hos] at this
          exact List.length_eq_zero_iff.mp this
        have up : ∀ a u, Φ1 a = some u → (∀ o kvs, u ≠ .dK kvs) → H1 a = some u := fun a u h n => by
          rcases (k1.sub a u h).2 with z | ⟨o, kvs, z, _⟩
          · exact z
          · exact absurd z (n o kvs)
        refine ⟨a, ⟨w.toArray⟩, v2, kk, l, rfl, hlp, ⟨c', dV, ?_, ?_, ?_⟩, w_wakes hw, fun E' hE => ?_⟩
        · rw [hq, hc] at q1
          exact up _ _ q1 fun _ _ z => by unfold ExW.LamO at z; cases z
        · rw [hq] at q2
          exact up _ _ q2 fun _ _ z => by unfold LamX.CodeO at z; cases z
        · cases hy : l.y with
          | none => rw [hy] at q3; exact q3
          | some y =>
            rw [hy] at q3
            obtain ⟨t, us, i, e1, e2⟩ := q3
            exact ⟨t, us, i, e1, up _ _ e2 fun _ _ => HO.noConfusion⟩
        · obtain ⟨Φ2, fs2, st2, k2, hn, _⟩ := Ok.shrs is k1
          have k3 := k2.hide hn
          have es : (⟨hidE is 0 (shrL is s1.sl), s1.os⟩ : S) = ⟨hidE is 0 (shrL is s1.sl), []⟩ := by rw [hos]
          have k3 : Ok g Φ2 H1 ρ1 ⟨hidE is 0 (shrL is s1.sl), []⟩ σ (fun x => match x with | .inl _ => [] | .inr n => fs2 (.inr n)) (hidF is fs2 F) := by rw [← es]; exact k3
          have es2 : ({ s1 with sl := shrL is s1.sl } : S) = ⟨shrL is s1.sl, []⟩ := by rw [← hos]
          rw [es2] at k2
          have onr : ∀ n, fs2 (.inr n) = [] := fun n => k2.obj0 n (Nat.zero_le _)
          -- behind the call
          have back : ∀ (b : Bool) (Φ' H' H'' : Hp) (ρ' : List Addr), r = .val (.bl b) ⟨shrL is s1.sl, []⟩ → Stp Φ2 H1 ρ1 (hidF is fs2 F) Φ' H' ρ' → Sub Φ' H' → LamX.Tabs g.T H' → (∀ y o, H' y = some o → H'' y = some o) → Q (.bl b) H'' := fun b Φ' H' H'' ρ' er st sb tb up2 => by
            subst er
            have fr2 : ∀ a, hidF is fs2 F a → H'' a = H1 a ∧ Φ' a = none := fun a ha => by
              obtain ⟨e1, e2⟩ := st.frm a ha
              obtain ⟨u, hu⟩ := (k3.fr a ha).ex
              exact ⟨by rw [hu]; rw [hu] at e1; exact up2 _ _ e1, e2⟩
            have k4 : Ok g Φ' H'' ρ1 ⟨shrL is s1.sl, []⟩ σ fs2 F := k2.over st.ext (sub_up sb up2) (tb.ext up2) fun a ha => by
              rcases ha with ha | ⟨x, ha⟩
              · exact fr2 a (.inr ha)
              · cases x with
                | inl i =>
                  by_cases hi : i ∈ is
                  · rw [hn i hi] at ha; cases ha
                  · exact fr2 a (.inl ⟨i, hi, ha⟩)
                | inr n => rw [onr] at ha; cases ha
            have st3 : Stp Φ2 H1 ρ1 F Φ' H'' ρ1 := ⟨st.ext, List.prefix_refl _, fun a ha => fr2 a (.inr ha)⟩
            exact p Φ' H'' ρ1 (.bl b) [] fs2 ((st1.trans st2 fun _ h => h).trans st3 fun _ h => h) k4.nof ⟨by simp only [Rep]; exact ⟨trivial, trivial⟩, List.nodup_nil, fun a ha => by cases ha⟩
          show EvR g E' ((lam kk).getD stuck) σ H1 fun _ H2 => Q (.bl false) H2
          rw [hmb]
          split at h2
          · rename_i d s' hbd
            cases h2
            exact EvR.val k3 hbd fun Φ' H' ρ' u f fs' st ok vl => back false Φ' H' H' ρ' rfl st ok.sub ok.tab fun _ _ h => h
          · rename_i x hbd
            refine EvR.exc k3 hbd fun Φ' H' ρ' cls dd st sb tb xa => hE cls dd H' ?_
            cases hj : jdg x w v with
            | none => rw [hj] at h2; cases h2
            | some b =>
              rw [hj] at h2
              cases h2
              have hb := back b Φ' H'
              unfold jdg at hj
              split at hj
              · rename_i h5
                obtain ⟨e1, e2, e3⟩ := xa
                have hdd : dd = none ∨ ∃ dx fs, dd = some dx ∧ H' dx = some (.xd fs) := by
                  by_cases hp : x.pay = []
                  · exact .inl (e2 hp)
                  · obtain ⟨a, vs, z1, z2, _⟩ := e3 hp
                    exact .inr ⟨a, _, z1, z2⟩
                refine ⟨by rw [e1]; exact hx _ h5, _, _, e1, ⟨_, h5, rfl, rfl⟩, hdd, fun H'' up2 => ?_⟩
                have hbb := fun r => hb H'' ρ' r st sb tb up2
                rw [isR_cb h5]
                split at hj
                · rename_i hcw
                  rw [if_pos (decide_eq_true hcw)]
                  have hiff : ((⟨w.toArray⟩ : Str) = "rule" ∨ (⟨w.toArray⟩ : Str) = "plan") ↔ (x.cls = 1 ∨ x.cls = 3) := by
                    rw [w_rp, ← hcw]; exact clW_inj h5
                  split at hj
                  · rename_i h13
                    rw [if_pos (hiff.mpr h13)]
                    split at hj
                    · rename_i f z u hpay
                      split at hj
                      · rename_i hf
                        cases hj
                        obtain ⟨a', vs', z1, z2, z3⟩ := e3 (by rw [hpay]; simp)
                        rw [hpay] at z2 z3
                        simp only [List.map_cons, List.map_nil, RepL, Rep] at z3
                        obtain ⟨y, vs4, f1', f2', rfl, _, ⟨rfl, _⟩, rfl, _⟩ := z3
                        have r2' : v2 = .str ⟨u.toArray⟩ := by simp only [Rep] at r2; exact r2.1
                        refine ⟨a', _, ⟨z.toArray⟩, ⟨u.toArray⟩, z1, z2, ?_, r2', ?_⟩
                        · subst hf
                          simp [List.lookup]
                        · have e : decide (V.str (⟨z.toArray⟩ : Str) = V.str ⟨u.toArray⟩) = decide (z = u) := by
                            by_cases hzu : z = u
                            · subst hzu; simp
                            · rw [decide_eq_false hzu]
                              exact decide_eq_false fun q => hzu (S!_inj (show S! z = S! u by injection q))
                          rw [e]
                          exact hbb rfl
                      · cases hj
                    · cases hj
                  · rename_i h13
                    rw [if_neg (fun z => h13 (hiff.mp z))]
                    split at hj
                    · cases hj
                    · cases hj
                      exact hbb rfl
                · rename_i hcw
                  cases hj
                  rw [if_neg (by rw [decide_eq_false hcw]; decide)]
                  exact hbb rfl
              · cases hj
          · cases h2
      · cases h2
    · cases h2
  · exact ⟨Φ, ρ, s, fs, F, _, k, h1, p⟩
end
end Den
/-! DenR: raise. -/
namespace Den
open PySem PySem.Spec PyProof.Rows L2
def clW : Nat → Str
  | 0 => "BadNumber"
  | 1 => "BadRule"
  | 2 => "BadWakes"
  | 3 => "BadPlan"
  | _ => "BadText"
/-- what is known of the exceptions' classes -/
structure ExcF (P : Program) (w : World) (K : PySem.W.Frag) (mg : Str → Option Value) (base : Heap) (cl : Nat → Addr) : Prop where
  own0 : ∀ i, i = 0 ∨ i = 4 → ∃ (B newId initId : String) (bmB : List Value), ExcBaseFacts B newId initId bmB ∧ PySem.W.excIn K (cl i) bmB newId = true ∧ mg (clW i) = some (.ref (cl i)) ∧ PySem.W.keepIn K (.ref (cl i)) = true ∧
    PySem.W.subIn K (.ref (cl i)) (.type "BaseException") = some true ∧ PySem.W.typeIn K (.ref (cl i)) = some (.type "type")
  own1 : ∀ i, 1 ≤ i → i ≤ 3 → mg (clW i) = some (.ref (cl i)) ∧ OexC K (cl i) ∧ ∃ (fI : Addr) (fd : FuncData) (ps : List Str), PySem.W.findIn K (.ref (cl i)) "__init__" = some (some (.ref fI)) ∧ PySem.W.typeIn K (.ref fI) = some (.type "function") ∧
    FnOk P w K mg base (L2N.CX P w) 1 fI fd ps (ExA.spIn K (clFld i)) ∧ L2.Binds K fd ps [] ∧ PySem.W.findIn K (.ref (cl i)) (clFld i) = some none
section
variable {g : Gx} {E : XK} {X : Cx} {pr : List Nat}
theorem passNo {X : Cx} : Passes (L2N.CX X.prog X.w) X (fun _ _ _ => False) := fun _ _ _ _ _ _ _ c => by
  obtain ⟨_, _, _, _, _, _, _, _, _, _, _, _, z⟩ := c
  exact z.elim
/-- raise X('m'), X with no __init__ of its own -/
theorem rse_ok (F : ExcF X.prog X.w X.K X.mg X.base g.cl) (hc : X.calm = true) (tk : L2N.Takes X (fun cls d _ H => E cls d H)) {m : Str} {i j : Nat} {p p2 pos rpos : Pos} (h0 : i = 0 ∨ i = 4) (hg : Gl X (clW i)) :
    PS X (.Raise (some (.Call (.Name (clW i) p) [.Constant (.str m) j p2] [] pos)) none rpos) (ExR g E pr (fun _ => some (.ex ⟨i, []⟩))) := by
  obtain ⟨B, newId, initId, bmB, F1, q, gC, kC, s1, s2⟩ := F.own0 i h0
  refine ps_imp (L2N.ps_raise hc tk (L2N.pmk_own F1 q gC kC (raises_own s1 s2) hg (by rcases h0 with rfl | rfl <;> decide))) fun D σ H h => ?_
  obtain ⟨Φ, ρ, s, fs, Fr, r', k, hm, hp⟩ := h
  cases hm
  exact hp Φ H ρ (.ref (g.cl i)) none (Stp.refl k.nF) k.sub k.tab ⟨rfl, fun _ => rfl, fun z => absurd rfl z⟩
/-- raise X(e), X keeps e -/
theorem rsi_ok (F : ExcF X.prog X.w X.K X.mg X.base g.cl) (hc : X.calm = true) (tk : L2N.Takes X (fun cls d _ H => E cls d H)) (hr : Room 2 X.A) {m : M D} {i : Nat} {e : Expr} {p pos rpos : Pos} (h1 : 1 ≤ i) (h3 : i ≤ 3) (hg : Gl X (clW i)) (he : PE X e (EvR g E m)) (hs : star e = false) :
    PS X (.Raise (some (.Call (.Name (clW i) p) [e] [] pos)) none rpos) (ExR g E pr (fun s => Den.thn (m s) fun d _ => some (.ex ⟨i, [(clFld i, fz d)]⟩))) := by
  have hdb : (clW i == ("__debug__" : Str)) = false := by
    match i, h1, h3 with
    | 1, _, _ => decide
    | 2, _, _ => decide
    | 3, _, _ => decide
  obtain ⟨gC, T, fI, fd, ps, iC, tI, F1, hb, hno⟩ := F.own1 i h1 h3
  have ss : starEach [e] X.env = (false, eval e X.env) :: starEach [] X.env := by cases e <;> first | rfl | simp [star] at hs
  have mk := ExA.pmk_oexN (p := p) (pos := pos) (dvs := []) (ds := []) T iC tI F1 hr hb .nil passNo hg gC (pa_cons he pa_nil ss) hdb ss rfl
  refine ps_imp (L2N.ps_raise hc tk mk) fun D σ H h => ?_
  obtain ⟨Φ, ρ, s, fs, Fr, r', k, hm, hp⟩ := h
  rcases thn_some hm with ⟨d, s1, e1, e2⟩ | ⟨x, e1, rfl⟩
  · cases e2
    refine EvR.val k e1 fun Φ1 H1 ρ1 v f fs1 st1 k1 vl => ?_
    refine ⟨by simp, fun a ha => ?_⟩
    refine ⟨a, g.cl i, v, rfl, T, upd_same, hno, fun dx hdx ne => ?_⟩
    have hdx1 : H1 dx = none := by rw [upd_ne ne] at hdx; exact hdx
    obtain ⟨k2, st2, rp⟩ := k1.frz vl
    have w : Grow g (frzP Φ1 H1 f) H1 (frzP Φ1 H1 f) (upd H1 dx (.xd [(clFld i, v)])) := Grow.own k2.sub hdx1
    have k3 := k2.grow w
    have st4 := (st1.trans st2 fun _ h => h).trans (k2.gstp w) fun _ h => h
    have fin : E (.ref (g.cl i)) (some dx) (upd H1 dx (.xd [(clFld i, v)])) := by
      refine hp _ _ ρ1 (.ref (g.cl i)) (some dx) st4 k3.sub k3.tab ⟨rfl, (fun z => nomatch z), fun _ => ⟨dx, [v], rfl, upd_same, ?_⟩⟩
      simp only [List.map_cons, List.map_nil, RepL]
      exact ⟨v, [], [], [], rfl, rfl, rp.any, rfl, rfl⟩
    have eH : upd (del (upd (upd (upd H1 a (exo a (g.cl i) none)) dx (exd dx [(clFld i, v)])) a (exo a (g.cl i) (some dx))) a) dx (.xd [(clFld i, v)]) = upd H1 dx (.xd [(clFld i, v)]) := by
      generalize exo a (g.cl i) none = o1
      generalize exo a (g.cl i) (some dx) = o2
      generalize exd dx [(clFld i, v)] = o3
      funext b
      by_cases hb : b = dx
      · subst hb; rw [upd_same, upd_same]
      · rw [upd_ne hb, upd_ne hb]
        by_cases hba : b = a
        · subst hba; rw [del_same, ha]
        · rw [del_ne hba, upd_ne hba, upd_ne hb, upd_ne hba]
    refine ⟨rfl, dx, [(clFld i, v)], upd_same, ?_, hdx1, ?_⟩
    · rw [upd_ne ne]; exact upd_same
    · rw [eH]; exact fin
  · exact EvR.exc k e1 hp
end
end Den
/-! Den13: loops. -/
namespace Den
open PySem PySem.Spec L2
section
variable {g : Gx} {E : XK} {X : Cx} {pr : List Nat} {Φ Φ1 Φ' H H1 H' : Hp} {ρ ρ1 ρ' : List Addr} {F F1 : Addr → Prop} {σ : L2.St} {s : S} {fs : Ix → List Addr} {Q : VK} {D0 : Ends}
/-- the end of a statement, from a later state -/
def RsP (g : Gx) (E : XK) (pr : List Nat) (D : Ends) (Φ H : Hp) (ρ : List Addr) (F : Addr → Prop) (σ : L2.St) (r : Rs) : Prop := match r with
  | .nx s' => ∀ Φ' H' ρ' σ' fs', Stp Φ H ρ F Φ' H' ρ' → PrOk pr σ σ' → Ok g Φ' H' ρ' s' σ' fs' F → D.nx σ' H'
  | .rt d s' => ∀ Φ' H' ρ' v f σ' fs', Stp Φ H ρ F Φ' H' ρ' → PrOk pr σ σ' → Ok g Φ' H' ρ' s' σ' fs' (fadd f F) → Vl g Φ' H' ρ' d v f F → D.rt v H'
  | .ex x => PX g E Φ H ρ F x
theorem RsP.shift {σ1 : L2.St} {r : Rs} (h : RsP g E pr D0 Φ H ρ F σ r) (st : Stp Φ H ρ F Φ1 H1 ρ1) (pk : PrOk pr σ σ1) : RsP g E pr D0 Φ1 H1 ρ1 F σ1 r := by
  cases r with
  | nx s' => exact fun Φ' H' ρ' σ' fs' st' pk' ok => h Φ' H' ρ' σ' fs' (st.trans st' fun _ h => h) (pk.trans pk') ok
  | rt d s' => exact fun Φ' H' ρ' v f σ' fs' st' pk' ok vl => h Φ' H' ρ' v f σ' fs' (st.trans st' fun _ h => h) (pk.trans pk') ok vl
  | ex x => exact PX.shift h st fun _ h => h
theorem for_to {tg : Tg} {mi : M (List D)} {b : S → Option Rs} (hp : ∀ j ∈ pr, j ∉ tgSl tg) (h : ExR g E pr (fun s => Den.thn (mi s) fun xs s1 => forGo (fun x s2 => Den.thn (asg tg x s2) fun _ s3 => b s3) xs s1) D0 σ H) :
    tFor (ItR g E tg mi) (AsgR g tg) (ExR g E pr b) D0 σ H := by
  obtain ⟨Φ, ρ, s, fs, F, r, k, hm, p⟩ := h
  have p : RsP g E pr D0 Φ H ρ F σ r := p
  rcases thn_some hm with ⟨xs, s1, h1, h2⟩ | ⟨x, h1, rfl⟩
  · refine ⟨Φ, ρ, s, fs, F, _, k, h1, fun Φ1 H1 ρ1 fs1 J st1 k1 W => ?_⟩
    have p1 := p.shift st1 .refl
    refine ⟨fun i m σ2 H2 => m = xs.length - i ∧ i ≤ xs.length ∧ ∃ Φ2 ρ2 s2 fs2, Stp Φ1 H1 ρ1 F Φ2 H2 ρ2 ∧ PrOk pr σ σ2 ∧ Ok g Φ2 H2 ρ2 s2 σ2 fs2 F ∧ forGo (fun x s2 => Den.thn (asg tg x s2) fun _ s3 => b s3) (xs.drop i) s2 = some r,
      ⟨xs.length, by simp, Nat.zero_le _, Φ1, ρ1, s1, fs1, Stp.refl k1.nF, .refl, k1, h2⟩, ?_⟩
    rintro i m σ2 H2 ⟨rfl, hi, Φ2, ρ2, s2, fs2, st2, pk2, k2, hg⟩
    by_cases hlt : i < xs.length
    · obtain ⟨hgo1, _⟩ := W Φ2 H2 ρ2 st2.ext st2.pre k2.sub i
      have hx : xs[i]? = some xs[i] := List.getElem?_eq_getElem hlt
      obtain ⟨go, yl⟩ := hgo1 _ hx
      rw [List.drop_eq_getElem_cons hlt] at hg
      simp only [forGo] at hg
      refine .inr ⟨go, fun σ3 H3 => ∃ Φ2 ρ2 s2 fs2, Stp Φ1 H1 ρ1 F Φ2 H3 ρ2 ∧ PrOk pr σ σ3 ∧ Ok g Φ2 H3 ρ2 s2 σ3 fs2 F ∧ forGo (fun x s2 => Den.thn (asg tg x s2) fun _ s3 => b s3) (xs.drop (i + 1)) s2 = some r,
        fun σ' H' h => ⟨xs.length - (i + 1), by omega, rfl, hlt, h⟩, fun x H3 hy => ?_⟩
      obtain ⟨Φ3, w3, rep3⟩ := yl x H3 hy
      have k3 := k2.grow w3
      have st3 := st2.trans (k2.gstp w3) fun _ h => h
      have start : ∀ {s5}, asg tg xs[i] s2 = some (.val () s5) → ∀ {Q : L2.St → Hp → Prop}, (∀ σ' fs', PrOk pr σ2 σ' → Ok g Φ3 H3 ρ2 s5 σ' fs' F → Q σ' H3) → AsgR g tg x σ2 H3 Q := fun {s5} h3 {Q} hQ => by
        refine ⟨Φ3, ρ2, _, s5, fs2, F, [], _, k3.nof, ?_, h3, fun σ' fs' hl hs ok => hQ σ' fs' ⟨hl, fun j hj => (hs j (hp j hj)).1⟩ ok⟩
        rcases rep3 with r | ⟨ht, es, a, vs, e1, e2, t, r⟩
        · exact .inl ⟨r, List.nodup_nil, fun a ha => by cases ha⟩
        · exact .inr ⟨ht, es, a, vs, e1, e2, t, r, List.nodup_nil, fun a ha => by cases ha⟩
      rcases sthn_some hg with ⟨s4, h3, h4⟩ | ⟨h3, hn⟩
      · rcases thn_some h3 with ⟨⟨⟩, s5, h5, h6⟩ | ⟨x, h5, _⟩
        · refine start h5 fun σ' fs' pk ok => ⟨Φ3, ρ2, s5, fs', F, _, ok, h6, fun Φ4 H4 ρ4 σ4 fs4 st4 pk4 k4 => ?_⟩
          exact ⟨Φ4, ρ4, s4, fs4, st3.trans st4 fun _ h => h, (pk2.trans pk).trans pk4, k4, h4⟩
        · exact absurd h5 (asg_noexc.1 _ _ _ _)
      · rcases thn_some h3 with ⟨⟨⟩, s5, h5, h6⟩ | ⟨x, h5, _⟩
        · refine start h5 fun σ' fs' pk ok => ⟨Φ3, ρ2, s5, fs', F, _, ok, h6, ?_⟩
          have p2 := p1.shift (st3) (pk2.trans pk)
          cases r with
          | nx s' => exact absurd rfl (hn s')
          | rt d s' => exact p2
          | ex x => exact p2
        · exact absurd h5 (asg_noexc.1 _ _ _ _)
    · have e : i = xs.length := by omega
      subst e
      rw [List.drop_length] at hg
      simp only [forGo] at hg
      cases hg
      obtain ⟨_, hst⟩ := W Φ2 H2 ρ2 st2.ext st2.pre k2.sub xs.length
      exact .inl ⟨hst (Nat.le_refl _), p1 _ _ _ _ _ st2 pk2 k2⟩
  · exact ⟨Φ, ρ, s, fs, F, _, k, h1, p⟩
theorem while_to {n : Nat} {m : M D} {b : S → Option Rs} (h : ExR g E pr (whilGo m b n) D0 σ H) : tWhile (TtR g E m) (ExR g E pr b) D0 σ H := by
  obtain ⟨Φ, ρ, s, fs, F, r, k, hm, p⟩ := h
  have p : RsP g E pr D0 Φ H ρ F σ r := p
  refine ⟨fun n σ2 H2 => ∃ Φ2 ρ2 s2 fs2, Stp Φ H ρ F Φ2 H2 ρ2 ∧ PrOk pr σ σ2 ∧ Ok g Φ2 H2 ρ2 s2 σ2 fs2 F ∧ whilGo m b n s2 = some r, ⟨n, Φ, ρ, s, fs, Stp.refl k.nF, .refl, k, hm⟩, ?_⟩
  rintro n σ2 H2 ⟨Φ2, ρ2, s2, fs2, st2, pk2, k2, hg⟩
  cases n with
  | zero => cases hg
  | succ n =>
    simp only [whilGo] at hg
    rcases thn_some hg with ⟨d, s3, h1, h2⟩ | ⟨x, h1, rfl⟩
    · split at h2
      · refine TtR.val k2 h1 fun Φ3 H3 ρ3 fs3 st3 k3 => ?_
        rw [if_pos rfl]
        refine ⟨fun σ' H' => ∃ Φ2 ρ2 s2 fs2, Stp Φ H ρ F Φ2 H' ρ2 ∧ PrOk pr σ σ' ∧ Ok g Φ2 H' ρ2 s2 σ' fs2 F ∧ whilGo m b n s2 = some r, fun σ' H' h => ⟨n, Nat.lt_succ_self n, h⟩, ?_⟩
        have st13 := st2.trans st3 fun _ h => h
        rcases sthn_some h2 with ⟨s4, h3, h4⟩ | ⟨h3, hn⟩
        · exact ⟨Φ3, ρ3, s3, fs3, F, _, k3, h3, fun Φ4 H4 ρ4 σ4 fs4 st4 pk4 k4 => ⟨Φ4, ρ4, s4, fs4, st13.trans st4 fun _ h => h, pk2.trans pk4, k4, h4⟩⟩
        · refine ⟨Φ3, ρ3, s3, fs3, F, r, k3, h3, ?_⟩
          have p2 := p.shift st13 pk2
          cases r with
          | nx s' => exact absurd rfl (hn s')
          | rt d s' => exact p2
          | ex x => exact p2
      · cases h2
        refine TtR.val k2 h1 fun Φ3 H3 ρ3 fs3 st3 k3 => ?_
        rw [if_neg Bool.false_ne_true]
        exact p _ _ _ _ _ (st2.trans st3 fun _ h => h) pk2 k3
      · cases h2
    · exact TtR.exc k2 h1 (PX.shift p st2 fun _ h => h)
end
end Den
/-! DenD: dicts in their slots, a list within a list changed, zip. -/
namespace Den
open PySem PySem.Spec L2
section
variable {κ : Type} [DecidableEq κ]
theorem valV_zip (k : κ) : ∀ (ks : List κ) (vs : List V), valV (ks.zip vs) k = valL ks vs k
  | [], _ => rfl
  | _ :: _, [] => rfl
  | k' :: ks, v :: vs => by
    rw [List.zip_cons_cons]
    unfold valL
    by_cases e : k' = k
    · rw [if_pos e, valV_pos (p := (k', v)) e]
    · rw [if_neg e, valV_neg (p := (k', v)) e, valV_zip k ks vs]
theorem any_zip (k : κ) : ∀ (ks : List κ) (vs : List V), ks.length = vs.length → ((ks.zip vs).any fun kv => decide (kv.1 = k)) = decide (k ∈ ks)
  | [], [], _ => by simp
  | [], _ :: _, h => by cases h
  | _ :: _, [], h => by cases h
  | k' :: ks, v :: vs, h => by
    have ih := any_zip k ks vs (by simpa using h)
    rw [List.zip_cons_cons, List.any_cons, ih]
    by_cases e : k' = k
    · subst e; simp
    · have e' : ¬ k = k' := fun z => e z.symm
      simp [e, e']
theorem setL_len {α : Type} (k : κ) (x : α) : ∀ (ks : List κ) (ds : List α), (setL ks ds k x).length = ds.length
  | [], _ => by simp [setL]
  | _ :: _, [] => by simp [setL]
  | _ :: ks, _ :: ds => by simp only [setL, List.length_cons, setL_len k x ks ds]
theorem map_zip (k : κ) (x : V) : ∀ (ks : List κ) (vs : List V), ks.length = vs.length → ((ks.zip vs).map fun kv => if kv.1 = k then (kv.1, x) else kv) = ks.zip (setL ks vs k x)
  | [], [], _ => rfl
  | [], _ :: _, h => by cases h
  | _ :: _, [], h => by cases h
  | k' :: ks, v :: vs, h => by
    have ih := map_zip k x ks vs (by simpa using h)
    simp only [List.zip_cons_cons, List.map_cons, setL, ih]
    by_cases e : k' = k
    · rw [if_pos e, if_pos e]
    · rw [if_neg e, if_neg e]
theorem putK_zip (k : κ) (x : V) {ks : List κ} {vs : List V} (h : ks.length = vs.length) : putK (ks.zip vs) k x = (putL ks vs k x).1.zip (putL ks vs k x).2 := by
  unfold putK putL
  rw [any_zip k ks vs h]
  by_cases e : k ∈ ks
  · rw [if_pos (decide_eq_true e), if_pos e, map_zip k x ks vs h]
  · rw [if_neg (by simpa using e), if_neg e]
    dsimp only
    rw [List.zip_append h]
    rfl
end
theorem kks_inj : ∀ {a b : List Int}, kks a = kks b → a = b
  | [], [], _ => rfl
  | [], _ :: _, h => by cases h
  | _ :: _, [], h => by cases h
  | x :: a, y :: b, h => by
    have h' : (Sum.inl x : Key) :: kks a = Sum.inl y :: kks b := h
    injection h' with h1 h2
    injection h1 with h1
    rw [h1, kks_inj h2]
section
variable {α : Type}
theorem valL_kks (k : List Int) : ∀ (ks : List (List Int)) (ds : List α), valL (ks.map kks) ds (kks k) = valL ks ds k
  | [], _ => rfl
  | _ :: _, [] => rfl
  | k' :: ks, d :: ds => by
    simp only [List.map_cons, valL]
    by_cases e : k' = k
    · rw [if_pos e, if_pos (by rw [e])]
    · rw [if_neg e, if_neg (fun z => e (kks_inj z)), valL_kks k ks ds]
theorem setL_kks (k : List Int) (x : α) : ∀ (ks : List (List Int)) (ds : List α), setL (ks.map kks) ds (kks k) x = setL ks ds k x
  | [], _ => by simp [setL]
  | _ :: _, [] => by simp [setL]
  | k' :: ks, d :: ds => by
    simp only [List.map_cons, setL, setL_kks k x ks ds]
    by_cases e : k' = k
    · rw [if_pos e, if_pos (by rw [e])]
    · rw [if_neg e, if_neg (fun z => e (kks_inj z))]
theorem putL_kks (k : List Int) (x : α) (ks : List (List Int)) (ds : List α) : putL (ks.map kks) ds (kks k) x = ((putL ks ds k x).1.map kks, (putL ks ds k x).2) := by
  unfold putL
  by_cases e : k ∈ ks
  · rw [if_pos e, if_pos (List.mem_map.mpr ⟨k, e, rfl⟩), setL_kks]
  · rw [if_neg e, if_neg (fun z => by
      obtain ⟨a, h1, h2⟩ := List.mem_map.mp z
      exact e (kks_inj h2 ▸ h1))]
    simp
end
section
variable {g : Gx} {E : XK} {X : Cx} {pr : List Nat} {Φ Φ1 Φ' H H1 H' : Hp} {ρ ρ1 ρ' : List Addr} {F F1 : Addr → Prop} {σ : L2.St} {s : S} {fs : Ix → List Addr} {Q : VK} {D0 : Ends}
section
variable {κ : Type} [DecidableEq κ]
theorem RepL.val (k : κ) : ∀ (ks : List κ) (ds : List D) (vs : List V), RepL g Φ H ρ ds vs [] → match valL ks ds k with
    | some d => ∃ v, valL ks vs k = some v ∧ Rep g Φ H ρ d v []
    | none => valL ks vs k = none
  | [], ds, vs, r => by
    have e1 : valL ([] : List κ) ds k = none := by cases ds <;> rfl
    have e2 : valL ([] : List κ) vs k = none := by cases vs <;> rfl
    rw [e1]; exact e2
  | _ :: _, [], vs, r => by
    simp only [RepL] at r
    rw [r.1]
    rfl
  | k' :: ks, d :: ds, vs, r => by
    simp only [RepL] at r
    obtain ⟨v, vs', f1, f2, rfl, e, r1, r2⟩ := r
    obtain ⟨rfl, rfl⟩ := List.append_eq_nil_iff.mp e.symm
    unfold valL
    by_cases q : k' = k
    · rw [if_pos q, if_pos q]; exact ⟨v, rfl, r1⟩
    · rw [if_neg q, if_neg q]; exact RepL.val k ks ds vs' r2
theorem RepL.setLv (k : κ) {x : D} {w : V} (rx : Rep g Φ H ρ x w []) : ∀ (ks : List κ) (ds : List D) (vs : List V), RepL g Φ H ρ ds vs [] → RepL g Φ H ρ (setL ks ds k x) (setL ks vs k w) []
  | [], ds, vs, r => by simpa [setL] using r
  | _ :: _, [], vs, r => by
    have r' := r
    simp only [RepL] at r'
    rw [r'.1]
    simpa [setL, RepL] using r
  | k' :: ks, d :: ds, vs, r => by
    simp only [RepL] at r
    obtain ⟨v, vs', f1, f2, rfl, e, r1, r2⟩ := r
    obtain ⟨rfl, rfl⟩ := List.append_eq_nil_iff.mp e.symm
    simp only [setL, RepL]
    refine ⟨_, _, [], [], rfl, rfl, ?_, RepL.setLv k rx ks ds vs' r2⟩
    by_cases q : k' = k
    · rw [if_pos q, if_pos q]; exact rx
    · rw [if_neg q, if_neg q]; exact r1
theorem RepL.putLv (k : κ) {x : D} {w : V} (rx : Rep g Φ H ρ x w []) {ks : List κ} {ds : List D} {vs : List V} (r : RepL g Φ H ρ ds vs []) (hl : ks.length = ds.length) :
    (putL ks vs k w).1 = (putL ks ds k x).1 ∧ RepL g Φ H ρ (putL ks ds k x).2 (putL ks vs k w).2 [] ∧ (putL ks ds k x).1.length = (putL ks ds k x).2.length := by
  unfold putL
  by_cases e : k ∈ ks
  · rw [if_pos e, if_pos e]
    exact ⟨rfl, RepL.setLv k rx ks ds vs r, by dsimp only; rw [setL_len, hl]⟩
  · rw [if_neg e, if_neg e]
    refine ⟨rfl, ?_, by simp [hl]⟩
    have := RepL.app ds [x] vs [w] [] [] r (by simp only [RepL]; exact ⟨w, [], [], [], rfl, rfl, rx, rfl, rfl⟩)
    simpa using this
end
/-- what the dict holds at a key -/
theorem dget_of {a : Addr} {ks : KS} {ds : List D} {vs : List V} {kd : D} {y : V} {r : Option D} (sb : Sub Φ H) (ha : H a = some (ks.ho vs)) (hr : RepL g Φ H ρ ds vs []) (ry : Rep g Φ H ρ kd y []) (e : dcGet ks ds kd = some r) :
    ∃ o, DGet H a y o ∧ (∀ d, r = some d → ∃ v, o = some v ∧ Rep g Φ H ρ d v []) ∧ (r = none → o = none) := by
  cases ks with
  | t ks =>
    cases kd <;> simp only [dcGet, keyT, Option.map_some, Option.map_none] at e <;> cases e
    rename_i k
    simp only [Rep] at ry
    obtain ⟨b, rfl, eb, _⟩ := ry
    have eb' : H b = some (.tup ((kks k).map kV)) := by
      rcases (sb _ _ eb).2 with z | ⟨_, _, z, _⟩
      · exact z
      · cases z
    have ha' : H a = some (.dT ((ks.map kks).zip vs)) := ha
    refine ⟨valV ((ks.map kks).zip vs) (kks k), DGet.t ha' eb', fun d hd => ?_, fun hn => ?_⟩
    · have := RepL.val k ks ds vs hr
      rw [hd] at this
      rw [valV_zip, valL_kks]
      exact this
    · have := RepL.val k ks ds vs hr
      rw [hn] at this
      rw [valV_zip, valL_kks]
      exact this
  | k ks =>
    have fin : ∀ k : Key, y = kV k → valL ks ds k = r → ∃ o, DGet H a y o ∧ (∀ d, r = some d → ∃ v, o = some v ∧ Rep g Φ H ρ d v []) ∧ (r = none → o = none) := fun k ey er => by
      subst ey
      have ha' : H a = some (.dK (ks.zip vs)) := ha
      refine ⟨valV (ks.zip vs) k, DGet.k ha', fun d hd => ?_, fun hn => ?_⟩
      · have := RepL.val k ks ds vs hr
        rw [er, hd] at this
        rw [valV_zip]
        exact this
      · have := RepL.val k ks ds vs hr
        rw [er, hn] at this
        rw [valV_zip]
        exact this
    cases kd <;> simp only [dcGet, keyK, Option.map_some, Option.map_none] at e <;> cases e
    · simp only [Rep] at ry
      exact fin (Sum.inl _) ry.1 rfl
    · simp only [Rep] at ry
      exact fin (Sum.inr _) ry.1 rfl
theorem dput_of {a : Addr} {ks ks' : KS} {ds ds' : List D} {vs : List V} {kd d : D} {y w : V} (sb : Sub Φ H) (ha : H a = some (ks.ho vs)) (hl : ks.len = ds.length) (hz : ds.length < lim) (hr : RepL g Φ H ρ ds vs []) (ry : Rep g Φ H ρ kd y []) (rw' : Rep g Φ H ρ d w []) (e : dcPut ks ds kd d = some (ks', ds')) :
    ∃ vs', DPut H a y w (upd H a (ks'.ho vs')) ∧ ks'.len = ds'.length ∧ RepL g Φ H ρ ds' vs' [] := by
  have hv := RepL.len _ _ _ hr
  cases ks with
  | t ks =>
    cases kd <;> simp only [dcPut, keyT, Option.map_some, Option.map_none] at e <;> cases e
    rename_i k
    simp only [Rep] at ry
    obtain ⟨b, rfl, eb, _⟩ := ry
    have eb' : H b = some (.tup ((kks k).map kV)) := by
      rcases (sb _ _ eb).2 with z | ⟨_, _, z, _⟩
      · exact z
      · cases z
    have hl' : ks.length = ds.length := hl
    obtain ⟨p1, p2, p3⟩ := RepL.putLv k rw' hr hl'
    have ha' : H a = some (.dT ((ks.map kks).zip vs)) := ha
    refine ⟨(putL ks vs k w).2, ?_, p3, p2⟩
    have h := DPut.t (v := w) ha' eb' (by rw [List.length_zip, List.length_map, hl', hv, Nat.min_self]; exact Nat.lt_of_lt_of_le hz lim_le)
    rw [putK_zip (kks k) w (by rw [List.length_map, hl', hv]), putL_kks, p1] at h
    exact h
  | k ks =>
    have hl' : ks.length = ds.length := hl
    have ha' : H a = some (.dK (ks.zip vs)) := ha
    have fin : ∀ k : Key, y = kV k → ks' = .k (putL ks ds k d).1 → ds' = (putL ks ds k d).2 → ∃ vs', DPut H a y w (upd H a (ks'.ho vs')) ∧ ks'.len = ds'.length ∧ RepL g Φ H ρ ds' vs' [] := fun k ey e1 e2 => by
      subst ey e1 e2
      obtain ⟨p1, p2, p3⟩ := RepL.putLv k rw' hr hl'
      refine ⟨(putL ks vs k w).2, ?_, p3, p2⟩
      have h := DPut.k (k := k) (v := w) ha' (by rw [List.length_zip, hl', hv, Nat.min_self]; exact Nat.lt_of_lt_of_le hz lim_le)
      rw [putK_zip k w (by rw [hl', hv]), p1] at h
      exact h
    cases kd <;> simp only [dcPut, keyK, Option.map_some, Option.map_none] at e <;> cases e
    · simp only [Rep] at ry
      exact fin (Sum.inl _) ry.1 rfl rfl
    · simp only [Rep] at ry
      exact fin (Sum.inr _) ry.1 rfl rfl
theorem isDc_some {i : Nat} (h : isDc i s = true) : ∃ ks ds, s.sl[i]? = some (some (.dc .own ks ds)) := by
  unfold isDc at h
  split at h
  · exact ⟨_, _, by assumption⟩
  · cases h
theorem ks_isD {a : Addr} {ks : KS} {vs : List V} (h : H a = some (ks.ho vs)) : IsD H a := by
  cases ks with
  | t ks => exact .inr ⟨_, .inl h⟩
  | k ks => exact .inl ⟨_, .inl h⟩
theorem Ok.dc {i : Nat} {ks : KS} {ds : List D} (k : Ok g Φ H ρ s σ fs F) (q : s.sl[i]? = some (some (.dc .own ks ds))) : ∃ a vs, σ[i]? = some (some (.ref a)) ∧ H a = some (ks.ho vs) ∧ ks.len = ds.length ∧ RepL g Φ H ρ ds vs [] := by
  obtain ⟨v, e1, r⟩ := k.slot i _ q
  simp only [Rep] at r
  obtain ⟨a, vs, rfl, ha, _, _, hl, rl⟩ := r
  exact ⟨a, vs, e1, ha, hl, rl⟩
/-- a key in hand has nothing of its own -/
theorem key_free {d : D} {v : V} {f : List Addr} {ks : KS} {ds : List D} {r : Option D} (h : Rep g Φ H ρ d v f) (e : dcGet ks ds d = some r) : Rep g Φ H ρ d v [] ∧ f = [] := by
  cases ks <;> cases d <;> simp only [dcGet, keyT, keyK, Option.map_some, Option.map_none] at e <;> cases e
  · simp only [Rep] at h ⊢; exact ⟨⟨h.1, trivial⟩, h.2⟩
  · simp only [Rep] at h ⊢; exact ⟨⟨h.1, trivial⟩, h.2⟩
  · simp only [Rep] at h ⊢; obtain ⟨a, h1, h2, h3⟩ := h; exact ⟨⟨a, h1, h2, trivial⟩, h3⟩
theorem key_freeP {d x : D} {v : V} {f : List Addr} {ks : KS} {ds : List D} {r : KS × List D} (h : Rep g Φ H ρ d v f) (e : dcPut ks ds d x = some r) : Rep g Φ H ρ d v [] ∧ f = [] := by
  cases ks <;> cases d <;> simp only [dcPut, keyT, keyK, Option.map_some, Option.map_none] at e <;> cases e
  · simp only [Rep] at h ⊢; exact ⟨⟨h.1, trivial⟩, h.2⟩
  · simp only [Rep] at h ⊢; exact ⟨⟨h.1, trivial⟩, h.2⟩
  · simp only [Rep] at h ⊢; obtain ⟨a, h1, h2, h3⟩ := h; exact ⟨⟨a, h1, h2, trivial⟩, h3⟩
/-- d.get(k, e) -/
theorem dget_to {i : Nat} {mk me : M D} {σ : L2.St} {H : Hp} {Q : VK} (h : EvR g E (bnd (grd (isDc i)) fun _ => bnd mk fun kd => bnd me fun d => dgetM i kd d) σ H Q) : tDGet2 (tVar i) (EvR g E mk) (EvR g E me) σ H Q := by
  obtain ⟨Φ, ρ, s, fs, F, r, k, hm, p⟩ := h
  rcases bnd_some hm with ⟨⟨⟩, s1, h1, h2⟩ | ⟨x, h1, e⟩
  · unfold grd at h1
    split at h1
    · rename_i hd
      cases h1
      obtain ⟨ks, ds, q⟩ := isDc_some hd
      obtain ⟨a, vs, e1, ha, hl, rl⟩ := k.dc q
      refine ⟨.ref a, e1, a, rfl, ks_isD ha, ?_⟩
      rcases bnd_some h2 with ⟨kd, s2, h3, h4⟩ | ⟨x, h3, rfl⟩
      · refine EvR.val k h3 fun Φ1 H1 ρ1 y f1 fs1 st1 k1 vl1 => ?_
        rcases bnd_some h4 with ⟨d, s3, h5, h6⟩ | ⟨x, h5, rfl⟩
        · refine EvR.val k1.drop h5 fun Φ2 H2 ρ2 z f2 fs2 st2 k2 vl2 => ?_
          unfold dgetM at h6
          split at h6
          · rename_i ks' ds' q2
            obtain ⟨a', vs', e2, ha', hl', rl'⟩ := k2.dc q2
            rw [e1] at e2
            cases e2
            have st12 := st1.trans st2 fun _ h => h
            split at h6
            · rename_i d' hg
              cases h6
              obtain ⟨rk, _⟩ := key_free vl1.rep hg
              obtain ⟨o, g1, g2, _⟩ := dget_of k2.sub ha' rl' ((rk.sh st2).any) hg
              obtain ⟨v, rfl, rv⟩ := g2 _ rfl
              exact ⟨some v, g1, p Φ2 H2 ρ2 v [] fs2 st12 k2.drop.nof ⟨rv, List.nodup_nil, fun b hb => by cases hb⟩⟩
            · rename_i hg
              cases h6
              obtain ⟨rk, _⟩ := key_free vl1.rep hg
              obtain ⟨o, g1, _, g3⟩ := dget_of k2.sub ha' rl' ((rk.sh st2).any) hg
              obtain rfl := g3 rfl
              exact ⟨none, g1, p Φ2 H2 ρ2 z f2 fs2 st12 k2 vl2⟩
            · cases h6
          · cases h6
        · exact EvR.exc k1.drop h5 (PX.shift p st1 fun _ h => h)
      · exact EvR.exc k h3 p
    · cases h1
  · unfold grd at h1
    split at h1 <;> cases h1
/-- d[k] -/
theorem didx_to {i : Nat} {mk : M D} {σ : L2.St} {H : Hp} {Q : VK} (h : EvR g E (bnd (grd (isDc i)) fun _ => bnd mk fun kd => didxM i kd) σ H Q) : tDGet (tVar i) (EvR g E mk) σ H Q := by
  obtain ⟨Φ, ρ, s, fs, F, r, k, hm, p⟩ := h
  rcases bnd_some hm with ⟨⟨⟩, s1, h1, h2⟩ | ⟨x, h1, e⟩
  · unfold grd at h1
    split at h1
    · rename_i hd
      cases h1
      obtain ⟨ks, ds, q⟩ := isDc_some hd
      obtain ⟨a, vs, e1, ha, hl, rl⟩ := k.dc q
      refine ⟨.ref a, e1, ?_⟩
      rcases bnd_some h2 with ⟨kd, s2, h3, h4⟩ | ⟨x, h3, rfl⟩
      · refine EvR.val k h3 fun Φ1 H1 ρ1 y f1 fs1 st1 k1 vl1 => ?_
        unfold didxM at h4
        split at h4
        · rename_i ks' ds' q2
          obtain ⟨a', vs', e2, ha', hl', rl'⟩ := k1.drop.dc q2
          rw [e1] at e2
          cases e2
          split at h4
          · rename_i d' hg
            cases h4
            obtain ⟨rk, _⟩ := key_free vl1.rep hg
            obtain ⟨o, g1, g2, _⟩ := dget_of k1.sub ha' rl' rk hg
            obtain ⟨v, rfl, rv⟩ := g2 _ rfl
            exact ⟨a, v, rfl, g1, p Φ1 H1 ρ1 v [] fs1 st1 k1.drop.nof ⟨rv, List.nodup_nil, fun b hb => by cases hb⟩⟩
          · cases h4
        · cases h4
      · exact EvR.exc k h3 p
    · cases h1
  · unfold grd at h1
    split at h1 <;> cases h1
theorem pln_ho {ks : KS} {vs : List V} : PlnO (ks.ho vs) := by
  cases ks <;> exact ⟨fun _ => HO.noConfusion, fun _ => HO.noConfusion⟩
/-- the dict in slot i: written -/
theorem Ok.chgD {i : Nat} {ks : KS} {ds : List D} (k : Ok g Φ H ρ s σ fs F) (q : s.sl[i]? = some (some (.dc .own ks ds))) :
    ∃ a vs, σ[i]? = some (some (.ref a)) ∧ H a = some (ks.ho vs) ∧ ks.len = ds.length ∧ RepL g Φ H ρ ds vs [] ∧
      ∀ (ks' : KS) (ds' : List D) (vs' : List V), ks'.len = ds'.length → RepL g Φ H ρ ds' vs' [] →
        ∃ fs', Stp Φ H ρ F Φ (upd H a (ks'.ho vs')) ρ ∧ Ok g Φ (upd H a (ks'.ho vs')) ρ (setS s i (some (.dc .own ks' ds'))) σ fs' F := by
  obtain ⟨v, e1, r, k2⟩ := k.take q
  have hi : i < s.sl.length := (List.getElem?_eq_some_iff.mp q).1
  obtain ⟨rr, nd, out⟩ := r
  simp only [Rep] at rr
  obtain ⟨a, vs, rfl, ha, na, ef, hl, rl⟩ := rr
  rw [ef] at nd out k2
  refine ⟨a, vs, e1, ha, hl, rl, fun ks' ds' vs' hl' rl' => ?_⟩
  have k3 := k2.wr (o := ks'.ho vs') List.mem_cons_self ha pln_ho pln_ho
  have vl : Vl g Φ (upd H a (ks'.ho vs')) ρ (.dc .own ks' ds') (.ref a) [a] F := by
    refine ⟨?_, by simp, out⟩
    simp only [Rep]
    exact ⟨a, vs', rfl, upd_same, na, rfl, hl', rl'.any⟩
  have k5 := k3.put (i := i) vl (by simpa using hi) e1
  simp only [List.set_set] at k5
  exact ⟨_, wr_stp k.nF (out a List.mem_cons_self), k5⟩
/-- d[k] = e -/
theorem dset_to {i : Nat} {m mk : M D} (h : ExR g E pr (fun s => Den.thn (bnd m (fun d => bnd (grd (isDc i)) fun _ => bnd mk fun kd => ret (kd, Den.fz d)) s) fun p s2 => dsetM i p.1 p.2 s2) D0 σ H) :
    sDPut (tVar i) (EvR g E mk) (EvR g E m) D0 σ H := by
  obtain ⟨Φ, ρ, s, fs, F, r, k, hm, p⟩ := h
  rcases thn_some hm with ⟨⟨kd, d'⟩, s2, h1, h2⟩ | ⟨x, h1, rfl⟩
  · rcases bnd_some h1 with ⟨d, s3, h3, h4⟩ | ⟨x, h3, e⟩
    · refine EvR.val k h3 fun Φ1 H1 ρ1 v f fs1 st1 k1 vl => ?_
      obtain ⟨k1', st1', rv⟩ := k1.frz vl
      rcases bnd_some h4 with ⟨⟨⟩, s4, h5, h6⟩ | ⟨x, h5, e⟩
      · unfold grd at h5
        split at h5
        · rename_i hd
          cases h5
          obtain ⟨ks, ds, q⟩ := isDc_some hd
          obtain ⟨a, vs, e1, ha, hl, rl⟩ := k1'.dc q
          refine ⟨.ref a, e1, ?_⟩
          rcases bnd_some h6 with ⟨kd', s5, h7, h8⟩ | ⟨x, h7, e⟩
          · cases ret_some h8
            refine EvR.val k1' h7 fun Φ2 H2 ρ2 u f2 fs2 st2 k2 vl2 => ?_
            dsimp only at h2
            unfold dsetM at h2
            split at h2
            · rename_i ks2 ds2 q1
              split at h2
              · rename_i hz
                split at h2
                · rename_i ks3 ds3 hp
                  cases h2
                  obtain ⟨a', vs', e2, ha', hl', rl', fin⟩ := k2.drop.chgD q1
                  rw [e1] at e2
                  cases e2
                  obtain ⟨rk, _⟩ := key_freeP vl2.rep hp
                  have rv2 : Rep g Φ2 H2 ρ2 (Den.fz d) v [] := (rv.sh st2).any
                  obtain ⟨vs3, p1, p2, p3⟩ := dput_of k2.sub ha' hl' hz rl' rk rv2 hp
                  obtain ⟨fs3, st3, k3⟩ := fin ks3 ds3 vs3 p2 p3
                  exact ⟨a, _, rfl, p1, p _ _ _ _ _ (((st1.trans st1' fun _ h => h).trans st2 fun _ h => h).trans st3 fun _ h => h) .refl k3⟩
                · cases h2
              · cases h2
            · cases h2
          · cases e
        · cases h5
      · unfold grd at h5
        split at h5 <;> cases h5
    · cases e
  · rcases bnd_some h1 with ⟨d, s3, h3, h4⟩ | ⟨x', h3, e⟩
    · refine EvR.val k h3 fun Φ1 H1 ρ1 v f fs1 st1 k1 vl => ?_
      obtain ⟨k1', st1', rv⟩ := k1.frz vl
      rcases bnd_some h4 with ⟨⟨⟩, s4, h5, h6⟩ | ⟨x', h5, e⟩
      · unfold grd at h5
        split at h5
        · rename_i hd
          cases h5
          obtain ⟨ks, ds, q⟩ := isDc_some hd
          obtain ⟨a, vs, e1, ha, hl, rl⟩ := k1'.dc q
          refine ⟨.ref a, e1, ?_⟩
          rcases bnd_some h6 with ⟨kd', s5, h7, h8⟩ | ⟨x', h7, e⟩
          · cases ret_some h8
          · cases e
            exact EvR.exc k1' h7 (PX.shift p (st1.trans st1' fun _ h => h) fun _ h => h)
        · cases h5
      · unfold grd at h5
        split at h5 <;> cases h5
    · cases e
      exact EvR.exc k h3 p
/-- a new dict -/
theorem dnew_to (t : Bool) {σ : L2.St} {H : Hp} {Q : VK} (h : EvR g E (ret (.dc .own (if t then .t [] else .k []) [])) σ H Q) : (if t then tDNewT else tDNewK) σ H Q := by
  obtain ⟨Φ, ρ, s, fs, F, r, k, hm, p⟩ := h
  cases ret_some hm
  have go : ∀ (ks : KS), ks = (if t then .t [] else .k []) → ∀ q, H q = none → Q (.ref q) (upd H q (ks.ho [])) := fun ks ek q hq => by
    obtain ⟨k2, st2, nf, np⟩ := k.lay (o := ks.ho []) hq pln_ho
    subst ek
    refine p _ _ ρ (.ref q) [q] fs st2 k2 ⟨?_, by simp, fun a ha => by rw [List.mem_singleton.mp ha]; exact nf⟩
    simp only [Rep]
    exact ⟨q, [], rfl, upd_same, np, rfl, by cases t <;> rfl, by simp [RepL]⟩
  cases t with
  | true => exact go (.t []) rfl
  | false => exact go (.k []) rfl
/-- a tuple of ints, to be a key -/
theorem ktup_to {m : M (List D)} {σ : L2.St} {H : Hp} {Q : VK} (h : EvR g E (bnd m fun ds => match intsOf ds with
    | some ks => if ks.length ≤ lim then ret (.kt ks) else stuck
    | none => stuck) σ H Q) : tTup (EvsR g E m) σ H Q := by
  obtain ⟨Φ, ρ, s, fs, F, r, k, hm, p⟩ := h
  rcases bnd_some hm with ⟨ds, s1, h1, h2⟩ | ⟨x, h1, rfl⟩
  · refine ⟨Φ, ρ, s, fs, F, _, k, h1, fun Φ1 H1 ρ1 vs f fs1 st1 k1 vl => ?_⟩
    have hl := RepL.len _ _ _ vl.rep
    cases ei : intsOf ds with
    | none =>
      simp only [ei] at h2
      cases h2
    | some is =>
      simp only [ei] at h2
      split at h2
      · rename_i hz
        cases ret_some h2
        obtain ⟨e1, e2, e3⟩ := ints_repF vl.rep ei
        subst e1 e3
        refine ⟨by rw [List.length_map]; exact Nat.le_trans hz lim_le, fun q hq => ?_⟩
        obtain ⟨k2, st2⟩ := k1.drop.layS (o := .tup (is.map V.int)) hq fun _ => HO.noConfusion
        refine p _ _ ρ1 (.ref q) [] fs1 (st1.trans st2 fun _ h => h) k2.nof ⟨?_, List.nodup_nil, fun a ha => by cases ha⟩
        simp only [Rep]
        refine ⟨q, rfl, ?_, trivial⟩
        rw [upd_same]
        unfold kks
        rw [List.map_map]
        rfl
      · cases h2
  · exact ⟨Φ, ρ, s, fs, F, _, k, h1, p⟩
end
end Den
/-! DenE: list(d) compared with what is written, a list within a list changed, zip of tuples. -/
namespace Den
open PySem PySem.Spec L2
theorem andE {a b : Bool} (h : (a && b) = true) : a = true ∧ b = true := by simpa using h
/-- written keys -/
def litI : List Expr → List Int → Bool
  | [], [] => true
  | .Constant (.int n) _ _ :: es, m :: ms => decide (n = m) && litI es ms
  | _, _ => false
def litT : List Expr → List (List Int) → Bool
  | [], [] => true
  | .Tuple xs _ _ :: es, k :: ks => decide (xs.length ≤ 100) && litI xs k && litT es ks
  | _, _ => false
def litL : List Expr → List (List (List Int)) → Bool
  | [], [] => true
  | .List xs _ :: es, k :: ks => decide (xs.length ≤ 100) && litT xs k && litL es ks
  | _, _ => false
section
variable {g : Gx} {E : XK} {X : Cx} {pr : List Nat} {Φ Φ1 Φ' H H1 H' : Hp} {ρ ρ1 ρ' : List Addr} {F F1 : Addr → Prop} {σ : L2.St} {s : S} {fs : Ix → List Addr} {Q : VK} {D0 : Ends} {K : PySem.W.Frag}
abbrev ExtH (H H' : Hp) : Prop := ∀ b u, H b = some u → H' b = some u
theorem extH_l {a : Addr} {xs : List V} (e : ExtH H H') (h : SqL K H a xs) : SqL K H' a xs := by
  rcases h with (h | ⟨o, h⟩) | h
  · exact .inl (.inl (e _ _ h))
  · exact .inl (.inr ⟨o, e _ _ h⟩)
  · exact .inr h
theorem extH_t {a : Addr} {xs : List V} (e : ExtH H H') (h : SqT K H a xs) : SqT K H' a xs := by
  rcases h with (h | ⟨o, h⟩) | h
  · exact .inl (.inl (e _ _ h))
  · exact .inl (.inr ⟨o, e _ _ h⟩)
  · exact .inr h
mutual
theorem Dp.ext (e : ExtH H H') : ∀ (d : PyData) (v : V), Dp K H v d → Dp K H' v d
  | .none, _, h => by cases h; exact .non
  | .bool b, _, h => by cases h; exact .bl _
  | .int i, _, h => by cases h; exact .int _
  | .str s, _, h => by cases h; exact .str _
  | .list ds, _, h => by
    cases h with
    | lst a b => exact .lst (extH_l e a) (DpAll.ext e ds _ b)
  | .tuple ds, _, h => by
    cases h with
    | tup a b => exact .tup (extH_t e a) (DpAll.ext e ds _ b)
  | .dict _, _, h => by cases h
theorem DpAll.ext (e : ExtH H H') : ∀ (ds : List PyData) (vs : List V), DpAll K H vs ds → DpAll K H' vs ds
  | [], _, h => by cases h; exact .nil
  | d :: ds, _, h => by
    cases h with
    | cons a b => exact .cons (Dp.ext e d _ a) (DpAll.ext e ds _ b)
end
def tLit (K : PySem.W.Frag) (d : PyData) : TE := fun _ H Q => ∀ H' v, ExtH H H' → Dp K H' v d → Q v H'
def tLits (K : PySem.W.Frag) (ds : List PyData) : TA := fun _ H Q => ∀ H' vs, ExtH H H' → DpAll K H' vs ds → Q vs H'
theorem extH_new {p : Addr} {o : HO} (n : H p = none) : ExtH H (upd H p o) := fun b u e => by rw [upd_ne (ne_of_none e n)]; exact e
theorem dpA_len : ∀ {ds : List PyData} {vs : List V}, DpAll K H vs ds → vs.length = ds.length
  | [], _, h => by cases h; rfl
  | d :: ds, _, h => by
    cases h with
    | cons a b => simp [dpA_len b]
theorem lits_cons {e : Expr} {es : List Expr} {d : PyData} {ds : List PyData} (h : PE X e (tLit K d)) (h2 : PA X es (tLits K ds)) (hs : starEach (e :: es) X.env = (false, eval e X.env) :: starEach es X.env) : PA X (e :: es) (tLits K (d :: ds)) :=
  pa_imp (pa_cons h h2 hs) fun σ H Q q H1 v e1 d1 H2 vs e2 d2 => q H2 (v :: vs) (fun b u z => e2 b u (e1 b u z)) (.cons (Dp.ext e2 d v d1) d2)
theorem lits_nil : PA X [] (tLits K []) := pa_imp pa_nil fun σ H Q q => q H [] (fun _ _ z => z) .nil
theorem lit_tup {es : List Expr} {x1 : Nat} {p : Pos} {ds : List PyData} (hl : ds.length ≤ 100) (h : PA X es (tLits K ds)) : PE X (.Tuple es x1 p) (tLit K (.tuple ds)) :=
  pe_imp (pe_tup h) fun σ H Q q H1 vs e1 d1 => ⟨by rw [dpA_len d1, sizeLine_eq]; omega, fun p hp => q _ (.ref p) (fun b u z => extH_new hp b u (e1 b u z)) (.tup (.inl (.inl upd_same)) (DpAll.ext (extH_new hp) ds vs d1))⟩
theorem lit_lst {es : List Expr} {p : Pos} {ds : List PyData} (hl : ds.length ≤ 100) (h : PA X es (tLits K ds)) : PE X (.List es p) (tLit K (.list ds)) :=
  pe_imp (pe_lst h) fun σ H Q q H1 vs e1 d1 => ⟨by rw [dpA_len d1, sizeLine_eq]; omega, fun p hp => q _ (.ref p) (fun b u z => extH_new hp b u (e1 b u z)) (.lst (.inl (.inl upd_same)) (DpAll.ext (extH_new hp) ds vs d1))⟩
theorem litI_ok : ∀ (es : List Expr) (ms : List Int), litI es ms = true → es.length = ms.length ∧ PA X es (tLits K (ms.map .int))
  | [], [], _ => ⟨rfl, lits_nil⟩
  | [], _ :: _, h => by cases h
  | e :: es, [], h => by cases e <;> (try cases h) <;> (rename_i c _ _; cases c <;> cases h)
  | e :: es, m :: ms, h => by
    unfold litI at h
    split at h
    · cases ‹_ :: _ = []›
    · rename_i n x p es' m' ms' h1 h2
      cases h1
      cases h2
      obtain ⟨h1, h2⟩ := andE h
      obtain ⟨l, q⟩ := litI_ok es ms h2
      have e := of_decide_eq_true h1
      subst e
      exact ⟨by simp [l], lits_cons (pe_imp pe_int fun σ H Q q => q H _ (fun _ _ z => z) (.int _)) q rfl⟩
    · cases h
theorem litT_ok : ∀ (es : List Expr) (ms : List (List Int)), litT es ms = true → es.length = ms.length ∧ PA X es (tLits K (ms.map fun k => .tuple (k.map .int)))
  | [], [], _ => ⟨rfl, lits_nil⟩
  | [], _ :: _, h => by cases h
  | e :: es, [], h => by cases e <;> cases h
  | e :: es, m :: ms, h => by
    unfold litT at h
    split at h
    · cases ‹_ :: _ = []›
    · rename_i xs x p es' m' ms' h1 h2
      cases h1
      cases h2
      obtain ⟨h1, h2⟩ := andE h
      obtain ⟨h0, h1⟩ := andE h1
      obtain ⟨l, q⟩ := litT_ok es ms h2
      obtain ⟨l1, q1⟩ := litI_ok xs m h1
      have z := of_decide_eq_true h0
      exact ⟨by simp [l], lits_cons (lit_tup (by rw [List.length_map]; omega) q1) q rfl⟩
    · cases h
theorem litL_ok : ∀ (es : List Expr) (ms : List (List (List Int))), litL es ms = true → es.length = ms.length ∧ PA X es (tLits K (ms.map keysP))
  | [], [], _ => ⟨rfl, lits_nil⟩
  | [], _ :: _, h => by cases h
  | e :: es, [], h => by cases e <;> cases h
  | e :: es, m :: ms, h => by
    unfold litL at h
    split at h
    · cases ‹_ :: _ = []›
    · rename_i xs p es' m' ms' h1 h2
      cases h1
      cases h2
      obtain ⟨h1, h2⟩ := andE h
      obtain ⟨h0, h1⟩ := andE h1
      obtain ⟨l, q⟩ := litL_ok es ms h2
      obtain ⟨l1, q1⟩ := litT_ok xs m h1
      have z := of_decide_eq_true h0
      exact ⟨by simp [l], lits_cons (lit_lst (by rw [List.length_map]; omega) q1) q rfl⟩
    · cases h
/-- list(d), its answer's items by H -/
def rLiT : List V → Hp → VK → Prop := fun xs H Q => ∃ d kvs, xs = [V.ref d] ∧ Rd H d (.dT kvs) ∧ ∀ p bs, H p = none → IsKeys H kvs bs → Q (.ref p) (upd H p (.lst (bs.map V.ref)))
theorem dp_ints : ∀ ks : List Int, DpAll K H (ks.map V.int) (ks.map .int)
  | [] => .nil
  | k :: ks => .cons (.int k) (dp_ints ks)
theorem dp_keys {vs : List V} : ∀ {ks : List (List Int)} {ws : List V} {bs : List Addr}, ks.length = ws.length → IsKeys H ((ks.map kks).zip ws) bs → DpAll K H (bs.map V.ref) (ks.map fun k => .tuple (k.map .int))
  | [], ws, bs, hl, h => by
    cases h
    exact .nil
  | k :: ks, [], bs, hl, h => by cases hl
  | k :: ks, w :: ws, bs, hl, h => by
    cases h with
    | cons a b =>
      refine .cons (.tup (xs := k.map V.int) (.inl (.inl ?_)) (dp_ints k)) (dp_keys (vs := vs) (by simpa using hl) b)
      have a' : H _ = some (.tup ((kks k).map kV)) := a
      rw [a']
      unfold kks
      rw [List.map_map]
      rfl
theorem keys_dp {i : Nat} {m : List (List Int) → Option D} {σ : L2.St} {H : Hp} {Q : VK} (hK : X.K = g.K) (h : EvR g E (bnd (keysM i) fun ks => lift (m ks)) σ H Q) :
    tCB rLiT (tCons (tVar i) tNil) σ H fun x H1 => ∃ ks r, ExtH H H1 ∧ m ks = some r ∧ (∀ H2, ExtH H1 H2 → Dp X.K H2 x (keysP ks)) ∧ ∀ H2, (∀ b, r = .bl b → ExtH H1 H2 → Q (.bl b) H2) := by
  obtain ⟨Φ, ρ, s, fs, F, r, k, hm, p⟩ := h
  rcases bnd_some hm with ⟨ks, s1, h1, h2⟩ | ⟨x, h1, e⟩
  · unfold keysM at h1
    split at h1
    · rename_i ks' ds q
      cases h1
      obtain ⟨a, vs, e1, ha, hl, rl⟩ := k.dc q
      obtain ⟨z, e2, rfl⟩ := lift_some h2
      have hv := RepL.len _ _ _ rl
      refine ⟨.ref a, e1, a, (ks.map kks).zip vs, rfl, .inl ha, fun p0 bs hp hk => ?_⟩
      refine ⟨ks, z, extH_new hp, e2, fun H2 eH => ?_, fun H2 b eb eH => ?_⟩
      · refine Dp.ext eH _ _ (.lst (.inl (.inl upd_same)) (DpAll.ext (extH_new hp) _ _ (dp_keys (vs := vs) (by rw [hv]; exact hl) hk)))
      · subst eb
        have w : Grow g Φ H Φ H2 := ⟨fun b u e _ => eH b u (extH_new hp b u e), fun t => t.ext fun b u e => eH b u (extH_new hp b u e), fun _ _ h => h, fun b u e => by
          refine ⟨(k.sub b u e).1, ?_⟩
          rcases (k.sub b u e).2 with y | ⟨o, kvs, y1, y2⟩
          · exact .inl (eH _ _ (extH_new hp _ _ y))
          · exact .inr ⟨o, kvs, y1, eH _ _ (extH_new hp _ _ y2)⟩, fun _ h => h.1⟩
        exact p Φ H2 ρ (.bl b) [] fs (k.gstp w) (k.grow w).nof ⟨rep_bl, List.nodup_nil, fun a ha => by cases ha⟩
    · cases h1
  · unfold keysM at h1
    split at h1 <;> cases h1
theorem dlEq_to {i : Nat} {r : List (List Int)} {σ : L2.St} {H : Hp} {Q : VK} (hK : X.K = g.K) (h : EvR g E (bnd (keysM i) fun ks => lift ((eqKeys ks r).map .bl)) σ H Q) :
    tOp (rEqD X.K) (tCB rLiT (tCons (tVar i) tNil)) (tLit X.K (keysP r)) σ H Q := by
  obtain ⟨v, e1, d, kvs, e2, hd, q⟩ := keys_dp (X := X) hK h
  refine ⟨v, e1, d, kvs, e2, hd, fun p bs hp hk H2 w eH dw => ?_⟩
  obtain ⟨ks, z, _, em, dp, fin⟩ := q p bs hp hk
  obtain ⟨b, eb, rfl⟩ := Option.map_eq_some_iff.mp em
  unfold eqKeys at eb
  split at eb
  · rename_i hs
    cases eb
    exact ⟨_, _, dp H2 eH, dw, hs.1, hs.2, fin H2 _ rfl eH⟩
  · cases eb
theorem dlIn_to {i : Nat} {r : List (List (List Int))} {σ : L2.St} {H : Hp} {Q : VK} (hK : X.K = g.K) (h : EvR g E (bnd (keysM i) fun ks => lift ((inKeys ks r).map .bl)) σ H Q) :
    tOp (rInD X.K) (tCB rLiT (tCons (tVar i) tNil)) (tLit X.K (.list (r.map keysP))) σ H Q := by
  obtain ⟨v, e1, d, kvs, e2, hd, q⟩ := keys_dp (X := X) hK h
  refine ⟨v, e1, d, kvs, e2, hd, fun p bs hp hk H2 w eH dw => ?_⟩
  obtain ⟨ks, z, _, em, dp, fin⟩ := q p bs hp hk
  obtain ⟨b, eb, rfl⟩ := Option.map_eq_some_iff.mp em
  unfold inKeys at eb
  split at eb
  · rename_i hs
    cases eb
    exact ⟨_, _, dp H2 eH, dw, hs.1, hs.2, fin H2 _ rfl eH⟩
  · cases eb
/-! ### a list within a list -/
theorem RepL.modAt {fs0 : List D} : ∀ (es : List D) (vs : List V) (f : List Addr) (j : Nat), RepL g Φ H ρ es vs f → f.Nodup → es[j]? = some (.lst .own fs0) →
    ∃ q ws fq, vs[j]? = some (.ref q) ∧ q ∈ f ∧ H q = some (.lst ws) ∧ Φ q = none ∧ RepL g Φ H ρ fs0 ws fq ∧ (∀ b ∈ fq, b ∈ f ∧ b ≠ q) ∧
      ∀ (H' : Hp) (fs' : List D) (ws' : List V), (∀ b ∈ f, b ≠ q → H' b = H b) → H' q = some (.lst ws') → RepL g Φ H' ρ fs' ws' fq → RepL g Φ H' ρ (es.set j (.lst .own fs')) vs f
  | [], _, _, j, _, _, h => by simp at h
  | e :: es, _, _, 0, r, nd, h => by
    simp only [RepL] at r
    obtain ⟨v, vs', f1, f2, rfl, rfl, r1, r2⟩ := r
    simp at h
    subst h
    simp only [Rep] at r1
    obtain ⟨q, ws, fq, rfl, hq, np, rfl, rl⟩ := r1
    have nd1 := (List.nodup_append.mp nd).1
    have nd1' := List.nodup_cons.mp nd1
    refine ⟨q, ws, fq, rfl, by simp, hq, np, rl, fun b hb => ⟨by simp [hb], fun z => nd1'.1 (z ▸ hb)⟩, fun H' fs' ws' k1 k2 k3 => ?_⟩
    simp only [List.set_cons_zero, RepL]
    refine ⟨.ref q, vs', q :: fq, f2, rfl, rfl, ?_, r2.out fun b hb => k1 b (by simp [hb]) fun z => (List.nodup_append.mp nd).2.2 q List.mem_cons_self b hb z.symm⟩
    simp only [Rep]
    exact ⟨q, ws', fq, rfl, k2, np, rfl, k3⟩
  | e :: es, _, _, j + 1, r, nd, h => by
    simp only [RepL] at r
    obtain ⟨v, vs', f1, f2, rfl, rfl, r1, r2⟩ := r
    obtain ⟨n1, n2, n3⟩ := List.nodup_append.mp nd
    obtain ⟨q, ws, fq, a1, a2, a3, a3', a4, a5, a6⟩ := RepL.modAt es vs' f2 j r2 n2 (by simpa using h)
    refine ⟨q, ws, fq, by simpa using a1, by simp [a2], a3, a3', a4, fun b hb => ⟨by simp [(a5 b hb).1], (a5 b hb).2⟩, fun H' fs' ws' k1 k2 k3 => ?_⟩
    simp only [List.set_cons_succ, RepL]
    exact ⟨v, vs', f1, f2, rfl, rfl, r1.out fun b hb => k1 b (by simp [hb]) fun z => n3 b hb q a2 z, a6 H' fs' ws' (fun b hb => k1 b (by simp [hb])) k2 k3⟩
theorem innL_some {i : Nat} {xd : D} {es fs0 : List D} {j : Nat} (h : innL i xd s = some (es, j, fs0)) : ∃ z, s.sl[i]? = some (some (.lst .own es)) ∧ xd = .int z ∧ ixN es.length z = some j ∧ es[j]? = some (.lst .own fs0) ∧ fs0.length < lim := by
  unfold innL at h
  split at h
  · split at h
    · split at h
      · split at h
        · cases h
          exact ⟨_, by assumption, rfl, by assumption, by assumption, by assumption⟩
        · cases h
      · cases h
    · cases h
  · cases h
/-- L[ix].append(e) -/
theorem mutA_to {i : Nat} {mi me : M D} {σ : L2.St} {H : Hp} {Q : VK} (hK : X.K = g.K) (h : EvR g E (bnd (grd (isLst i)) fun _ => bnd mi fun xd => mutAM i xd me) σ H Q) :
    tBM X.K "list" rAppend (tOp (rIxL X.K) (tVar i) (EvR g E mi)) (tCons (EvR g E me) tNil) σ H Q := by
  obtain ⟨Φ, ρ, s, fs, F, r, k, hm, p⟩ := h
  rcases bnd_some hm with ⟨⟨⟩, s1, h1, h2⟩ | ⟨x, h1, e⟩
  · unfold grd at h1
    split at h1
    · rename_i hl
      cases h1
      obtain ⟨o, ds, q⟩ := isLst_some hl
      obtain ⟨v, e1, _⟩ := k.slot i _ q
      refine ⟨v, e1, ?_⟩
      rcases bnd_some h2 with ⟨xd, s2, h3, h4⟩ | ⟨x, h3, rfl⟩
      · refine EvR.val k h3 fun Φ1 H1 ρ1 y f1 fs1 st1 k1 vl1 => ?_
        unfold mutAM at h4
        split at h4
        · rename_i es j fs0 hin
          obtain ⟨z, q1, rfl, hj, hf, hz⟩ := innL_some hin
          obtain ⟨rfl, _⟩ := vl1.int
          obtain ⟨v', e1', vlo, k2⟩ := k1.drop.take q1
          rw [e1] at e1'
          cases e1'
          have hi : i < s2.sl.length := (List.getElem?_eq_some_iff.mp q1).1
          obtain ⟨rr, nd, out⟩ := vlo
          have rr0 := rr
          simp only [Rep] at rr
          obtain ⟨a, vs, f', rfl, ha, na, ef, rl⟩ := rr
          rw [ef] at nd out k2 rr0
          have nd' := List.nodup_cons.mp nd
          have hvl := RepL.len _ _ _ rl
          obtain ⟨b, ws, fq, b1, b2, b3, b3', b4, b5, b6⟩ := RepL.modAt es vs f' j rl nd'.2 hf
          refine ⟨a, vs, z, .ref b, rfl, rfl, SqL.of ha, ?_, .inl ⟨rfl, ws, SqL.of b3⟩, ?_⟩
          · unfold atI
            rw [hvl, hj]
            exact b1
          · split at h4
            · rename_i d s4 h7
              cases h4
              refine EvR.val k2 h7 fun Φ2 H2 ρ2 w f2 fs2 st2 k3 vl2 => ?_
              obtain ⟨k4, st3, rv⟩ := k3.frz vl2
              have rr2 := (Rep.stp st2 (fun c hc => .inl hc) rr0).stp st3 fun c hc => .inl hc
              have hab : ∀ c ∈ a :: f', H2 c = H1 c := fun c hc => ((st2.trans st3 fun _ h => h).frm c (.inl hc)).1
              simp only [Rep] at rr2
              obtain ⟨a', vs2, f'', ea, ha2, na2, ef2, rl2⟩ := rr2
              cases ea
              cases ef2
              rw [hab a List.mem_cons_self, ha] at ha2
              cases ha2
              obtain ⟨b', ws2, fq2, c1, c2, c3, c3', c4, c5, c6⟩ := RepL.modAt es vs f' j rl2 nd'.2 hf
              rw [b1] at c1
              cases c1
              have hpa : b ≠ a := fun z => nd'.1 (z ▸ b2)
              refine ⟨b, ws2, w, rfl, rfl, c3, by rw [RepL.len _ _ _ c4]; exact Nat.lt_of_lt_of_le hz lim_le, ?_⟩
              have k5 := k4.wr (o := .lst (ws2 ++ [w])) (a := b) (List.mem_cons_of_mem _ b2) c3 pln_lst pln_lst
              have vl : Vl g (frzP Φ2 H2 f2) (upd H2 b (.lst (ws2 ++ [w]))) ρ2 (.lst .own (es.set j (.lst .own (fs0 ++ [Den.fz d])))) (.ref a) (a :: f') F := by
                refine ⟨?_, nd, out⟩
                simp only [Rep]
                refine ⟨a, vs, f', rfl, by rw [upd_ne (Ne.symm hpa), hab a List.mem_cons_self]; exact ha, na2, rfl, c6 _ _ _ (fun c hc hne => upd_ne hne) upd_same ?_⟩
                have := RepL.app fs0 [Den.fz d] ws2 [w] fq2 [] (c4.out (H' := upd H2 b (.lst (ws2 ++ [w]))) fun c hc => upd_ne (c5 c hc).2) (by simp only [RepL]; exact ⟨w, [], [], [], rfl, rfl, rv.any, rfl, rfl⟩)
                simpa using this
              have hi4 : i < s4.sl.length := by
                rw [k4.len]
                exact (List.getElem?_eq_some_iff.mp e1).1
              have k6 := k5.put (i := i) vl hi4 e1
              have st12 : Stp Φ H ρ F (frzP Φ2 H2 f2) H2 ρ2 := st1.trans ((st2.trans st3 fun _ h => h).less fun c hc => .inr hc) fun _ h => h
              exact p _ _ ρ2 .non [] _ (st12.trans (wr_stp k6.nF (out b (List.mem_cons_of_mem _ b2))) fun _ h => h) k6.nof ⟨rep_non, List.nodup_nil, fun c hc => by cases hc⟩
            · cases h4
              rename_i x h7
              exact EvR.exc k2 h7 (PX.shift p st1 fun c hc => .inr hc)
            · cases h4
        · cases h4
      · exact EvR.exc k h3 p
    · cases h1
  · unfold grd at h1
    split at h1 <;> cases h1
/-! ### zip -/
theorem walk_zip {a b : Addr} {xs ys : List V} {ds es : List D} {tg : Tg} (htp : isTp tg = true) (ta : SqT g.K Φ1 a xs) (tb : SqT g.K Φ1 b ys) (ra : RepL g Φ1 H1 ρ1 ds xs []) (rb : RepL g Φ1 H1 ρ1 es ys []) : Walk g (RZ.ItzT g.K a b) Φ1 ρ1 tg ((ds.zip es).map fun p => .tup [p.1, p.2]) := fun Φ2 H2 ρ2 e p sb i => by
  have ta2 : SqT g.K H2 a xs := sub_t sb (ext_t e ta)
  have tb2 : SqT g.K H2 b ys := sub_t sb (ext_t e tb)
  have la := RepL.len _ _ _ ra
  have lb := RepL.len _ _ _ rb
  refine ⟨fun d hd => ?_, fun hi => ⟨xs, ys, ta2, tb2, by rw [List.length_map, List.length_zip] at hi; omega⟩⟩
  rw [List.getElem?_map] at hd
  obtain ⟨⟨d1, d2⟩, hz, rfl⟩ := Option.map_eq_some_iff.mp hd
  rw [List.getElem?_zip_eq_some] at hz
  obtain ⟨v, hv, rv⟩ := RepL.get _ _ ra i d1 hz.1
  obtain ⟨w, hw, rw'⟩ := RepL.get _ _ rb i d2 hz.2
  refine ⟨⟨xs, ys, v, w, ta2, tb2, hv, hw⟩, fun x H' hy => ?_⟩
  obtain ⟨T, x1, y1, rfl, hT, rfl, h1, h2⟩ := hy
  have e1 := h1 xs ta2
  rw [hv] at e1
  cases e1
  have e2 := h2 ys tb2
  rw [hw] at e2
  cases e2
  have gw : Grow g Φ2 H2 (upd Φ2 T (.tup [v, w])) (upd H2 T (.tup [v, w])) := Grow.shared sb hT fun _ => HO.noConfusion
  refine ⟨_, gw, .inr ⟨htp, [d1, d2], T, [v, w], rfl, rfl, .inl (.inl upd_same), ?_⟩⟩
  simp only [RepL]
  refine ⟨v, [w], [], [], rfl, rfl, ?_, w, [], [], [], rfl, rfl, ?_, rfl, rfl⟩
  · exact Rep.mono (fun c u z => gw.ext c u (e c u z)) p d1 v [] (fun c hc => by cases hc) rv
  · exact Rep.mono (fun c u z => gw.ext c u (e c u z)) p d2 w [] (fun c hc => by cases hc) rw'
theorem itr_zip {as : Cs} {m : M (List D)} {tg : Tg} {σ : L2.St} {H : Hp} {R : L2.It → Hp → Prop} (hK : X.K = g.K) (htp : isTp tg = true) (h : ItR g E tg (bnd m fun ds => lift (zipD ds)) σ H R) : RZ.iZipA X.K (FzR g E m) σ H R := by
  obtain ⟨Φ, ρ, s, fs, F, r, k, hm, p⟩ := h
  rcases bnd_some hm with ⟨ds, s1, h1, h2⟩ | ⟨x, h1, rfl⟩
  · refine ⟨Φ, ρ, s, fs, F, _, k, h1, fun Φ1 H1 ρ1 vs fs1 st1 k1 vl => ?_⟩
    obtain ⟨z, e1, rfl⟩ := lift_some h2
    unfold zipD at e1
    split at e1
    · cases e1
      rename_i d1 d2
      simp only [RepL, Rep] at vl
      obtain ⟨v, vs', f1, f2, rfl, ef, ⟨a, xs, rfl, ta, ra⟩, w, vs'', f3, f4, rfl, ef2, ⟨b, ys, rfl, tb, rb⟩, rfl, rfl⟩ := vl
      obtain ⟨rfl, rfl⟩ := List.append_eq_nil_iff.mp ef.symm
      obtain ⟨rfl, _⟩ := List.append_eq_nil_iff.mp ef2.symm
      have q := p Φ1 H1 ρ1 fs1 (RZ.ItzT g.K a b) st1 k1 (walk_zip htp ta.sq tb.sq ra rb)
      refine ⟨a, b, xs, ys, rfl, .inr ⟨?_, ?_, ?_⟩⟩
      · rw [hK]; exact sub_t k1.sub ta.sq
      · rw [hK]; exact sub_t k1.sub tb.sq
      · rw [hK]; exact q
    · cases e1
  · exact ⟨Φ, ρ, s, fs, F, _, k, h1, p⟩
end
end Den
/-! DenT: texts' methods, enumerate, len(set(ints)), a dict of constants. -/
namespace Den
open PySem PySem.Spec L2
section
variable {g : Gx} {E : XK} {X : Cx} {pr : List Nat} {Φ Φ1 Φ' H H1 H' : Hp} {ρ ρ1 ρ' : List Addr} {F F1 : Addr → Prop} {σ : L2.St} {s : S} {fs : Ix → List Addr} {Q : VK} {D0 : Ends}
theorem strs_rep : ∀ {ds : List D} {vs : List V} {ys : List (List Nat)}, RepL g Φ H ρ ds vs [] → strsOf ds = some ys → vs = (ys.map SX.S).map V.str ∧ ds = ys.map D.str
  | [], vs, ys, r, e => by
    simp only [strsOf] at e; cases e
    simp only [RepL] at r
    exact ⟨r.1, rfl⟩
  | d :: ds, vs, ys, r, e => by
    cases d with
    | str s =>
      simp only [strsOf] at e
      obtain ⟨zs, e1, rfl⟩ := Option.map_eq_some_iff.mp e
      simp only [RepL] at r
      obtain ⟨v, vs', f1, f2, rfl, ef, r1, r2⟩ := r
      obtain ⟨rfl, rfl⟩ := List.append_eq_nil_iff.mp ef.symm
      simp only [Rep] at r1
      obtain ⟨rfl, _⟩ := r1
      obtain ⟨rfl, rfl⟩ := strs_rep r2 e1
      exact ⟨rfl, rfl⟩
    | _ => simp [strsOf] at e
theorem rep_strs : ∀ ys : List (List Nat), RepL g Φ H ρ (ys.map D.str) ((ys.map SX.S).map V.str) []
  | [] => by simp [RepL]
  | y :: ys => by
    simp only [List.map_cons, RepL]
    exact ⟨_, _, [], [], rfl, rfl, rep_str, rep_strs ys⟩
theorem scount_inv {a : List Nat} {e r : D} (h : mtF .scount (.str a) e = some r) : ∃ c, e = .str [c] ∧ r = .int ((a.count c : Nat) : Int) := by
  cases e with
  | str t =>
    cases t with
    | nil => simp [mtF] at h
    | cons c t =>
      cases t with
      | nil => simp only [mtF, Option.some.injEq] at h; exact ⟨c, rfl, h.symm⟩
      | cons _ _ => simp [mtF] at h
  | _ => simp [mtF] at h
theorem ssplit_inv {a : List Nat} {e r : D} (h : mtF .ssplit (.str a) e = some r) : ∃ c, e = .str [c] ∧ c < 256 ∧ a.length + 2 ≤ lim ∧ r = .lst .own ((TL.spl [c] 0 [] a).map .str) := by
  cases e with
  | str t =>
    cases t with
    | nil => simp [mtF] at h
    | cons c t =>
      cases t with
      | nil =>
        have h : (if c < 256 ∧ a.length + 2 ≤ lim then some (D.lst .own ((TL.spl [c] 0 [] a).map .str)) else none) = some r := h
        split at h
        · rename_i hc; cases h; exact ⟨c, rfl, hc.1, hc.2, rfl⟩
        · cases h
      | cons _ _ => simp [mtF] at h
  | _ => simp [mtF] at h
def rSm (g : Gx) (m : Mt) : V → List V → Hp → VK → Prop := fun x xs H Q => ∃ (Φ : Hp) (ρ : List Addr) (a : List Nat) (e r : D) (y : V), xs = [y] ∧ Sub Φ H ∧ PkR g Φ H ρ (.str a) x ∧ PkR g Φ H ρ e y ∧ mtF m (.str a) e = some r ∧ Aft g Φ H ρ r Q
theorem mt_scount : MtR X "str.count" (rSm g .scount) := by
  intro pins s σ H x xs v us Q I rx rs h
  obtain ⟨Φ, ρ, a, e, r, y, rfl, sb, rd, re, hk, q⟩ := h
  have ex := rd.str
  subst ex
  obtain ⟨c, rfl, rfl⟩ := scount_inv hk
  have ey := re.str
  subst ey
  refine L2.mt_count pins s σ H _ _ v us Q I rx rs ⟨_, _, rfl, rfl, ?_⟩
  rw [ExZ.count_sign a c]
  exact q.int sb
theorem mt_sjoin (hK : X.K = g.K) : MtR X "str.join" (rSm g .sjoin) := by
  intro pins s σ H x xs v us Q I rx rs h
  obtain ⟨Φ, ρ, a, e, r, y, rfl, sb, rd, re, hk, q⟩ := h
  have ex := rd.str
  subst ex
  have go : ∀ (p : Addr) (ds : List D) (vs : List V), (SqL g.K H p vs ∨ SqT g.K H p vs) → RepL g Φ H ρ ds vs [] → joinF a ds = some r → y = .ref p → wpAny (model X.prog X.w) X.A (call (.builtin "str.join") (v :: us)) (EP X pins σ Q) X.xe s := fun p ds vs hq rr hj ey => by
    subst ey
    unfold joinF at hj
    split at hj
    · rename_i ys e1
      split at hj
      · rename_i hl
        cases hj
        obtain ⟨rfl, _⟩ := strs_rep rr e1
        refine L2.mt_join pins s σ H _ _ v us Q I rx rs ⟨_, p, ys.map SX.S, rfl, rfl, by rw [hK]; exact hq, ?_, ?_⟩
        · have h1 := SX.lens ys
          have h2 : (⟨a.toArray⟩ : Str).length = a.length := SX.S_len a
          rw [h1, List.length_map, h2]
          exact Nat.le_trans hl (by decide)
        · have := SX.join_S a ys
          show Q (.str (Txt.join (SX.S a) (ys.map SX.S))) H
          rw [this]
          exact q.str sb
      · cases hj
    · cases hj
  cases e with
  | lst o ds =>
    obtain ⟨p, vs, rfl, t, rr⟩ := re.lst sb
    exact go p ds vs (.inl t) rr hk rfl
  | tup ds =>
    obtain ⟨p, vs, rfl, _, t, rr⟩ := re.tup sb
    exact go p ds vs (.inr t) rr hk rfl
  | _ => simp [mtF] at hk
theorem mt_ssplit : MtR X "str.split" (rSm g .ssplit) := by
  intro pins s σ H x xs v us Q I rx rs h
  obtain ⟨Φ, ρ, a, e, r, y, rfl, sb, rd, re, hk, q⟩ := h
  have ex := rd.str
  subst ex
  obtain ⟨c, rfl, hc, hl, rfl⟩ := ssplit_inv hk
  have ey := re.str
  subst ey
  refine L2.mt_split pins s σ H _ _ v us Q I rx rs ⟨⟨a.toArray⟩, ⟨#[c]⟩, rfl, rfl, rfl, ?_, ?_⟩
  · have h2 : (⟨a.toArray⟩ : Str).length = a.length := SX.S_len a
    rw [h2]
    exact Nat.le_trans hl lim_le
  · have := SX.split_S (a := a) (b := [c]) (by simp) (by simpa using hc)
    show L2.rNewStrs (Txt.split (SX.S a) (SX.S [c])) H Q
    rw [this]
    exact fun p hp => q.lst sb (rep_strs _) p hp
/-! ### len(set(ints)) -/
theorem setI_nodup (l : List Int) : (setI l).Nodup := (setI_rise l).imp fun h => by omega
theorem lenSet_to {a : C} {m : M (Option D)} (hK : X.K = g.K) (h : EvR g E (bnd m fun x => bnd (fill1 a x) fun d => lift (lenSetF d)) σ H Q) : ExZ.tLenSetI X.K (OpdR g E a m) σ H Q := by
  show OpdR g E a m σ H fun v H1 => ∃ p ns, v = .ref p ∧ SqL X.K H1 p (ns.map V.int) ∧ ns.length ≤ 50 ∧ Q (.int (ExZ.fmN ns : Nat)) H1
  refine un_to (K := fun v H1 Q => ∃ p ns, v = .ref p ∧ SqL X.K H1 p (ns.map V.int) ∧ ns.length ≤ 50 ∧ Q (.int (ExZ.fmN ns : Nat)) H1) h fun Φ ρ H d r v sb pk hn af => ?_
  unfold lenSetF at hn
  split at hn
  · split at hn
    · split at hn
      · rename_i is e hl
        cases hn
        obtain ⟨p, vs, rfl, t, rr⟩ := pk.lst sb
        obtain ⟨rfl, _⟩ := ints_rep rr e
        refine ⟨p, is, rfl, by rw [hK]; exact t, hl, ?_⟩
        rw [ExZ.fmN_of (setI_nodup is) fun k => setI_mem is k]
        exact af.int sb
      · cases hn
    · cases hn
  · cases hn
/-! ### enumerate -/
theorem enL_get : ∀ (ds : List D) (k i : Nat), (enL k ds)[i]? = (ds[i]?).map fun d => .tup [.int ((k + i : Nat) : Int), d]
  | [], k, i => by simp [enL]
  | d :: ds, k, 0 => by simp [enL]
  | d :: ds, k, i + 1 => by
    simp only [enL, List.getElem?_cons_succ, enL_get ds (k + 1) i]
    rw [show k + 1 + i = k + (i + 1) by omega]
theorem enL_len : ∀ (ds : List D) (k : Nat), (enL k ds).length = ds.length
  | [], _ => rfl
  | d :: ds, k => by simp [enL, enL_len ds]
theorem walk_enL {a : Addr} {xs : List V} {ds : List D} {tg : Tg} (htp : isTp tg = true) (ta : SqL g.K Φ1 a xs) (ra : RepL g Φ1 H1 ρ1 ds xs []) : Walk g (Ite g.K a) Φ1 ρ1 tg (enL 0 ds) := fun Φ2 H2 ρ2 e p sb i => by
  have ta2 : SqL g.K H2 a xs := sub_l sb (ext_l e ta)
  have la := RepL.len _ _ _ ra
  refine ⟨fun d hd => ?_, fun hi => ⟨xs, ta2, by rw [enL_len] at hi; omega⟩⟩
  rw [enL_get] at hd
  obtain ⟨d1, hz, rfl⟩ := Option.map_eq_some_iff.mp hd
  obtain ⟨v, hv, rv⟩ := RepL.get _ _ ra i d1 hz
  refine ⟨⟨xs, v, ta2, hv⟩, fun x H' hy => ?_⟩
  obtain ⟨T, x1, rfl, hT, rfl, h1⟩ := hy
  have e1 := h1 xs ta2
  rw [hv] at e1
  cases e1
  have gw : Grow g Φ2 H2 (upd Φ2 T (.tup [.int (i : Nat), v])) (upd H2 T (.tup [.int (i : Nat), v])) := Grow.shared sb hT fun _ => HO.noConfusion
  refine ⟨_, gw, .inr ⟨htp, _, T, _, rfl, rfl, .inl (.inl upd_same), ?_⟩⟩
  simp only [RepL, Nat.zero_add]
  refine ⟨_, [v], [], [], rfl, rfl, rep_int, v, [], [], [], rfl, rfl, ?_, rfl, rfl⟩
  exact Rep.mono (fun c u z => gw.ext c u (e c u z)) p d1 v [] (fun c hc => by cases hc) rv
theorem walk_enS {t : List Nat} {tg : Tg} (htp : isTp tg = true) : Walk g (EnumS.Ies ⟨t.toArray⟩) Φ1 ρ1 tg (enL 0 (signs t)) := fun Φ2 H2 ρ2 e p sb i => by
  refine ⟨fun d hd => ?_, fun hi => (show t.length ≤ i by simpa [enL_len, signs] using hi)⟩
  rw [enL_get] at hd
  obtain ⟨d1, hz, rfl⟩ := Option.map_eq_some_iff.mp hd
  have hl : i < t.length := by have := (List.getElem?_eq_some_iff.mp hz).1; simpa [signs] using this
  simp only [signs, List.getElem?_map, List.getElem?_eq_getElem hl, Option.map_some, Option.some.injEq] at hz
  subst hz
  refine ⟨(show i < t.length from hl), fun x H' hy => ?_⟩
  obtain ⟨T, c, rfl, hT, hc, rfl⟩ := hy
  have ec : c = t[i] := by
    simp only [List.getElem?_toArray, List.getElem?_eq_getElem hl, Option.some.injEq] at hc
    exact hc.symm
  subst ec
  have gw : Grow g Φ2 H2 (upd Φ2 T (.tup [.int (i : Nat), .str ⟨#[t[i]]⟩])) (upd H2 T (.tup [.int (i : Nat), .str ⟨#[t[i]]⟩])) := Grow.shared sb hT fun _ => HO.noConfusion
  refine ⟨_, gw, .inr ⟨htp, _, T, _, rfl, rfl, .inl (.inl upd_same), ?_⟩⟩
  simp only [RepL, Nat.zero_add]
  exact ⟨_, [.str ⟨#[t[i]]⟩], [], [], rfl, rfl, rep_int, _, [], [], [], rfl, rfl, rep_str, rfl, rfl⟩
theorem itr_en {m : M D} {tg : Tg} {R : L2.It → Hp → Prop} (hK : X.K = g.K) (htp : isTp tg = true) (h : ItR g E tg (bnd m fun d => match fz d with
    | .lst _ ds => ret (enL 0 ds)
    | .str s => if s.length ≤ lim then ret (enL 0 (signs s)) else stuck
    | _ => stuck) σ H R) : ExZ.iEnA X.K (tCons (EvR g E m) tNil) σ H R := by
  obtain ⟨Φ, ρ, s, fs, F, r, k, hm, p⟩ := h
  rcases bnd_some hm with ⟨d, s1, h1, h2⟩ | ⟨x, h1, rfl⟩
  · refine EvR.val k h1 fun Φ1 H1 ρ1 v f fs1 st1 k1 vl => ?_
    obtain ⟨k2, st2, rp⟩ := k1.frz vl
    have st := st1.trans st2 fun _ h => h
    generalize fz d = d' at h2 rp
    split at h2
    · cases ret_some h2
      obtain ⟨a, vs, rfl, t, r⟩ := rp.lst
      exact .inr ⟨a, vs, rfl, by rw [hK]; exact sub_l k2.sub t, p _ _ _ _ _ st k2 (by rw [hK]; exact walk_enL htp t r)⟩
    · split at h2
      · cases ret_some h2
        simp only [Rep] at rp
        obtain ⟨rfl, _⟩ := rp
        exact .inl ⟨_, rfl, p _ _ _ _ _ st k2 (walk_enS htp)⟩
      · cases h2
    · cases h2
  · exact EvR.exc k h1 p
/-! ### a dict of constants -/
def litK : List (List Nat × Int) → List (Option Expr) → List Expr → Bool
  | [], ks, vs => ks.isEmpty && vs.isEmpty
  | (k, v) :: kvs, some (.Constant (.str x) _ _) :: ks, .Constant (.int j) _ _ :: vs => decide (x = ⟨k.toArray⟩) && decide (v = j) && litK kvs ks vs
  | _, _, _ => false
def keysOf (kvs : List (List Nat × Int)) : List Key := kvs.map fun p => .inr ⟨p.1.toArray⟩
def trsOf (kvs : List (List Nat × Int)) : List (TE × TE) := kvs.map fun p => (tC (.str ⟨p.1.toArray⟩), tC (.int p.2))
def pairs (kvs : List (List Nat × Int)) : List (Key × V) := kvs.map fun p => (.inr ⟨p.1.toArray⟩, .int p.2)
theorem litK_pps {pos : Pos} : ∀ {kvs : List (List Nat × Int)} {ks : List (Option Expr)} {vs : List Expr}, litK kvs ks vs = true → PPs X pos ks vs (trsOf kvs) ∧ ks.all (·.isSome) = true ∧ ks.length = vs.length ∧ ks.length = kvs.length
  | [], ks, vs, h => by
    simp only [litK, Bool.and_eq_true, List.isEmpty_iff] at h
    obtain ⟨rfl, rfl⟩ := h
    exact ⟨pps_nil, rfl, rfl, rfl⟩
  | (k, v) :: kvs, ks, vs, h => by
    unfold litK at h
    split at h
    · rename_i e
      cases e
    · rename_i e
      cases e
      simp only [Bool.and_eq_true, decide_eq_true_eq] at h
      obtain ⟨⟨rfl, rfl⟩, h⟩ := h
      obtain ⟨h1, h2, h3, h4⟩ := litK_pps h
      exact ⟨pps_cons pe_str pe_int h1, by simpa using h2, by simp [h3], by simp [h4]⟩
    · cases h
theorem tp_lit {σ : L2.St} : ∀ (kvs : List (List Nat × Int)) (H : Hp) (Q : List (V × V) → Hp → Prop), Q ((pairs kvs).map fun kv => (kV kv.1, kv.2)) H → tPairs (trsOf kvs) σ H Q
  | [], H, Q, q => q
  | p :: kvs, H, Q, q => tp_lit kvs H _ q
theorem merge_app : ∀ (l acc : List (Key × V)), (acc ++ l).map (·.1) |>.Nodup → mergeK acc l = acc ++ l
  | [], acc, _ => by simp [mergeK]
  | p :: l, acc, h => by
    have hk : p.1 ∉ acc.map (·.1) := fun hm => by
      rw [List.map_append] at h
      exact (List.nodup_append.mp h).2.2 _ hm _ (by simp) rfl
    have e : putK acc p.1 p.2 = acc ++ [p] := by
      unfold putK
      rw [if_neg]
      intro hh
      obtain ⟨x, hx, he⟩ := List.any_eq_true.mp hh
      exact hk (List.mem_map.mpr ⟨x, hx, of_decide_eq_true he⟩)
    show mergeK (putK acc p.1 p.2) l = _
    rw [e, merge_app l (acc ++ [p]) (by simpa using h)]
    simp
theorem rep_lits : ∀ kvs : List (List Nat × Int), RepL g Φ H ρ (kvs.map fun p => D.int p.2) (kvs.map fun p => V.int p.2) []
  | [] => by simp [RepL]
  | p :: kvs => by
    simp only [List.map_cons, RepL]
    exact ⟨_, _, [], [], rfl, rfl, rep_int, rep_lits kvs⟩
theorem zip_pairs : ∀ kvs : List (List Nat × Int), (kvs.map fun p => ((.inr ⟨p.1.toArray⟩, .int p.2) : Key × V)) = (kvs.map fun p => (.inr ⟨p.1.toArray⟩ : Key)).zip (kvs.map fun p => V.int p.2)
  | [] => rfl
  | p :: kvs => by simp only [List.map_cons, List.zip_cons_cons, zip_pairs kvs]
theorem dlit_to {kvs : List (List Nat × Int)} (hl : kvs.length ≤ 15) (hn : (keysOf kvs).Nodup) (h : EvR g E (ret (.dc .own (.k (keysOf kvs)) (kvs.map fun p => .int p.2))) σ H Q) : tDisp (trsOf kvs) σ H Q := by
  obtain ⟨Φ, ρ, s, fs, F, r, k, hm, p⟩ := h
  cases ret_some hm
  intro q hq
  refine tp_lit kvs _ _ ⟨upd_same, pairs kvs, rfl, by simpa [pairs] using hl, ?_⟩
  have ek : (pairs kvs).map (·.1) = keysOf kvs := by simp [pairs, keysOf, Function.comp_def]
  rw [merge_app (pairs kvs) [] (by simpa [ek] using hn), List.nil_append]
  have eo : upd (upd H q (.dK [])) q (.dK (pairs kvs)) = upd H q (.dK (pairs kvs)) := by
    funext a
    by_cases e : a = q
    · subst e; rw [upd_same, upd_same]
    · rw [upd_ne e, upd_ne e, upd_ne e]
  rw [eo]
  have ez : pairs kvs = (keysOf kvs).zip (kvs.map fun p => V.int p.2) := by
    unfold pairs keysOf
    exact zip_pairs kvs
  obtain ⟨k2, st2, nf, np⟩ := k.lay (o := (KS.k (keysOf kvs)).ho (kvs.map fun p => V.int p.2)) hq pln_ho
  rw [ez]
  refine p _ _ ρ (.ref q) [q] fs st2 k2 ⟨?_, by simp, fun a ha => by rw [List.mem_singleton.mp ha]; exact nf⟩
  simp only [Rep]
  exact ⟨q, _, rfl, upd_same, np, rfl, by simp [KS.len, keysOf], rep_lits kvs⟩
end
end Den
/-! DenP: looked at alone; an item appended with what is its own; items lent by a loop. -/
namespace Den
open PySem PySem.Spec L2
section
variable {g : Gx} {E : XK} {X : Cx} {pr : List Nat} {Φ Φ1 Φ' H H1 H' : Hp} {ρ ρ1 ρ' : List Addr} {F F1 : Addr → Prop} {σ : L2.St} {s : S} {fs : Ix → List Addr} {Q : VK} {D0 : Ends}
theorem pkS_get (is : List Nat) : ∀ (sl : List (Option D)) (j k : Nat), (pkS is j sl)[k]? = (sl[k]?).map (pkD is (j + k))
  | [], j, k => by simp [pkS]
  | o :: sl, j, 0 => by simp [pkS]
  | o :: sl, j, k + 1 => by
    simp only [pkS, List.getElem?_cons_succ]
    rw [pkS_get is sl (j + 1) k, show j + 1 + k = j + (k + 1) by omega]
theorem pkS_len (is : List Nat) : ∀ (sl : List (Option D)) (j : Nat), (pkS is j sl).length = sl.length
  | [], j => rfl
  | o :: sl, j => by simp only [pkS, List.length_cons, pkS_len is sl]
theorem pkOk_get (is : List Nat) : ∀ (sl : List (Option D)) (j k : Nat) (d : D), pkOk is j sl = true → sl[k]? = some (some d) → j + k ∈ is → noDc d = true
  | [], j, k, d, h, q, m => by simp at q
  | o :: sl, j, 0, d, h, q, m => by
    simp only [List.getElem?_cons_zero, Option.some.injEq] at q
    subst q
    simp only [pkOk, Bool.and_eq_true, Bool.or_eq_true, Bool.not_eq_true', decide_eq_false_iff_not] at h
    rcases h.1 with z | z
    · exact absurd m z
    · exact z
  | o :: sl, j, k + 1, d, h, q, m => by
    simp only [List.getElem?_cons_succ] at q
    simp only [pkOk, Bool.and_eq_true] at h
    exact pkOk_get is sl (j + 1) k d h.2 q (by rw [show j + 1 + k = j + (k + 1) by omega]; exact m)
mutual
theorem Rep.noDc : ∀ (d : D) (v : V) (f : List Addr), noDc d = true → Rep g Φ H ρ d v f → ∀ a ∈ f, ∃ vs, H a = some (.lst vs)
  | .non, _, _, _, h => by simp only [Rep] at h; rw [h.2]; exact fun a q => by cases q
  | .bl b, _, _, _, h => by simp only [Rep] at h; rw [h.2]; exact fun a q => by cases q
  | .int i, _, _, _, h => by simp only [Rep] at h; rw [h.2]; exact fun a q => by cases q
  | .str s, _, _, _, h => by simp only [Rep] at h; rw [h.2]; exact fun a q => by cases q
  | .tup ds, _, f, n, h => by
    simp only [Rep] at h
    obtain ⟨a, vs, ev, t, r⟩ := h
    exact RepL.noDc ds vs f n r
  | .lst .own ds, _, f, n, h => by
    simp only [Rep] at h
    obtain ⟨a, vs, f', ev, t, _, rfl, r⟩ := h
    intro b hb
    rcases List.mem_cons.mp hb with rfl | hb
    · exact ⟨_, t⟩
    · exact RepL.noDc ds vs f' n r b hb
  | .lst .fz ds, _, f, _, h => by
    simp only [Rep] at h
    obtain ⟨a, vs, ev, t, rfl, r⟩ := h
    exact fun a q => by cases q
  | .lst .ro ds, _, f, _, h => by
    simp only [Rep] at h
    obtain ⟨a, vs, ev, t, rfl, r⟩ := h
    exact fun a q => by cases q
  | .obj n, _, _, _, h => by
    simp only [Rep] at h
    obtain ⟨a, q, _, rfl⟩ := h
    exact fun a q => by cases q
  | .kt ks, _, _, _, h => by
    simp only [Rep] at h
    obtain ⟨a, q, _, rfl⟩ := h
    exact fun a q => by cases q
  | .dc _ ks ds, _, f, n, h => by simp [Den.noDc] at n
  | .lam k, _, _, _, h => by
    simp only [Rep] at h
    obtain ⟨a, q, _, rfl⟩ := h
    exact fun a q => by cases q
  | .any, _, _, _, h => by simp only [Rep] at h; rw [h.2]; exact fun a q => by cases q
theorem RepL.noDc : ∀ (ds : List D) (vs : List V) (f : List Addr), noDcL ds = true → RepL g Φ H ρ ds vs f → ∀ a ∈ f, ∃ vs, H a = some (.lst vs)
  | [], _, _, _, h => by simp only [RepL] at h; rw [h.2]; exact fun a q => by cases q
  | d :: ds, _, f, n, h => by
    simp only [RepL] at h
    simp only [noDcL, Bool.and_eq_true] at n
    obtain ⟨v, vs', f1, f2, e1, rfl, r1, r2⟩ := h
    intro a ha
    rcases List.mem_append.mp ha with ha | ha
    · exact Rep.noDc d v f1 n.1 r1 a ha
    · exact RepL.noDc ds vs' f2 n.2 r2 a ha
end
theorem Rep.flat {d : D} {v : V} {f : List Addr} (hd : flatD d = true) (h : Rep g Φ H ρ d v f) : f = [] ∧ ∀ Φ' H' ρ', Rep g Φ' H' ρ' d v [] := by
  cases d with
  | non => simp only [Rep] at h ⊢; exact ⟨h.2, fun _ _ _ => ⟨h.1, trivial⟩⟩
  | bl _ => simp only [Rep] at h ⊢; exact ⟨h.2, fun _ _ _ => ⟨h.1, trivial⟩⟩
  | int _ => simp only [Rep] at h ⊢; exact ⟨h.2, fun _ _ _ => ⟨h.1, trivial⟩⟩
  | str _ => simp only [Rep] at h ⊢; exact ⟨h.2, fun _ _ _ => ⟨h.1, trivial⟩⟩
  | _ => simp [flatD] at hd
open Classical in
/-- what was shared for the time is so no more -/
noncomputable def unfP (Φ : Hp) (f : List Addr) : Hp := fun a => if a ∈ f then none else Φ a
theorem Ok.peek {is : List Nat} (k : Ok g Φ H ρ s σ fs F) (ho : s.os = []) (hp : pkOk is 0 s.sl = true) :
    ∃ Φ1 F1, Stp Φ H ρ F Φ1 H ρ ∧ (∀ a, F a → F1 a) ∧ Ok g Φ1 H ρ ⟨pkS is 0 s.sl, []⟩ σ (fun _ => []) F1 ∧
      ∀ Φ' H' ρ' s' fs' F2, Stp Φ1 H ρ F1 Φ' H' ρ' → Ok g Φ' H' ρ' s' σ fs' F2 → ∃ Φ2, Stp Φ H ρ F Φ2 H' ρ ∧ Ok g Φ2 H' ρ s σ fs F := by
  have mf : ∀ a, a ∈ (is.flatMap fun j => fs (.inl j)) ↔ ∃ j ∈ is, a ∈ fs (.inl j) := fun a => List.mem_flatMap
  generalize (is.flatMap fun j => fs (.inl j)) = f at mf
  have hn : ∀ a ∈ f, Φ a = none := fun a ha => by
    obtain ⟨j, _, hj⟩ := (mf a).mp ha
    exact (k.at _ a hj).1
  have hl : ∀ a ∈ f, ∃ vs, H a = some (.lst vs) := fun a ha => by
    obtain ⟨j, hj, hm⟩ := (mf a).mp ha
    by_cases q : ∃ d, s.sl[j]? = some (some d)
    · obtain ⟨d, q⟩ := q
      obtain ⟨v, _, r⟩ := k.slot j d q
      exact Rep.noDc d v _ (pkOk_get is _ 0 j d hp q (by simpa using hj)) r a hm
    · rw [k.slot0 j fun d e => q ⟨d, e⟩] at hm; cases hm
  have fo : ∀ a, F a → a ∉ f := fun a ha hf => by
    obtain ⟨j, _, hm⟩ := (mf a).mp hf
    exact k.out _ a hm ha
  have fo2 : ∀ j a, j ∉ is → a ∈ fs (.inl j) → a ∉ f := fun j a hj ha hf => by
    obtain ⟨j', hj', hm⟩ := (mf a).mp hf
    have e := k.sep _ _ a ha hm
    cases e
    exact hj hj'
  have ex1 : Ext Φ (frzP Φ H f) := frzP_ext hn
  refine ⟨frzP Φ H f, fun a => F a ∨ ∃ j, j ∉ is ∧ a ∈ fs (.inl j), frz_stp hn (fun a ha hF => fo a hF ha) k.nF, fun a h => .inl h, ?_, ?_⟩
  · refine ⟨frzP_sub k.sub fun a ha ps z => ?_, k.tab, fun a ha => ?_, ?_, fun j d q => ?_, fun _ _ => rfl, ?_, fun n o q => (by simp at q), fun _ _ => rfl, fun _ => List.nodup_nil, fun x y a h _ => (by cases h), fun x a h => (by cases h)⟩
    · obtain ⟨vs, e⟩ := hl a ha
      rw [e] at z; cases z
    · rcases ha with ha | ⟨j, hj, ha⟩
      · exact ⟨by rw [frzP_out (fo a ha)]; exact (k.fr a ha).1, (k.fr a ha).2⟩
      · exact ⟨by rw [frzP_out (fo2 j a hj ha)]; exact (k.at _ a ha).1, (k.at _ a ha).2⟩
    · show (pkS is 0 s.sl).length = σ.length
      rw [pkS_len]; exact k.len
    · have q : (pkS is 0 s.sl)[j]? = some (some d) := q
      rw [pkS_get] at q
      obtain ⟨o, e0, hd⟩ := Option.map_eq_some_iff.mp q
      cases o with
      | none => simp [pkD] at hd
      | some d0 =>
        obtain ⟨v, e1, r⟩ := k.slot j d0 e0
        refine ⟨v, e1, ?_⟩
        simp only [pkD, Nat.zero_add] at hd
        split at hd
        · rename_i hj
          cases hd
          exact Rep.fz ex1 d0 v _ (fun a ha => frzP_in ((mf a).mpr ⟨j, hj, ha⟩)) r
        · split at hd
          · rename_i hfl
            cases hd
            exact (r.flat hfl).2 _ _ _
          · cases hd
    · have := k.obl
      rw [ho] at this
      exact this
  · intro Φ' H' ρ' s' fs' F2 st ok
    have p1 : ∀ {a}, a ∈ f → unfP Φ' f a = none := fun h => if_pos h
    have p2 : ∀ {a}, a ∉ f → unfP Φ' f a = Φ' a := fun h => if_neg h
    have e2 : Ext Φ (unfP Φ' f) := fun a u h => by
      have na : a ∉ f := fun z => by rw [hn a z] at h; cases h
      rw [p2 na]
      exact st.ext a u (by rw [frzP_out na]; exact h)
    have sb2 : Sub (unfP Φ' f) H' := fun a u h => by
      by_cases z : a ∈ f
      · rw [p1 z] at h; cases h
      · rw [p2 z] at h; exact ok.sub a u h
    have h2 : ∀ a, (F a ∨ ∃ x, a ∈ fs x) → H' a = H a ∧ unfP Φ' f a = none := fun a ha => by
      rcases ha with ha | ⟨x, ha⟩
      · have := st.frm a (.inl ha)
        exact ⟨this.1, by rw [p2 (fo a ha)]; exact this.2⟩
      · cases x with
        | inl j =>
          by_cases hj : j ∈ is
          · have hf : a ∈ f := (mf a).mpr ⟨j, hj, ha⟩
            obtain ⟨vs, e⟩ := hl a hf
            have q : frzP Φ H f a = some (.lst vs) := by rw [frzP_in hf]; exact e
            exact ⟨by rw [sub_lst ok.sub (st.ext _ _ q), e], p1 hf⟩
          · have := st.frm a (.inr ⟨j, hj, ha⟩)
            exact ⟨this.1, by rw [p2 (fo2 j a hj ha)]; exact this.2⟩
        | inr n =>
          rw [k.obj0 n (by rw [ho]; exact Nat.zero_le _)] at ha; cases ha
    exact ⟨_, ⟨e2, List.prefix_refl _, fun a ha => h2 a (.inl ha)⟩, k.over e2 sb2 ok.tab h2⟩
theorem pk_ev {is : List Nat} {m : M D} (h : EvR g E (pkM is m) σ H Q) : EvR g E m σ H Q := by
  obtain ⟨Φ, ρ, s, fs, F, r, k, hm, p⟩ := h
  unfold pkM at hm
  split at hm
  · rename_i hc
    simp only [Bool.and_eq_true, List.isEmpty_iff] at hc
    obtain ⟨Φ1, F1, st1, hF, k1, back⟩ := k.peek hc.1 hc.2
    split at hm
    · rename_i d s' h1
      split at hm
      · rename_i hfl
        cases hm
        refine EvR.val k1 h1 fun Φ' H' ρ' v f fs' st ok vl => ?_
        obtain ⟨Φ2, st2, ok2⟩ := back _ _ _ _ _ _ st ok
        obtain ⟨e, rr⟩ := vl.rep.flat hfl
        exact p Φ2 H' ρ v [] fs st2 ok2.nof ⟨rr _ _ _, List.nodup_nil, fun a ha => by cases ha⟩
      · cases hm
    · rename_i x h1
      cases hm
      exact EvR.exc k1 h1 (PX.shift p st1 hF)
    · cases hm
  · cases hm
theorem pk_tt {is : List Nat} {m : M D} {Q : Bool → Hp → Prop} (h : TtR g E (pkM is m) σ H Q) : TtR g E m σ H Q := by
  obtain ⟨Φ, ρ, s, fs, F, r, k, hm, p⟩ := h
  unfold pkM at hm
  split at hm
  · rename_i hc
    simp only [Bool.and_eq_true, List.isEmpty_iff] at hc
    obtain ⟨Φ1, F1, st1, hF, k1, back⟩ := k.peek hc.1 hc.2
    split at hm
    · rename_i d s' h1
      split at hm
      · rename_i hfl
        cases hm
        obtain ⟨b, rfl, q⟩ := p
        refine TtR.val k1 h1 fun Φ' H' ρ' fs' st ok => ?_
        obtain ⟨Φ2, st2, ok2⟩ := back _ _ _ _ _ _ st ok
        exact q _ _ _ _ st2 ok2
      · cases hm
    · rename_i x h1
      cases hm
      exact TtR.exc k1 h1 (PX.shift p st1 hF)
    · cases hm
  · cases hm
theorem app_to {i : Nat} {me : M D} (hK : X.K = g.K) (h : EvR g E (bnd (grd (isLst i)) fun _ => bnd me fun d => appM i d) σ H Q) :
    tBM X.K "list" rAppend (tVar i) (tCons (EvR g E me) tNil) σ H Q := by
  obtain ⟨Φ, ρ, s, fs, F, r, k, hm, p⟩ := h
  rcases bnd_some hm with ⟨⟨⟩, s1, h1, h2⟩ | ⟨x, h1, e⟩
  · unfold grd at h1
    split at h1
    · rename_i hl
      cases h1
      obtain ⟨o, ds, q⟩ := isLst_some hl
      obtain ⟨v, e1, rv⟩ := k.slot i _ q
      refine ⟨v, e1, ?_⟩
      obtain ⟨a, vs, rfl, t⟩ := rep_list k.sub (d := .lst o ds) rfl rv
      refine ⟨.inl ⟨rfl, vs, by rw [hK]; exact t⟩, ?_⟩
      rcases bnd_some h2 with ⟨d, s2, h3, h4⟩ | ⟨x, h3, rfl⟩
      · refine EvR.val k h3 fun Φ1 H1 ρ1 w f2 fs1 st1 k1 vl1 => ?_
        unfold appM at h4
        split at h4
        · rename_i es q1
          split at h4
          · rename_i hz
            cases h4
            obtain ⟨v', e1', vlo, k2⟩ := k1.take q1
            rw [e1] at e1'
            cases e1'
            have hi : i < s2.sl.length := (List.getElem?_eq_some_iff.mp q1).1
            obtain ⟨rr, nd, out⟩ := vlo
            simp only [Rep] at rr
            obtain ⟨a', vs2, f', ea, ha, na, ef, rl⟩ := rr
            cases ea
            rw [ef] at nd out k2
            have nd' := List.nodup_cons.mp nd
            have a2 : a ∉ f2 := fun z => out a List.mem_cons_self (.inl z)
            refine ⟨a, vs2, w, rfl, rfl, ha, by rw [RepL.len _ _ _ rl]; exact Nat.lt_of_lt_of_le hz lim_le, ?_⟩
            have k3 := k2.wr (o := .lst (vs2 ++ [w])) List.mem_cons_self ha pln_lst pln_lst
            have k4 : Ok g Φ1 (upd H1 a (.lst (vs2 ++ [w]))) ρ1 { s2 with sl := s2.sl.set i none } σ (updI fs1 (.inl i) []) (fadd (a :: (f' ++ f2)) F) := k3.less fun b hb => by
              rcases hb with hb | hb
              · rcases List.mem_cons.mp hb with rfl | hb
                · exact .inl List.mem_cons_self
                · rcases List.mem_append.mp hb with hb | hb
                  · exact .inl (List.mem_cons_of_mem _ hb)
                  · exact .inr (.inl hb)
              · exact .inr (.inr hb)
            have vl : Vl g Φ1 (upd H1 a (.lst (vs2 ++ [w]))) ρ1 (.lst .own (es ++ [d])) (.ref a) (a :: (f' ++ f2)) F := by
              refine ⟨?_, List.nodup_cons.mpr ⟨fun z => ?_, List.nodup_append.mpr ⟨nd'.2, vl1.nd, fun b hb c hc e => ?_⟩⟩, fun b hb z => ?_⟩
              · simp only [Rep]
                refine ⟨a, vs2 ++ [w], f' ++ f2, rfl, upd_same, na, rfl, ?_⟩
                refine RepL.app es [d] vs2 [w] f' f2 (rl.out fun b hb => upd_ne fun z => nd'.1 (z ▸ hb)) ?_
                simp only [RepL]
                exact ⟨w, [], f2, [], rfl, (List.append_nil _).symm, vl1.rep.out fun b hb => upd_ne fun z => a2 (z ▸ hb), rfl, rfl⟩
              · rcases List.mem_append.mp z with z | z
                · exact nd'.1 z
                · exact a2 z
              · subst e
                exact out b (List.mem_cons_of_mem _ hb) (.inl hc)
              · rcases List.mem_cons.mp hb with rfl | hb
                · exact out b List.mem_cons_self (.inr z)
                · rcases List.mem_append.mp hb with hb | hb
                  · exact out b (List.mem_cons_of_mem _ hb) (.inr z)
                  · exact vl1.out b hb z
            have k5 := k4.put (i := i) vl (by simpa using hi) e1
            simp only [List.set_set] at k5
            exact p _ _ ρ1 .non [] _ (st1.trans (wr_stp k5.nF fun z => out a List.mem_cons_self (.inr z)) fun _ h => h) k5.nof ⟨rep_non, List.nodup_nil, fun c hc => by cases hc⟩
          · cases h4
        · cases h4
      · exact EvR.exc k h3 p
    · cases h1
  · unfold grd at h1
    split at h1 <;> cases h1
theorem lend_to {x i : Nat} {b : S → Option Rs} (hK : X.K = g.K) (hx : x ∉ pr) (hxi : x ≠ i) (h : ExR g E pr (forBM b x i) D0 σ H) :
    tFor (iSeq X.K (tVar i)) (gName x) (ExR g E (x :: i :: pr) b) D0 σ H := by
  obtain ⟨Φ, ρ, s, fs, F, r, k, hm, p⟩ := h
  unfold forBM at hm
  split at hm
  · rename_i es q
    split at hm
    · rename_i es' s' hl
      split at hm
      · rename_i hi'
        cases hm
        obtain ⟨v, e1, vl, k2⟩ := k.take q
        obtain ⟨rr, nd, out⟩ := vl
        simp only [Rep] at rr
        obtain ⟨a, vs, f', rfl, ha, na, ef, rl⟩ := rr
        rw [ef] at nd out k2
        have hlen := RepL.len _ _ _ rl
        refine ⟨.ref a, e1, .inr ⟨a, rfl, .inl ⟨vs, SqL.of ha, ?_⟩⟩⟩
        refine ⟨fun j m σ2 H2 => m = es.length - j ∧ j ≤ es.length ∧ ∃ Φ2 ρ2 s2 fs2 acc fa fr, Stp Φ H ρ F Φ2 H2 ρ2 ∧ PrOk pr σ σ2 ∧ σ2[i]? = some (some (.ref a)) ∧ H2 a = some (.lst vs) ∧
            Ok g Φ2 H2 ρ2 s2 σ2 fs2 (fadd (a :: (fa ++ fr)) F) ∧ RepL g Φ2 H2 ρ2 acc (vs.take j) fa ∧ RepL g Φ2 H2 ρ2 (es.drop j) (vs.drop j) fr ∧ (a :: (fa ++ fr)).Nodup ∧ (∀ c ∈ a :: (fa ++ fr), ¬ F c) ∧ lendGo b x (es.drop j) acc s2 = some (es', s'),
          ⟨es.length, by simp, Nat.zero_le _, Φ, ρ, _, _, [], [], f', Stp.refl k.nF, .refl, e1, ha, k2, by simp [RepL], by simpa using rl, nd, out, by simpa [setS] using hl⟩, ?_⟩
        rintro j m σ2 H2 ⟨rfl, hj, Φ2, ρ2, s2, fs2, acc, fa, fr, st2, pk2, ei, ha2, k2, ra, rr, nd2, out2, hg⟩
        have na2 : Φ2 a = none := (k2.fr a (.inl List.mem_cons_self)).1
        by_cases hlt : j < es.length
        · have hltv : j < vs.length := by rw [hlen]; exact hlt
          rw [List.drop_eq_getElem_cons hlt] at hg rr
          rw [List.drop_eq_getElem_cons hltv] at rr
          simp only [RepL] at rr
          obtain ⟨v, vs', f1, f2, ev, rfl, r1, r2⟩ := rr
          cases ev
          simp only [lendGo] at hg
          split at hg
          · rename_i hxl
            split at hg
            · rename_i s4 hb
              split at hg
              · rename_i e' q4
                refine .inr ⟨⟨vs, vs[j], SqL.of ha2, List.getElem?_eq_getElem hltv⟩, fun σ3 H3 => ∃ Φ2 ρ2 s2 fs2 acc fa fr, Stp Φ H ρ F Φ2 H3 ρ2 ∧ PrOk pr σ σ3 ∧ σ3[i]? = some (some (.ref a)) ∧ H3 a = some (.lst vs) ∧
                  Ok g Φ2 H3 ρ2 s2 σ3 fs2 (fadd (a :: (fa ++ fr)) F) ∧ RepL g Φ2 H3 ρ2 acc (vs.take (j + 1)) fa ∧ RepL g Φ2 H3 ρ2 (es.drop (j + 1)) (vs.drop (j + 1)) fr ∧ (a :: (fa ++ fr)).Nodup ∧ (∀ c ∈ a :: (fa ++ fr), ¬ F c) ∧ lendGo b x (es.drop (j + 1)) acc s2 = some (es', s'),
                  fun σ' H' h => ⟨es.length - (j + 1), by omega, rfl, hlt, h⟩, fun y H3 hy => ?_⟩
                obtain ⟨rfl, hy⟩ := hy
                have hy1 := hy vs (SqL.of ha2)
                rw [List.getElem?_eq_getElem hltv] at hy1
                cases hy1
                have ndc := List.nodup_cons.mp nd2
                obtain ⟨n1, n2, n3⟩ := List.nodup_append.mp ndc.2
                obtain ⟨m1, m2, m3⟩ := List.nodup_append.mp n2
                have k2' : Ok g Φ2 H3 ρ2 s2 σ2 fs2 (fadd f1 (fadd (a :: (fa ++ f2)) F)) := k2.less fun c hc => by
                  rcases hc with hc | hc | hc
                  · exact .inl (List.mem_cons_of_mem _ (List.mem_append_right _ (List.mem_append_left _ hc)))
                  · rcases List.mem_cons.mp hc with rfl | hc
                    · exact .inl List.mem_cons_self
                    · rcases List.mem_append.mp hc with hc | hc
                      · exact .inl (List.mem_cons_of_mem _ (List.mem_append_left _ hc))
                      · exact .inl (List.mem_cons_of_mem _ (List.mem_append_right _ (List.mem_append_right _ hc)))
                  · exact .inr hc
                have vl1 : Vl g Φ2 H3 ρ2 es[j] vs[j] f1 (fadd (a :: (fa ++ f2)) F) := ⟨r1, m1, fun c hc z => by
                  rcases z with z | z
                  · rcases List.mem_cons.mp z with rfl | z
                    · exact ndc.1 (List.mem_append_right _ (List.mem_append_left _ hc))
                    · rcases List.mem_append.mp z with z | z
                      · exact n3 c z c (List.mem_append_left _ hc) rfl
                      · exact m3 c hc c z rfl
                  · exact out2 c (List.mem_cons_of_mem _ (List.mem_append_right _ (List.mem_append_left _ hc))) z⟩
                have k3 := k2'.set (i := x) vl1 hxl
                show ExR g E (x :: i :: pr) b _ (σ2.set x (some vs[j])) H3
                refine ⟨Φ2, ρ2, _, _, _, _, k3, hb, fun Φ4 H4 ρ4 σ4 fs4 st4 pk4 k4 => ?_⟩
                obtain ⟨w, ew, vl4, k5⟩ := k4.take q4
                have hxs : x < σ2.length := by rw [← k2.len]; exact hxl
                have ew' := pk4.2 x List.mem_cons_self
                rw [ew, List.getElem?_set_self hxs] at ew'
                cases ew'
                have inF : ∀ c ∈ a :: (fa ++ f2), fadd (a :: (fa ++ f2)) F c := fun c hc => .inl hc
                refine ⟨Φ4, ρ4, setS s4 x none, _, acc ++ [e'], fa ++ fs4 (.inl x), f2, st2.trans st4 fun c hc => .inr hc, ?_, ?_, ?_, k5.less fun c hc => ?_, ?_, ?_, ?_, fun c hc z => ?_, hg⟩
                · refine pk2.trans ⟨by rw [pk4.1]; simp, fun j' hj' => ?_⟩
                  rw [pk4.2 j' (List.mem_cons_of_mem _ (List.mem_cons_of_mem _ hj'))]
                  exact List.getElem?_set_ne (fun z : x = j' => hx (by rw [z]; exact hj'))
                · rw [pk4.2 i (List.mem_cons_of_mem _ List.mem_cons_self), List.getElem?_set_ne hxi]
                  exact ei
                · rw [(st4.frm a (inF a List.mem_cons_self)).1]; exact ha2
                · rcases hc with hc | hc
                  · rcases List.mem_cons.mp hc with rfl | hc
                    · exact .inr (inF _ List.mem_cons_self)
                    · rcases List.mem_append.mp hc with hc | hc
                      · rcases List.mem_append.mp hc with hc | hc
                        · exact .inr (inF _ (List.mem_cons_of_mem _ (List.mem_append_left _ hc)))
                        · exact .inl hc
                      · exact .inr (inF _ (List.mem_cons_of_mem _ (List.mem_append_right _ hc)))
                  · exact .inr (.inr hc)
                · rw [List.take_succ, List.getElem?_eq_getElem hltv]
                  refine RepL.app acc [e'] (vs.take j) [vs[j]] fa _ (ra.stp st4 fun c hc => inF c (List.mem_cons_of_mem _ (List.mem_append_left _ hc))) ?_
                  simp only [RepL]
                  exact ⟨_, [], _, [], rfl, (List.append_nil _).symm, vl4.rep, rfl, rfl⟩
                · exact r2.stp st4 fun c hc => inF c (List.mem_cons_of_mem _ (List.mem_append_right _ hc))
                · refine List.nodup_cons.mpr ⟨fun z => ?_, List.nodup_append.mpr ⟨List.nodup_append.mpr ⟨n1, vl4.nd, fun c hc d hd e => ?_⟩, m2, fun c hc d hd e => ?_⟩⟩
                  · rcases List.mem_append.mp z with z | z
                    · rcases List.mem_append.mp z with z | z
                      · exact ndc.1 (List.mem_append_left _ z)
                      · exact vl4.out a z (inF a List.mem_cons_self)
                    · exact ndc.1 (List.mem_append_right _ (List.mem_append_right _ z))
                  · subst e
                    exact vl4.out c hd (inF c (List.mem_cons_of_mem _ (List.mem_append_left _ hc)))
                  · subst e
                    rcases List.mem_append.mp hc with hc | hc
                    · exact n3 c hc c (List.mem_append_right _ hd) rfl
                    · exact vl4.out c hc (inF c (List.mem_cons_of_mem _ (List.mem_append_right _ hd)))
                · rcases List.mem_cons.mp hc with rfl | hc
                  · exact out2 c List.mem_cons_self z
                  · rcases List.mem_append.mp hc with hc | hc
                    · rcases List.mem_append.mp hc with hc | hc
                      · exact out2 c (List.mem_cons_of_mem _ (List.mem_append_left _ hc)) z
                      · exact vl4.out c hc (.inr z)
                    · exact out2 c (List.mem_cons_of_mem _ (List.mem_append_right _ (List.mem_append_right _ hc))) z
              · cases hg
            · cases hg
          · cases hg
        · have e : j = es.length := by omega
          subst e
          rw [List.drop_length] at hg rr
          simp only [lendGo, Option.some.injEq, Prod.mk.injEq] at hg
          obtain ⟨rfl, rfl⟩ := hg
          simp only [RepL] at rr
          obtain ⟨_, rfl⟩ := rr
          rw [List.append_nil] at k2 nd2 out2
          rw [show vs.take es.length = vs by rw [← hlen]; exact List.take_length] at ra
          refine .inl ⟨⟨vs, SqL.of ha2, by rw [hlen]; exact Nat.le_refl _⟩, ?_⟩
          have vl : Vl g Φ2 H2 ρ2 (.lst .own acc) (.ref a) (a :: fa) F := ⟨by
            simp only [Rep]
            exact ⟨a, vs, fa, rfl, ha2, na2, rfl, ra⟩, nd2, out2⟩
          exact p _ _ _ σ2 _ st2 pk2 (k2.put (i := i) vl hi' ei)
      · cases hm
    · cases hm
  · cases hm
end
end Den
/-! Den14: does a core text stand for a tree. -/
namespace Den
open PySem PySem.Spec L2
structure Ck where
  N : List Str
  sc : Scope
  pr : List Nat
  bs : Option Scope
  lm : Bool
  /-- the def's lambdas may be made here; their core texts; exceptions may be raised -/
  lw : Bool
  LB : List C
  ex : Bool
def visB (c : Ck) (i : Nat) (x : Str) : Bool := decide (c.N[i]? = some x) && (match c.sc.names.lookup x with
  | some .local => true
  | some .cell => true
  | some .free => true
  | _ => false) && !(x == ("__debug__" : Str)) && !(x == ("__classdict__" : Str))
def glB (c : Ck) (x : Str) : Bool := decide (c.sc.names.lookup x = some .globalImplicit) && !(x == ("__debug__" : Str))
def fnB (c : Ck) (x : Str) : Bool := match c.bs with
  | none => true
  | some sc => sc.names.lookup x == some .cell
def locB (c : Ck) (i : Nat) (x : Str) : Bool := decide (c.N[i]? = some x) && (decide (c.sc.names.lookup x = some .local) || (decide (c.sc.names.lookup x = some .cell) && fnB c x))
def cstB : D → Expr → Bool
  | .int i, .Constant (.int j) _ _ => decide (i = j)
  | .str s, .Constant (.str x) _ _ => decide (x = ⟨s.toArray⟩)
  | .bl b, .Constant (.bool x) _ _ => b == x
  | .non, .Constant .none _ _ => true
  | _, _ => false
def binB : Op2 → Operator → Bool
  | .add, .Add => true
  | .sub, .Sub => true
  | .mul, .Mult => true
  | .fdiv, .FloorDiv => true
  | .mod, .Mod => true
  | .pow, .Pow => true
  | _, _ => false
def cmpB : Op2 → CmpOp → Bool
  | .eq, .Eq => true
  | .ne, .NotEq => true
  | .lt, .Lt => true
  | .le, .LtE => true
  | .gt, .Gt => true
  | .ge, .GtE => true
  | .isin, .In => true
  | .notin, .NotIn => true
  | _, _ => false
def ginB : Bool → CmpOp → Bool
  | false, .In => true
  | true, .NotIn => true
  | _, _ => false
def plainIx : Expr → Bool
  | .Slice _ _ _ _ => false
  | _ => true
def plainT : Expr → Bool
  | .Call _ _ _ _ => true
  | .Name _ _ => true
  | .Subscript _ _ _ => true
  | _ => false
def tyL : List String := ["bool", "int", "str", "dict", "tuple", "list"]
def biN : Bi → Str
  | .len => "len"
  | .abs => "abs"
  | .max2 => "max"
  | .min2 => "min"
  | .maxL => "max"
  | .int1 => "int"
  | .tuple1 => "tuple"
  | .list1 => "list"
  | .sorted1 => "sorted"
  | .all1 => "all"
  | .sortedP => "sorted"
  | .sum1 => "sum"
  | .str1 => "str"
def muN : Mu → Str
  | .append => "append"
  | .pop0 => "pop"
  | .pop1 => "pop"
  | .remove => "remove"
def noSuper : Expr → Bool
  | .Call _ (_ :: _) _ _ => true
  | .Call _ _ _ _ => false
  | _ => true
def noSetD : Expr → Bool
  | .Set _ _ _ => false
  | _ => true
def ownN (c : Ck) (own : List Nat) : List (Str × Nat) := own.map fun i => ((c.N[i]?).getD "", i)
def blkCk (c : Ck) (sc : Scope) : Ck := ⟨c.N, relS sc c.sc, c.pr, some sc, c.lm, false, [], c.ex⟩
def scB (N P : List Str) (sc : Scope) : Bool := (match sc.kind with
  | .function => true
  | _ => false) && (sc.isCoroutine == false) && (sc.isGenerator == false) && decide (N.Nodup ∧ N.take P.length = P) && (P.all fun y => match sc.names.lookup y with
  | some .local => true
  | some .cell => true
  | _ => false) && (sc.names.all fun y => match y.2 with
  | .free => false
  | _ => true)
def parB (y : Str) : Arguments → Bool
  | ⟨[], [⟨z, none, _⟩], none, [], [], none, []⟩ => decide (z = y) && decide (y = ("some" : Str))
  | _ => false
/-- where a lambda's body stands -/
def lamCk (c : Ck) (sc : Scope) : Ck := ⟨c.N, sc, c.pr, none, false, false, [], c.ex⟩
def parY : Arguments → Option Str
  | ⟨_, y :: _, _, _, _, _, _⟩ => some y.arg
  | _ => none
def parOk : Arguments → Bool
  | ⟨[], [], none, [], [], none, []⟩ => true
  | ⟨[], [⟨_, none, _⟩], none, [], [], none, [.Constant (.int _) _ _]⟩ => true
  | _ => false
theorem parOk_ok {p : Arguments} (h : parOk p = true) : ExW.Par p (parY p) := by
  unfold parOk at h
  split at h
  · exact .no
  · exact .one _ _ _ _ _
  · cases h
def eqDs : D → D → Bool
  | .non, .non => true
  | .bl a, .bl b => a == b
  | .int a, .int b => decide (a = b)
  | .str a, .str b => decide (a = b)
  | _, _ => false
theorem eqDs_ok {a b : D} (h : eqDs a b = true) : a = b := by
  unfold eqDs at h
  split at h
  · rfl
  · rw [eq_of_beq h]
  · rw [of_decide_eq_true h]
  · rw [of_decide_eq_true h]
  · cases h
mutual
/-- the same core text (of the few forms that lambdas have) -/
def eqC : C → C → Bool
  | .cst a, b => match b with | .cst b => eqDs a b | _ => false
  | .var i, b => match b with | .var j => decide (i = j) | _ => false
  | .neg a, b => match b with | .neg b => eqC a b | _ => false
  | .op2 o a a', b => match b with | .op2 o' b b' => decide (o = o') && eqC a b && eqC a' b' | _ => false
  | .tup as, b => match b with | .tup bs => eqCs as bs | _ => false
  | .cal f as, b => match b with | .cal f' bs => decide (f = f') && eqCs as bs | _ => false
  | _, _ => false
termination_by structural a => a
def eqCs : Cs → Cs → Bool
  | .nil, b => match b with | .nil => true | _ => false
  | .cons a as, b => match b with | .cons b bs => eqC a b && eqCs as bs | _ => false
termination_by structural a => a
end
mutual
theorem eqC_ok : ∀ (a b : C), eqC a b = true → a = b
  | .cst a, b, h => by unfold eqC at h; split at h <;> first | (rw [eqDs_ok h]) | cases h
  | .var i, b, h => by unfold eqC at h; split at h <;> first | (rw [of_decide_eq_true h]) | cases h
  | .neg a, b, h => by unfold eqC at h; split at h <;> first | (rw [eqC_ok a _ h]) | cases h
  | .op2 o a a', b, h => by
    unfold eqC at h; split at h
    · simp only [Bool.and_eq_true, decide_eq_true_eq] at h
      rw [h.1.1, eqC_ok a _ h.1.2, eqC_ok a' _ h.2]
    · cases h
  | .tup as, b, h => by unfold eqC at h; split at h <;> first | (rw [eqCs_ok as _ h]) | cases h
  | .cal f as, b, h => by
    unfold eqC at h; split at h
    · simp only [Bool.and_eq_true, decide_eq_true_eq] at h
      rw [h.1, eqCs_ok as _ h.2]
    · cases h
  | .bad, b, h | .lenSet _, b, h | .dlit _, b, h | .glo _, b, h | .mv _, b, h | .not _, b, h | .isN _, b, h | .notN _, b, h | .and _ _, b, h | .or _ _, b, h | .chain _ _ _ _ _, b, h | .ite _ _ _, b, h | .lst _, b, h | .idx _ _, b, h | .slc _ _ _, b, h | .bi _ _, b, h | .isi _ _, b, h | .tupRg _, b, h | .lstRg _, b, h | .srtSet _, b, h | .srtKey _, b, h | .mth _ _ _, b, h | .mut _ _ _, b, h | .dnew _, b, h | .ktup _, b, h | .dget _ _ _, b, h | .didx _ _, b, h | .dlEq _ _, b, h | .dlIn _ _, b, h | .mutA _ _ _, b, h | .lc _ _ _ _ _, b, h | .lam _ _, b, h | .lcl _, b, h | .rfs _ _, b, h | .gin _ _, b, h | .gix _, b, h | .pk _ _, b, h | .app _ _, b, h => by unfold eqC at h; cases h
theorem eqCs_ok : ∀ (a b : Cs), eqCs a b = true → a = b
  | .nil, b, h => by unfold eqCs at h; split at h <;> first | rfl | cases h
  | .cons a as, b, h => by
    unfold eqCs at h; split at h
    · simp only [Bool.and_eq_true] at h
      rw [eqC_ok a _ h.1, eqCs_ok as _ h.2]
    · cases h
end
mutual
def chkG (c : Ck) : Tg → Expr → Bool
  | .nm i, e => match e with
    | .Name x _ => locB c i x
    | _ => false
  | .tp ts, e => match e with
    | .Tuple es _ _ => chkGs c ts es
    | _ => false
termination_by structural t => t
def chkGs (c : Ck) : List Tg → List Expr → Bool
  | [], es => es.isEmpty
  | t :: ts, es => match es with
    | e :: es => !star e && chkG c t e && chkGs c ts es
    | [] => false
termination_by structural t => t
end
/-- a walk that hands out pairs wants a target of several -/
def mtNm : Mt → Str
  | .scount => "count"
  | .sjoin => "join"
  | .ssplit => "split"
  | _ => "index"
def ztg : It → Tg → Expr → Bool
  | .en _, tg, t => isTp tg && (match t with
    | .Tuple _ _ _ => true
    | _ => false)
  | .zip _, tg, t => isTp tg && (match t with
    | .Tuple _ _ _ => true
    | _ => false)
  | _, _, _ => true
mutual
def chkE : Ck → C → Expr → Bool
  | _, .bad, _ => true
  | _, .cst d, e => cstB d e
  | c, .glo x, e => match e with
    | .Name y _ => decide (x = y) && glB c y && decide (x ≠ gdN)
    | _ => false
  | c, .var i, e => match e with
    | .Name x _ => visB c i x
    | _ => false
  | c, .mv i, e => match e with
    | .Name x _ => visB c i x
    | _ => false
  | c, .neg a, e => match e with
    | .UnaryOp .USub e _ => chkE c a e
    | _ => false
  | c, .not a, e => match e with
    | .UnaryOp .Not e _ => chkE c a e
    | _ => false
  | c, .isN a, e => match e with
    | .Compare e [.Is] [.Constant .none _ _] _ => chkE c a e
    | _ => false
  | c, .notN a, e => match e with
    | .Compare e [.IsNot] [.Constant .none _ _] _ => chkE c a e
    | _ => false
  | c, .op2 o a b, e => match e with
    | .BinOp l op r _ => binB o op && chkE c a l && chkE c b r
    | .Compare l [op] [r] _ => cmpB o op && chkE c a l && chkE c b r && !behindInMarks op r
    | _ => false
  | c, .and a b, e => match e with
    | .BoolOp .And (x :: y :: rest) pos => chkE c a x && (match rest with
      | [] => chkE c b y
      | z :: zs => chkE c b (.BoolOp .And (y :: z :: zs) pos))
    | _ => false
  | c, .or a b, e => match e with
    | .BoolOp .Or (x :: y :: rest) pos => chkE c a x && (match rest with
      | [] => chkE c b y
      | z :: zs => chkE c b (.BoolOp .Or (y :: z :: zs) pos))
    | _ => false
  | c, .chain o o' a b d, e => match e with
    | .Compare l [op, op'] [m, r] _ => cmpB o op && cmpB o' op' && chkE c a l && chkE c b m && chkE c d r && !lastMarks [op, op'] [m, r]
    | _ => false
  | c, .ite t a b, e => match e with
    | .IfExp e x y _ => chkT c t e && chkE c a x && chkE c b y
    | _ => false
  | c, .tup as, e => match e with
    | .Tuple es _ _ => chkEs c as es
    | _ => false
  | c, .lst as, e => match e with
    | .List es _ => chkEs c as es
    | _ => false
  | c, .idx a i, e => match e with
    | .Subscript x y _ => chkE c a x && chkE c i y && plainIx y
    | _ => false
  | c, .slc a lo hi, e => match e with
    | .Subscript x (.Slice l h none _) _ => chkE c a x && chkO c lo l && chkO c hi h
    | _ => false
  | c, .cal f as, e => match e with
    | .Call (.Name x _) es [] _ => decide (f = x) && glB c x && chkEs c as es
    | _ => false
  | c, .isi T a, e => match e with
    | .Call (.Name x _) [e, .Name y _] [] _ => decide (x = ("isinstance" : Str)) && glB c x && glB c y && decide (y = (Str.ofString T)) && decide (T ∈ tyL) && !star e && chkE c a e
    | _ => false
  | c, .bi b as, e => match e with
    | .Call (.Name x _) (e :: es) [] _ => decide (biN b = x) && glB c x && chkEs c as (e :: es)
    | _ => false
  | c, .tupRg a, e => match e with
    | .Call (.Name x _) [.Call (.Name y _) [e] [] _] [] _ => decide (x = ("tuple" : Str)) && decide (y = ("range" : Str)) && glB c x && glB c y && !star e && chkE c a e
    | _ => false
  | c, .lstRg a, e => match e with
    | .Call (.Name x _) [.Call (.Name y _) [e] [] _] [] _ => decide (x = ("list" : Str)) && decide (y = ("range" : Str)) && glB c x && glB c y && !star e && chkE c a e
    | _ => false
  | c, .srtSet a, e => match e with
    | .Call (.Name x _) [.Call (.Name y _) [e] [] _] [] _ => decide (x = ("sorted" : Str)) && decide (y = ("set" : Str)) && glB c x && glB c y && !star e && chkE c a e
    | _ => false
  | c, .srtKey a, e => match e with
    | .Call (.Name x _) [e] [⟨some kn, .Lambda params (.Tuple [.Call (.Name ln _) [.Name y _] [] _, .Name y2 _] _ _) sc _, _⟩] _ => c.lm && decide (x = ("sorted" : Str)) && decide (kn = ("key" : Str)) && decide (ln = ("len" : Str)) && decide (y2 = y) && glB c x && !star e && chkE c a e && scB [y] [y] sc && noCF sc && decide (sc.names.lookup ("len" : Str) = some .globalImplicit) && parB y params && !(y == ("__debug__" : Str)) && !(y == ("__classdict__" : Str))
    | _ => false
  | c, .lenSet a, e => match e with
    | .Call (.Name x _) [.Call (.Name y _) [e] [] _] [] _ => decide (x = ("len" : Str)) && decide (y = ("set" : Str)) && glB c x && glB c y && !star e && chkE c a e
    | _ => false
  | _, .dlit kvs, e => match e with
    | .Dict ks vs _ => litK kvs ks vs && decide (kvs.length ≤ 15) && !kvs.isEmpty && decide ((kvs.map (·.1)).Nodup)
    | _ => false
  | c, .mth m o a, e => match e with
    | .Call (.Attribute oe name apos) [e] [] cpos => decide (name = mtNm m) && (apos.endLine == cpos.line) && noSuper oe && chkE c o oe && !star e && chkE c a e
    | _ => false
  | c, .mut m i as, e => match e with
    | .Call (.Attribute (.Name x _) name apos) es [] cpos => decide (name = muN m) && (apos.endLine == cpos.line) && visB c i x && chkEs c as es && decide (es.length < 20) && (match es with
      | [] => decide (m = .pop0)
      | _ => true)
    | _ => false
  | _, .dnew _, e => match e with
    | .Dict [] [] _ => true
    | _ => false
  | c, .ktup as, e => match e with
    | .Tuple es _ _ => chkEs c as es
    | _ => false
  | c, .dget i k d, e => match e with
    | .Call (.Attribute (.Name x _) name apos) [e1, e2] [] cpos => decide (name = ("get" : Str)) && (apos.endLine == cpos.line) && visB c i x && !star e1 && !star e2 && chkE c k e1 && chkE c d e2
    | _ => false
  | c, .didx i k, e => match e with
    | .Subscript (.Name x _) ix _ => visB c i x && chkE c k ix && plainIx ix
    | _ => false
  | c, .dlEq i r, e => match e with
    | .Compare (.Call (.Name y _) [.Name x _] [] _) [.Eq] [.List es _] _ => decide (y = ("list" : Str)) && glB c y && visB c i x && litT es r && decide (es.length ≤ 100)
    | _ => false
  | c, .dlIn i r, e => match e with
    | .Compare (.Call (.Name y _) [.Name x _] [] _) [.In] [.List es p] _ => decide (y = ("list" : Str)) && glB c y && visB c i x && litL es r && decide (es.length ≤ 100) && !behindInMarks .In (.List es p)
    | _ => false
  | c, .mutA i ix a, e => match e with
    | .Call (.Attribute (.Subscript (.Name x _) ixe _) name apos) [e1] [] cpos => decide (name = ("append" : Str)) && (apos.endLine == cpos.line) && visB c i x && plainIx ixe && !star e1 && chkE c ix ixe && chkE c a e1
    | _ => false
  | c, .lc own tg it cond elt, e => match e with
    | .ListComp e [⟨t, iter, ifs, 0⟩] sc _ => blkC c.N c.sc sc (ownN c own) && decide (∀ j ∈ tgSl tg, j ∈ own) && (chkI c it iter && ztg it tg t) && chkG (blkCk c sc) tg t && chkC (blkCk c sc) cond ifs && chkE (blkCk c sc) elt e
    | _ => false
  | c, .lam k b, e => match e with
    | .Lambda params body scope _ => c.lw && (match c.LB[k]? with
      | some b' => eqC b b'
      | none => false) && parOk params && ExW.lamS2B c.N c.sc scope (parY params) && chkE (lamCk c scope) b body
    | _ => false
  | c, .lcl i, e => match e with
    | .Call (.Name x _) [] [] _ => c.lw && visB c i x
    | _ => false
  | c, .rfs _ as, e => match e with
    | .Call (.Name x _) (e :: es) [] _ => c.lw && decide (x = ("_law_refused" : Str)) && glB c x && chkEs c as (e :: es)
    | _ => false
  | c, .gin neg a, e => match e with
    | .Compare l [op] [.Name x p] _ => ginB neg op && decide (x = gdN) && glB c x && chkE c a l && !behindInMarks op (.Name x p)
    | _ => false
  | c, .gix a, e => match e with
    | .Subscript (.Name x _) y _ => decide (x = gdN) && glB c x && chkE c a y && plainIx y
    | _ => false
  | c, .pk _ a, e => chkE c a e
  | c, .app i a, e => match e with
    | .Call (.Attribute (.Name x _) name apos) [e1] [] cpos => decide (name = ("append" : Str)) && (apos.endLine == cpos.line) && visB c i x && !star e1 && chkE c a e1
    | _ => false
termination_by structural _ k => k
def chkT : Ck → C → Expr → Bool
  | _, .bad, _ => true
  | c, .and a b, e => match e with
    | .BoolOp .And (x :: y :: rest) pos => chkT c a x && (match rest with
      | [] => chkT c b y
      | z :: zs => chkT c b (.BoolOp .And (y :: z :: zs) pos))
    | _ => false
  | c, .or a b, e => match e with
    | .BoolOp .Or (x :: y :: rest) pos => chkT c a x && (match rest with
      | [] => chkT c b y
      | z :: zs => chkT c b (.BoolOp .Or (y :: z :: zs) pos))
    | _ => false
  | c, .not a, e => match e with
    | .UnaryOp .Not e _ => chkT c a e
    | _ => false
  | c, .isN a, e => match e with
    | .Compare e [.Is] [.Constant .none _ _] _ => chkE c a e
    | _ => false
  | c, .notN a, e => match e with
    | .Compare e [.IsNot] [.Constant .none _ _] _ => chkE c a e
    | _ => false
  | c, .op2 o a b, e => match e with
    | .Compare l [op] [r] _ => cmpB o op && chkE c a l && chkE c b r && !behindInMarks op r
    | _ => false
  | c, .chain o o' a b d, e => match e with
    | .Compare l [op, op'] [m, r] _ => cmpB o op && cmpB o' op' && chkE c a l && chkE c b m && chkE c d r && !lastMarks [op, op'] [m, r]
    | _ => false
  | c, .cal f as, e => match e with
    | .Call (.Name x _) es [] _ => decide (f = x) && glB c x && chkEs c as es
    | _ => false
  | c, .isi T a, e => match e with
    | .Call (.Name x _) [e, .Name y _] [] _ => decide (x = ("isinstance" : Str)) && glB c x && glB c y && decide (y = (Str.ofString T)) && decide (T ∈ tyL) && !star e && chkE c a e
    | _ => false
  | c, .bi b as, e => match e with
    | .Call (.Name x _) (e :: es) [] _ => decide (biN b = x) && glB c x && chkEs c as (e :: es)
    | _ => false
  | c, .var i, e => match e with
    | .Name x _ => visB c i x
    | _ => false
  | c, .idx a i, e => match e with
    | .Subscript x y _ => chkE c a x && chkE c i y && plainIx y
    | _ => false
  | c, .dlEq i r, e => match e with
    | .Compare (.Call (.Name y _) [.Name x _] [] _) [.Eq] [.List es _] _ => decide (y = ("list" : Str)) && glB c y && visB c i x && litT es r && decide (es.length ≤ 100)
    | _ => false
  | c, .dlIn i r, e => match e with
    | .Compare (.Call (.Name y _) [.Name x _] [] _) [.In] [.List es p] _ => decide (y = ("list" : Str)) && glB c y && visB c i x && litL es r && decide (es.length ≤ 100) && !behindInMarks .In (.List es p)
    | _ => false
  | c, .rfs _ as, e => match e with
    | .Call (.Name x _) (e :: es) [] _ => c.lw && decide (x = ("_law_refused" : Str)) && glB c x && chkEs c as (e :: es)
    | _ => false
  | c, .gin neg a, e => match e with
    | .Compare l [op] [.Name x p] _ => ginB neg op && decide (x = gdN) && glB c x && chkE c a l && !behindInMarks op (.Name x p)
    | _ => false
  | c, .pk _ a, e => chkT c a e
  | _, _, _ => false
termination_by structural _ k => k
def chkEs : Ck → Cs → List Expr → Bool
  | _, .nil, es => es.isEmpty
  | c, .cons a as, es => match es with
    | e :: es => !star e && chkE c a e && chkEs c as es
    | [] => false
termination_by structural _ k => k
def chkO : Ck → Co → Option Expr → Bool
  | _, .no, e => e.isNone
  | c, .yes a, e => match e with
    | some e => chkE c a e
    | none => false
termination_by structural _ k => k
def chkC : Ck → Co → List Expr → Bool
  | _, .no, es => es.isEmpty
  | c, .yes a, es => match es with
    | [e] => chkT c a e
    | _ => false
termination_by structural _ k => k
def chkI : Ck → It → Expr → Bool
  | c, .seq a, e => chkE c a e && noSetD e
  | c, .rng1 a, e => match e with
    | .Call (.Name x _) [e] [] _ => decide (x = ("range" : Str)) && glB c x && !star e && chkE c a e
    | _ => false
  | c, .rng2 a b, e => match e with
    | .Call (.Name x _) [e, f] [] _ => decide (x = ("range" : Str)) && glB c x && !star e && !star f && chkE c a e && chkE c b f
    | _ => false
  | c, .rev a, e => match e with
    | .Call (.Name x _) [e] [] _ => decide (x = ("reversed" : Str)) && glB c x && !star e && chkE c a e
    | _ => false
  | c, .en a, e => match e with
    | .Call (.Name x _) [e] [] _ => decide (x = ("enumerate" : Str)) && glB c x && !star e && chkE c a e
    | _ => false
  | c, .zip as, e => match e with
    | .Call (.Name x _) [e1, e2] [] _ => decide (x = ("zip" : Str)) && glB c x && !star e1 && !star e2 && chkEs c as [e1, e2]
    | _ => false
termination_by structural _ k => k
end
end Den
/-! Den15: what is checked is true. -/
namespace Den
open PySem PySem.Spec L2
def bltL : List Str := ["len", "abs", "max", "min", "int", "tuple", "list", "sorted", "all", "isinstance", "range", "reversed", "set", "bool", "str", "dict", "enumerate", "zip", "sum", "any"]
/-- the dict of the module -/
def GdP (K : PySem.W.Frag) (w : World) (mg : Str → Option Value) (d : D) : Prop := ∃ (o : Ow) (ks : List Key) (ds : List D), d = .dc o (.k ks) ds ∧ ∃ (a : Addr) (es : Array DictEntry) (n : Nat), mg gdN = some (.ref a) ∧ KDict K w a es n ∧
  ∀ z : List Nat, ∃ r, PySem.W.nsIn K a ⟨z.toArray⟩ = some r ∧ ((valL ks ds (.inr ⟨z.toArray⟩) = none ∧ r = none) ∨ ∃ i t, valL ks ds (.inr ⟨z.toArray⟩) = some (.int i) ∧ r = some (.int i t))
/-- the module's constants -/
def GloG (K : PySem.W.Frag) (w : World) (mg : Str → Option Value) (g : Gx) (glo : Str → Option D) : Prop := (∀ x d, x ≠ gdN → glo x = some d → ∃ (v : V) (u : Value), mg x = some u ∧ RelV v u ∧ ∀ Φ H ρ, Rep g Φ H ρ d v []) ∧ ∀ d, glo gdN = some d → GdP K w mg d
structure XOk (g : Gx) (Γ : Tb) (c : Ck) (E : XK) (X : Cx) : Prop where
  hK : X.K = g.K
  hN : X.N = c.N
  nd : c.N.Nodup
  hs : X.env.scope = c.sc
  calm : X.calm = true
  units : X.A.units + 65 < cLine
  fnc : ∀ x, fnB c x = true → c.sc.names.lookup x = some .cell → X.fn x = true
  blt : ∀ x ∈ bltL, X.mg x = none
  fns : ∀ x F, Γ.fn x = some F → ∃ (k : Nat) (f : Addr) (fd : FuncData) (ps : List Str), FnOk X.prog X.w X.K X.mg X.base (L2N.CX X.prog X.w) k f fd ps (spD g F) ∧ Room k X.A ∧ X.mg x = some (.ref f) ∧ PySem.W.keepIn X.K (.ref f) = true ∧ Binds X.K fd ps []
  glo : GloG X.K X.w X.mg g Γ.glo
  px : Passes (L2N.CX X.prog X.w) X E
  lam : c.lm = true → LamF g X ∧ Room 2 X.A
  lwI : c.lw = true → g.lq = X.env.qual ∧ g.lc = X.env.cells ∧ LamF g X ∧ ∀ (k : Nat) (l : ExY.LW) (b : C), c.LB[k]? = some b → ExW.Par l.params l.y → ExW.lamS2B c.N c.sc l.scope l.y = true → chkE (lamCk c l.scope) b l.body = true → g.Lp k l
  lwM : c.lw = true → ∃ kb, Room (kb + 2) X.A ∧ (∀ k l, g.Lp k l → ∃ m, Γ.lam k = some m ∧ ExW.LamS2 X.N X.env.scope l.scope l.y ∧ ExW.Par l.params l.y ∧
    ∀ (f c' : Addr) (s0 : Shared) (E : XK) (A : Around) (outer : List Env) (s : Shared) (H : Hp), Room kb (A.deeper (LamX.lamEnv X l.scope s0.heap.objs.size f c')) → PE (ExT.lamCxN X A outer s H E l.scope f c') l.body (EvR g E m)) ∧
    ∃ (kk : Nat) (CA ga : Addr), kk ≤ kb + 1 ∧ ExY.RfOk X.prog X.w X.K X.mg X.base kk CA ga (ClsD g) ∧ ∀ i, i < 5 → PySem.W.exmOne X.K (.ref (g.cl i)) (.ref CA) = some true
  exF : c.ex = true → ExcF X.prog X.w X.K X.mg X.base g.cl ∧ Room 2 X.A
section
variable {g : Gx} {Γ : Tb} {c : Ck} {E : XK} {X : Cx}
theorem and2 {a b : Bool} (h : (a && b) = true) : a = true ∧ b = true := by simpa using h
theorem star_no {e : Expr} {es : List Expr} {env : Env} (h : star e = false) : starEach (e :: es) env = (false, eval e env) :: starEach es env := by
  cases e <;> first | rfl | simp [star] at h
theorem star_ne {b : Bool} (h : (!b) = true) : b = false := by simpa using h
theorem chkEs_star {pos : Pos} {env : Env} : ∀ {as : Cs} {es : List Expr}, chkEs c as es = true → (backTo pos (starEach es env)).any (·.1) = false
  | .nil, es, h => by
    have h : es.isEmpty = true := h
    cases es with
    | nil => rfl
    | cons _ _ => cases h
  | .cons a as, [], h => by have h : false = true := h; cases h
  | .cons a as, e :: es, h => by
    have h : (!star e && chkE c a e && chkEs c as es) = true := h
    obtain ⟨h1, h3⟩ := and2 h
    obtain ⟨h1, h2⟩ := and2 h1
    rw [star_no (star_ne h1)]
    show (false || (backTo pos (starEach es env)).any (·.1)) = false
    rw [chkEs_star h3]; rfl
theorem vis_of {i : Nat} {x : Str} (x0 : XOk g Γ c E X) (h : visB c i x = true) : X.N[i]? = some x ∧ Vis X.env.scope x ∧ (x == ("__debug__" : Str)) = false ∧ (x == ("__classdict__" : Str)) = false := by
  unfold visB at h
  obtain ⟨h1, h4⟩ := and2 h
  obtain ⟨h1, h3⟩ := and2 h1
  obtain ⟨h1, h2⟩ := and2 h1
  refine ⟨by rw [x0.hN]; exact of_decide_eq_true h1, ?_, star_ne h3, star_ne h4⟩
  rw [x0.hs]
  split at h2
  · exact .inl (by assumption)
  · exact .inr (.inl (by assumption))
  · exact .inr (.inr (by assumption))
  · cases h2
theorem gl_of {x : Str} (x0 : XOk g Γ c E X) (h : glB c x = true) : Gl X x ∧ (x == ("__debug__" : Str)) = false := by
  unfold glB at h
  obtain ⟨h1, h2⟩ := and2 h
  refine ⟨?_, star_ne h2⟩
  show X.env.scope.names.lookup x = _
  rw [x0.hs]; exact of_decide_eq_true h1
theorem loc_of {i : Nat} {x : Str} (x0 : XOk g Γ c E X) (h : locB c i x = true) : X.N[i]? = some x ∧ L2.Loc X.env.scope x ∧ (X.fn x = true ∨ X.env.scope.names.lookup x = some .local) := by
  unfold locB at h
  obtain ⟨h1, h2⟩ := and2 h
  refine ⟨by rw [x0.hN]; exact of_decide_eq_true h1, ?_⟩
  unfold L2.Loc
  rw [x0.hs]
  rcases (Bool.or_eq_true _ _).mp h2 with h2 | h2
  · exact ⟨.inl (of_decide_eq_true h2), .inr (of_decide_eq_true h2)⟩
  · obtain ⟨h3, h4⟩ := and2 h2
    exact ⟨.inr (of_decide_eq_true h3), .inl (x0.fnc x h4 (of_decide_eq_true h3))⟩
theorem xN (x0 : XOk g Γ c E X) : X.N.Nodup := by rw [x0.hN]; exact x0.nd
theorem x64 (x0 : XOk g Γ c E X) : X.A.units + 64 < cLine := Nat.lt_of_succ_lt x0.units
theorem scB_ok {N ps : List Str} {sc : Scope} (h : scB N ps sc = true) : FnScope N ps sc := by
  unfold scB at h
  obtain ⟨h, h6⟩ := and2 h
  obtain ⟨h, h5⟩ := and2 h
  obtain ⟨h, h4⟩ := and2 h
  obtain ⟨h, h3⟩ := and2 h
  obtain ⟨h1, h2⟩ := and2 h
  obtain ⟨n1, n2⟩ := of_decide_eq_true h4
  refine ⟨?_, eq_of_beq h2, eq_of_beq h3, n1, n2, fun x hx => ?_, fun y hy e => ?_⟩
  · split at h1
    · assumption
    · cases h1
  · have q := List.all_eq_true.mp h5 x hx
    split at q
    · exact .inl (by assumption)
    · exact .inr (by assumption)
    · cases q
  · have q := List.all_eq_true.mp h6 y hy
    rw [e] at q
    cases q
theorem passLN {X : Cx} : Passes (L2N.CX X.prog X.w) X E0 := fun _ _ _ _ _ _ _ c => by
  obtain ⟨_, _, _, _, _, _, _, _, _, _, _, _, z⟩ := c
  exact z.elim
/-- the block of a comprehension -/
theorem XOk.blk (x0 : XOk g Γ c E X) (sc : Scope) (s : Shared) (H : Hp) (C : Addr) (cl : List (Str × Addr)) (fp : List Addr) : XOk g Γ (blkCk c sc) E0 (X.blk s H sc (compEnvC sc cl C X.env) fp) where
  hK := x0.hK
  hN := x0.hN
  nd := x0.nd
  hs := by
    show relabel sc X.env = relS sc c.sc
    rw [← x0.hs]
    rfl
  calm := x0.calm
  units := x0.units
  fnc := fun x h _ => h
  blt := x0.blt
  fns := x0.fns
  glo := x0.glo
  px := passLN
  lam := x0.lam
  lwI := fun h => by cases h
  lwM := fun h => by cases h
  exF := x0.exF
/-! ### targets -/
theorem chkGs_len : ∀ {ts : List Tg} {es : List Expr}, chkGs c ts es = true → ts.length = es.length
  | [], [], _ => rfl
  | t :: ts, e :: es, h => by
    unfold chkGs at h
    obtain ⟨h1, h3⟩ := and2 h
    simp [chkGs_len h3]
  | [], _ :: _, h => by unfold chkGs at h; cases h
  | _ :: _, [], h => by unfold chkGs at h; cases h
theorem asg_map {e : Expr} {es : List Expr} {env : Env} (h : star e = false) : (assignEach (e :: es) env).map (·.2) = assign e env :: (assignEach es env).map (·.2) := by
  cases e <;> first | rfl | simp [star] at h
theorem asg_first {e : Expr} {es : List Expr} {env : Env} (h : star e = false) : assignEach (e :: es) env = (false, assign e env) :: assignEach es env := by
  cases e <;> first | rfl | simp [star] at h
theorem assignEach_len {env : Env} : ∀ {es : List Expr}, (assignEach es env).length = es.length
  | [] => rfl
  | e :: es => by
    have ih := assignEach_len (env := env) (es := es)
    cases e <;> (show (assignEach es env).length + 1 = es.length + 1; rw [ih])
theorem assign_noStar {env : Env} : ∀ {ts : List Tg} {es : List Expr}, chkGs c ts es = true → (assignEach es env).findIdx? (·.1) = none
  | [], [], _ => rfl
  | t :: ts, e :: es, h => by
    unfold chkGs at h
    obtain ⟨h1, h3⟩ := and2 h
    obtain ⟨h1, h2⟩ := and2 h1
    rw [asg_first (star_ne h1), List.findIdx?_cons]
    simp [assign_noStar h3]
  | [], _ :: _, h => by unfold chkGs at h; cases h
  | _ :: _, [], h => by unfold chkGs at h; cases h
mutual
theorem sG (x0 : XOk g Γ c E X) : ∀ (t : Tg) (e : Expr), chkG c t e = true → PG X e (AsgR g t)
  | .nm i, e, h => by
    unfold chkG at h
    split at h
    · obtain ⟨h1, h2, h3⟩ := loc_of x0 h
      exact asg_nm (pg_name (xN x0) h1 h2 h3)
    · cases h
  | .tp ts, e, h => by
    unfold chkG at h
    split at h
    · rename_i es _ _
      have hl : ts.length = es.length := chkGs_len h
      exact asg_tp x0.hK rfl (pg_tup x0.calm (sGs x0 ts es h) (by rw [assignEach_len, hl]) (assign_noStar h))
    · cases h
theorem sGs (x0 : XOk g Γ c E X) : ∀ (ts : List Tg) (es : List Expr), chkGs c ts es = true → PGs X es (AsgRs g ts)
  | [], [], h => asgs_nil pgs_nil
  | t :: ts, e :: es, h => by
    unfold chkGs at h
    obtain ⟨h1, h3⟩ := and2 h
    obtain ⟨h1, h2⟩ := and2 h1
    exact asgs_cons (pgs_cons (sG x0 t e h2) (sGs x0 ts es h3) (asg_map (star_ne h1)))
  | [], _ :: _, h => by unfold chkGs at h; cases h
  | _ :: _, [], h => by unfold chkGs at h; cases h
end
end
end Den
/-! Den16: expressions: soundness of the look. -/
namespace Den
open PySem PySem.Spec L2
section
variable {g : Gx} {Γ : Tb} {c : Ck} {E : XK} {X : Cx}
theorem op_pe (x0 : XOk g Γ c E X) {o : Op2} {op : Operator} (h : binB o op = true) : OpR X (binaryOp op) (OpV g (opF o)) := by
  cases o <;> cases op <;> first
    | exact absurd h (by decide)
    | exact opv_add x0.hK
    | exact opv_sub
    | exact opv_mul x0.hK
    | exact opv_fdiv
    | exact opv_mod
    | exact opv_pow
theorem cmp_pe (x0 : XOk g Γ c E X) {o : Op2} {op : CmpOp} (h : cmpB o op = true) : OpR X (compareOp op) (OpV g (opF o)) := by
  cases o <;> cases op <;> first
    | exact absurd h (by decide)
    | skip
  · exact opv_eq x0.hK (x64 x0)
  · exact opv_ne x0.hK (x64 x0)
  · exact opv_lt
  · exact opv_cmp (p := fun i j => decide (i ≤ j)) op_le
  · exact opv_cmp (p := fun i j => decide (j < i)) op_gt
  · exact opv_cmp (p := fun i j => decide (j ≤ i)) op_ge
  · exact opv_in x0.hK x0.units
  · exact opv_notin x0.hK x0.units
theorem blt_of (x0 : XOk g Γ c E X) {x : Str} (h : x ∈ bltL) : X.mg x = none := x0.blt x h
theorem bi_pe (x0 : XOk g Γ c E X) (b : Bi) {e : Expr} {es : List Expr} {t : TA} {p pos : Pos} (ha : PA X (e :: es) t) (hg : Gl X (biN b)) (he : starEach (e :: es) X.env = (false, eval e X.env) :: starEach es X.env) (hpl : (backTo pos (starEach es X.env)).any (·.1) = false) :
    PE X (.Call (.Name (biN b) p) (e :: es) [] pos) (tCB (CbV g (biF b)) t) := by
  cases b with
  | len => exact pe_callB (bi_len x0.hK) hg (blt_of x0 (by decide)) (by decide +kernel) ha (by decide) (by decide) he hpl
  | abs => exact pe_callB bi_abs hg (blt_of x0 (by decide)) (by decide +kernel) ha (by decide) (by decide) he hpl
  | max2 => exact pe_callB (bi_max2 x0.calm) hg (blt_of x0 (by decide)) (by decide +kernel) ha (by decide) (by decide) he hpl
  | min2 => exact pe_callB (bi_min2 x0.calm) hg (blt_of x0 (by decide)) (by decide +kernel) ha (by decide) (by decide) he hpl
  | maxL => exact pe_callB (bi_maxL x0.hK x0.calm) hg (blt_of x0 (by decide)) (by decide +kernel) ha (by decide) (by decide) he hpl
  | int1 => exact pe_callTy bi_int hg (blt_of x0 (by decide)) (by decide +kernel) ha (by decide) (by decide) he hpl
  | str1 => exact pe_callTy (bi_str x0.hK (by have := x0.units; omega)) hg (blt_of x0 (by decide)) (by decide +kernel) ha (by decide) (by decide) he hpl
  | tuple1 => exact pe_callTy (bi_tuple x0.hK) hg (blt_of x0 (by decide)) (by decide +kernel) ha (by decide) (by decide) he hpl
  | list1 => exact pe_callTy (bi_list x0.hK) hg (blt_of x0 (by decide)) (by decide +kernel) ha (by decide) (by decide) he hpl
  | sorted1 => exact pe_callB (bi_sorted x0.hK) hg (blt_of x0 (by decide)) (by decide +kernel) ha (by decide) (by decide) he hpl
  | sortedP => exact pe_callB (bi_sortedP x0.hK (by have := x0.units; omega)) hg (blt_of x0 (by decide)) (by decide +kernel) ha (by decide) (by decide) he hpl
  | sum1 => exact pe_callB (bi_sum x0.hK x0.calm) hg (blt_of x0 (by decide)) (by decide +kernel) ha (by decide) (by decide) he hpl
  | all1 => exact pe_callB (bi_all x0.hK x0.calm) hg (blt_of x0 (by decide)) (by decide +kernel) ha (by decide) (by decide) he hpl
theorem ty_pe (x0 : XOk g Γ c E X) {T : String} (h : T ∈ tyL) {p : Pos} (hg : Gl X (Str.ofString T)) : PE X (.Name (Str.ofString T) p) (tC (.ty T)) := by
  simp only [tyL, List.mem_cons, List.mem_nil_iff, or_false] at h
  rcases h with rfl | rfl | rfl | rfl | rfl | rfl
  all_goals exact pe_bltn hg (blt_of x0 (by decide)) (by decide +kernel) rfl (by decide) (by decide)
/-- an operand -/
theorem opd_of (x0 : XOk g Γ c E X) {a : C} {e : Expr} (h : chkE c a e = true) (ih : PE X e (EvR g E (ev Γ a))) : PE X e (OpdR g E a (opd a (ev Γ a))) := by
  by_cases hv : isVar a = true
  · cases a <;> simp [isVar] at hv
    rename_i i
    unfold chkE at h
    split at h
    · obtain ⟨h1, h2, h3, h4⟩ := vis_of x0 h
      exact opd_var (pe_var h1 h2 h3 h4)
    · cases h
  · exact opd_ev (by simpa using hv) ih
theorem has_of (x0 : XOk g Γ c E X) {a : C} {e : Expr} (h : chkE c a e = true) : PE X e (OpdR g E a (hasV a)) := by
  by_cases hv : isVar a = true
  · cases a <;> simp [isVar] at hv
    rename_i i
    unfold chkE at h
    split at h
    · obtain ⟨h1, h2, h3, h4⟩ := vis_of x0 h
      exact opd_has (pe_var h1 h2 h3 h4)
    · cases h
  · refine ⟨fun pins s σ H Q I h => ?_⟩
    obtain ⟨Φ, ρ, s, fs, F, r, k, hm, p⟩ := h
    exfalso
    unfold hasV at hm
    split at hm
    · exact hv rfl
    · cases hm
theorem cst_pe {d : D} {e : Expr} (h : cstB d e = true) : PE X e (EvR g E (ret d)) := by
  unfold cstB at h
  split at h
  · have e := of_decide_eq_true h
    subst e
    exact ev_cst pe_int fun _ _ _ => rep_int
  · have e := of_decide_eq_true h
    subst e
    exact ev_cst pe_str fun _ _ _ => rep_str
  · have e := eq_of_beq h
    subst e
    exact ev_cst pe_bl fun _ _ _ => rep_bl
  · exact ev_cst pe_non fun _ _ _ => rep_non
  · cases h
theorem isN_to {a : C} {m : M (Option D)} {σ : L2.St} {H : Hp} {Q : VK} (h : EvR g E (bnd m fun x => bnd (fill1 a x) fun d => ret (.bl (isNonD d))) σ H Q) : tIsN (OpdR g E a m) σ H Q := by
  refine un_to (n := fun d => some (.bl (isNonD d))) (K := fun v H1 Q => Q (.bl (decide (v = .non))) H1) h fun Φ ρ H d r v sb pk hn af => ?_
  cases hn
  have e : decide (v = .non) = isNonD d := by
    cases d with
    | non => rw [pk.non]; rfl
    | bl b => rw [pk.bl]; rfl
    | int b => rw [pk.int]; rfl
    | str b => rw [pk.str]; rfl
    | tup ds => obtain ⟨a, vs, rfl, _⟩ := pk.tup sb; rfl
    | lst o ds => obtain ⟨a, vs, rfl, _⟩ := pk.lst sb; rfl
    | obj n =>
      have pk : Rep g Φ H ρ (.obj n) v [] := pk
      simp only [Rep] at pk
      obtain ⟨a, _, rfl, _⟩ := pk
      rfl
    | kt n =>
      have pk : Rep g Φ H ρ (.kt n) v [] := pk
      simp only [Rep] at pk
      obtain ⟨a, rfl, _⟩ := pk
      rfl
    | dc o n ds =>
      have pk : Rep g Φ H ρ (.dc o n ds) v [] := pk
      cases o <;> (simp only [Rep] at pk; obtain ⟨a, vs, rfl, _⟩ := pk; rfl)
    | lam n =>
      have pk : Rep g Φ H ρ (.lam n) v [] := pk
      simp only [Rep] at pk
      obtain ⟨a, rfl, _⟩ := pk
      rfl
    | any =>
      have pk : Rep g Φ H ρ .any v [] := pk
      simp only [Rep] at pk
      obtain ⟨⟨a, rfl⟩ | ⟨x, rfl⟩, _⟩ := pk <;> rfl
  show Q (.bl (decide (v = .non))) H
  rw [e]; exact af.bl sb
theorem notN_to {a : C} {m : M (Option D)} {σ : L2.St} {H : Hp} {Q : VK} (h : EvR g E (bnd m fun x => bnd (fill1 a x) fun d => ret (.bl (!isNonD d))) σ H Q) : tNotN (OpdR g E a m) σ H Q := by
  refine un_to (n := fun d => some (.bl (!isNonD d))) (K := fun v H1 Q => Q (.bl (!decide (v = .non))) H1) h fun Φ ρ H d r v sb pk hn af => ?_
  cases hn
  have e : decide (v = .non) = isNonD d := by
    cases d with
    | non => rw [pk.non]; rfl
    | bl b => rw [pk.bl]; rfl
    | int b => rw [pk.int]; rfl
    | str b => rw [pk.str]; rfl
    | tup ds => obtain ⟨a, vs, rfl, _⟩ := pk.tup sb; rfl
    | lst o ds => obtain ⟨a, vs, rfl, _⟩ := pk.lst sb; rfl
    | obj n =>
      have pk : Rep g Φ H ρ (.obj n) v [] := pk
      simp only [Rep] at pk
      obtain ⟨a, _, rfl, _⟩ := pk
      rfl
    | kt n =>
      have pk : Rep g Φ H ρ (.kt n) v [] := pk
      simp only [Rep] at pk
      obtain ⟨a, rfl, _⟩ := pk
      rfl
    | dc o n ds =>
      have pk : Rep g Φ H ρ (.dc o n ds) v [] := pk
      cases o <;> (simp only [Rep] at pk; obtain ⟨a, vs, rfl, _⟩ := pk; rfl)
    | lam n =>
      have pk : Rep g Φ H ρ (.lam n) v [] := pk
      simp only [Rep] at pk
      obtain ⟨a, rfl, _⟩ := pk
      rfl
    | any =>
      have pk : Rep g Φ H ρ .any v [] := pk
      simp only [Rep] at pk
      obtain ⟨⟨a, rfl⟩ | ⟨x, rfl⟩, _⟩ := pk <;> rfl
  show Q (.bl (!decide (v = .non))) H
  rw [e]; exact af.bl sb
theorem neg_to {a : C} {m : M (Option D)} {σ : L2.St} {H : Hp} {Q : VK} (h : EvR g E (bnd m fun x => bnd (fill1 a x) fun d => lift (negD d)) σ H Q) : tUn (rU fun i => .int (-i)) (OpdR g E a m) σ H Q := by
  refine un_to (n := negD) (K := fun v H1 Q => rU (fun i => .int (-i)) v H1 Q) h fun Φ ρ H d r v sb pk hn af => ?_
  unfold negD at hn
  split at hn
  · cases hn
    exact ⟨_, pk.int, af.int sb⟩
  · cases hn
theorem lc_hs {e : Expr} {env : Env} (h : noSetD e = true) : ∀ x, foldedSetIterable e env x = pure x := by
  intro x
  cases e <;> first | rfl | (simp [noSetD] at h)
theorem own_map {own : List Nat} : (ownN c own).map (·.2) = own := by
  unfold ownN
  rw [List.map_map]
  exact List.map_id own
theorem base_of {o : Expr} {name : Str} {env : Env} (h : noSuper o = true) : attributeBase o name env (eval o env) = eval o env := by
  cases o with
  | Call f as ks p =>
    cases as with
    | nil => simp [noSuper] at h
    | cons a as => cases f <;> rfl
  | _ => rfl
theorem chkI_set {it : It} {e : Expr} (h : chkI c it e = true) : noSetD e = true := by
  cases it <;> unfold chkI at h
  · exact (and2 h).2
  all_goals
    split at h
    · rfl
    · cases h
theorem testable {e : Expr} {env : Env} (h : plainT e = true) : ∀ whole, isTrue e env whole = (do let v ← whole; standAt e.pos; holding [v] (truthy v)) := by
  intro w
  cases e <;> first | rfl | (simp [plainT] at h)
end
end Den
/-! Den17: expressions: soundness of the look, all together. -/
namespace Den
open PySem PySem.Spec L2
section
variable {g : Gx} {Γ : Tb} {c : Ck} {E : XK} {X : Cx}
theorem sName (x0 : XOk g Γ c E X) {i : Nat} {x : Str} {p : Pos} (h : visB c i x = true) : PE X (.Name x p) (tVar i) := by
  obtain ⟨h1, h2, h3, h4⟩ := vis_of x0 h
  exact pe_var h1 h2 h3 h4
theorem op_gd {neg : Bool} {op : CmpOp} (hb : ginB neg op = true) {d : Addr} {es : Array DictEntry} {n : Nat} (D : KDict X.K X.w d es n) : OpR X (compareOp op) (fun x y H Q => ∃ (z : Str) (r : Option Value), x = .str z ∧ y = .ref d ∧ PySem.W.nsIn X.K d z = some r ∧ Q (.bl (neg != r.isSome)) H) := by
  unfold ginB at hb
  split at hb
  · intro pins s σ H x y v u Q I rx ry h
    obtain ⟨z, r, rfl, rfl, e, q⟩ := h
    exact op_in_kd D pins s σ H _ _ v u Q I rx ry ⟨z, r, rfl, rfl, e, by simpa using q⟩
  · intro pins s σ H x y v u Q I rx ry h
    obtain ⟨z, r, rfl, rfl, e, q⟩ := h
    exact op_notIn_kd D pins s σ H _ _ v u Q I rx ry ⟨z, r, rfl, rfl, e, by simpa using q⟩
  · cases hb
theorem gin_to {neg : Bool} {a : C} {m : M (Option D)} {G : D} {d : Addr} {σ : L2.St} {H : Hp} {Q : VK} {ks : List Key} {ds : List D} {o : Ow} (hG : G = .dc o (.k ks) ds)
    (hz : ∀ z : List Nat, ∃ r, PySem.W.nsIn X.K d ⟨z.toArray⟩ = some r ∧ ((valL ks ds (.inr ⟨z.toArray⟩) = none ∧ r = none) ∨ ∃ i t, valL ks ds (.inr ⟨z.toArray⟩) = some (.int i) ∧ r = some (.int i t)))
    (h : EvR g E (bnd m fun x => bnd (fill1 a x) fun d => lift (ginF neg G d)) σ H Q) : tOp (fun x y H Q => ∃ (z : Str) (r : Option Value), x = .str z ∧ y = .ref d ∧ PySem.W.nsIn X.K d z = some r ∧ Q (.bl (neg != r.isSome)) H) (OpdR g E a m) (tC (.ref d)) σ H Q := by
  subst hG
  refine un_to (K := fun x H Q => ∃ (z : Str) (r : Option Value), x = .str z ∧ V.ref d = .ref d ∧ PySem.W.nsIn X.K d z = some r ∧ Q (.bl (neg != r.isSome)) H) h fun Φ ρ H d1 r v sb pk hn af => ?_
  cases d1 with
  | str s =>
    simp only [ginF, Option.some.injEq] at hn
    subst hn
    have ev := pk.str
    subst ev
    obtain ⟨r, e1, e2⟩ := hz s
    refine ⟨_, r, rfl, rfl, e1, ?_⟩
    have er : r.isSome = (valL ks ds (.inr ⟨s.toArray⟩)).isSome := by
      rcases e2 with ⟨h1, h2⟩ | ⟨i, t, h1, h2⟩ <;> rw [h1, h2] <;> rfl
    rw [er]
    exact af.bl sb
  | _ => simp [ginF] at hn
theorem gix_to {a : C} {m : M (Option D)} {G : D} {d : Addr} {es : Array DictEntry} {n : Nat} {σ : L2.St} {H : Hp} {Q : VK} {ks : List Key} {ds : List D} {o : Ow} (D0 : KDict X.K X.w d es n) (hG : G = .dc o (.k ks) ds)
    (hz : ∀ z : List Nat, ∃ r, PySem.W.nsIn X.K d ⟨z.toArray⟩ = some r ∧ ((valL ks ds (.inr ⟨z.toArray⟩) = none ∧ r = none) ∨ ∃ i t, valL ks ds (.inr ⟨z.toArray⟩) = some (.int i) ∧ r = some (.int i t)))
    (h : EvR g E (bnd m fun x => bnd (fill1 a x) fun d => lift (gixF G d)) σ H Q) : tOp (rIxD X.K X.w) (tC (.ref d)) (OpdR g E a m) σ H Q := by
  subst hG
  refine un_to (K := fun y H Q => ∃ p z v, V.ref d = .ref p ∧ y = .str z ∧ KDct X.K X.w p z v ∧ Q v H) h fun Φ ρ H d1 r v sb pk hn af => ?_
  cases d1 with
  | str s =>
    have hn : valL ks ds (.inr ⟨s.toArray⟩) = some r := hn
    have ev := pk.str
    subst ev
    obtain ⟨r', e1, e2⟩ := hz s
    rcases e2 with ⟨h1, h2⟩ | ⟨i, t, h1, h2⟩
    · rw [h1] at hn; cases hn
    · rw [h1] at hn
      cases hn
      subst h2
      exact ⟨d, _, .int i, rfl, rfl, ⟨es, n, _, D0.at_, D0.lit, e1, ⟨t, rfl⟩⟩, af.int sb⟩
  | _ => simp [gixF] at hn
theorem n_gin (x0 : XOk g Γ c E X) {neg : Bool} {a : C} {op : CmpOp} {l : Expr} {x : Str} {p p2 : Pos} (hb : ginB neg op = true) (hx : x = gdN) (h2 : glB c x = true) (ha : PE X l (OpdR g E a (opd a (ev Γ a)))) (hm : behindInMarks op (.Name x p) = false) :
    PE X (.Compare l [op] [.Name x p] p2) (EvR g E (ev Γ (.gin neg a))) ∧ PT X (.Compare l [op] [.Name x p] p2) (TtR g E (ev Γ (.gin neg a))) := by
  subst hx
  cases hG : Γ.glo gdN with
  | none =>
    have e : ev Γ (.gin neg a) = stuck := by simp only [ev, hG]
    rw [e]
    exact ⟨ev_stuck, tt_stuck⟩
  | some d =>
    have e : ev Γ (.gin neg a) = bnd (opd a (ev Γ a)) fun x => bnd (fill1 a x) fun d1 => lift (ginF neg d d1) := by simp only [ev, hG]
    rw [e]
    obtain ⟨o, ks, ds, hd0, da, es, n, hmg, D0, hz⟩ := x0.glo.2 d hG
    obtain ⟨hg, hd⟩ := gl_of x0 h2
    have pn : PE X (.Name gdN p) (tC (.ref da)) := pe_glob hg hmg rfl hd
    exact ⟨pe_imp (pe_cmpR (op_gd hb D0) ha pn hm) fun σ H Q h => gin_to hd0 hz h, pt_imp (pt_cmpR (op_gd hb D0) ha pn hm) fun σ H Q h => gin_to hd0 hz (tt_of h)⟩
theorem n_gix (x0 : XOk g Γ c E X) {a : C} {y : Expr} {x : Str} {p p2 : Pos} (hx : x = gdN) (h2 : glB c x = true) (ha : PE X y (OpdR g E a (opd a (ev Γ a)))) (hs : PlainIx y) :
    PE X (.Subscript (.Name x p) y p2) (EvR g E (ev Γ (.gix a))) := by
  subst hx
  cases hG : Γ.glo gdN with
  | none =>
    have e : ev Γ (.gix a) = stuck := by simp only [ev, hG]
    rw [e]
    exact ev_stuck
  | some d =>
    have e : ev Γ (.gix a) = bnd (opd a (ev Γ a)) fun x => bnd (fill1 a x) fun d1 => lift (gixF d d1) := by simp only [ev, hG]
    rw [e]
    obtain ⟨o, ks, ds, hd0, da, es, n, hmg, D0, hz⟩ := x0.glo.2 d hG
    obtain ⟨hg, hd⟩ := gl_of x0 h2
    have pn : PE X (.Name gdN p) (tC (.ref da)) := pe_glob hg hmg rfl hd
    exact pe_imp (pe_ix ix_kdict pn ha hs) fun σ H Q h => gix_to D0 hd0 hz h
theorem n_op2 (x0 : XOk g Γ c E X) {o : Op2} {a b : C} {op : Operator} {l r : Expr} {p : Pos} (hb : binB o op = true) (ha : PE X l (OpdR g E a (opd a (ev Γ a)))) (hc : PE X r (OpdR g E b (opd b (ev Γ b)))) : PE X (.BinOp l op r p) (EvR g E (ev Γ (.op2 o a b))) :=
  pe_imp (pe_op (op_pe x0 hb) ha hc) fun σ H Q h => bin_to h
theorem n_cmp (x0 : XOk g Γ c E X) {o : Op2} {a b : C} {op : CmpOp} {l r : Expr} {p : Pos} (hb : cmpB o op = true) (ha : PE X l (OpdR g E a (opd a (ev Γ a)))) (hc : PE X r (OpdR g E b (opd b (ev Γ b)))) (hm : behindInMarks op r = false) :
    PE X (.Compare l [op] [r] p) (EvR g E (ev Γ (.op2 o a b))) ∧ PT X (.Compare l [op] [r] p) (TtR g E (ev Γ (.op2 o a b))) :=
  ⟨pe_imp (pe_cmpR (cmp_pe x0 hb) ha hc hm) fun σ H Q h => bin_to h, pt_imp (pt_cmpR (cmp_pe x0 hb) ha hc hm) fun σ H Q h => bin_to (tt_of h)⟩
theorem n_chain (x0 : XOk g Γ c E X) {o o' : Op2} {a b d : C} {op op' : CmpOp} {l m r : Expr} {p : Pos} (hb : cmpB o op = true) (hb' : cmpB o' op' = true) (h1 : PE X l (OpdR g E a (opd a (ev Γ a)))) (h2 : PE X m (OpdR g E b (opd b (ev Γ b))))
    (h3 : PE X r (OpdR g E d (opd d (ev Γ d)))) (hm : lastMarks [op, op'] [m, r] = false) :
    PE X (.Compare l [op, op'] [m, r] p) (EvR g E (ev Γ (.chain o o' a b d))) ∧ PT X (.Compare l [op, op'] [m, r] p) (TtR g E (ev Γ (.chain o o' a b d))) :=
  ⟨pe_imp (pe_chain (cmp_pe x0 hb) (cmp_pe x0 hb') h1 h2 h3 hm) fun σ H Q h => chain_to h, pt_imp (pt_chain (cmp_pe x0 hb) (cmp_pe x0 hb') h1 h2 h3 hm) fun σ H Q h => chain_to (tt_of h)⟩
theorem n_isN {a : C} {e : Expr} {k : Nat} {p p2 : Pos} (ha : PE X e (OpdR g E a (opd a (ev Γ a)))) :
    PE X (.Compare e [.Is] [.Constant .none k p] p2) (EvR g E (ev Γ (.isN a))) ∧ PT X (.Compare e [.Is] [.Constant .none k p] p2) (TtR g E (ev Γ (.isN a))) :=
  ⟨pe_imp (pe_cmp (pc_isN ha)) fun σ H Q h => isN_to h, pt_imp (pt_cmp (pc_isN ha)) fun σ H Q h => isN_to (tt_of h)⟩
theorem n_notN {a : C} {e : Expr} {k : Nat} {p p2 : Pos} (ha : PE X e (OpdR g E a (opd a (ev Γ a)))) :
    PE X (.Compare e [.IsNot] [.Constant .none k p] p2) (EvR g E (ev Γ (.notN a))) ∧ PT X (.Compare e [.IsNot] [.Constant .none k p] p2) (TtR g E (ev Γ (.notN a))) :=
  ⟨pe_imp (pe_cmp (pc_notN ha)) fun σ H Q h => notN_to h, pt_imp (pt_cmp (pc_notN ha)) fun σ H Q h => notN_to (tt_of h)⟩
theorem n_isi (x0 : XOk g Γ c E X) {T : String} {a : C} {e : Expr} {x y : Str} {p p1 p2 : Pos} (h1 : x = ("isinstance" : Str)) (h2 : glB c x = true) (h3 : glB c y = true) (h4 : y = Str.ofString T) (h5 : T ∈ tyL) (h6 : star e = false) (ha : PE X e (OpdR g E a (opd a (ev Γ a)))) :
    PE X (.Call (.Name x p) [e, .Name y p1] [] p2) (EvR g E (ev Γ (.isi T a))) := by
  subst h1
  subst h4
  refine pe_imp (pe_callB (cr_isi x0.hK (T := T)) (gl_of x0 h2).1 (blt_of x0 (by decide)) (by decide +kernel) (pa_cons ha (pa_cons (ty_pe x0 h5 (gl_of x0 h3).1) pa_nil rfl) (star_no h6)) (by decide) (by decide) (star_no h6) rfl) fun σ H Q h => isi_to h
theorem n_rg (x0 : XOk g Γ c E X) {a : C} {e : Expr} {y : Str} {p p2 : Pos} (h1 : y = ("range" : Str)) (h2 : glB c y = true) (h6 : star e = false) (ha : PE X e (OpdR g E a (opd a (ev Γ a)))) : PRg X (.Call (.Name y p) [e] [] p2) (tRg1 (OpdR g E a (opd a (ev Γ a)))) := by
  subst h1
  exact prg_1 (gl_of x0 h2).1 (blt_of x0 (by decide)) ha (star_no h6)
theorem call_star {f : Expr} {as : List Expr} {ks : List Keyword} {p : Pos} {es : List Expr} {env : Env} : starEach (.Call f as ks p :: es) env = (false, eval (.Call f as ks p) env) :: starEach es env := rfl
theorem n_tupRg (x0 : XOk g Γ c E X) {a : C} {e : Expr} {x y : Str} {p p1 p2 p3 : Pos} (h0 : x = ("tuple" : Str)) (h1 : y = ("range" : Str)) (hx : glB c x = true) (h2 : glB c y = true) (h6 : star e = false) (ha : PE X e (OpdR g E a (opd a (ev Γ a)))) :
    PE X (.Call (.Name x p) [.Call (.Name y p1) [e] [] p2] [] p3) (EvR g E (ev Γ (.tupRg a))) := by
  subst h0
  exact pe_imp (pe_tupRgF x0.calm (gl_of x0 hx).1 (blt_of x0 (by decide)) (n_rg x0 h1 h2 h6 ha) rfl) fun σ H Q h => tupRg_to h
theorem n_lstRg (x0 : XOk g Γ c E X) {a : C} {e : Expr} {x y : Str} {p p1 p2 p3 : Pos} (h0 : x = ("list" : Str)) (h1 : y = ("range" : Str)) (hx : glB c x = true) (h2 : glB c y = true) (h6 : star e = false) (ha : PE X e (OpdR g E a (opd a (ev Γ a)))) :
    PE X (.Call (.Name x p) [.Call (.Name y p1) [e] [] p2] [] p3) (EvR g E (ev Γ (.lstRg a))) := by
  subst h0
  exact pe_imp (pe_listRg x0.calm (gl_of x0 hx).1 (blt_of x0 (by decide)) (n_rg x0 h1 h2 h6 ha) rfl) fun σ H Q h => lstRg_to h
theorem n_srtSet (x0 : XOk g Γ c E X) {a : C} {e : Expr} {x y : Str} {p p1 p2 p3 : Pos} (h0 : x = ("sorted" : Str)) (h1 : y = ("set" : Str)) (hx : glB c x = true) (h2 : glB c y = true) (h6 : star e = false) (ha : PE X e (OpdR g E a (opd a (ev Γ a)))) :
    PE X (.Call (.Name x p) [.Call (.Name y p1) [e] [] p2] [] p3) (EvR g E (ev Γ (.srtSet a))) := by
  subst h0
  subst h1
  exact pe_imp (pe_callB (cr_sortedSet x0.calm) (gl_of x0 hx).1 (blt_of x0 (by decide)) (by decide +kernel) (pa_cons (pe_callTy (cr_setI x0.calm) (gl_of x0 h2).1 (blt_of x0 (by decide)) (by decide +kernel) (pa_cons ha pa_nil (star_no h6)) (by decide) (by decide) (star_no h6) rfl) pa_nil rfl) (by decide) (by decide) rfl rfl) fun σ H Q h => srtSet_ev x0.hK h
theorem n_call (x0 : XOk g Γ c E X) {f x : Str} {as : Cs} {es : List Expr} {p p2 : Pos} (h1 : f = x) (h2 : glB c x = true) (h3 : chkEs c as es = true) (ha : ∀ ms, PA X es (PksR g E as (evOps Γ ms as))) : PE X (.Call (.Name x p) es [] p2) (EvR g E (ev Γ (.cal f as))) := by
  subst h1
  cases hf : Γ.fn f with
  | none =>
    have e : ev Γ (.cal f as) = stuck := by simp only [ev, hf]
    rw [e]; exact ev_stuck
  | some F0 =>
    have e : ev Γ (.cal f as) = bnd (evOps Γ F0.io as) fun os => bnd (fillC as os) fun ds => callF F0 (ioSl F0.io as) ds := by simp only [ev, hf]
    rw [e]
    obtain ⟨k, fa, fd, ps, F, hr, hm, hk, hb⟩ := x0.fns f F0 hf
    obtain ⟨hg, hd⟩ := gl_of x0 h2
    have late : ∀ s os s', evOps Γ F0.io as s = some (.val os s') → LateOk F0.io os := fun s os s' h => evOps_late _ _ _ _ _ h
    cases es with
    | nil =>
      refine pe_imp (pe_call0 F hr hg hm hk hb .nil x0.px hd) fun σ H Q h => ?_
      have h' := call_to late h
      have h'' : PksR g E as (evOps Γ F0.io as) σ H fun vs H1 => spD g F0 (vs ++ []) H1 Q E := h'
      cases as with
      | cons a as => unfold chkEs at h3; cases h3
      | nil =>
        obtain ⟨Φ, ρ, s, fs, F, r, kk, hmm, pp⟩ := h''
        cases hio : F0.io with
        | nil =>
          rw [hio] at hmm
          simp only [evOps] at hmm
          cases ret_some hmm
          exact pp Φ H ρ [] fs (Stp.refl kk.nF) kk .nil
        | cons m ms =>
          rw [hio] at hmm
          cases m <;> simp [evOps, stuck] at hmm
    | cons e es =>
      cases as with
      | nil => unfold chkEs at h3; cases h3
      | cons a as =>
        have h3' := h3
        unfold chkEs at h3'
        obtain ⟨h4, h6⟩ := and2 h3'
        obtain ⟨h4, h5⟩ := and2 h4
        exact pe_imp (pe_call F hr hg hm hk hb .nil x0.px (ha F0.io) hd (star_no (star_ne h4)) (chkEs_star h6)) fun σ H Q h => call_to late h
theorem rep_strD {Φ H : Hp} {ρ : List Addr} {d : D} {v : V} {f : List Addr} (h : tyOf d = some "str") (r : Rep g Φ H ρ d v f) : ∃ a, v = .str a := by
  cases d with
  | str s => simp only [Rep] at r; exact ⟨_, r.1⟩
  | _ => exact absurd h (by simp [tyOf])
theorem str_is (pins : List (Addr × Obj)) (σ : L2.St) (H : Hp) (s : Shared) (x : V) (v : Value) (I : Inv X pins σ H s) (rx : RelV x v) (h : ∃ a, x = .str a) : s.TypeIs v "str" ∧ ∀ a, v = .ref a → ∃ ob, s.heap.get? a = some ob ∧ ob.dict = none := by
  obtain ⟨a, rfl⟩ := h
  obtain ⟨t, rfl⟩ := rx
  exact ⟨typeIs_str _ _ _, fun b hb => by cases hb⟩
def rLi (g : Gx) : V → List V → Hp → VK → Prop := fun x xs H Q => ∃ (Φ : Hp) (ρ : List Addr) (o : Ow) (ds : List D) (e r : D) (y : V), xs = [y] ∧ Sub Φ H ∧ PkR g Φ H ρ (.lst o ds) x ∧ PkR g Φ H ρ e y ∧ mtF .lindex (.lst o ds) e = some r ∧ Aft g Φ H ρ r Q
def rTi (g : Gx) : V → List V → Hp → VK → Prop := fun x xs H Q => ∃ (Φ : Hp) (ρ : List Addr) (ds : List D) (e r : D) (y : V), xs = [y] ∧ Sub Φ H ∧ PkR g Φ H ρ (.tup ds) x ∧ PkR g Φ H ρ e y ∧ mtF .tindex (.tup ds) e = some r ∧ Aft g Φ H ρ r Q
theorem n_mth (x0 : XOk g Γ c E X) {m : Mt} {o a : C} {oe e : Expr} {name : Str} {apos cpos : Pos} (h1 : name = mtNm m) (h2 : (apos.endLine == cpos.line) = true) (h3 : noSuper oe = true) (ho : PE X oe (OpdR g E o (opd o (ev Γ o)))) (h6 : star e = false) (ha : PE X e (OpdR g E a (opd a (ev Γ a)))) :
    PE X (.Call (.Attribute oe name apos) [e] [] cpos) (EvR g E (ev Γ (.mth m o a))) := by
  subst h1
  have few : ((backTo cpos (starEach [e] X.env)).all (fun x => !x.1) && (backToKw cpos (keywordEach [] X.env)).all (fun x => x.1.isSome) && decide ([e].length + ([] : List Keyword).length + (if ([] : List Keyword).isEmpty then 0 else 1) < 30)) = true := by
    rw [star_no h6]; rfl
  cases m with
  | lindex =>
    refine pe_imp (pe_bmG (T := "list") (id := "list.index") (ty := fun x H => ∃ a vs, x = .ref a ∧ SqL g.K H a vs) PySem.F.plainAttrs_list PySem.F.slot_list_index PySem.F.type_list_index (mt_lindex x0.hK x0.units) (fun pins σ H s x v I rx h => ?_) ho (pa_cons ha pa_nil (star_no h6)) (base_of h3) few h2 (star_no h6) rfl) fun σ H Q h => ?_
    · obtain ⟨a, vs, rfl, t⟩ := h
      exact tyV_is I rx (.inl ⟨rfl, vs, by rw [x0.hK]; exact t⟩)
    · exact mth_to (T := "list") (n := mtF .lindex) (rr := rLi g) h (fun Φ H ρ d v f sb ht r => rep_list sb ht r) fun Φ ρ H d e z x y sb p1 p2 hn af => by
        cases d with
        | lst o ds => exact ⟨Φ, ρ, o, ds, e, z, y, rfl, sb, p1, p2, hn, af⟩
        | _ => exact absurd hn (by simp [mtF])
  | tindex =>
    refine pe_imp (pe_bmG (T := "tuple") (id := "tuple.index") (ty := fun x H => ∃ a vs, x = .ref a ∧ TpK g.K H a vs) PySem.F.plainAttrs_tuple PySem.F.slot_tuple_index PySem.F.type_tuple_index (mt_tindex x0.hK) (fun pins σ H s x v I rx h => tuple_is x0.hK I rx h) ho (pa_cons ha pa_nil (star_no h6)) (base_of h3) few h2 (star_no h6) rfl) fun σ H Q h => ?_
    exact mth_to (T := "tuple") (n := mtF .tindex) (rr := rTi g) h (fun Φ H ρ d v f sb ht r => rep_tuple sb ht r) fun Φ ρ H d e z x y sb p1 p2 hn af => by
        cases d with
        | tup ds => exact ⟨Φ, ρ, ds, e, z, y, rfl, sb, p1, p2, hn, af⟩
        | _ => exact absurd hn (by simp [mtF])
  | scount =>
    refine pe_imp (pe_bmG (T := "str") (id := "str.count") (ty := fun x H => ∃ a, x = .str a) PySem.F.plainAttrs_str PySem.F.slot_str_count PySem.F.type_str_count (mt_scount (g := g)) str_is ho (pa_cons ha pa_nil (star_no h6)) (base_of h3) few h2 (star_no h6) rfl) fun σ H Q h => ?_
    exact mth_to (T := "str") (n := mtF .scount) (rr := rSm g .scount) h (fun Φ H ρ d v f sb ht r => rep_strD ht r) fun Φ ρ H d e z x y sb p1 p2 hn af => by
        cases d with
        | str a => exact ⟨Φ, ρ, a, e, z, y, rfl, sb, p1, p2, hn, af⟩
        | _ => exact absurd hn (by simp [mtF])
  | sjoin =>
    refine pe_imp (pe_bmG (T := "str") (id := "str.join") (ty := fun x H => ∃ a, x = .str a) PySem.F.plainAttrs_str PySem.F.slot_str_join PySem.F.type_str_join (mt_sjoin x0.hK) str_is ho (pa_cons ha pa_nil (star_no h6)) (base_of h3) few h2 (star_no h6) rfl) fun σ H Q h => ?_
    exact mth_to (T := "str") (n := mtF .sjoin) (rr := rSm g .sjoin) h (fun Φ H ρ d v f sb ht r => rep_strD ht r) fun Φ ρ H d e z x y sb p1 p2 hn af => by
        cases d with
        | str a => exact ⟨Φ, ρ, a, e, z, y, rfl, sb, p1, p2, hn, af⟩
        | _ => exact absurd hn (by simp [mtF])
  | ssplit =>
    refine pe_imp (pe_bmG (T := "str") (id := "str.split") (ty := fun x H => ∃ a, x = .str a) PySem.F.plainAttrs_str PySem.F.slot_str_split PySem.F.type_str_split (mt_ssplit (g := g)) str_is ho (pa_cons ha pa_nil (star_no h6)) (base_of h3) few h2 (star_no h6) rfl) fun σ H Q h => ?_
    exact mth_to (T := "str") (n := mtF .ssplit) (rr := rSm g .ssplit) h (fun Φ H ρ d v f sb ht r => rep_strD ht r) fun Φ ρ H d e z x y sb p1 p2 hn af => by
        cases d with
        | str a => exact ⟨Φ, ρ, a, e, z, y, rfl, sb, p1, p2, hn, af⟩
        | _ => exact absurd hn (by simp [mtF])
theorem n_lenSet (x0 : XOk g Γ c E X) {a : C} {e : Expr} {x y : Str} {p p1 p2 p3 : Pos} (h0 : x = ("len" : Str)) (h1 : y = ("set" : Str)) (hx : glB c x = true) (h2 : glB c y = true) (h6 : star e = false) (ha : PE X e (OpdR g E a (opd a (ev Γ a)))) :
    PE X (.Call (.Name x p) [.Call (.Name y p1) [e] [] p2] [] p3) (EvR g E (ev Γ (.lenSet a))) := by
  subst h0
  subst h1
  exact pe_imp (ExZ.pe_lenSetI x0.calm (gl_of x0 hx).1 (blt_of x0 (by decide)) (gl_of x0 h2).1 (blt_of x0 (by decide)) ha (star_no h6)) fun σ H Q h => lenSet_to x0.hK h
theorem n_dlit {kvs : List (List Nat × Int)} {ks : List (Option Expr)} {vs : List Expr} {p : Pos} (h1 : litK kvs ks vs = true) (h2 : kvs.length ≤ 15) (h3 : kvs ≠ []) (h4 : (kvs.map (·.1)).Nodup) :
    PE X (.Dict ks vs p) (EvR g E (ev Γ (.dlit kvs))) := by
  obtain ⟨a1, a2, a3, a4⟩ := litK_pps (X := X) (pos := p) h1
  have hn : (keysOf kvs).Nodup := by
    have e : keysOf kvs = (kvs.map (·.1)).map fun l => (.inr ⟨l.toArray⟩ : Key) := by simp [keysOf, Function.comp_def]
    rw [e]
    refine List.Pairwise.map _ (fun a b hab z => hab ?_) h4
    have z' := Sum.inr.inj z
    exact congrArg (fun x : Str => x.cps.toList) z'
  refine pe_imp (pe_disp a1 a2 a3 (fun z => ?_) (by rw [a4]; exact h2)) fun σ H Q h => dlit_to h2 hn h
  subst z
  exact h3 (List.length_eq_zero_iff.mp a4.symm)
theorem all_false {pos : Pos} {env : Env} : ∀ {as : Cs} {es : List Expr}, chkEs c as es = true → (backTo pos (starEach es env)).all (fun x => !x.1) = true
  | .nil, es, h => by
    have h : es.isEmpty = true := h
    cases es with
    | nil => rfl
    | cons _ _ => cases h
  | .cons a as, [], h => by have h : false = true := h; cases h
  | .cons a as, e :: es, h => by
    have h : (!star e && chkE c a e && chkEs c as es) = true := h
    obtain ⟨h1, h3⟩ := and2 h
    obtain ⟨h1, h2⟩ := and2 h1
    rw [star_no (star_ne h1)]
    show (true && (backTo pos (starEach es env)).all (fun x => !x.1)) = true
    rw [all_false h3]; rfl
theorem n_mut (x0 : XOk g Γ c E X) {m : Mu} {i : Nat} {as : Cs} {x name : Str} {es : List Expr} {p apos cpos : Pos} (h1 : name = muN m) (h2 : (apos.endLine == cpos.line) = true) (h3 : visB c i x = true) (h4 : chkEs c as es = true) (h5 : es.length < 20) (h6 : es = [] → m = .pop0) (ha : PA X es (FzR g E (evFz Γ as))) :
    PE X (.Call (.Attribute (.Name x p) name apos) es [] cpos) (EvR g E (ev Γ (.mut m i as))) := by
  subst h1
  cases es with
  | nil =>
    cases h6 rfl
    refine pe_imp (pe_bm0 PySem.F.plainAttrs_list PySem.F.slot_list_pop PySem.F.type_list_pop (mt_mu (g := g) .pop0) (sName x0 h3) rfl h2) fun σ H Q h => ?_
    cases as with
    | cons a as => unfold chkEs at h4; cases h4
    | nil =>
      obtain ⟨v, e1, ty, q⟩ := mut_to x0.hK h
      exact ⟨v, e1, ty, fz_nil q⟩
  | cons e es =>
    cases as with
    | nil => unfold chkEs at h4; cases h4
    | cons a as =>
      have h4' := h4
      unfold chkEs at h4'
      obtain ⟨h7, h9⟩ := and2 h4'
      obtain ⟨h7, h8⟩ := and2 h7
      have few : ((backTo cpos (starEach (e :: es) X.env)).all (fun x => !x.1) && (backToKw cpos (keywordEach [] X.env)).all (fun x => x.1.isSome) && decide ((e :: es).length + ([] : List Keyword).length + (if ([] : List Keyword).isEmpty then 0 else 1) < 30)) = true := by
        rw [all_false h4]
        show (true && true && decide _) = true
        rw [Bool.and_self, Bool.true_and]
        refine decide_eq_true ?_
        show (e :: es).length + 0 + 0 < 30
        omega
      cases m with
      | append => exact pe_imp (pe_bm PySem.F.plainAttrs_list PySem.F.slot_list_append PySem.F.type_list_append (mt_mu (g := g) .append) (sName x0 h3) ha rfl few h2 (star_no (star_ne h7)) (chkEs_star h9)) fun σ H Q h => mut_to x0.hK h
      | pop0 => exact pe_imp (pe_bm PySem.F.plainAttrs_list PySem.F.slot_list_pop PySem.F.type_list_pop (mt_mu (g := g) .pop0) (sName x0 h3) ha rfl few h2 (star_no (star_ne h7)) (chkEs_star h9)) fun σ H Q h => mut_to x0.hK h
      | pop1 => exact pe_imp (pe_bm PySem.F.plainAttrs_list PySem.F.slot_list_pop PySem.F.type_list_pop (mt_mu (g := g) .pop1) (sName x0 h3) ha rfl few h2 (star_no (star_ne h7)) (chkEs_star h9)) fun σ H Q h => mut_to x0.hK h
      | remove => exact pe_imp (pe_bm PySem.F.plainAttrs_list PySem.F.slot_list_remove PySem.F.type_list_remove (mt_mu (g := g) .remove) (sName x0 h3) ha rfl few h2 (star_no (star_ne h7)) (chkEs_star h9)) fun σ H Q h => mut_to x0.hK h
theorem n_dget (x0 : XOk g Γ c E X) {i : Nat} {x : Str} {p apos cpos : Pos} {e1 e2 : Expr} {t1 t2 : TE} (h2 : (apos.endLine == cpos.line) = true) (h3 : visB c i x = true) (h4 : star e1 = false) (h5 : star e2 = false) (hk : PE X e1 t1) (hd : PE X e2 t2) :
    PE X (.Call (.Attribute (.Name x p) "get" apos) [e1, e2] [] cpos) (tDGet2 (tVar i) t1 t2) := by
  have hs : starEach [e1, e2] X.env = [(false, eval e1 X.env), (false, eval e2 X.env)] := by rw [star_no h4, star_no h5]; rfl
  have hu : X.A.units + 1 < cLine := by have := x0.units; omega
  exact pe_dget2 hu (sName x0 h3) hk hd ⟨rfl, by rw [hs]; rfl, h2, by rw [hs]; rfl⟩
theorem n_liT (x0 : XOk g Γ c E X) {i : Nat} {x y : Str} {p p1 p2 : Pos} (h1 : y = ("list" : Str)) (h2 : glB c y = true) (h3 : visB c i x = true) : PE X (.Call (.Name y p) [.Name x p1] [] p2) (tCB rLiT (tCons (tVar i) tNil)) := by
  subst h1
  exact pe_callTy (call_list_dT x0.calm) (gl_of x0 h2).1 (blt_of x0 (by decide)) (by decide +kernel) (pa_cons (sName x0 h3) pa_nil rfl) (by decide) (by decide) rfl rfl
theorem n_dlEq (x0 : XOk g Γ c E X) {i : Nat} {r : List (List Int)} {x y : Str} {es : List Expr} {p p1 p2 p3 p4 : Pos} (h1 : y = ("list" : Str)) (h2 : glB c y = true) (h3 : visB c i x = true) (h4 : litT es r = true) (h5 : es.length ≤ 100) :
    PE X (.Compare (.Call (.Name y p) [.Name x p1] [] p2) [.Eq] [.List es p3] p4) (EvR g E (ev Γ (.dlEq i r))) ∧ PT X (.Compare (.Call (.Name y p) [.Name x p1] [] p2) [.Eq] [.List es p3] p4) (TtR g E (ev Γ (.dlEq i r))) := by
  obtain ⟨hl, hp⟩ := litT_ok (K := X.K) es r h4
  have hL : PE X (.List es p3) (tLit X.K (keysP r)) := lit_lst (by rw [List.length_map]; omega) hp
  have hu : X.A.units + 64 < cLine := by have := x0.units; omega
  exact ⟨pe_imp (pe_cmpR (op_eqD hu) (n_liT x0 h1 h2 h3) hL rfl) fun σ H Q h => dlEq_to x0.hK h, pt_imp (pt_cmpR (op_eqD hu) (n_liT x0 h1 h2 h3) hL rfl) fun σ H Q h => dlEq_to x0.hK (tt_of h)⟩
theorem n_dlIn (x0 : XOk g Γ c E X) {i : Nat} {r : List (List (List Int))} {x y : Str} {es : List Expr} {p p1 p2 p3 p4 : Pos} (h1 : y = ("list" : Str)) (h2 : glB c y = true) (h3 : visB c i x = true) (h4 : litL es r = true) (h5 : es.length ≤ 100) (h6 : behindInMarks .In (.List es p3) = false) :
    PE X (.Compare (.Call (.Name y p) [.Name x p1] [] p2) [.In] [.List es p3] p4) (EvR g E (ev Γ (.dlIn i r))) ∧ PT X (.Compare (.Call (.Name y p) [.Name x p1] [] p2) [.In] [.List es p3] p4) (TtR g E (ev Γ (.dlIn i r))) := by
  obtain ⟨hl, hp⟩ := litL_ok (K := X.K) es r h4
  have hL : PE X (.List es p3) (tLit X.K (.list (r.map keysP))) := lit_lst (by rw [List.length_map]; omega) hp
  exact ⟨pe_imp (pe_cmpR (op_inD x0.units) (n_liT x0 h1 h2 h3) hL h6) fun σ H Q h => dlIn_to x0.hK h, pt_imp (pt_cmpR (op_inD x0.units) (n_liT x0 h1 h2 h3) hL h6) fun σ H Q h => dlIn_to x0.hK (tt_of h)⟩
theorem n_app (x0 : XOk g Γ c E X) {i : Nat} {x : Str} {p apos cpos : Pos} {e1 : Expr} {t1 : TE} (h2 : (apos.endLine == cpos.line) = true) (h3 : visB c i x = true) (h5 : star e1 = false) (h1 : PE X e1 t1) :
    PE X (.Call (.Attribute (.Name x p) "append" apos) [e1] [] cpos) (tBM X.K "list" rAppend (tVar i) (tCons t1 tNil)) := by
  have hs : starEach [e1] X.env = [(false, eval e1 X.env)] := by rw [star_no h5]; rfl
  have few : ((backTo cpos (starEach [e1] X.env)).all (fun x => !x.1) && (backToKw cpos (keywordEach [] X.env)).all (fun x => x.1.isSome) && decide ([e1].length + ([] : List Keyword).length + (if ([] : List Keyword).isEmpty then 0 else 1) < 30)) = true := by
    rw [hs]; rfl
  exact pe_bm PySem.F.plainAttrs_list PySem.F.slot_list_append PySem.F.type_list_append mt_append (sName x0 h3) (pa_cons h1 pa_nil hs) rfl few h2 hs rfl
theorem n_mutA (x0 : XOk g Γ c E X) {i : Nat} {x : Str} {p p1 apos cpos : Pos} {ixe e1 : Expr} {ti t1 : TE} (h2 : (apos.endLine == cpos.line) = true) (h3 : visB c i x = true) (h4 : PlainIx ixe) (h5 : star e1 = false) (hi : PE X ixe ti) (h1 : PE X e1 t1) :
    PE X (.Call (.Attribute (.Subscript (.Name x p) ixe p1) "append" apos) [e1] [] cpos) (tBM X.K "list" rAppend (tOp (rIxL X.K) (tVar i) ti) (tCons t1 tNil)) := by
  have hs : starEach [e1] X.env = [(false, eval e1 X.env)] := by rw [star_no h5]; rfl
  have few : ((backTo cpos (starEach [e1] X.env)).all (fun x => !x.1) && (backToKw cpos (keywordEach [] X.env)).all (fun x => x.1.isSome) && decide ([e1].length + ([] : List Keyword).length + (if ([] : List Keyword).isEmpty then 0 else 1) < 30)) = true := by
    rw [hs]; rfl
  exact pe_bm PySem.F.plainAttrs_list PySem.F.slot_list_append PySem.F.type_list_append mt_append (pe_ix ix_list (sName x0 h3) hi h4) (pa_cons h1 pa_nil hs) rfl few h2 hs rfl
theorem n_key (x0 : XOk g Γ c E X) {a : C} {e : Expr} {x kn ln y y2 : Str} {params : Arguments} {sc : Scope} {kk : Nat} {p p1 p2 p3 p4 p5 kpos lpos pos : Pos} (h1 : c.lm = true) (h2 : x = ("sorted" : Str)) (h3 : kn = ("key" : Str)) (h4 : ln = ("len" : Str)) (h5 : y2 = y) (h6 : glB c x = true) (h7 : star e = false)
    (ha : PE X e (OpdR g E a (opd a (ev Γ a)))) (h9 : scB [y] [y] sc = true) (h10 : noCF sc = true) (h11 : sc.names.lookup ("len" : Str) = some .globalImplicit) (h12 : parB y params = true) (h13 : (y == ("__debug__" : Str)) = false) (h14 : (y == ("__classdict__" : Str)) = false) :
    PE X (.Call (.Name x p) [e] [⟨some kn, .Lambda params (.Tuple [.Call (.Name ln p1) [.Name y p2] [] p3, .Name y2 p4] kk p5) sc lpos, kpos⟩] pos) (EvR g E (ev Γ (.srtKey a))) := by
  subst h2 h3 h4 h5
  obtain ⟨hl, hr⟩ := x0.lam h1
  unfold parB at h12
  split at h12
  · have e := of_decide_eq_true (and2 h12).1
    have e2 := of_decide_eq_true (and2 h12).2
    subst e
    subst e2
    exact pe_srtKey x0.hK x0.calm x0.units hr hl (gl_of x0 h6).1 (blt_of x0 (by decide)) (blt_of x0 (by decide)) ha h7 (scB_ok h9) h10 h11 h13 h14 rfl fun _ _ _ _ _ _ => rfl
  · cases h12
end
end Den
/-! Den18: all expressions. -/
namespace Den
open PySem PySem.Spec L2
section
variable {g : Gx} {Γ : Tb}
structure PAs (g : Gx) (Γ : Tb) (E : XK) (X : Cx) (as : Cs) (es : List Expr) : Prop where
  ev : PA X es (EvsR g E (evs Γ as))
  pk : PA X es (PksR g E as (evPk Γ as))
  fz : PA X es (FzR g E (evFz Γ as))
  op : ∀ ms, PA X es (PksR g E as (evOps Γ ms as))
theorem pa_stuck {E : XK} {X : Cx} {as : Cs} {es : List Expr} : PA X es (PksR g E as stuck) := ⟨fun p pins s σ H Q I h => by obtain ⟨Φ, ρ, s, fs, F, r, k, hm, q⟩ := h; cases hm⟩
theorem plain_of {e : Expr} (h : plainIx e = true) : PlainIx e := by
  intro o i
  cases e <;> first | rfl | (simp [plainIx] at h)
theorem star_head {c : Ck} {as : Cs} {e : Expr} {es : List Expr} {env : Env} (h : chkEs c as (e :: es) = true) : starEach (e :: es) env = (false, eval e env) :: starEach es env := by
  cases as with
  | nil => unfold chkEs at h; cases h
  | cons a as =>
    unfold chkEs at h
    obtain ⟨h7, h9⟩ := and2 h
    exact star_no (star_ne (and2 h7).1)
theorem star_rest {c : Ck} {as : Cs} {e : Expr} {es : List Expr} {env : Env} {pos : Pos} (h : chkEs c as (e :: es) = true) : (backTo pos (starEach es env)).any (·.1) = false := by
  cases as with
  | nil => unfold chkEs at h; cases h
  | cons a as =>
    unfold chkEs at h
    exact chkEs_star (and2 h).2
/-- .. the heap behind it -/
theorem lam_grow {Φ H H1 : Hp} {ρ : List Addr} {s : S} {σ : L2.St} {fs : Ix → List Addr} {F : Addr → Prop} {f c' : Addr} {dV : Value} {y : Option Str} {L : ExW.LO} {q : Str} (k : Ok g Φ H ρ s σ fs F) (eN : LamX.ExtN H H1) (T1 : LamX.Tabs g.T H1) (D1 : ExW.DfAt H1 dV y) (t0 : ∀ t, dV = .ref t → H t = none)
    (f0 : H f = none) (f1 : H1 f = some (ExW.LamO f L)) (c1 : H1 c' = some (LamX.CodeO c' q)) :
    ∃ Φ1, Grow g Φ H Φ1 H1 ∧ (Φ1 f = some (ExW.LamO f L) ∧ Φ1 c' = some (LamX.CodeO c' q) ∧ ExW.DfAt Φ1 dV y) := by
  have hc : ∀ a, Owd Φ H a → a ≠ c' := fun a ⟨_, u, e, pl⟩ z => by
    have e1 := eN a u e pl.1
    rw [z, c1] at e1
    unfold LamX.CodeO at e1
    exact pl.2 _ (Option.some.inj e1).symm
  have hf : ∀ a, Owd Φ H a → a ≠ f := fun a ⟨_, u, e, pl⟩ z => by rw [z, f0] at e; cases e
  have sb1 : Sub Φ H1 := sub_extN k.sub eN
  have sup : ∀ {Φ0 : Hp} {a : Addr} {o : HO}, Sub Φ0 H1 → H1 a = some o → (∀ ps, o ≠ .tbl ps) → Sub (upd Φ0 a o) H1 := fun {Φ0 a o} sb e nt b u hb => by
    by_cases h : b = a
    · subst h
      rw [upd_same] at hb
      cases hb
      exact ⟨nt, .inl e⟩
    · rw [upd_ne h] at hb; exact sb b u hb
  have eup : ∀ {a : Addr} {o : HO}, (∀ u, Φ a = some u → u = o) → Ext Φ (upd Φ a o) := fun {a o} h b u hb => by
    by_cases e : b = a
    · subst e; rw [upd_same, h u hb]
    · rw [upd_ne e]; exact hb
  have same : ∀ {a : Addr} {o u : HO}, H1 a = some o → (∀ o' kvs, o ≠ .frz o' (.dK kvs)) → Φ a = some u → u = o := fun {a o u} e n h => by
    rcases (sb1 a u h).2 with z | ⟨o', kvs, z, w⟩
    · rw [e] at z; exact (Option.some.inj z).symm
    · rw [e] at w; exact absurd (by rw [← z]; exact Option.some.inj w) (n o' kvs)
  cases y with
  | none =>
    have e1 : Ext Φ (upd (upd Φ f (ExW.LamO f L)) c' (LamX.CodeO c' q)) := fun b u hb => by
      by_cases e : b = c'
      · subst e; rw [upd_same, same c1 (fun _ _ z => by unfold LamX.CodeO at z; cases z) hb]
      · rw [upd_ne e]
        by_cases e' : b = f
        · subst e'; rw [upd_same, same f1 (fun _ _ z => by unfold ExW.LamO at z; cases z) hb]
        · rw [upd_ne e']; exact hb
    refine ⟨_, ⟨eN, fun _ => T1, e1, sup (sup sb1 f1 ExW.lamO_ne) c1 LamX.codeO_ne, fun a ha => ?_⟩, ?_, upd_same, D1⟩
    · rw [upd_ne (hc a ha), upd_ne (hf a ha)]; exact ha.1
    · by_cases e : f = c'
      · subst e
        rw [f1] at c1
        rw [upd_same]; exact c1.symm
      · rw [upd_ne e, upd_same]
  | some y =>
    obtain ⟨t, us, i, rfl, ht⟩ := D1
    have nt := t0 t rfl
    have htt : ∀ a, Owd Φ H a → a ≠ t := fun a ⟨_, u, e, pl⟩ z => by rw [z, nt] at e; cases e
    have nct : c' ≠ t := fun z => by
      subst z
      rw [c1] at ht
      unfold LamX.CodeO at ht
      cases ht
    have nft : f ≠ t := fun z => by
      subst z
      rw [f1] at ht
      unfold ExW.LamO at ht
      cases ht
    have e1 : Ext Φ (upd (upd (upd Φ t (.frz { cls := .type "tuple", data := .seq us.toArray } (.tup [.int i]))) f (ExW.LamO f L)) c' (LamX.CodeO c' q)) := fun b u hb => by
      by_cases e : b = c'
      · subst e; rw [upd_same, same c1 (fun _ _ z => by unfold LamX.CodeO at z; cases z) hb]
      · rw [upd_ne e]
        by_cases e' : b = f
        · subst e'; rw [upd_same, same f1 (fun _ _ z => by unfold ExW.LamO at z; cases z) hb]
        · rw [upd_ne e']
          by_cases e2 : b = t
          · subst e2; rw [upd_same, same ht (fun _ _ z => by cases z) hb]
          · rw [upd_ne e2]; exact hb
    refine ⟨_, ⟨eN, fun _ => T1, e1, sup (sup (sup sb1 ht (fun _ => HO.noConfusion)) f1 ExW.lamO_ne) c1 LamX.codeO_ne, fun a ha => ?_⟩, ?_, upd_same, ⟨t, us, i, rfl, ?_⟩⟩
    · rw [upd_ne (hc a ha), upd_ne (hf a ha), upd_ne (htt a ha)]; exact ha.1
    · by_cases e : f = c'
      · subst e
        rw [f1] at c1
        rw [upd_same]; exact c1.symm
      · rw [upd_ne e, upd_same]
    · rw [upd_ne (Ne.symm nct), upd_ne (Ne.symm nft), upd_same]
/-- a lambda is made -/
theorem n_lam {c : Ck} {E : XK} {X : Cx} (x0 : XOk g Γ c E X) {k : Nat} {b : C} {params : Arguments} {body : Expr} {scope : Scope} {p : Pos} (h1 : c.lw = true) (h2 : (match c.LB[k]? with
      | some b' => eqC b b'
      | none => false) = true) (hp : ExW.Par params (parY params)) (hs : ExW.lamS2B c.N c.sc scope (parY params) = true) (hb : chkE (lamCk c scope) b body = true) :
    PE X (.Lambda params body scope p) (EvR g E (ev Γ (.lam k b))) := by
  obtain ⟨hq, hcl, ⟨cc, P, TB, hcode, hm, hu⟩, hLp⟩ := x0.lwI h1
  have hL : ∃ b', c.LB[k]? = some b' ∧ b = b' := by
    split at h2
    · rename_i b' e; exact ⟨b', e, eqC_ok _ _ h2⟩
    · cases h2
  obtain ⟨b', hLB, rfl⟩ := hL
  have S := ExW.lamS2_by hs
  refine pe_imp (ExW.pe_lam (T := g.T) (y := parY params) TB hcode hm hu hp (by rw [x0.hs]; exact S.free)) fun σ H Q h => ?_
  obtain ⟨Φ, ρ, s, fs, F, r, kk, hmm, pp⟩ := h
  have hmm : (match Γ.lam k with
    | some _ => (ret (D.lam k) : M D)
    | none => stuck) s = some r := hmm
  cases hgl : Γ.lam k with
  | none => rw [hgl] at hmm; cases hmm
  | some m0 =>
    rw [hgl] at hmm
    have hmm : (ret (D.lam k) : M D) s = some r := hmm
    cases ret_some hmm
    refine ⟨kk.tab, fun f c' dV H1 eN T1 D1 t0 f0 f1 c1 => ?_⟩
    obtain ⟨Φ1, h1', h2'⟩ := lam_grow kk eN T1 D1 t0 f0 f1 c1
    exact pp _ _ ρ (.ref f) [] fs (kk.gstp h1') (kk.grow h1').nof ⟨by
      simp only [Rep]
      refine ⟨f, rfl, ⟨⟨params, body, scope, parY params⟩, c', dV, hLp k _ b hLB hp hs hb, ?_, ?_, ?_⟩, trivial⟩
      · rw [hq, hcl]; exact h2'.1
      · rw [hq]; exact h2'.2.1
      · exact h2'.2.2, List.nodup_nil, (fun a ha => by cases ha)⟩
/-- the def's own lambda is called -/
theorem n_lcl {c : Ck} {E : XK} {X : Cx} (x0 : XOk g Γ c E X) {i : Nat} {x : Str} {p1 p2 : Pos} (h1 : c.lw = true) (h2 : visB c i x = true) : PE X (.Call (.Name x p1) [] [] p2) (EvR g E (ev Γ (.lcl i))) := by
  obtain ⟨hq, hcl, _, _⟩ := x0.lwI h1
  obtain ⟨kb, hr, hM, _⟩ := x0.lwM h1
  obtain ⟨v1, v2, v3, v4⟩ := vis_of x0 h2
  refine ⟨fun pins s0 σ H Q I h => ?_⟩
  obtain ⟨Φ, ρ, s, fs, F, r, k, hm, p⟩ := h
  have hm : (match (s.sl[i]? : Option (Option D)) with
    | some (some (D.lam k)) => (match Γ.lam k with
      | some m => m s
      | none => none)
    | _ => none) = some r := hm
  split at hm
  · rename_i kk q
    split at hm
    · rename_i m hm'
      obtain ⟨v, e1, rr⟩ := k.slot i _ q
      simp only [Rep] at rr
      obtain ⟨a, rfl, ⟨l, c', dV, hlp, q1, q2, q3⟩, _⟩ := rr
      obtain ⟨m', e2, L1, L2', L3⟩ := hM kk l hlp
      rw [hm'] at e2
      cases e2
      have up : ∀ a u, Φ a = some u → (∀ o kvs, u ≠ .dK kvs) → H a = some u := fun a u h n => by
        rcases (k.sub a u h).2 with z | ⟨o, kvs, z, _⟩
        · exact z
        · exact absurd z (n o kvs)
      refine (ExW.pe_lcall (CX := L2N.CX X.prog X.w) (A := X.A) (f := a) (c' := c') (p1 := p1) (p2 := p2) (tb := fun E => EvR g E m) L1 L2' x0.px (hr.mono (Nat.le_succ _)) L3 v1 v2 v3 v4).run pins s0 σ H Q I ⟨a, c', dV, e1, ?_, ?_, ?_, Φ, ρ, s, fs, F, r, k, hm, p⟩
      · rw [hq, hcl] at q1
        exact up _ _ q1 fun _ _ z => by unfold ExW.LamO at z; cases z
      · rw [hq] at q2
        exact up _ _ q2 fun _ _ z => by unfold LamX.CodeO at z; cases z
      · cases hy : l.y with
        | none => rw [hy] at q3; exact q3
        | some y =>
          rw [hy] at q3
          obtain ⟨t, us, i, e1, e2⟩ := q3
          exact ⟨t, us, i, e1, up _ _ e2 fun _ _ => HO.noConfusion⟩
    · cases hm
  · cases hm
/-- _law_refused -/
theorem n_rfs {c : Ck} {E : XK} {X : Cx} (x0 : XOk g Γ c E X) {is : List Nat} {as : Cs} {x : Str} {e : Expr} {es : List Expr} {p pos : Pos} (h1 : c.lw = true) (h2 : x = ("_law_refused" : Str)) (h3 : glB c x = true) (he : starEach (e :: es) X.env = (false, eval e X.env) :: starEach es X.env) (hpl : (backTo pos (starEach es X.env)).any (·.1) = false)
    (ha : PA X (e :: es) (FzR g E (evFz Γ as))) : PE X (.Call (.Name x p) (e :: es) [] pos) (EvR g E (ev Γ (.rfs is as))) := by
  subst h2
  obtain ⟨hq, hcl, _, _⟩ := x0.lwI h1
  obtain ⟨kb, hr, hM, kk, CA, ga, hkk, R, hx⟩ := x0.lwM h1
  refine pe_imp (ExY.pe_ref (tb := fun k E' => EvR g E' ((Γ.lam k).getD stuck)) (L := g.Lp) (ClsF := ClsD g) R (gl_of x0 h3).1 hr hkk (fun j l hj => ?_) ha he hpl) fun σ H Q h => rfs_to (as := as) hq hcl hx (fun k l hk => (hM k l hk).imp fun m h => h.1) h
  obtain ⟨m, e, L1, L2', L3⟩ := hM j l hj
  refine ⟨L1, L2', ?_⟩
  rw [e]
  exact L3
mutual
theorem sE : ∀ (k : C) (c : Ck) (E : XK) (X : Cx) (e : Expr), XOk g Γ c E X → chkE c k e = true → PE X e (EvR g E (ev Γ k))
  | .bad, c, E, X, e, x0, h => ev_stuck
  | .cst d, c, E, X, e, x0, h => cst_pe h
  | .glo x, c, E, X, e, x0, h => by
    unfold chkE at h
    split at h
    · obtain ⟨h, h3⟩ := and2 h
      obtain ⟨h1, h2⟩ := and2 h
      have e := of_decide_eq_true h1
      subst e
      show PE X _ (EvR g E (lift (Γ.glo x)))
      cases q : Γ.glo x with
      | none => exact ev_stuck
      | some d =>
        obtain ⟨v, u, hm, rv, rr⟩ := x0.glo.1 x d (of_decide_eq_true h3) q
        obtain ⟨hg, hd⟩ := gl_of x0 h2
        exact ev_cst (pe_glob hg hm rv hd) rr
    · cases h
  | .var i, c, E, X, e, x0, h => by
    unfold chkE at h
    split at h
    · exact ev_var (sName x0 h)
    · cases h
  | .mv i, c, E, X, e, x0, h => by
    unfold chkE at h
    split at h
    · exact ev_mv (sName x0 h)
    · cases h
  | .neg a, c, E, X, e, x0, h => by
    unfold chkE at h
    split at h
    · exact pe_imp (pe_un un_neg (opd_of x0 h (sE a c E X _ x0 h))) fun σ H Q h => neg_to h
    · cases h
  | .not a, c, E, X, e, x0, h => by
    unfold chkE at h
    split at h
    · exact pe_imp (pe_not (sE a c E X _ x0 h)) fun σ H Q h => ev_not h
    · cases h
  | .isN a, c, E, X, e, x0, h => by
    unfold chkE at h
    split at h
    · exact (n_isN (opd_of x0 h (sE a c E X _ x0 h))).1
    · cases h
  | .notN a, c, E, X, e, x0, h => by
    unfold chkE at h
    split at h
    · exact (n_notN (opd_of x0 h (sE a c E X _ x0 h))).1
    · cases h
  | .op2 o a b, c, E, X, e, x0, h => by
    unfold chkE at h
    split at h
    · obtain ⟨h1, h3⟩ := and2 h
      obtain ⟨h1, h2⟩ := and2 h1
      exact n_op2 x0 h1 (opd_of x0 h2 (sE a c E X _ x0 h2)) (opd_of x0 h3 (sE b c E X _ x0 h3))
    · obtain ⟨h1, h4⟩ := and2 h
      obtain ⟨h1, h3⟩ := and2 h1
      obtain ⟨h1, h2⟩ := and2 h1
      exact (n_cmp x0 h1 (opd_of x0 h2 (sE a c E X _ x0 h2)) (opd_of x0 h3 (sE b c E X _ x0 h3)) (star_ne h4)).1
    · cases h
  | .and a b, c, E, X, e, x0, h => by
    unfold chkE at h
    split at h
    · obtain ⟨h1, h2⟩ := and2 h
      refine pe_imp (pe_and (sE a c E X _ x0 h1) (tb := EvR g E (ev Γ b)) ?_) fun σ H Q h => ev_and h
      split at h2
      · exact pe_one (sE b c E X _ x0 h2)
      · exact sE b c E X _ x0 h2
    · cases h
  | .or a b, c, E, X, e, x0, h => by
    unfold chkE at h
    split at h
    · obtain ⟨h1, h2⟩ := and2 h
      refine pe_imp (pe_or (sE a c E X _ x0 h1) (tb := EvR g E (ev Γ b)) ?_) fun σ H Q h => ev_or h
      split at h2
      · exact pe_one (sE b c E X _ x0 h2)
      · exact sE b c E X _ x0 h2
    · cases h
  | .chain o o' a b d, c, E, X, e, x0, h => by
    unfold chkE at h
    split at h
    · obtain ⟨h1, h6⟩ := and2 h
      obtain ⟨h1, h5⟩ := and2 h1
      obtain ⟨h1, h4⟩ := and2 h1
      obtain ⟨h1, h3⟩ := and2 h1
      obtain ⟨h1, h2⟩ := and2 h1
      exact (n_chain x0 h1 h2 (opd_of x0 h3 (sE a c E X _ x0 h3)) (opd_of x0 h4 (sE b c E X _ x0 h4)) (opd_of x0 h5 (sE d c E X _ x0 h5)) (star_ne h6)).1
    · cases h
  | .ite t a b, c, E, X, e, x0, h => by
    unfold chkE at h
    split at h
    · obtain ⟨h1, h3⟩ := and2 h
      obtain ⟨h1, h2⟩ := and2 h1
      exact pe_imp (pe_ifExp (sT t c E X _ x0 h1).1 (sE a c E X _ x0 h2) (sE b c E X _ x0 h3)) fun σ H Q h => ev_ite h
    · cases h
  | .tup as, c, E, X, e, x0, h => by
    unfold chkE at h
    split at h
    · exact pe_imp (pe_tupF (sEs as c E X _ x0 h).ev) fun σ H Q h => tup_to h
    · cases h
  | .lst as, c, E, X, e, x0, h => by
    unfold chkE at h
    split at h
    · exact pe_imp (pe_lst (sEs as c E X _ x0 h).ev) fun σ H Q h => lst_to h
    · cases h
  | .idx a i, c, E, X, e, x0, h => by
    unfold chkE at h
    split at h
    · obtain ⟨h1, h3⟩ := and2 h
      obtain ⟨h1, h2⟩ := and2 h1
      exact pe_imp (pe_ix (ixv x0.hK) (opd_of x0 h1 (sE a c E X _ x0 h1)) (opd_of x0 h2 (sE i c E X _ x0 h2)) (plain_of h3)) fun σ H Q h => bin_to h
    · cases h
  | .slc a lo hi, c, E, X, e, x0, h => by
    unfold chkE at h
    split at h
    · obtain ⟨h1, h3⟩ := and2 h
      obtain ⟨h1, h2⟩ := and2 h1
      exact pe_imp (pe_slice (slv x0.hK) (opd_of x0 h1 (sE a c E X _ x0 h1)) (sO lo c E X _ x0 h2) (sO hi c E X _ x0 h3)) fun σ H Q h => slc_to h
    · cases h
  | .cal f as, c, E, X, e, x0, h => by
    unfold chkE at h
    split at h
    · obtain ⟨h1, h3⟩ := and2 h
      obtain ⟨h1, h2⟩ := and2 h1
      exact n_call x0 (of_decide_eq_true h1) h2 h3 (sEs as c E X _ x0 h3).op
    · cases h
  | .isi T a, c, E, X, e, x0, h => by
    unfold chkE at h
    split at h
    · obtain ⟨h1, h7⟩ := and2 h
      obtain ⟨h1, h6⟩ := and2 h1
      obtain ⟨h1, h5⟩ := and2 h1
      obtain ⟨h1, h4⟩ := and2 h1
      obtain ⟨h1, h3⟩ := and2 h1
      obtain ⟨h1, h2⟩ := and2 h1
      exact n_isi x0 (of_decide_eq_true h1) h2 h3 (of_decide_eq_true h4) (of_decide_eq_true h5) (star_ne h6) (opd_of x0 h7 (sE a c E X _ x0 h7))
    · cases h
  | .bi b as, c, E, X, e, x0, h => by
    unfold chkE at h
    split at h
    · obtain ⟨h1, h3⟩ := and2 h
      obtain ⟨h1, h2⟩ := and2 h1
      have e := of_decide_eq_true h1
      subst e
      refine pe_imp (bi_pe x0 b (sEs as c E X _ x0 h3).pk (gl_of x0 h2).1 (star_head h3) (star_rest h3)) fun σ H Q h => bi_to h
    · cases h
  | .tupRg a, c, E, X, e, x0, h => by
    unfold chkE at h
    split at h
    · obtain ⟨h1, h6⟩ := and2 h
      obtain ⟨h1, h5⟩ := and2 h1
      obtain ⟨h1, h4⟩ := and2 h1
      obtain ⟨h1, h3⟩ := and2 h1
      obtain ⟨h1, h2⟩ := and2 h1
      exact n_tupRg x0 (of_decide_eq_true h1) (of_decide_eq_true h2) h3 h4 (star_ne h5) (opd_of x0 h6 (sE a c E X _ x0 h6))
    · cases h
  | .lstRg a, c, E, X, e, x0, h => by
    unfold chkE at h
    split at h
    · obtain ⟨h1, h6⟩ := and2 h
      obtain ⟨h1, h5⟩ := and2 h1
      obtain ⟨h1, h4⟩ := and2 h1
      obtain ⟨h1, h3⟩ := and2 h1
      obtain ⟨h1, h2⟩ := and2 h1
      exact n_lstRg x0 (of_decide_eq_true h1) (of_decide_eq_true h2) h3 h4 (star_ne h5) (opd_of x0 h6 (sE a c E X _ x0 h6))
    · cases h
  | .srtSet a, c, E, X, e, x0, h => by
    unfold chkE at h
    split at h
    · obtain ⟨h1, h6⟩ := and2 h
      obtain ⟨h1, h5⟩ := and2 h1
      obtain ⟨h1, h4⟩ := and2 h1
      obtain ⟨h1, h3⟩ := and2 h1
      obtain ⟨h1, h2⟩ := and2 h1
      exact n_srtSet x0 (of_decide_eq_true h1) (of_decide_eq_true h2) h3 h4 (star_ne h5) (opd_of x0 h6 (sE a c E X _ x0 h6))
    · cases h
  | .srtKey a, c, E, X, e, x0, h => by
    unfold chkE at h
    split at h
    · obtain ⟨h, h14⟩ := and2 h
      obtain ⟨h, h13⟩ := and2 h
      obtain ⟨h, h12⟩ := and2 h
      obtain ⟨h, h11⟩ := and2 h
      obtain ⟨h, h10⟩ := and2 h
      obtain ⟨h, h9⟩ := and2 h
      obtain ⟨h, h8⟩ := and2 h
      obtain ⟨h, h7⟩ := and2 h
      obtain ⟨h, h6⟩ := and2 h
      obtain ⟨h, h5⟩ := and2 h
      obtain ⟨h, h4⟩ := and2 h
      obtain ⟨h, h3⟩ := and2 h
      obtain ⟨h1, h2⟩ := and2 h
      exact n_key x0 h1 (of_decide_eq_true h2) (of_decide_eq_true h3) (of_decide_eq_true h4) (of_decide_eq_true h5) h6 (star_ne h7) (opd_of x0 h8 (sE a c E X _ x0 h8)) h9 h10 (of_decide_eq_true h11) h12 (star_ne h13) (star_ne h14)
    · cases h
  | .lenSet a, c, E, X, e, x0, h => by
    unfold chkE at h
    split at h
    · obtain ⟨h1, h6⟩ := and2 h
      obtain ⟨h1, h5⟩ := and2 h1
      obtain ⟨h1, h4⟩ := and2 h1
      obtain ⟨h1, h3⟩ := and2 h1
      obtain ⟨h1, h2⟩ := and2 h1
      exact n_lenSet x0 (of_decide_eq_true h1) (of_decide_eq_true h2) h3 h4 (star_ne h5) (opd_of x0 h6 (sE a c E X _ x0 h6))
    · cases h
  | .dlit kvs, c, E, X, e, x0, h => by
    unfold chkE at h
    split at h
    · obtain ⟨h1, h4⟩ := and2 h
      obtain ⟨h1, h3⟩ := and2 h1
      obtain ⟨h1, h2⟩ := and2 h1
      exact n_dlit h1 (of_decide_eq_true h2) (fun z => by subst z; simp at h3) (of_decide_eq_true h4)
    · cases h
  | .mth m o a, c, E, X, e, x0, h => by
    unfold chkE at h
    split at h
    · obtain ⟨h1, h6⟩ := and2 h
      obtain ⟨h1, h5⟩ := and2 h1
      obtain ⟨h1, h4⟩ := and2 h1
      obtain ⟨h1, h3⟩ := and2 h1
      obtain ⟨h1, h2⟩ := and2 h1
      exact n_mth x0 (of_decide_eq_true h1) h2 h3 (opd_of x0 h4 (sE o c E X _ x0 h4)) (star_ne h5) (opd_of x0 h6 (sE a c E X _ x0 h6))
    · cases h
  | .mut m i as, c, E, X, e, x0, h => by
    unfold chkE at h
    split at h
    · obtain ⟨h1, h6⟩ := and2 h
      obtain ⟨h1, h5⟩ := and2 h1
      obtain ⟨h1, h4⟩ := and2 h1
      obtain ⟨h1, h3⟩ := and2 h1
      obtain ⟨h1, h2⟩ := and2 h1
      refine n_mut x0 (of_decide_eq_true h1) h2 h3 h4 (of_decide_eq_true h5) (fun e => ?_) (sEs as c E X _ x0 h4).fz
      subst e
      exact of_decide_eq_true h6
    · cases h
  | .dnew t, c, E, X, e, x0, h => by
    unfold chkE at h
    split at h
    · cases t with
      | true => exact pe_imp pe_dnewT fun σ H Q h => dnew_to true h
      | false => exact pe_imp pe_dnewK fun σ H Q h => dnew_to false h
    · cases h
  | .ktup as, c, E, X, e, x0, h => by
    unfold chkE at h
    split at h
    · exact pe_imp (pe_tup (sEs as c E X _ x0 h).ev) fun σ H Q h => ktup_to h
    · cases h
  | .dget i k d, c, E, X, e, x0, h => by
    unfold chkE at h
    split at h
    · obtain ⟨h1, h7⟩ := and2 h
      obtain ⟨h1, h6⟩ := and2 h1
      obtain ⟨h1, h5⟩ := and2 h1
      obtain ⟨h1, h4⟩ := and2 h1
      obtain ⟨h1, h3⟩ := and2 h1
      obtain ⟨h1, h2⟩ := and2 h1
      have hn := of_decide_eq_true h1
      subst hn
      exact pe_imp (n_dget x0 h2 h3 (star_ne h4) (star_ne h5) (sE k c E X _ x0 h6) (sE d c E X _ x0 h7)) fun σ H Q h => dget_to h
    · cases h
  | .didx i k, c, E, X, e, x0, h => by
    unfold chkE at h
    split at h
    · obtain ⟨h1, h3⟩ := and2 h
      obtain ⟨h1, h2⟩ := and2 h1
      have hu : X.A.units + 1 < cLine := by have := x0.units; omega
      exact pe_imp (pe_dget hu (sName x0 h1) (sE k c E X _ x0 h2) (plain_of h3)) fun σ H Q h => didx_to h
    · cases h
  | .dlEq i r, c, E, X, e, x0, h => by
    unfold chkE at h
    split at h
    · obtain ⟨h1, h5⟩ := and2 h
      obtain ⟨h1, h4⟩ := and2 h1
      obtain ⟨h1, h3⟩ := and2 h1
      obtain ⟨h1, h2⟩ := and2 h1
      exact (n_dlEq x0 (of_decide_eq_true h1) h2 h3 h4 (of_decide_eq_true h5)).1
    · cases h
  | .dlIn i r, c, E, X, e, x0, h => by
    unfold chkE at h
    split at h
    · obtain ⟨h1, h6⟩ := and2 h
      obtain ⟨h1, h5⟩ := and2 h1
      obtain ⟨h1, h4⟩ := and2 h1
      obtain ⟨h1, h3⟩ := and2 h1
      obtain ⟨h1, h2⟩ := and2 h1
      exact (n_dlIn x0 (of_decide_eq_true h1) h2 h3 h4 (of_decide_eq_true h5) (star_ne h6)).1
    · cases h
  | .mutA i ix a, c, E, X, e, x0, h => by
    unfold chkE at h
    split at h
    · obtain ⟨h1, h7⟩ := and2 h
      obtain ⟨h1, h6⟩ := and2 h1
      obtain ⟨h1, h5⟩ := and2 h1
      obtain ⟨h1, h4⟩ := and2 h1
      obtain ⟨h1, h3⟩ := and2 h1
      obtain ⟨h1, h2⟩ := and2 h1
      have hn := of_decide_eq_true h1
      subst hn
      exact pe_imp (n_mutA x0 h2 h3 (plain_of h4) (star_ne h5) (sE ix c E X _ x0 h6) (sE a c E X _ x0 h7)) fun σ H Q h => mutA_to x0.hK h
    · cases h
  | .lc own tg it cond elt, c, E, X, e, x0, h => by
    unfold chkE at h
    split at h
    · rename_i e t iter ifs sc p
      obtain ⟨h1, h6⟩ := and2 h
      obtain ⟨h1, h5⟩ := and2 h1
      obtain ⟨h1, h4⟩ := and2 h1
      obtain ⟨h1, h3z⟩ := and2 h1
      obtain ⟨h3, hz⟩ := and2 h3z
      obtain ⟨h1, h2⟩ := and2 h1
      have ok : BlkOk X.N X.env.scope sc (ownN c own) := by rw [x0.hN, x0.hs]; exact blkOk_by h1
      refine pe_imp (pe_lc (wi := ItR g E tg (evIt Γ it)) (g := AsgR g tg) (tt := TcR g E0 (evc Γ cond)) (te := EvR g E0 (ev Γ elt)) x0.calm (xN x0) (sI it c E X _ t tg x0 h3 hz) ok (fun s H C cl fp => sG (x0.blk sc s H C cl fp) tg t h4)
        (fun s H C cl fp => sC cond _ _ _ _ (x0.blk sc s H C cl fp) h5) (fun s H C cl fp => sE elt _ _ _ _ (x0.blk sc s H C cl fp) h6) (lc_hs (chkI_set h3))) fun σ H Q h => ?_
      rw [own_map]
      exact lc_to (of_decide_eq_true h2) h
    · cases h
  | .lam k b, c, E, X, e, x0, h => by
    unfold chkE at h
    split at h
    · obtain ⟨h1, h5⟩ := and2 h
      obtain ⟨h1, h4⟩ := and2 h1
      obtain ⟨h1, h3⟩ := and2 h1
      obtain ⟨h1, h2⟩ := and2 h1
      exact n_lam x0 h1 h2 (parOk_ok h3) h4 h5
    · cases h
  | .lcl i, c, E, X, e, x0, h => by
    unfold chkE at h
    split at h
    · obtain ⟨h1, h2⟩ := and2 h
      exact n_lcl x0 h1 h2
    · cases h
  | .rfs is as, c, E, X, e, x0, h => by
    unfold chkE at h
    split at h
    · obtain ⟨h1, h4⟩ := and2 h
      obtain ⟨h1, h3⟩ := and2 h1
      obtain ⟨h1, h2⟩ := and2 h1
      exact n_rfs x0 h1 (of_decide_eq_true h2) h3 (star_head h4) (star_rest h4) (sEs as c E X _ x0 h4).fz
    · cases h
  | .gin neg a, c, E, X, e, x0, h => by
    unfold chkE at h
    split at h
    · obtain ⟨h1, h5⟩ := and2 h
      obtain ⟨h1, h4⟩ := and2 h1
      obtain ⟨h1, h3⟩ := and2 h1
      obtain ⟨h1, h2⟩ := and2 h1
      exact (n_gin x0 h1 (of_decide_eq_true h2) h3 (opd_of x0 h4 (sE a c E X _ x0 h4)) (star_ne h5)).1
    · cases h
  | .gix a, c, E, X, e, x0, h => by
    unfold chkE at h
    split at h
    · obtain ⟨h1, h4⟩ := and2 h
      obtain ⟨h1, h3⟩ := and2 h1
      obtain ⟨h1, h2⟩ := and2 h1
      exact n_gix x0 (of_decide_eq_true h1) h2 (opd_of x0 h3 (sE a c E X _ x0 h3)) (plain_of h4)
    · cases h
  | .pk is a, c, E, X, e, x0, h => by
    unfold chkE at h
    exact pe_imp (sE a c E X e x0 h) fun σ H Q h => pk_ev h
  | .app i a, c, E, X, e, x0, h => by
    unfold chkE at h
    split at h
    · obtain ⟨h1, h5⟩ := and2 h
      obtain ⟨h1, h4⟩ := and2 h1
      obtain ⟨h1, h3⟩ := and2 h1
      obtain ⟨h1, h2⟩ := and2 h1
      have hn := of_decide_eq_true h1
      subst hn
      exact pe_imp (n_app x0 h2 h3 (star_ne h4) (sE a c E X _ x0 h5)) fun σ H Q h => app_to x0.hK h
    · cases h
theorem sT : ∀ (k : C) (c : Ck) (E : XK) (X : Cx) (e : Expr), XOk g Γ c E X → chkT c k e = true → PT X e (TtR g E (ev Γ k)) ∧ ∀ op vs p, e = .BoolOp op vs p → PW X e (TtR g E (ev Γ k))
  | .bad, c, E, X, e, x0, h => ⟨tt_stuck, fun op vs p _ => ⟨fun w pins s σ H Q I h => by obtain ⟨Φ, ρ, s, fs, F, r, k, hm, q⟩ := h; cases hm⟩⟩
  | .and a b, c, E, X, e, x0, h => by
    have key : PW X e (TtR g E (ev Γ (.and a b))) := by
      unfold chkT at h
      split at h
      · obtain ⟨h1, h2⟩ := and2 h
        refine pw_imp (pw_and (sT a c E X _ x0 h1).1 (tB' := TtR g E (ev Γ b)) ?_) fun σ H Q h => tt_and h
        split at h2
        · exact pw_and1 (sT b c E X _ x0 h2).1
        · exact (sT b c E X _ x0 h2).2 _ _ _ rfl
      · cases h
    exact ⟨key.pt, fun _ _ _ _ => key⟩
  | .or a b, c, E, X, e, x0, h => by
    have key : PW X e (TtR g E (ev Γ (.or a b))) := by
      unfold chkT at h
      split at h
      · obtain ⟨h1, h2⟩ := and2 h
        refine pw_imp (pw_or (sT a c E X _ x0 h1).1 (tB' := TtR g E (ev Γ b)) ?_) fun σ H Q h => tt_or h
        split at h2
        · exact pw_or1 (sT b c E X _ x0 h2).1
        · exact (sT b c E X _ x0 h2).2 _ _ _ rfl
      · cases h
    exact ⟨key.pt, fun _ _ _ _ => key⟩
  | .not a, c, E, X, e, x0, h => by
    unfold chkT at h
    split at h
    · exact ⟨pt_imp (pt_not (sT a c E X _ x0 h).1) fun σ H Q h => tt_not h, fun _ _ _ e => by cases e⟩
    · cases h
  | .isN a, c, E, X, e, x0, h => by
    unfold chkT at h
    split at h
    · exact ⟨(n_isN (opd_of x0 h (sE a c E X _ x0 h))).2, fun _ _ _ e => by cases e⟩
    · cases h
  | .notN a, c, E, X, e, x0, h => by
    unfold chkT at h
    split at h
    · exact ⟨(n_notN (opd_of x0 h (sE a c E X _ x0 h))).2, fun _ _ _ e => by cases e⟩
    · cases h
  | .op2 o a b, c, E, X, e, x0, h => by
    unfold chkT at h
    split at h
    · obtain ⟨h1, h4⟩ := and2 h
      obtain ⟨h1, h3⟩ := and2 h1
      obtain ⟨h1, h2⟩ := and2 h1
      exact ⟨(n_cmp x0 h1 (opd_of x0 h2 (sE a c E X _ x0 h2)) (opd_of x0 h3 (sE b c E X _ x0 h3)) (star_ne h4)).2, fun _ _ _ e => by cases e⟩
    · cases h
  | .chain o o' a b d, c, E, X, e, x0, h => by
    unfold chkT at h
    split at h
    · obtain ⟨h1, h6⟩ := and2 h
      obtain ⟨h1, h5⟩ := and2 h1
      obtain ⟨h1, h4⟩ := and2 h1
      obtain ⟨h1, h3⟩ := and2 h1
      obtain ⟨h1, h2⟩ := and2 h1
      exact ⟨(n_chain x0 h1 h2 (opd_of x0 h3 (sE a c E X _ x0 h3)) (opd_of x0 h4 (sE b c E X _ x0 h4)) (opd_of x0 h5 (sE d c E X _ x0 h5)) (star_ne h6)).2, fun _ _ _ e => by cases e⟩
    · cases h
  | .cal f as, c, E, X, e, x0, h => by
    unfold chkT at h
    split at h
    · obtain ⟨h1, h3⟩ := and2 h
      obtain ⟨h1, h2⟩ := and2 h1
      exact ⟨pt_of (n_call x0 (of_decide_eq_true h1) h2 h3 (sEs as c E X _ x0 h3).op) (testable rfl), fun _ _ _ e => by cases e⟩
    · cases h
  | .isi T a, c, E, X, e, x0, h => by
    unfold chkT at h
    split at h
    · obtain ⟨h1, h7⟩ := and2 h
      obtain ⟨h1, h6⟩ := and2 h1
      obtain ⟨h1, h5⟩ := and2 h1
      obtain ⟨h1, h4⟩ := and2 h1
      obtain ⟨h1, h3⟩ := and2 h1
      obtain ⟨h1, h2⟩ := and2 h1
      exact ⟨pt_of (n_isi x0 (of_decide_eq_true h1) h2 h3 (of_decide_eq_true h4) (of_decide_eq_true h5) (star_ne h6) (opd_of x0 h7 (sE a c E X _ x0 h7))) (testable rfl), fun _ _ _ e => by cases e⟩
    · cases h
  | .bi b as, c, E, X, e, x0, h => by
    unfold chkT at h
    split at h
    · obtain ⟨h1, h3⟩ := and2 h
      obtain ⟨h1, h2⟩ := and2 h1
      have e := of_decide_eq_true h1
      subst e
      exact ⟨pt_of (pe_imp (bi_pe x0 b (sEs as c E X _ x0 h3).pk (gl_of x0 h2).1 (star_head h3) (star_rest h3)) fun σ H Q h => bi_to h) (testable rfl), fun _ _ _ e => by cases e⟩
    · cases h
  | .var i, c, E, X, e, x0, h => by
    unfold chkT at h
    split at h
    · exact ⟨pt_of (ev_var (sName x0 h)) (testable rfl), fun _ _ _ e => by cases e⟩
    · cases h
  | .idx a i, c, E, X, e, x0, h => by
    unfold chkT at h
    split at h
    · obtain ⟨h1, h3⟩ := and2 h
      obtain ⟨h1, h2⟩ := and2 h1
      exact ⟨pt_of (pe_imp (pe_ix (ixv x0.hK) (opd_of x0 h1 (sE a c E X _ x0 h1)) (opd_of x0 h2 (sE i c E X _ x0 h2)) (plain_of h3)) fun σ H Q h => bin_to h) (testable rfl), fun _ _ _ e => by cases e⟩
    · cases h
  | .gin neg a, c, E, X, e, x0, h => by
    unfold chkT at h
    split at h
    · obtain ⟨h1, h5⟩ := and2 h
      obtain ⟨h1, h4⟩ := and2 h1
      obtain ⟨h1, h3⟩ := and2 h1
      obtain ⟨h1, h2⟩ := and2 h1
      exact ⟨(n_gin x0 h1 (of_decide_eq_true h2) h3 (opd_of x0 h4 (sE a c E X _ x0 h4)) (star_ne h5)).2, fun _ _ _ e => by cases e⟩
    · cases h
  | .gix _, _, _, _, _, _, h => by unfold chkT at h; cases h
  | .app _ _, _, _, _, _, _, h => by unfold chkT at h; cases h
  | .pk is a, c, E, X, e, x0, h => by
    unfold chkT at h
    have ih := sT a c E X e x0 h
    exact ⟨pt_imp ih.1 fun σ H Q h => pk_tt h, fun op vs p he => pw_imp (ih.2 op vs p he) fun σ H Q h => pk_tt h⟩
  | .cst _, _, _, _, _, _, h => by unfold chkT at h; cases h
  | .glo _, _, _, _, _, _, h => by unfold chkT at h; cases h
  | .mv _, _, _, _, _, _, h => by unfold chkT at h; cases h
  | .neg _, _, _, _, _, _, h => by unfold chkT at h; cases h
  | .ite _ _ _, _, _, _, _, _, h => by unfold chkT at h; cases h
  | .tup _, _, _, _, _, _, h => by unfold chkT at h; cases h
  | .lst _, _, _, _, _, _, h => by unfold chkT at h; cases h
  | .slc _ _ _, _, _, _, _, _, h => by unfold chkT at h; cases h
  | .tupRg _, _, _, _, _, _, h => by unfold chkT at h; cases h
  | .lstRg _, _, _, _, _, _, h => by unfold chkT at h; cases h
  | .srtSet _, _, _, _, _, _, h => by unfold chkT at h; cases h
  | .lenSet _, _, _, _, _, _, h => by unfold chkT at h; cases h
  | .dlit _, _, _, _, _, _, h => by unfold chkT at h; cases h
  | .srtKey _, _, _, _, _, _, h => by unfold chkT at h; cases h
  | .mth _ _ _, _, _, _, _, _, h => by unfold chkT at h; cases h
  | .mut _ _ _, _, _, _, _, _, h => by unfold chkT at h; cases h
  | .lc _ _ _ _ _, _, _, _, _, _, h => by unfold chkT at h; cases h
  | .dnew _, _, _, _, _, _, h => by unfold chkT at h; cases h
  | .ktup _, _, _, _, _, _, h => by unfold chkT at h; cases h
  | .dget _ _ _, _, _, _, _, _, h => by unfold chkT at h; cases h
  | .didx _ _, _, _, _, _, _, h => by unfold chkT at h; cases h
  | .mutA _ _ _, _, _, _, _, _, h => by unfold chkT at h; cases h
  | .lam _ _, _, _, _, _, _, h => by unfold chkT at h; cases h
  | .lcl _, _, _, _, _, _, h => by unfold chkT at h; cases h
  | .rfs is as, c, E, X, e, x0, h => by
    unfold chkT at h
    split at h
    · obtain ⟨h1, h4⟩ := and2 h
      obtain ⟨h1, h3⟩ := and2 h1
      obtain ⟨h1, h2⟩ := and2 h1
      exact ⟨pt_of (n_rfs x0 h1 (of_decide_eq_true h2) h3 (star_head h4) (star_rest h4) (sEs as c E X _ x0 h4).fz) fun _ => rfl, fun _ _ _ e => by cases e⟩
    · cases h
  | .dlEq i r, c, E, X, e, x0, h => by
    unfold chkT at h
    split at h
    · obtain ⟨h1, h5⟩ := and2 h
      obtain ⟨h1, h4⟩ := and2 h1
      obtain ⟨h1, h3⟩ := and2 h1
      obtain ⟨h1, h2⟩ := and2 h1
      exact ⟨(n_dlEq x0 (of_decide_eq_true h1) h2 h3 h4 (of_decide_eq_true h5)).2, fun _ _ _ e => by cases e⟩
    · cases h
  | .dlIn i r, c, E, X, e, x0, h => by
    unfold chkT at h
    split at h
    · obtain ⟨h1, h6⟩ := and2 h
      obtain ⟨h1, h5⟩ := and2 h1
      obtain ⟨h1, h4⟩ := and2 h1
      obtain ⟨h1, h3⟩ := and2 h1
      obtain ⟨h1, h2⟩ := and2 h1
      exact ⟨(n_dlIn x0 (of_decide_eq_true h1) h2 h3 h4 (of_decide_eq_true h5) (star_ne h6)).2, fun _ _ _ e => by cases e⟩
    · cases h
theorem sEs : ∀ (as : Cs) (c : Ck) (E : XK) (X : Cx) (es : List Expr), XOk g Γ c E X → chkEs c as es = true → PAs g Γ E X as es
  | .nil, c, E, X, es, x0, h => by
    unfold chkEs at h
    cases es with
    | cons _ _ => cases h
    | nil =>
      refine ⟨pa_imp pa_nil fun σ H Q h => evs_nil h, pa_imp pa_nil fun σ H Q h => pks_nil h, pa_imp pa_nil fun σ H Q h => fz_nil h, fun ms => ?_⟩
      cases ms with
      | nil => exact pa_imp pa_nil fun σ H Q h => pks_nil h
      | cons m ms =>
        have e : evOps Γ (m :: ms) .nil = stuck := by cases m <;> rfl
        rw [e]; exact pa_stuck
  | .cons a as, c, E, X, es, x0, h => by
    unfold chkEs at h
    cases es with
    | nil => cases h
    | cons e es =>
      obtain ⟨h1, h3⟩ := and2 h
      obtain ⟨h1, h2⟩ := and2 h1
      have pe := sE a c E X e x0 h2
      have pa := sEs as c E X es x0 h3
      refine ⟨pa_imp (pa_cons pe pa.ev (star_no (star_ne h1))) fun σ H Q h => evs_cons h, pa_imp (pa_cons (opd_of x0 h2 pe) pa.pk (star_no (star_ne h1))) fun σ H Q h => pks_cons h, pa_imp (pa_cons pe pa.fz (star_no (star_ne h1))) fun σ H Q h => fz_cons h, fun ms => ?_⟩
      cases ms with
      | nil =>
        have e : evOps Γ [] (.cons a as) = stuck := rfl
        rw [e]; exact pa_stuck
      | cons m ms =>
        cases m with
        | val => exact pa_imp (pa_cons (opd_fz pe) (pa.op ms) (star_no (star_ne h1))) fun σ H Q h => pks_cons h
        | io => exact pa_imp (pa_cons (has_of x0 h2) (pa.op ms) (star_no (star_ne h1))) fun σ H Q h => pks_cons h
theorem sO : ∀ (k : Co) (c : Ck) (E : XK) (X : Cx) (e : Option Expr), XOk g Γ c E X → chkO c k e = true → PO X e (EoR g E (evo Γ k))
  | .no, c, E, X, e, x0, h => by
    unfold chkO at h
    cases e with
    | none => exact eo_no
    | some _ => cases h
  | .yes a, c, E, X, e, x0, h => by
    unfold chkO at h
    cases e with
    | none => cases h
    | some e => exact eo_yes (sE a c E X e x0 h)
theorem sC : ∀ (k : Co) (c : Ck) (E : XK) (X : Cx) (e : List Expr), XOk g Γ c E X → chkC c k e = true → PTs X e (TcR g E (evc Γ k))
  | .no, c, E, X, e, x0, h => by
    unfold chkC at h
    cases e with
    | nil => exact tc_no
    | cons _ _ => cases h
  | .yes a, c, E, X, e, x0, h => by
    unfold chkC at h
    split at h
    · exact tc_yes (sT a c E X _ x0 h).1
    · cases h
theorem sI : ∀ (k : It) (c : Ck) (E : XK) (X : Cx) (e : Expr) (t : Expr) (tg : Tg), XOk g Γ c E X → chkI c k e = true → ztg k tg t = true → PI X t e (ItR g E tg (evIt Γ k))
  | .seq a, c, E, X, e, t, tg, x0, h, _ => by
    unfold chkI at h
    exact pi_imp (pi_seq (sE a c E X e x0 (and2 h).1)) fun σ H Q h => itr_seq x0.hK h
  | .rng1 a, c, E, X, e, t, tg, x0, h, _ => by
    unfold chkI at h
    split at h
    · obtain ⟨h1, h4⟩ := and2 h
      obtain ⟨h1, h3⟩ := and2 h1
      obtain ⟨h1, h2⟩ := and2 h1
      have e := of_decide_eq_true h1
      subst e
      exact pi_imp (pi_range1 (gl_of x0 h2).1 (blt_of x0 (by decide)) (pa_cons (sE a c E X _ x0 h4) pa_nil (star_no (star_ne h3))) (star_no (star_ne h3))) fun σ H Q h => itr_rng1 h
    · cases h
  | .rng2 a b, c, E, X, e, t, tg, x0, h, _ => by
    unfold chkI at h
    split at h
    · obtain ⟨h1, h6⟩ := and2 h
      obtain ⟨h1, h5⟩ := and2 h1
      obtain ⟨h1, h4⟩ := and2 h1
      obtain ⟨h1, h3⟩ := and2 h1
      obtain ⟨h1, h2⟩ := and2 h1
      have e := of_decide_eq_true h1
      subst e
      exact pi_imp (pi_range2 (gl_of x0 h2).1 (blt_of x0 (by decide)) (pa_cons (sE a c E X _ x0 h5) (pa_cons (sE b c E X _ x0 h6) pa_nil (star_no (star_ne h4))) (star_no (star_ne h3))) (by rw [star_no (star_ne h3), star_no (star_ne h4)]; rfl) (star_no (star_ne h4))) fun σ H Q h => itr_rng2 h
    · cases h
  | .zip as, c, E, X, e, t, tg, x0, h, hz => by
    unfold chkI at h
    split at h
    · obtain ⟨h1, h5⟩ := and2 h
      obtain ⟨h1, h4⟩ := and2 h1
      obtain ⟨h1, h3⟩ := and2 h1
      obtain ⟨h1, h2⟩ := and2 h1
      have e := of_decide_eq_true h1
      subst e
      obtain ⟨z1, z2⟩ := and2 hz
      split at z2
      · exact pi_imp (RZ.pi_zipA (gl_of x0 h2).1 (blt_of x0 (by decide)) (sEs as c E X _ x0 h5).fz (star_no (star_ne h3)) (by rw [star_no (star_ne h4)]; rfl)) fun σ H Q h => itr_zip (as := as) x0.hK z1 h
      · cases z2
    · cases h
  | .en a, c, E, X, e, t, tg, x0, h, hz => by
    unfold chkI at h
    split at h
    · obtain ⟨h1, h4⟩ := and2 h
      obtain ⟨h1, h3⟩ := and2 h1
      obtain ⟨h1, h2⟩ := and2 h1
      have e := of_decide_eq_true h1
      subst e
      obtain ⟨z1, z2⟩ := and2 hz
      split at z2
      · exact pi_imp (ExZ.pi_enA (gl_of x0 h2).1 (blt_of x0 (by decide)) (pa_cons (sE a c E X _ x0 h4) pa_nil (star_no (star_ne h3))) (star_no (star_ne h3))) fun σ H Q h => itr_en x0.hK z1 h
      · cases z2
    · cases h
  | .rev a, c, E, X, e, t, tg, x0, h, _ => by
    unfold chkI at h
    split at h
    · obtain ⟨h1, h4⟩ := and2 h
      obtain ⟨h1, h3⟩ := and2 h1
      obtain ⟨h1, h2⟩ := and2 h1
      have e := of_decide_eq_true h1
      subst e
      exact pi_imp (pi_reversed (gl_of x0 h2).1 (blt_of x0 (by decide)) (pa_cons (sE a c E X _ x0 h4) pa_nil (star_no (star_ne h3))) (star_no (star_ne h3))) fun σ H Q h => itr_rev x0.hK h
    · cases h
end
end
end Den
/-! Den19: statements: the look and its soundness. -/
namespace Den
open PySem PySem.Spec L2
def isComp : Expr → Bool
  | .ListComp _ _ _ _ => true
  | .SetComp _ _ _ _ => true
  | .DictComp _ _ _ _ _ => true
  | _ => false
def noSwp : Expr → Expr → Bool
  | .Tuple _ _ _, .Tuple _ _ _ => false
  | .List _ _, .Tuple _ _ _ => false
  | _, _ => true
/-- a comprehension's value that is stored by an exchange -/
def lcSw (c : Ck) (y : Str) (py pos : Pos) (sc : Scope) : Bool := decide (c.sc.kind = .function) && decide (c.sc.names.lookup y = some .local) && (py.line == pos.line) && !(sc.names.any fun (n, k) => n == y && (k == .local || k == .cell))
mutual
def chkS : Ck → T → Stmt → Bool
  | _, .bad, _ => true
  | _, .doc, s => match s with
    | .Expr (.Constant (.str _) _ _) _ => true
    | .Pass _ => true
    | _ => false
  | c, .set tg e, s => match s with
    | .Assign [t] v p => decide (∀ j ∈ c.pr, j ∉ tgSl tg) && chkG c tg t && chkE c e v && (match e with
      | .lc own tg' it cond elt => (match tg, t, v with
        | .nm i, .Name y py, .ListComp _ [⟨_, _, _, 0⟩] sc pos => lcSw c y py pos sc || decide (c.sc.names.lookup y = some .cell)
        | _, _, _ => false)
      | _ => !isComp v && noSwp t v)
    | _ => false
  | c, .seti i k e, s => match s with
    | .Assign [.Subscript (.Name x _) ix _] v _ => visB c i x && chkE c k ix && plainIx ix && chkE c e v && !isComp v
    | _ => false
  | c, .dset i k e, s => match s with
    | .Assign [.Subscript (.Name x _) ix _] v _ => visB c i x && chkE c k ix && plainIx ix && chkE c e v && !isComp v
    | _ => false
  | c, .aug i e, s => match s with
    | .AugAssign (.Name x _) .Add v _ => decide (i ∉ c.pr) && locB c i x && chkE c e v
    | _ => false
  | c, .expr e, s => match s with
    | .Expr v _ => chkE c e v && !isComp v
    | _ => false
  | c, .ret e, s => match s with
    | .Return (some v) _ => chkE c e v
    | _ => false
  | _, .retn, s => match s with
    | .Return none _ => true
    | _ => false
  | c, .ife t a b, s => match s with
    | .If e x y _ => chkT c t e && chkSs c a x && chkSs c b y
    | _ => false
  | c, .forr tg it body, s => match s with
    | .For t iter b [] _ => decide (∀ j ∈ c.pr, j ∉ tgSl tg) && chkG c tg t && (chkI c it iter && ztg it tg t) && chkSs c body b
    | _ => false
  | c, .whil _ t body, s => match s with
    | .While e b [] _ => chkT c t e && chkSs c body b
    | _ => false
  | c, .rse i, s => match s with
    | .Raise (some (.Call (.Name x _) [.Constant (.str _) _ _] [] _)) none _ => c.ex && decide (i = 0 ∨ i = 4) && decide (x = clW i) && glB c x
    | _ => false
  | c, .rsi i e, s => match s with
    | .Raise (some (.Call (.Name x _) [v] [] _)) none _ => c.ex && decide (1 ≤ i ∧ i ≤ 3) && decide (x = clW i) && glB c x && !star v && chkE c e v
    | _ => false
  | c, .forB x i body, s => match s with
    | .For (.Name y _) (.Name z _) b [] _ => decide (x ∉ c.pr) && decide (x ≠ i) && locB c x y && visB c i z && chkSs ⟨c.N, c.sc, x :: i :: c.pr, c.bs, c.lm, false, [], c.ex⟩ body b
    | _ => false
termination_by structural _ t => t
def chkSs : Ck → Ts → List Stmt → Bool
  | _, .nil, ss => ss.isEmpty
  | c, .cons t ts, ss => match ss with
    | s :: ss => chkS c t s && chkSs c ts ss
    | [] => false
termination_by structural _ t => t
end
section
variable {g : Gx} {Γ : Tb} {c : Ck} {E : XK} {X : Cx}
structure SOk (g : Gx) (Γ : Tb) (c : Ck) (E : XK) (X : Cx) : Prop where
  x : XOk g Γ c E X
  own : PassesOwn (model X.prog X.w) X.A X.env X.xe
  tk : L2N.Takes X (fun cls d _ H => E cls d H)
theorem SOk.pr (so : SOk g Γ c E X) (p : List Nat) : SOk g Γ ⟨c.N, c.sc, p, c.bs, c.lm, false, [], c.ex⟩ E X :=
  ⟨⟨so.x.hK, so.x.hN, so.x.nd, so.x.hs, so.x.calm, so.x.units, fun x h => so.x.fnc x h, so.x.blt, so.x.fns, so.x.glo, so.x.px, so.x.lam, (fun h => by cases h), (fun h => by cases h), so.x.exF⟩, so.own, so.tk⟩
theorem swp_no {v : Expr} {t : Option Expr} {l : Nat} {env : Env} (h : isComp v = false) : swapsWith v t l env = pure false := by
  cases v <;> first | rfl | (simp [isComp] at h)
theorem sole_no {v t : Expr} {l : Nat} {env : Env} (h : isComp v = false) : swapsWithSole [t] v l env = pure false := by
  show swapsWith v (some t) l env = pure false
  exact swp_no h
theorem sts_no {t v : Expr} {env : Env} (h : noSwp t v = true) : swappedStores [t] v env = pure none := by
  cases t <;> cases v <;> first | rfl | (simp [noSwp] at h)
theorem sub_ha {o i : Expr} {p : Pos} {env : Env} (h : plainIx i = true) : ∀ v, assign (.Subscript o i p) env v = (do
      let ov ← holding [v] (eval o env)
      let iv ← holding [v, ov] (eval i env)
      standAt p
      holding [v, ov, iv] (setItem ov iv v)
      release [v, ov, iv] []) := by
  intro v
  cases i <;> first | rfl | (simp [plainIx] at h)
theorem ExR.nev {pr : List Nat} {D0 : Ends} {σ : L2.St} {H : Hp} (h : ExR g E pr (fun _ => none) D0 σ H) : False := by
  obtain ⟨Φ, ρ, s, fs, F, r, k, hm, p⟩ := h
  cases hm
theorem lc_set (x0 : XOk g Γ c E X) {i : Nat} {y : Str} {py pos spos : Pos} {own : List Nat} {tg : Tg} {it : It} {cond : Co} {elt : C} {e t iter : Expr} {ifs : List Expr} {sc : Scope} (hp : ∀ j ∈ c.pr, j ∉ tgSl (.nm i)) (hl : locB c i y = true)
    (h : chkE c (.lc own tg it cond elt) (.ListComp e [⟨t, iter, ifs, 0⟩] sc pos) = true) (hw : lcSw c y py pos sc = true) :
    PS X (.Assign [.Name y py] (.ListComp e [⟨t, iter, ifs, 0⟩] sc pos) spos) (ExR g E c.pr (exec Γ (.set (.nm i) (.lc own tg it cond elt)))) := by
  unfold chkE at h
  obtain ⟨h1, h6⟩ := and2 h
  obtain ⟨h1, h5⟩ := and2 h1
  obtain ⟨h1, h4⟩ := and2 h1
  obtain ⟨h1, h3z⟩ := and2 h1
  obtain ⟨h3, hz⟩ := and2 h3z
  obtain ⟨h1, h2⟩ := and2 h1
  have ok : BlkOk X.N X.env.scope sc (ownN c own) := by rw [x0.hN, x0.hs]; exact blkOk_by h1
  unfold lcSw at hw
  obtain ⟨w1, w4⟩ := and2 hw
  obtain ⟨w1, w3⟩ := and2 w1
  obtain ⟨w1, w2⟩ := and2 w1
  have hy : X.env.scope.names.lookup y = some .local := by rw [x0.hs]; exact of_decide_eq_true w2
  have hk : X.env.scope.kind = .function := by rw [x0.hs]; exact of_decide_eq_true w1
  refine ps_imp (ps_setLc (wi := ItR g E tg (evIt Γ it)) (g := AsgR g tg) (tt := TcR g E0 (evc Γ cond)) (te := EvR g E0 (ev Γ elt)) x0.calm (xN x0) (loc_of x0 hl).1 hy (sw_true hk hy w3 (star_ne w4)) (sI it c E X _ t tg x0 h3 hz) ok (fun s H C cl fp => sG (x0.blk sc s H C cl fp) tg t h4)
        (fun s H C cl fp => sC cond _ _ _ _ (x0.blk sc s H C cl fp) h5) (fun s H C cl fp => sE elt _ _ _ _ (x0.blk sc s H C cl fp) h6) (lc_hs (chkI_set h3))) fun D σ H h => ?_
  rw [own_map]
  have h' : tAsg (EvR g E (ev Γ (.lc own tg it cond elt))) (AsgR g (.nm i)) D σ H := set_to hp h
  have h'' : EvR g E (lcM own tg (evIt Γ it) (evc Γ cond) (ev Γ elt)) σ H fun x H1 => gName i x σ H1 D.nx := EvR.imp h' fun v H1 q => nm_to q
  exact lc_to (of_decide_eq_true h2) h''
theorem sw_cell {elt : Expr} {gs : List Comprehension} {scope : Scope} {pos py : Pos} {y : Str} {l : Nat} {env : Env} (hy : env.scope.names.lookup y = some .cell) : swapsWithSole [.Name y py] (.ListComp elt gs scope pos) l env = pure false := by
  have ky : env.kindOf y = some .cell := hy
  show swapsWith (.ListComp elt gs scope pos) (some (.Name y py)) l env = pure false
  unfold swapsWith
  simp only [ky]
  have e : (some NameKind.cell == some NameKind.local) = false := rfl
  simp only [e, Bool.and_false, Bool.false_and]
mutual
theorem sS : ∀ (t : T) (c : Ck) (s : Stmt), SOk g Γ c E X → chkS c t s = true → PS X s (ExR g E c.pr (exec Γ t))
  | .bad, c, s, so, h => ps_imp ps_never fun D σ H h => ExR.nev h
  | .doc, c, s, so, h => by
    unfold chkS at h
    split at h
    · exact ps_imp ps_doc fun D σ H h => nx_to h
    · exact ps_imp ps_pass fun D σ H h => nx_to h
    · cases h
  | .set tg e, c, s, so, h => by
    unfold chkS at h
    split at h
    · obtain ⟨h1, h4⟩ := and2 h
      obtain ⟨h1, h3⟩ := and2 h1
      obtain ⟨h1, h2⟩ := and2 h1
      have hp := of_decide_eq_true h1
      split at h4
      · split at h4
        · rcases (Bool.or_eq_true _ _).mp h4 with h4 | h4
          · unfold chkG at h2
            exact lc_set so.x hp h2 h3 h4
          · have hy := of_decide_eq_true h4
            rw [← so.x.hs] at hy
            exact ps_imp (ps_asg (sE _ c E X _ so.x h3) (sG so.x _ _ h2) (sw_cell hy) rfl rfl) fun D σ H h => set_to hp h
        · cases h4
      · obtain ⟨h5, h6⟩ := and2 h4
        exact ps_imp (ps_asg (sE e c E X _ so.x h3) (sG so.x tg _ h2) (sole_no (star_ne h5)) (sts_no h6) (by
          cases tg <;> unfold chkG at h2 <;> split at h2 <;> first | rfl | cases h2)) fun D σ H h => set_to hp h
    · cases h
  | .seti i k e, c, s, so, h => by
    unfold chkS at h
    split at h
    · obtain ⟨h1, h5⟩ := and2 h
      obtain ⟨h1, h4⟩ := and2 h1
      obtain ⟨h1, h3⟩ := and2 h1
      obtain ⟨h1, h2⟩ := and2 h1
      have hs : ∀ (tt : Option Expr) (l : Nat), swapsWith _ tt l X.env = pure false := fun tt l => swp_no (star_ne h5)
      exact ps_imp (ps_asg (sE e c E X _ so.x h4) (pg_sub (sName so.x h1) (sE k c E X _ so.x h2) set_list (sub_ha h3)) (sole_no (star_ne h5)) (sts_no rfl) rfl) fun D σ H h => seti_to h
    · cases h
  | .dset i k e, c, s, so, h => by
    unfold chkS at h
    split at h
    · obtain ⟨h1, h5⟩ := and2 h
      obtain ⟨h1, h4⟩ := and2 h1
      obtain ⟨h1, h3⟩ := and2 h1
      obtain ⟨h1, h2⟩ := and2 h1
      have hu : X.A.units + 1 < cLine := by have := so.x.units; omega
      exact ps_imp (ps_dput hu (sName so.x h1) (sE k c E X _ so.x h2) (sE e c E X _ so.x h4) (swp_no (star_ne h5))) fun D σ H h => dset_to h
    · cases h
  | .aug i e, c, s, so, h => by
    unfold chkS at h
    split at h
    · obtain ⟨h1, h3⟩ := and2 h
      obtain ⟨h1, h2⟩ := and2 h1
      obtain ⟨l1, l2, l3⟩ := loc_of so.x h2
      exact ps_imp (ps_aug (xN so.x) l1 l2 (sE e c E X _ so.x h3) ip_add l3) fun D σ H h => aug_to (of_decide_eq_true h1) h
    · cases h
  | .expr e, c, s, so, h => by
    unfold chkS at h
    split at h
    · obtain ⟨h1, h2⟩ := and2 h
      exact ps_imp (ps_expr (sE e c E X _ so.x h1) (swp_no (star_ne h2))) fun D σ H h => drop_to h
    · cases h
  | .ret e, c, s, so, h => by
    unfold chkS at h
    split at h
    · exact ps_imp (ps_ret (sE e c E X _ so.x h)) fun D σ H h => ret_to h
    · cases h
  | .retn, c, s, so, h => by
    unfold chkS at h
    split at h
    · exact ps_imp ps_retN fun D σ H h => retn_to h
    · cases h
  | .ife t a b, c, s, so, h => by
    unfold chkS at h
    split at h
    · obtain ⟨h1, h3⟩ := and2 h
      obtain ⟨h1, h2⟩ := and2 h1
      exact ps_imp (ps_if (sT t c E X _ so.x h1).1 (sSs a c _ so h2) (sSs b c _ so h3)) fun D σ H h => if_to h
    · cases h
  | .forr tg it body, c, s, so, h => by
    unfold chkS at h
    split at h
    · obtain ⟨h1, h4⟩ := and2 h
      obtain ⟨h1, h3z⟩ := and2 h1
      obtain ⟨h3, hz⟩ := and2 h3z
      obtain ⟨h1, h2⟩ := and2 h1
      exact ps_imp (ps_for so.own so.x.calm (sI it c E X _ _ tg so.x h3 hz) (sG so.x tg _ h2) (sSs body c _ so h4) (lc_hs (chkI_set h3))) fun D σ H h => for_to (of_decide_eq_true h1) h
    · cases h
  | .whil n t body, c, s, so, h => by
    unfold chkS at h
    split at h
    · obtain ⟨h1, h2⟩ := and2 h
      exact ps_imp (ps_while so.own (sT t c E X _ so.x h1).1 (sSs body c _ so h2)) fun D σ H h => while_to h
    · cases h
  | .rse i, c, s, so, h => by
    unfold chkS at h
    split at h
    · obtain ⟨h1, h4⟩ := and2 h
      obtain ⟨h1, h3⟩ := and2 h1
      obtain ⟨hx1, h2⟩ := and2 h1
      have hF := so.x.exF hx1
      have e := of_decide_eq_true h3
      subst e
      exact rse_ok hF.1 so.x.calm so.tk (of_decide_eq_true h2) (gl_of so.x h4).1
    · cases h
  | .rsi i e, c, s, so, h => by
    unfold chkS at h
    split at h
    · obtain ⟨h1, h6⟩ := and2 h
      obtain ⟨h1, h5⟩ := and2 h1
      obtain ⟨h1, h4⟩ := and2 h1
      obtain ⟨h1, h3⟩ := and2 h1
      obtain ⟨hx1, h2⟩ := and2 h1
      have hF := so.x.exF hx1
      have e := of_decide_eq_true h3
      subst e
      have h2 := of_decide_eq_true h2
      exact rsi_ok hF.1 so.x.calm so.tk hF.2 h2.1 h2.2 (gl_of so.x h4).1 (sE e c E X _ so.x h6) (star_ne h5)
    · cases h
  | .forB x i body, c, s, so, h => by
    unfold chkS at h
    split at h
    · obtain ⟨h1, h5⟩ := and2 h
      obtain ⟨h1, h4⟩ := and2 h1
      obtain ⟨h1, h3⟩ := and2 h1
      obtain ⟨h1, h2⟩ := and2 h1
      obtain ⟨l1, l2, l3⟩ := loc_of so.x h3
      have hb := sSs body _ _ (so.pr (x :: i :: c.pr)) h5
      exact ps_imp (ps_for so.own so.x.calm (pi_seq (sName so.x h4)) (pg_name (xN so.x) l1 l2 l3) hb (lc_hs rfl)) fun D σ H h => lend_to so.x.hK (of_decide_eq_true h1) (of_decide_eq_true h2) h
    · cases h
theorem sSs : ∀ (t : Ts) (c : Ck) (s : List Stmt), SOk g Γ c E X → chkSs c t s = true → PSs X s (ExR g E c.pr (execs Γ t))
  | .nil, c, s, so, h => by
    unfold chkSs at h
    cases s with
    | nil => exact pss_imp pss_nil fun D σ H h => nx_to h
    | cons _ _ => cases h
  | .cons t ts, c, s, so, h => by
    unfold chkSs at h
    cases s with
    | nil => cases h
    | cons s ss =>
      obtain ⟨h1, h2⟩ := and2 h
      exact pss_imp (pss_cons (sS t c s so h1) (sSs ts c ss so h2)) fun D σ H h => ExR.seq h
end
end
end Den
/-! Den20: a def by its core text; tables of defs. -/
namespace Den
open PySem PySem.Spec L2
def prOf (io : List Md) : List Nat := (List.range io.length).filter fun j => decide (io[j]? = some .io)
section
variable {g : Gx} {Γ : Tb} {Φ Φ' H H' : Hp} {ρ ρ' : List Addr} {F : Addr → Prop} {σ : L2.St} {s : S} {fs : Ix → List Addr}
theorem outsOf_get : ∀ {io : List Md} {sl : List (Option D)} {outs : List D}, outsOf io sl = some outs → (outsSl io outs).length = io.length ∧ ∀ (j : Nat) (d : D), (outsSl io outs)[j]? = some (some d) → io[j]? = some .io ∧ sl[j]? = some (some d)
  | [], sl, outs, h => by
    simp only [outsOf] at h
    cases h
    exact ⟨rfl, fun j d e => by simp [outsSl] at e⟩
  | .io :: ms, [], outs, h => by simp [outsOf] at h
  | .io :: ms, none :: sl, outs, h => by simp [outsOf] at h
  | .io :: ms, some d :: sl, outs, h => by
    simp only [outsOf] at h
    cases q : outsOf ms sl with
    | none => rw [q] at h; cases h
    | some os =>
      rw [q] at h
      cases h
      obtain ⟨h1, h2⟩ := outsOf_get q
      refine ⟨by simp [outsSl, h1], fun j e z => ?_⟩
      cases j with
      | zero => simp [outsSl] at z; subst z; exact ⟨rfl, rfl⟩
      | succ j => simpa using h2 j e (by simpa [outsSl] using z)
  | .val :: ms, [], outs, h => by simp [outsOf] at h
  | .val :: ms, o :: sl, outs, h => by
    simp only [outsOf] at h
    obtain ⟨h1, h2⟩ := outsOf_get h
    refine ⟨by simp [outsSl, h1], fun j e z => ?_⟩
    cases j with
    | zero => simp [outsSl] at z
    | succ j => simpa using h2 j e (by simpa [outsSl] using z)
/-- behind a body: the parameters that are handed back -/
theorem Ok.outs {io : List Md} {outs : List D} {vs : List V} {σ0 : L2.St} (k : Ok g Φ H ρ s σ fs F) (ho : outsOf io s.sl = some outs) (hl : vs.length = io.length) (h0 : ∀ j : Nat, j < vs.length → σ0[j]? = (vs.map some)[j]?) (hp : PrOk (prOf io) σ0 σ) :
    Ok g Φ H ρ ⟨outsSl io outs, s.os⟩ (vs.map some) (fun x => match x with | .inl j => (match (outsSl io outs)[j]? with | some (some _) => fs (.inl j) | _ => []) | .inr n => fs (.inr n)) F := by
  obtain ⟨h1, h2⟩ := outsOf_get ho
  have sub : ∀ x a, a ∈ (fun x => match x with | .inl j => (match (outsSl io outs)[j]? with | some (some _) => fs (.inl j) | _ => []) | .inr n => fs (.inr n) : Ix → List Addr) x → a ∈ fs x := fun x a ha => by
    cases x with
    | inl j =>
      dsimp only at ha
      split at ha
      · exact ha
      · cases ha
    | inr n => exact ha
  refine ⟨k.sub, k.tab, k.fr, by simp [h1, hl], fun i d q => ?_, fun i q => ?_, k.obl, k.obj, k.obj0, fun x => ?_, fun x y a hx hy => k.sep x y a (sub x a hx) (sub y a hy), fun x a hx => k.out x a (sub x a hx)⟩
  · obtain ⟨h3, h4⟩ := h2 i d q
    obtain ⟨v, e, r⟩ := k.slot i d h4
    have hi : i < io.length := (List.getElem?_eq_some_iff.mp h3).1
    have hj : i ∈ prOf io := List.mem_filter.mpr ⟨List.mem_range.mpr hi, decide_eq_true h3⟩
    rw [hp.2 i hj, h0 i (by rw [hl]; exact hi)] at e
    refine ⟨v, e, ?_⟩
    have q' : (outsSl io outs)[i]? = some (some d) := q
    simp only [q']
    exact r
  · dsimp only
    split
    · rename_i d e
      exact absurd e (q d)
    · rfl
  · cases x with
    | inl j => dsimp only; split; exact k.nd _; exact List.nodup_nil
    | inr n => exact k.nd _
theorem start_len {n : Nat} {ds : List D} {os : List Ob} {vs : List V} {N : List Str} (hn : N.length = n) (h : ds.length = vs.length) (k : Ok g Φ H ρ ⟨ds.map some, os⟩ (vs.map some) fs F) : Ok g Φ H ρ (startS n ds os) (L2.start N vs) fs F := by
  have out : ∀ (i : Nat) (d : D), (startS n ds os).sl[i]? = some (some d) → (ds.map some)[i]? = some (some d) := fun i d q => by
    simp only [startS] at q
    by_cases hi : i < (ds.map some).length
    · rw [List.getElem?_append_left hi] at q; exact q
    · rw [List.getElem?_append_right (by omega), List.getElem?_replicate] at q
      split at q <;> cases q
  refine ⟨k.sub, k.tab, k.fr, ?_, fun i d q => ?_, fun i q => ?_, k.obl, k.obj, k.obj0, k.nd, k.sep, k.out⟩
  · unfold L2.start startS
    simp only [List.length_append, List.length_map, List.length_replicate]
    rw [h, hn]
  · have q' := out i d q
    obtain ⟨v, e, r⟩ := k.slot i d q'
    refine ⟨v, ?_, r⟩
    unfold L2.start
    have hi : i < (vs.map some).length := (List.getElem?_eq_some_iff.mp e).1
    rw [List.getElem?_append_left hi]; exact e
  · refine k.slot0 i fun d z => q d ?_
    show (startS n ds os).sl[i]? = some (some d)
    simp only [startS]
    have hi : i < (ds.map some).length := (List.getElem?_eq_some_iff.mp z).1
    rw [List.getElem?_append_left hi]; exact z
end
/-- the table's defs keep their promises -/
def TbOk (P : Program) (w : World) (K : PySem.W.Frag) (mg : Str → Option Value) (base : Heap) (g : Gx) (k : Nat) (Γ : Tb) : Prop :=
  ∀ x F, Γ.fn x = some F → ∃ (f : Addr) (fd : FuncData) (ps : List Str), FnOk P w K mg base (L2N.CX P w) k f fd ps (spD g F) ∧ mg x = some (.ref f) ∧ PySem.W.keepIn K (.ref f) = true ∧ Binds K fd ps []
abbrev GloOk (K : PySem.W.Frag) (w : World) (mg : Str → Option Value) (g : Gx) (Γ : Tb) : Prop := GloG K w mg g Γ.glo
section
variable {P : Program} {w : World} {K : PySem.W.Frag} {mg : Str → Option Value} {base : Heap} {g : Gx} {Γ : Tb}
theorem fn_ok {st : Stmt} {f : Addr} {N ps : List Str} {k : Nat} {io : List Md} {body : Ts} {lm ex : Bool} {name qual : Str} {dV kV doc pm cdv ct oc : Value} {an od : Option Addr} {osl : Array (Option Value)} (lk : K.lookup f = some ⟨oc, od, .func (PySem.W.fnOf name qual (defArgs st) (defBody st) (defScope st) dV kV doc pm an cdv ct), osl⟩) (hcd : PySem.W.codeIn K cdv qual = true) (Sc : FnScope N ps (defScope st)) (hps : ps.length = io.length) (hg : K = g.K)
    (hc : chkSs ⟨N, defScope st, prOf io, none, lm, false, [], ex⟩ body (defBody st) = true) (hb : ∀ x ∈ bltL, mg x = none) (ht : TbOk P w K mg base g k Γ) (hgl : GloOk K w mg g Γ)
    (hlm : lm = true → 2 ≤ k ∧ ∃ c P, cdv = .ref c ∧ LamX.TabB base mg c P ∧ (P, (qual ++ ".<locals>.") ++ "<lambda>") ∈ g.T ∧ ∀ p ∈ g.T, p.1 = P → p.2 = (qual ++ ".<locals>.") ++ "<lambda>") (hex : ex = true → 2 ≤ k ∧ ExcF P w K mg base g.cl) :
    FnOk P w K mg base (L2N.CX P w) (k + 1) f (PySem.W.fnOf name qual (defArgs st) (defBody st) (defScope st) dV kV doc pm an cdv ct) ps (spD g ⟨io, runB Γ N.length io body⟩) := by
  have len : ∀ vs H Q E, spD g ⟨io, runB Γ N.length io body⟩ vs H Q E → vs.length = io.length := fun vs H Q E h => by
    obtain ⟨Φ, ρ, ds, os, fs, Fr, r, k0, hl, _⟩ := h
    have := k0.len
    simp only [List.length_map] at this
    rw [← this]; exact hl
  refine fn_of lk hcd Sc (fun vs H Q E h => by rw [len vs H Q E h, hps]) fun A outer s H vs Q E hr h => ?_
  have hvl := len vs H Q E h
  obtain ⟨Φ, ρ, ds, os, fs, Fr, r, k0, hl, hrun, p⟩ := h
  have so : SOk g Γ ⟨N, defScope st, prOf io, none, lm, false, [], ex⟩ E (cxOf (L2N.CX P w) P w K mg base N qual (defScope st) f cdv A outer s H E) := by
    refine ⟨⟨hg, rfl, Sc.nd, rfl, rfl, ?_, fun _ _ _ => rfl, hb, fun y F' hy => ?_, hgl, L2N.passes_call (W := fun cls d _ H => E cls d H) (L2N.takes_of rfl rfl rfl rfl) (fun _ _ _ _ h => h), fun hl => ?_, fun h => (by cases h), fun h => (by cases h), fun he => ⟨(hex he).2, hr.mono (hex he).1⟩⟩, passes_of rfl, L2N.takes_of rfl rfl rfl rfl⟩
    · have := hr.un
      show (A.deeper _).units + 65 < cLine
      omega
    · obtain ⟨f', fd', ps', h1, h2, h3, h4⟩ := ht y F' hy
      exact ⟨k, f', fd', ps', h1, hr, h2, h3, h4⟩
    · obtain ⟨h2, c, P, rfl, TB, hT, hu⟩ := hlm hl
      exact ⟨⟨c, P, TB, rfl, hT, hu⟩, hr.mono h2⟩
  refine ⟨_, sSs body _ _ so hc, ?_⟩
  have hdl : ds.length = vs.length := by rw [hl, hvl]
  have k1 := start_len (n := N.length) (N := N) rfl hdl k0
  have h0 : ∀ j : Nat, j < vs.length → (L2.start N vs)[j]? = (vs.map some)[j]? := fun j hj => by
    unfold L2.start
    rw [List.getElem?_append_left (by simpa using hj)]
  unfold runB at hrun
  dsimp only at hrun
  have fin : ∀ (d : D) (s' : Den.S) (outs : List D), outsOf io s'.sl = some outs → r = .ret d outs s'.os → ∀ Φ' H' ρ' v f σ' fs', Stp Φ H ρ Fr Φ' H' ρ' → PrOk (prOf io) (L2.start N vs) σ' → Ok g Φ' H' ρ' s' σ' fs' (fadd f Fr) → Vl g Φ' H' ρ' d v f Fr → Q v H' := fun d s' outs ho hr' Φ' H' ρ' v f σ' fs' stp pk ok vl => by
    subst hr'
    exact p Φ' H' ρ' v f _ stp (ok.outs ho hvl h0 pk) vl
  split at hrun
  · rename_i d s' he
    split at hrun
    · rename_i outs ho
      cases hrun
      exact ⟨Φ, ρ, _, fs, Fr, _, k1, he, fin d s' outs ho rfl⟩
    · cases hrun
  · rename_i s' he
    split at hrun
    · rename_i outs ho
      cases hrun
      exact ⟨Φ, ρ, _, fs, Fr, _, k1, he, fun Φ' H' ρ' σ' fs' stp pk ok => fin .non s' outs ho rfl Φ' H' ρ' .non [] σ' fs' stp pk ok.nof ⟨rep_non, List.nodup_nil, fun a ha => by cases ha⟩⟩
    · cases hrun
  · rename_i x he
    cases hrun
    exact ⟨Φ, ρ, _, fs, Fr, _, k1, he, p⟩
  · cases hrun
/-- a def of the text -/
structure Df where
  name : Str
  N : List Str
  ps : List Str
  io : List Md
  body : Ts
  lm : Bool
  ex : Bool
def findD1 (x : Str) : List Df → Option Df
  | [] => none
  | d :: ds => if d.name = x then some d else findD1 x ds
def tab (glo : Str → Option D) (defs : List Df) : Nat → Tb
  | 0 => ⟨fun _ => none, glo, fun _ => none⟩
  | n + 1 => ⟨fun x => match findD1 x defs with
    | some d => if (d.lm || d.ex) && decide (n < 2) then none else some ⟨d.io, runB (tab glo defs n) d.N.length d.io d.body⟩
    | none => none, glo, fun _ => none⟩
theorem findD1_mem {x : Str} : ∀ {ds : List Df} {d : Df}, findD1 x ds = some d → d ∈ ds ∧ d.name = x
  | [], d, h => by cases h
  | e :: ds, d, h => by
    unfold findD1 at h
    split at h
    · rename_i hx
      cases h
      exact ⟨List.mem_cons_self, hx⟩
    · obtain ⟨h1, h2⟩ := findD1_mem h
      exact ⟨List.mem_cons_of_mem _ h1, h2⟩
/-- what is known of a def behind the top -/
def DfOk (K : PySem.W.Frag) (mg : Str → Option Value) (base : Heap) (g : Gx) (d : Df) : Prop := ∃ (st : Stmt) (f : Addr) (dV kV doc pm cdv ct oc : Value) (an od : Option Addr) (osl : Array (Option Value)), K.lookup f = some ⟨oc, od, .func (PySem.W.fnOf d.name d.name (defArgs st) (defBody st) (defScope st) dV kV doc pm an cdv ct), osl⟩ ∧
  PySem.W.codeIn K cdv d.name = true ∧ PySem.W.keepIn K (.ref f) = true ∧ (chkSs ⟨d.N, defScope st, prOf d.io, none, d.lm, false, [], d.ex⟩ d.body (defBody st) && scB d.N d.ps (defScope st)) = true ∧ d.ps.length = d.io.length ∧ mg d.name = some (.ref f) ∧
  Binds K (PySem.W.fnOf d.name d.name (defArgs st) (defBody st) (defScope st) dV kV doc pm an cdv ct) d.ps [] ∧
  (d.lm = true → ∃ c P, cdv = .ref c ∧ LamX.TabB base mg c P ∧ (P, (d.name ++ ".<locals>.") ++ "<lambda>") ∈ g.T ∧ ∀ p ∈ g.T, p.1 = P → p.2 = (d.name ++ ".<locals>.") ++ "<lambda>")
theorem tab_glo {glo : Str → Option D} {defs : List Df} : ∀ n, (tab glo defs n).glo = glo
  | 0 => rfl
  | n + 1 => rfl
theorem tab_ok {glo : Str → Option D} {defs : List Df} (hg : K = g.K) (hb : ∀ x ∈ bltL, mg x = none) (hex : (∃ d ∈ defs, d.ex = true) → ExcF P w K mg base g.cl) (hd : ∀ d ∈ defs, DfOk K mg base g d) (hgl : GloG K w mg g glo) :
    ∀ n, TbOk P w K mg base g n (tab glo defs n)
  | 0 => fun x F h => by cases h
  | n + 1 => fun x F h => by
    have h : (match findD1 x defs with
      | some d => if (d.lm || d.ex) && decide (n < 2) then none else some (⟨d.io, runB (tab glo defs n) d.N.length d.io d.body⟩ : Fn)
      | none => none) = some F := h
    split at h
    · rename_i d q
      split at h
      · cases h
      · rename_i hlm
        cases h
        obtain ⟨h1, h2⟩ := findD1_mem q
        obtain ⟨st, f, dV, kV, doc, pm, cdv, ct, oc, an, od, osl, lk, hcd, kp, hcs, hp, hm, hB, hL⟩ := hd d h1
        obtain ⟨hc, hs⟩ := and2 hcs
        subst h2
        refine ⟨f, _, d.ps, fn_ok lk hcd (scB_ok hs) hp hg hc hb (tab_ok hg hb hex hd hgl n) (by show GloG K w mg g (tab glo defs n).glo; rw [tab_glo]; exact hgl) (fun hl => ?_) (fun he => ⟨by rw [he] at hlm; simpa using hlm, hex ⟨d, h1, he⟩⟩), hm, kp, hB⟩
        refine ⟨?_, hL hl⟩
        rw [hl] at hlm
        simpa using hlm
    · cases h
end
end Den
/-! DenW: the end of a law. -/
namespace Den
open PySem PySem.Spec L2
/-- what is known of the defs' code objects at the head -/
def AllTab (q : Program) (mg : Str → Option Value) (h : Heap) : Prop := ∀ d ∈ PyProof.Rows.recsOf q, ∃ a o fd c P, mg d.name = some (.ref a) ∧ h.get? a = some o ∧ o.data = .func fd ∧ fd.code = .ref c ∧ h.IsCode c P #[] ∧ h.TableAt c P #[]
open PyProof.Rows in
theorem walk_den {l : PySem.W.OpenLaw} {n k : Nat} {q : Program} {loose : List Str} {XP : (Str → Option Value) → Heap → Prop} {YP : World → Heap → Prop} {d : DefRec} {K : Params → PySem.W.Frag} {CX : World → CXT} {x : Str}
    (hn : l.most = some n) (hn2 : n ≤ sizeLine) (hdf : d.params.defaults = []) (hr : Room k callerA) (hY : ∀ (w : World) (h : Heap), YP w h → (K w.params).In h)
    (F : ∀ (w : World) (mg : Str → Option Value) (fa : Addr) (h : Heap), (K w.params).In h → h.Ns mainGlobals mg → mg d.name = some (.ref fa) → AllTab q mg h → LamX.LawAtS l w (K w.params) (CX w) k n x mg fa h)
    (hCX : ∀ (w : World) (H : Hp) (s : Shared) (e : Value) (s' : Shared), CX w [] H s (fun _ _ _ => False) e s' → False) :
    PySem.W.WalkO q loose XP YP l.row.toRowW d [] (fun f vs => PySem.call f vs) := by
  refine Att.attach_callB hn hdf fun w s₀ s₁ mg mb fa o pm cd doc a vs ns G Y ho hd hcd hmg hobj hints hlen hbits hg => ?_
  have KX := hY w _ Y
  obtain ⟨fd, cs, sp, hT, nT, C, hb, hsp, hF⟩ := F w mg fa _ KX G.T.g hmg G.T.tab
  exact LamX.law_callTs KX G.T.g G.T.b G.T.builtins G.T.nolimit hg hT nT C G.T.bmain hobj hints (Nat.le_trans hlen hn2) hr hF hb (fun H hH hS => hsp H a ns hlen hbits hH hS) fun H e s' => hCX w H s₁ e s'
section
variable {g : Gx}
/-- the promise of the law's own def at the script -/
theorem sp_law {F : Fn} {H : Hp} {a : Addr} {ns : List Int} (hio : F.io = [.val]) (hT : LamX.Tabs g.T H) (hS : SqL g.K H a (ns.map V.int)) (hrun : ∃ os', F.run [.lst .ro (ns.map .int)] [] = some (.ret (.bl true) [] os')) {Q : VK} {E : XK} (hQ : ∀ H', Q (.bl true) H') : spD g F [.ref a] H Q E := by
  obtain ⟨os', hrun⟩ := hrun
  have hΦ : ∃ Φ : Hp, Sub Φ H ∧ SqL g.K Φ a (ns.map V.int) := by
    rcases hS with (h | ⟨o, h⟩) | h
    · refine ⟨upd (fun _ => none) a (.lst (ns.map V.int)), fun b u e => ?_, .inl (.inl upd_same)⟩
      by_cases hb : b = a
      · subst hb
        rw [upd_same] at e
        cases e
        exact ⟨fun _ => HO.noConfusion, .inl h⟩
      · rw [upd_ne hb] at e; cases e
    · refine ⟨upd (fun _ => none) a (.frz o (.lst (ns.map V.int))), fun b u e => ?_, .inl (.inr ⟨o, upd_same⟩)⟩
      by_cases hb : b = a
      · subst hb
        rw [upd_same] at e
        cases e
        exact ⟨fun _ => HO.noConfusion, .inl h⟩
      · rw [upd_ne hb] at e; cases e
    · exact ⟨fun _ => none, (fun b u e => by cases e), .inr h⟩
  obtain ⟨Φ, sb, hs⟩ := hΦ
  refine ⟨Φ, [], [.lst .ro (ns.map .int)], [], fun _ => [], fun _ => False, _, ⟨sb, hT, fun a h => h.elim, rfl, fun i d q => ?_, fun _ _ => rfl, rfl, fun n o q => by simp at q, fun _ _ => rfl, fun _ => List.nodup_nil, fun _ _ _ h => (by cases h), fun _ _ h => (by cases h)⟩, by rw [hio]; rfl, hrun, fun Φ' H' ρ' v f fs' st ok vl => by rw [(vl.isBl).1]; exact hQ H'⟩
  cases i with
  | zero =>
    simp at q
    subst q
    refine ⟨.ref a, rfl, ?_⟩
    simp only [Rep]
    exact ⟨a, ns.map V.int, rfl, hs, trivial, rep_ints ns⟩
  | succ i => simp at q
variable {K : PySem.W.Frag} {mg : Str → Option Value} {base : Heap}
theorem df_mk {d : Df} {st : Stmt} {f : Addr} {dV kV doc pm cdv ct oc : Value} {an od : Option Addr} {osl : Array (Option Value)} (l : K.lookup f = some ⟨oc, od, .func (PySem.W.fnOf d.name d.name (defArgs st) (defBody st) (defScope st) dV kV doc pm an cdv ct), osl⟩)
    (c : PySem.W.codeIn K cdv d.name = true) (k : PySem.W.keepIn K (.ref f) = true) (hc : (chkSs ⟨d.N, defScope st, prOf d.io, none, d.lm, false, [], d.ex⟩ d.body (defBody st) && scB d.N d.ps (defScope st)) = true) (hp : d.ps.length = d.io.length) (hm : mg d.name = some (.ref f))
    (hb : ∀ us : List Value, us.length = d.ps.length → bindArgs (PySem.W.fnOf d.name d.name (defArgs st) (defBody st) (defScope st) dV kV doc pm an cdv ct) ⟨us, []⟩ = pure (d.ps.zip us)) (hl : d.lm = false) : DfOk K mg base g d :=
  ⟨st, f, dV, kV, doc, pm, cdv, ct, oc, an, od, osl, l, c, k, hc, hp, hm, .all hb, fun h => by rw [hl] at h; cases h⟩
theorem df_mkL {d : Df} {st : Stmt} {f : Addr} {dV kV doc pm cdv ct oc : Value} {an od : Option Addr} {osl : Array (Option Value)} (l : K.lookup f = some ⟨oc, od, .func (PySem.W.fnOf d.name d.name (defArgs st) (defBody st) (defScope st) dV kV doc pm an cdv ct), osl⟩)
    (c : PySem.W.codeIn K cdv d.name = true) (k : PySem.W.keepIn K (.ref f) = true) (hc : (chkSs ⟨d.N, defScope st, prOf d.io, none, d.lm, false, [], d.ex⟩ d.body (defBody st) && scB d.N d.ps (defScope st)) = true) (hp : d.ps.length = d.io.length) (hm : mg d.name = some (.ref f))
    (hb : ∀ us : List Value, us.length = d.ps.length → bindArgs (PySem.W.fnOf d.name d.name (defArgs st) (defBody st) (defScope st) dV kV doc pm an cdv ct) ⟨us, []⟩ = pure (d.ps.zip us))
    (hl : ∃ c P, cdv = .ref c ∧ LamX.TabB base mg c P ∧ (P, (d.name ++ ".<locals>.") ++ "<lambda>") ∈ g.T ∧ ∀ p ∈ g.T, p.1 = P → p.2 = (d.name ++ ".<locals>.") ++ "<lambda>") : DfOk K mg base g d :=
  ⟨st, f, dV, kV, doc, pm, cdv, ct, oc, an, od, osl, l, c, k, hc, hp, hm, .all hb, fun _ => hl⟩
/-- a def's code object and its table -/
theorem tab_of {q : Program} {h : Heap} {x : Str} {f c0 : Addr} {o : Obj} {fd : FuncData} {e : Value} {dd : Option Addr} {vs : Array Value} {sl : Array (Option Value)} {P0 : Addr} (T : AllTab q mg h) (KX : K.In h) (hx : ((PyProof.Rows.recsOf q).any fun d => d.name == x) = true) (hm : mg x = some (.ref f))
    (l : K.lookup f = some o) (hd : o.data = .func fd) (hc : fd.code = .ref c0) (lc : K.lookup c0 = some ⟨e, dd, .fields vs, sl⟩) (h11 : vs[11]? = some (.ref P0)) :
    h.get? P0 = some { cls := .none, data := .fields #[] } ∧ PySem.W.CodeHd h c0 P0 := by
  obtain ⟨d, hd1, hd2⟩ := List.any_eq_true.mp hx
  have hd3 : d.name = x := eq_of_beq hd2
  obtain ⟨a, o', fd', c, P, h1, h2, h3, h4, h5, h6⟩ := T d hd1
  rw [hd3, hm] at h1
  cases h1
  have g1 := KX _ _ l
  rw [g1] at h2
  cases h2
  rw [hd] at h3
  cases h3
  rw [hc] at h4
  cases h4
  have g2 := KX _ _ lc
  obtain ⟨⟨oc, vc, e1, e2, e3, e4⟩, hP⟩ := id h6
  rw [g2] at e1
  cases e1
  cases e3
  rw [h11] at e4
  cases e4
  exact ⟨hP, PySem.W.CodeHd.of h5 h6⟩
theorem rep_glo_tup {H Φ : Hp} {ρ : List Addr} {t : Addr} {o : Obj} {its : Array Value} {n : Nat} {ds : List D} {vs : List V} (hK : g.K.lookup t = some o) (hc : o.cls = .type "tuple") (hd : o.dict = none) (ho : o.data = .seq its n) (hz : its.size ≤ sizeLine) (hv : Vals vs its.toList) (hr : RepL g Φ H ρ ds vs []) : Rep g Φ H ρ (.tup ds) (.ref t) [] := by
  simp only [Rep]
  exact ⟨t, vs, rfl, .inr ⟨o, its, n, hK, hc, hd, ho, hz, hv⟩, hr⟩
end
/-! ### the law's own def, that makes lambdas -/
def withL (Γ : Tb) (LB : List C) : Tb := { Γ with lam := fun k => (LB[k]?).map (ev Γ) }
/-- what the law's def promises -/
def spLw (g : Gx) (F : Fn) : Sp := fun vs H Q _ => ∃ (a : Addr) (ns : List Int), vs = [.ref a] ∧ LamX.Tabs g.T H ∧ SqL g.K H a (ns.map V.int) ∧ (∃ os', F.run [.lst .ro (ns.map .int)] [] = some (.ret (.bl true) [] os')) ∧ ∀ H', Q (.bl true) H'
/-- the same with the def's lambdas -/
def gxL (g : Gx) (c : Ck) (q : Str) (cells : List (Str × Addr)) : Gx := { g with Lp := fun k l => ∃ b, c.LB[k]? = some b ∧ ExW.Par l.params l.y ∧ ExW.lamS2B c.N c.sc l.scope l.y = true ∧ chkE (lamCk c l.scope) b l.body = true, lq := q, lc := cells }
theorem xok_lam {P : Program} {w : World} {Γ : Tb} {c : Ck} {g : Gx} {X : Cx} {k : Nat} {E : XK} {A : Around} {outer : List Env} {s : Shared} {H : Hp} {scope : Scope} {f c' : Addr} (hP : X.prog = P) (hw : X.w = w) (hK : X.K = g.K) (hN : X.N = c.N) (nd : c.N.Nodup) (hb : ∀ x ∈ bltL, X.mg x = none) (ht : TbOk X.prog X.w X.K X.mg X.base g k Γ) (hgl : GloOk X.K X.w X.mg g Γ)
    (hex : c.ex = true → 2 ≤ k ∧ ExcF X.prog X.w X.K X.mg X.base g.cl) {y : Option Str} (L : ExW.LamS2 X.N X.env.scope scope y) (hr : Room k (A.deeper (LamX.lamEnv X scope s.heap.objs.size f c'))) :
    XOk g Γ (lamCk c scope) E (ExT.lamCxN X A outer s H E scope f c') where
  hK := hK
  hN := hN
  nd := nd
  hs := rfl
  calm := rfl
  units := by
    have := hr.un
    show (A.deeper (LamX.lamEnv X scope s.heap.objs.size f c')).units + 65 < cLine
    omega
  fnc := fun x _ h => absurd rfl (L.own _ (PySem.mem_of_lookup h))
  blt := hb
  fns := fun y F hy => by
    obtain ⟨f', fd', ps', h1, h2, h3, h4⟩ := ht y F hy
    exact ⟨k, f', fd', ps', h1, hr, h2, h3, h4⟩
  glo := hgl
  px := L2N.passes_call (W := fun cls d _ H => E cls d H) (L2N.takes_of rfl rfl rfl rfl) (fun _ _ _ _ h => h)
  lam := fun h => by cases h
  lwI := fun h => by cases h
  lwM := fun h => by cases h
  exF := fun h => ⟨(hex h).2, hr.mono (hex h).1⟩
theorem fn_okL {P : Program} {w : World} {K : PySem.W.Frag} {mg : Str → Option Value} {base : Heap} {g : Gx} {Γ : Tb} {st : Stmt} {f : Addr} {N ps : List Str} {k : Nat} {body : Ts} {LB : List C} {ex : Bool} {name qual : Str} {dV kV doc pm cdv ct oc : Value} {an od : Option Addr} {osl : Array (Option Value)} (lk : K.lookup f = some ⟨oc, od, .func (PySem.W.fnOf name qual (defArgs st) (defBody st) (defScope st) dV kV doc pm an cdv ct), osl⟩) (hcd : PySem.W.codeIn K cdv qual = true) (Sc : FnScope N ps (defScope st)) (hps : ps.length = 1) (hg : K = g.K)
    (hc : chkSs ⟨N, defScope st, prOf [.val], none, false, true, LB, ex⟩ body (defBody st) = true) (hb : ∀ x ∈ bltL, mg x = none) (ht : ∀ g' : Gx, K = g'.K → g'.cl = g.cl → g'.T = g.T → TbOk P w K mg base g' k Γ) (hgl : ∀ g' : Gx, K = g'.K → GloOk K w mg g' Γ)
    (hL : ∃ c P, cdv = .ref c ∧ LamX.TabB base mg c P ∧ (P, (qual ++ ".<locals>.") ++ "<lambda>") ∈ g.T ∧ ∀ p ∈ g.T, p.1 = P → p.2 = (qual ++ ".<locals>.") ++ "<lambda>") (hex : ex = true → 2 ≤ k ∧ ExcF P w K mg base g.cl)
    {kk : Nat} {CA ga : Addr} (hkk : kk ≤ k + 1) (R : ExY.RfOk P w K mg base kk CA ga (ClsD g)) (hx : ∀ i, i < 5 → PySem.W.exmOne K (.ref (g.cl i)) (.ref CA) = some true) :
    FnOk P w K mg base (L2N.CX P w) (k + 3) f (PySem.W.fnOf name qual (defArgs st) (defBody st) (defScope st) dV kV doc pm an cdv ct) ps (spLw g ⟨[.val], runB (withL Γ LB) N.length [.val] body⟩) := by
  refine fn_of lk hcd Sc (fun vs H Q E h => by obtain ⟨a, ns, rfl, _⟩ := h; rw [hps]; rfl) fun A outer s H vs Q E hr h => ?_
  obtain ⟨a, ns, rfl, hT, hS, hrun, hQ⟩ := h
  let X := cxOf (L2N.CX P w) P w K mg base N qual (defScope st) f cdv A outer s H E
  let c : Ck := ⟨N, defScope st, prOf [.val], none, false, true, LB, ex⟩
  let g' := gxL g c X.env.qual X.env.cells
  have sp : spD g' ⟨[.val], runB (withL Γ LB) N.length [.val] body⟩ [.ref a] H Q E := sp_law (g := g') rfl hT (by rw [← show g.K = g'.K from rfl]; exact hS) hrun hQ
  have hg' : K = g'.K := hg
  have x0 : XOk g' (withL Γ LB) c E X := by
    refine ⟨hg', rfl, Sc.nd, rfl, rfl, ?_, fun _ _ _ => rfl, hb, fun y F' hy => ?_, hgl g' hg', L2N.passes_call (W := fun cls d _ H => E cls d H) (L2N.takes_of rfl rfl rfl rfl) (fun _ _ _ _ h => h), fun hl => (by cases hl), fun _ => ⟨rfl, rfl, ?_, fun k l b h1 h2 h3 h4 => ⟨b, h1, h2, h3, h4⟩⟩, fun _ => ⟨k, hr, fun j l hj => ?_, kk, CA, ga, hkk, R, hx⟩, fun he => ⟨(hex he).2, hr.mono (Nat.le_add_left _ _)⟩⟩
    · have := hr.un
      show (A.deeper _).units + 65 < cLine
      omega
    · obtain ⟨f', fd', ps', h1, h2, h3, h4⟩ := ht g' hg' rfl rfl y F' hy
      exact ⟨k, f', fd', ps', h1, hr.mono (Nat.le_add_right _ _), h2, h3, h4⟩
    · obtain ⟨cc, PP, rfl, TB, h1, h2⟩ := hL
      exact ⟨cc, PP, TB, rfl, h1, h2⟩
    · obtain ⟨b, e1, e2, e3, e4⟩ := hj
      have L := ExW.lamS2_by e3
      refine ⟨ev Γ b, ?_, L, e2, fun f c' s0 E A outer s H hr => sE b (lamCk c l.scope) E _ _ ?_ e4⟩
      · show (LB[j]?).map (ev Γ) = _
        rw [show LB[j]? = some b from e1]; rfl
      · exact xok_lam (X := X) (g := g') rfl rfl hg' rfl Sc.nd hb (ht g' hg' rfl rfl) (hgl g' hg') hex L ⟨hr.hd, hr.dp, hr.un⟩
  have so : SOk g' (withL Γ LB) c E X := ⟨x0, passes_of rfl, L2N.takes_of rfl rfl rfl rfl⟩
  refine ⟨_, sSs body _ _ so hc, ?_⟩
  obtain ⟨Φ, ρ, ds, os, fs, Fr, r, k0, hl, hrun, p⟩ := sp
  have hvl : [V.ref a].length = [Md.val].length := rfl
  have hdl : ds.length = [V.ref a].length := hl
  have k1 := start_len (n := N.length) (N := N) rfl hdl k0
  have h0 : ∀ j : Nat, j < [V.ref a].length → (L2.start N [V.ref a])[j]? = ([V.ref a].map some)[j]? := fun j hj => by
    unfold L2.start
    rw [List.getElem?_append_left (by simpa using hj)]
  have hrun : runB (withL Γ LB) N.length [.val] body ds os = some r := hrun
  unfold runB at hrun
  have fin : ∀ (d : D) (s' : Den.S) (outs : List D), outsOf [.val] s'.sl = some outs → r = .ret d outs s'.os → ∀ Φ' H' ρ' v f σ' fs', Stp Φ H ρ Fr Φ' H' ρ' → PrOk (prOf [.val]) (L2.start N [V.ref a]) σ' → Ok g' Φ' H' ρ' s' σ' fs' (fadd f Fr) → Vl g' Φ' H' ρ' d v f Fr → Q v H' := fun d s' outs ho hr' Φ' H' ρ' v f σ' fs' stp pk ok vl => by
    subst hr'
    exact p Φ' H' ρ' v f _ stp (ok.outs ho hvl h0 pk) vl
  split at hrun
  · rename_i d s' he
    split at hrun
    · rename_i outs ho
      cases hrun
      exact ⟨Φ, ρ, _, fs, Fr, _, k1, he, fin d s' outs ho rfl⟩
    · cases hrun
  · rename_i s' he
    split at hrun
    · rename_i outs ho
      cases hrun
      exact ⟨Φ, ρ, _, fs, Fr, _, k1, he, fun Φ' H' ρ' σ' fs' stp pk ok => fin .non s' outs ho rfl Φ' H' ρ' .non [] σ' fs' stp pk ok.nof ⟨rep_non, List.nodup_nil, fun a ha => by cases ha⟩⟩
    · cases hrun
  · rename_i x he
    cases hrun
    exact ⟨Φ, ρ, _, fs, Fr, _, k1, he, p⟩
  · cases hrun
end Den
/-! DenV: what the end says of refusals. -/
namespace Den
open PySem PySem.Spec PyProof.Rows L2
def IsTxt (st : Stmt) : Prop := ∃ (csc : Scope) (k0 k1 k2 k3 k4 : Nat) (p1 p2 p3 p4 p5 p6 p7 p8 p9 p10 p11 p12 p13 p14 p15 p16 p17 p18 p19 p20 p21 p22 p23 p24 p25 p26 p27 p28 p29 p30 p31 p32 p33 p34 p35 p36 p37 p38 p39 p40 p41 p42 p43 p44 p45 p46 p47 p48 p49 : Pos), defBody st = ExI.isBd csc k0 k1 k2 k3 k4 p1 p2 p3 p4 p5 p6 p7 p8 p9 p10 p11 p12 p13 p14 p15 p16 p17 p18 p19 p20 p21 p22 p23 p24 p25 p26 p27 p28 p29 p30 p31 p32 p33 p34 p35 p36 p37 p38 p39 p40 p41 p42 p43 p44 p45 p46 p47 p48 p49 ∧ ExI.IsSc (defScope st) csc ∧ (p20.endLine == p21.line) = true
def AlTxt (st : Stmt) : Prop := ∃ (k0 : Nat) (b1 b2 b3 rest : List Stmt) (p1 p2 p3 p4 p5 p6 p7 p8 p9 p10 p11 p12 p13 p14 p15 p16 p17 p18 p19 p20 p21 p22 p23 p24 p25 p26 p27 p28 : Pos), defBody st = ExJ.alBd k0 b1 b2 b3 rest p1 p2 p3 p4 p5 p6 p7 p8 p9 p10 p11 p12 p13 p14 p15 p16 p17 p18 p19 p20 p21 p22 p23 p24 p25 p26 p27 p28 ∧ ExJ.AlSc (defScope st)
def RfTxt (st : Stmt) : Prop := ∃ (k0 k1 k2 k3 tk k4 : Nat) (e3 : Expr) (p1 p2 p3 p4 p5 p6 p7 p8 p9 p10 p11 p12 p13 p14 p15 p16 p17 p18 p19 p20 p21 p22 p23 p24 p25 q1 q2 q3 q4 q5 q6 q7 q8 : Pos), defBody st = ExS.rfBd k0 k1 k2 k3 tk k4 e3 p1 p2 p3 p4 p5 p6 p7 p8 p9 p10 p11 p12 p13 p14 p15 p16 p17 p18 p19 p20 p21 p22 p23 p24 p25 q1 q2 q3 q4 q5 q6 q7 q8 ∧ ExR.RfSc (defScope st) ∧ (defScope st).names.lookup ("_law_e" : Str) = some .local ∧ (defScope st).names.lookup ("AirError" : Str) = some .globalImplicit ∧ Vis (defScope st) "_law_work"
/-- looked up by the kernel -/
def clsB (K : PySem.W.Frag) (CA : Addr) (C : Nat → Addr) (i : Nat) : Bool :=
  decide (PySem.W.findIn K (.ref (C i)) "__getattribute__" = some (some (.builtin "BaseException.__getattribute__"))) && decide (PySem.W.findIn K (.ref (C i)) "__getattr__" = some none) && decide (PySem.W.subIn K (.ref (C i)) (.type "BaseException") = some true) && PySem.W.hasDictIn K (C i) &&
  decide (PySem.W.findIn K (.ref (C i)) "__class__" = some (some (.builtin "object.__class__"))) && decide (PySem.W.specialIn K (.builtin "object.__class__") "__get__" = some (some (.builtin "getset_descriptor.__get__"))) && decide (PySem.W.takesIn K (.builtin "object.__class__") = some true) && decide (PySem.W.mroIn K (C i) (.type "object") = some true) &&
  decide (PySem.W.findIn K (.ref (C i)) "why" = some none) && decide (PySem.W.kitOne K (.ref (C i)) (.type "ValueError") = some true) && decide (PySem.W.exmOne K (.ref (C i)) (.ref CA) = some true) && decide (PySem.W.typeIn K (.ref (C i)) = some (.type "type")) && PySem.W.keepIn K (.ref (C i)) && ((List.range 5).all fun j => decide (PySem.W.kitOne K (.ref (C i)) (.ref (C j)) = some (cb i j)))
structure ClsK (K : PySem.W.Frag) (CA : Addr) (C : Nat → Addr) (i : Nat) : Prop where
  ec : ExcC K (C i)
  xf : XfC K (C i)
  why : PySem.W.findIn K (.ref (C i)) "why" = some none
  kv : PySem.W.kitOne K (.ref (C i)) (.type "ValueError") = some true
  ex : PySem.W.exmOne K (.ref (C i)) (.ref CA) = some true
  ty : PySem.W.typeIn K (.ref (C i)) = some (.type "type")
  kp : PySem.W.keepIn K (.ref (C i)) = true
  kit : ∀ j, j < 5 → PySem.W.kitOne K (.ref (C i)) (.ref (C j)) = some (cb i j)
theorem clsB_ok {K : PySem.W.Frag} {CA : Addr} {C : Nat → Addr} {i : Nat} (h : clsB K CA C i = true) : ClsK K CA C i := by
  unfold clsB at h
  simp only [Bool.and_eq_true, decide_eq_true_eq, List.all_eq_true, List.mem_range] at h
  obtain ⟨⟨⟨⟨⟨⟨⟨⟨⟨⟨⟨⟨⟨h1, h2⟩, h3⟩, h4⟩, h5⟩, h6⟩, h7⟩, h8⟩, h9⟩, h10⟩, h11⟩, h12⟩, h13⟩, h14⟩ := h
  exact ⟨⟨h1, h2, h3, h4, h5, h6, h7, h8⟩, ⟨h1, h2, h3, h4⟩, h9, h10, h11, h12, h13, h14⟩
theorem rf_mk {P : Program} {w : World} {K : PySem.W.Frag} {mg : Str → Option Value} {base : Heap} {g : Gx} {CA fR fI fA : Addr} {stR stI stA : Stmt}
    {ocR dVR kVR dcR pmR cdR ctR ocI dVI kVI dcI pmI cdI ctI ocA dVA kVA dcA pmA cdA ctA : Value} {odR anR odI anI odA anA : Option Addr} {slR slI slA : Array (Option Value)}
    (hC : ∀ i, i < 5 → ClsK K CA g.cl i) (hm : ∀ i, i < 5 → mg (clW i) = some (.ref (g.cl i))) (mCA : mg "AirError" = some (.ref CA)) (m0 : mg "isinstance" = none) (m1 : mg "bool" = none) (m2 : mg "int" = none) (m3 : mg "str" = none) (m4 : mg "ValueError" = none)
    (kb : PySem.W.kitOne K (.type "str") (.type "bool") = some false ∧ PySem.W.kitOne K (.type "str") (.type "int") = some false ∧ PySem.W.kitOne K (.type "str") (.type "str") = some true)
    (lkR : K.lookup fR = some ⟨ocR, odR, .func (PySem.W.fnOf "_law_refused" "_law_refused" (defArgs stR) (defBody stR) (defScope stR) dVR kVR dcR pmR anR cdR ctR), slR⟩) (hcR : PySem.W.codeIn K cdR "_law_refused" = true) (kR : PySem.W.keepIn K (.ref fR) = true) (mR : mg "_law_refused" = some (.ref fR))
    (bR : L2.Binds K (PySem.W.fnOf "_law_refused" "_law_refused" (defArgs stR) (defBody stR) (defScope stR) dVR kVR dcR pmR anR cdR ctR) ["_law_work", "_law_word", "_law_value"] []) (sR : scB ExR.rfN ["_law_work", "_law_word", "_law_value"] (defScope stR) = true) (eR : RfTxt stR)
    (lkI : K.lookup fI = some ⟨ocI, odI, .func (PySem.W.fnOf "_law_is" "_law_is" (defArgs stI) (defBody stI) (defScope stI) dVI kVI dcI pmI anI cdI ctI), slI⟩) (hcI : PySem.W.codeIn K cdI "_law_is" = true) (kI : PySem.W.keepIn K (.ref fI) = true) (mI : mg "_law_is" = some (.ref fI))
    (bI : L2.Binds K (PySem.W.fnOf "_law_is" "_law_is" (defArgs stI) (defBody stI) (defScope stI) dVI kVI dcI pmI anI cdI ctI) ["_law_e", "_law_word"] []) (sI : scB ExI.isN ["_law_e", "_law_word"] (defScope stI) = true) (eI : IsTxt stI)
    (lkA : K.lookup fA = some ⟨ocA, odA, .func (PySem.W.fnOf "_law_alike" "_law_alike" (defArgs stA) (defBody stA) (defScope stA) dVA kVA dcA pmA anA cdA ctA), slA⟩) (hcA : PySem.W.codeIn K cdA "_law_alike" = true) (kA : PySem.W.keepIn K (.ref fA) = true) (mA : mg "_law_alike" = some (.ref fA))
    (bA : L2.Binds K (PySem.W.fnOf "_law_alike" "_law_alike" (defArgs stA) (defBody stA) (defScope stA) dVA kVA dcA pmA anA cdA ctA) ["_law_found", "_law_due"] []) (sA : scB ExJ.alN ["_law_found", "_law_due"] (defScope stA) = true) (eA : AlTxt stA) :
    ExY.RfOk P w K mg base 1 CA fR (ClsD g) := by
  obtain ⟨csc, i0, i1, i2, i3, i4, i_1, i_2, i_3, i_4, i_5, i_6, i_7, i_8, i_9, i_10, i_11, i_12, i_13, i_14, i_15, i_16, i_17, i_18, i_19, i_20, i_21, i_22, i_23, i_24, i_25, i_26, i_27, i_28, i_29, i_30, i_31, i_32, i_33, i_34, i_35, i_36, i_37, i_38, i_39, i_40, i_41, i_42, i_43, i_44, i_45, i_46, i_47, i_48, i_49, eIb, ISc, hl⟩ := eI
  obtain ⟨a0, b1, b2, b3, rest, a_1, a_2, a_3, a_4, a_5, a_6, a_7, a_8, a_9, a_10, a_11, a_12, a_13, a_14, a_15, a_16, a_17, a_18, a_19, a_20, a_21, a_22, a_23, a_24, a_25, a_26, a_27, a_28, eAb, ASc⟩ := eA
  obtain ⟨k0, k1, k2, k3, tk, k4, e3, p1, p2, p3, p4, p5, p6, p7, p8, p9, p10, p11, p12, p13, p14, p15, p16, p17, p18, p19, p20, p21, p22, p23, p24, p25, q1, q2, q3, q4, q5, q6, q7, q8, eRb, RSc, hln, hga, hv⟩ := eR
  have IM : ExL.IsM mg g.cl := ⟨m0, hm 0 (by decide), hm 1 (by decide), hm 2 (by decide), hm 3 (by decide), hm 4 (by decide), m4⟩
  have AM : ExL.AlM mg := ⟨m0, m1, m2, m3⟩
  refine ⟨mR, kR, _, _, _, _, _, _, _, _, _, _, _, _, _, q1, q2, lkR, hcR, bR, scB_ok sR, hv, fun Z tAct eP ew eK em eb hN hsc hst hf hr act => ?_⟩
  subst eP ew eK em eb
  rw [eRb]
  rw [← hsc] at RSc hln hga
  have hfn : ∀ D b, ClsD g D b → XfC Z.K D ∧ PySem.W.findIn Z.K (.ref D) "why" = some none ∧ ∀ (a : Addr) (oe : Obj) (d : Option Addr), L2N.Zn (.ref D) d oe → (∃ vs, oe.data = .fields vs) →
      ExK.FnP Z.prog Z.w Z.K Z.mg Z.base (L2N.CX Z.prog Z.w) 1 (a, oe) fI (PySem.W.fnOf "_law_is" "_law_is" (defArgs stI) (defBody stI) (defScope stI) dVI kVI dcI pmI anI cdI ctI) ["_law_e", "_law_word"] (ExL.spIs a d b) ∧ ExK.FnP Z.prog Z.w Z.K Z.mg Z.base (L2N.CX Z.prog Z.w) 1 (a, oe) fA (PySem.W.fnOf "_law_alike" "_law_alike" (defArgs stA) (defBody stA) (defScope stA) dVA kVA dcA pmA anA cdA ctA) ["_law_found", "_law_due"] ExL.spAl := by
    rintro D b ⟨i, hi, rfl, rfl⟩
    have c := hC i hi
    refine ⟨c.xf, c.why, fun a oe d hz hfd => ⟨?_, ?_⟩⟩
    · have lk := lkI
      rw [eIb] at lk ⊢
      exact ExL.is_fn (p := (a, oe)) (k := 0) lk hcI (scB_ok sI) ISc IM hl c.ec hz.zc hfd (fun j hj => c.kit j hj) c.kv
    · have lk := lkA
      rw [eAb] at lk ⊢
      exact ExL.al_fn (p := (a, oe)) (k := 0) lk hcA (scB_ok sA) ASc AM kb.1 kb.2.1 kb.2.2
  exact ExS.rf_pss (Z := Z) (CA := CA) (fI := fI) (fA := fA) (kk := 1) (ClsF := ClsD g) (tAct := tAct) hst hf hN RSc hln ⟨hga, by decide, .inl mCA⟩ act hfn mI kI bI mA kA bA hr
/-- an __init__ that keeps what it gets -/
def IniTxt (st : Stmt) (f : Str) : Prop := ∃ (p1 p2 p3 p4 p5 p6 p7 p8 p9 p10 : Pos) (pl : Env → Sem Bool), defBody st = [.Expr (.Call (.Attribute (.Name "AirError" p1) "__init__" p2) [.Name "self" p3, .Name f p4] [] p5) p6, .Assign [.Attribute (.Name "self" p7) f p8] (.Name f p9) p10] ∧
  (defScope st).names.lookup ("AirError" : Str) = some .globalImplicit ∧ Vis (defScope st) "self" ∧ Vis (defScope st) f ∧ ∀ env : Env, eval (.Call (.Attribute (.Name "AirError" p1) "__init__" p2) [.Name "self" p3, .Name f p4] [] p5) env = (do
      let ov ← eval (.Name "AirError" p1) env
      standAt p2.atName
      let (f0, first) ← holding [ov] (getMethod ov "__init__" (pl env))
      callWith p5 f0 first (backTo p5 (starEach [.Name "self" p3, .Name f p4] env)) (backToKw p5 (keywordEach [] env)))
def VEb : List Value := [.type "ValueError", .type "Exception", .type "BaseException", .type "object"]
def iniB (K : PySem.W.Frag) (C fI : Addr) (f : Str) : Bool := decide (PySem.W.findIn K (.ref C) "__setattr__" = some (some (.builtin "object.__setattr__"))) && decide (PySem.W.findIn K (.ref C) "__init__" = some (some (.ref fI))) && decide (PySem.W.typeIn K (.ref fI) = some (.type "function")) && decide (PySem.W.findIn K (.ref C) f = some none)
def baseB (K : PySem.W.Frag) (C : Addr) : Bool := decide (PySem.W.specialIn K (.ref C) "__getattribute__" = some (some (.builtin "type.__getattribute__"))) && decide (PySem.W.typeIn K (.ref C) = some (.type "type")) && PySem.W.readsIn K C (.type "type")
/-- what the end says of a class that keeps a value -/
structure IniK (K : PySem.W.Frag) (mg : Str → Option Value) (C CA : Addr) (f : Str) : Prop where
  cls : ∃ nm q N bs bm sn sub ab col dd k0 k1 k2 k3 k5, K.lookup C = some (excClassObj nm q C N bs bm true sn sub ab col dd k0 k1 k2 k3 k5 "ValueError.__new__") ∧ PySem.HandSPX.refsVE bm = true
  fn : ∃ (fI : Addr) (st : Stmt) (name qual : Str) (oc dV kV doc pm cdv ct : Value) (od an : Option Addr) (osl : Array (Option Value)), iniB K C fI f = true ∧ K.lookup fI = some ⟨oc, od, .func (PySem.W.fnOf name qual (defArgs st) (defBody st) (defScope st) dV kV doc pm an cdv ct), osl⟩ ∧ PySem.W.codeIn K cdv qual = true ∧
    L2.Binds K (PySem.W.fnOf name qual (defArgs st) (defBody st) (defScope st) dV kV doc pm an cdv ct) ["self", f] [] ∧ scB ["self", f] ["self", f] (defScope st) = true ∧ IniTxt st f
theorem fld_no {i : Nat} (h1 : 1 ≤ i) (h3 : i ≤ 3) : ((clFld i == ("__debug__" : Str)) = false) ∧ ((clFld i == ("__classdict__" : Str)) = false) := by
  match i, h1, h3 with
  | 1, _, _ => decide
  | 2, _, _ => decide
  | 3, _, _ => decide
theorem excf_mk {P : Program} {w : World} {K : PySem.W.Frag} {mg : Str → Option Value} {base : Heap} {g : Gx} {CA : Addr} (hC : ∀ i, i < 5 → ClsK K CA g.cl i) (hm : ∀ i, i < 5 → mg (clW i) = some (.ref (g.cl i))) (mCA : mg "AirError" = some (.ref CA))
    (q0 : ∀ i, i = 0 ∨ i = 4 → PySem.W.excIn K (g.cl i) VEb "ValueError.__new__" = true) (hb : baseB K CA = true) (hit : PySem.W.findCls K (.ref CA) (.type "type") "__init__" = some (.val (.builtin "ValueError.__init__"))) (hI : ∀ i, 1 ≤ i → i ≤ 3 → IniK K mg (g.cl i) CA (clFld i)) :
    ExcF P w K mg base g.cl := by
  refine ⟨fun i hi => ?_, fun i h1 h3 => ?_⟩
  · have c := hC i (by omega)
    exact ⟨_, _, _, _, PySem.F.excBase_ValueError, q0 i hi, hm i (by omega), c.kp, c.ec.hs, c.ty⟩
  · have c := hC i (by omega)
    obtain ⟨cls, fI, st, name, qual, oc, dV, kV, doc, pm, cdv, ct, od, an, osl, ib, lk, hcd, bb, sb, p1, p2, p3, p4, p5, p6, p7, p8, p9, p10, pl, eb, hgx, v0, v1, hcc⟩ := hI i h1 h3
    unfold iniB at ib
    simp only [Bool.and_eq_true, decide_eq_true_eq] at ib
    obtain ⟨⟨⟨i1, i2⟩, i3⟩, i4⟩ := ib
    unfold baseB at hb
    simp only [Bool.and_eq_true, decide_eq_true_eq] at hb
    obtain ⟨⟨b1, b2⟩, b3⟩ := hb
    rw [eb] at lk bb
    have hd := fld_no h1 h3
    exact ⟨hm i (by omega), ⟨cls, i1, c.ec.hs, c.ty, c.kp⟩, fI, _, _, i2, i3, ExA.init_ok (k := 0) (C := CA) lk hcd (scB_ok sb) hgx v0 v1 mCA ⟨b1, b2, b3, hit⟩ hcc hd.1 hd.2, bb, i4⟩
end Den
namespace Den
open PySem PySem.Spec PyProof.Rows L2
theorem visK {sc : Scope} {x : Str} (h : (match sc.names.lookup x with | some .local => true | some .cell => true | some .free => true | _ => false) = true) : Vis sc x := by
  split at h
  · exact .inl (by assumption)
  · exact .inr (.inl (by assumption))
  · exact .inr (.inr (by assumption))
  · cases h
theorem locK {sc : Scope} {x : Str} (h : (match sc.names.lookup x with | some .local => true | some .cell => true | _ => false) = true) : L2.Loc sc x := by
  split at h
  · exact .inl (by assumption)
  · exact .inr (by assumption)
  · cases h
/-! ### the dict of the module -/
def entD (p : Str × Int × Int × Tok × Tok) : DictEntry := ⟨p.2.2.1, .str p.1 p.2.2.2.1, .int p.2.1 p.2.2.2.2⟩
theorem ent_find (z : Str) : ∀ L : List (Str × Int × Int × Tok × Tok), ((L.map entD).find? (·.key.isStr z) = none ∧ valL (L.map fun p => (Sum.inr p.1 : Key)) (L.map fun p => D.int p.2.1) (.inr z) = none) ∨
    ∃ e i t, (L.map entD).find? (·.key.isStr z) = some e ∧ e.val = .int i t ∧ valL (L.map fun p => (Sum.inr p.1 : Key)) (L.map fun p => D.int p.2.1) (.inr z) = some (.int i)
  | [] => .inl ⟨rfl, rfl⟩
  | p :: L => by
    by_cases h : p.1 = z
    · refine .inr ⟨entD p, p.2.1, p.2.2.2.2, ?_, rfl, ?_⟩
      · simp [entD, Value.isStr, h]
      · simp [valL, h]
    · have h' : ¬ (p.1 == z) = true := by simpa using h
      rcases ent_find z L with ⟨h1, h2⟩ | ⟨e, i, t, h1, h2, h3⟩
      · refine .inl ⟨?_, ?_⟩
        · rw [List.map_cons, List.find?_cons]
          simpa [entD, Value.isStr, h'] using h1
        · simp only [List.map_cons, valL]
          rw [if_neg (fun e => h (Sum.inr.inj e))]; exact h2
      · refine .inr ⟨e, i, t, ?_, h2, ?_⟩
        · rw [List.map_cons, List.find?_cons]
          simpa [entD, Value.isStr, h'] using h1
        · simp only [List.map_cons, valL]
          rw [if_neg (fun e => h (Sum.inr.inj e))]; exact h3
theorem ent_ref : ∀ L : List (Str × Int × Int × Tok × Tok), (L.map entD).any (·.refKey) = false
  | [] => rfl
  | p :: L => by
    have ih := ent_ref L
    rw [List.map_cons, List.any_cons, ih]; rfl
theorem gd_find {K : PySem.W.Frag} {a : Addr} {es : Array DictEntry} {n : Nat} {ks : List Key} {ds : List D} (L : List (Str × Int × Int × Tok × Tok)) (q : K.lookup a = some ⟨.type "dict", none, .dict es n, #[]⟩) (e : es.toList = L.map entD) (hk : ks = L.map fun p => (Sum.inr p.1 : Key)) (hd : ds = L.map fun p => D.int p.2.1) (z : List Nat) :
    ∃ r, PySem.W.nsIn K a ⟨z.toArray⟩ = some r ∧ ((valL ks ds (.inr ⟨z.toArray⟩) = none ∧ r = none) ∨ ∃ i t, valL ks ds (.inr ⟨z.toArray⟩) = some (.int i) ∧ r = some (.int i t)) := by
  subst hk
  subst hd
  unfold PySem.W.nsIn
  rw [q]
  dsimp only
  rw [e]
  rcases ent_find ⟨z.toArray⟩ L with ⟨h1, h2⟩ | ⟨en, i, t, h1, h2, h3⟩
  · rw [h1, ent_ref L]
    exact ⟨none, rfl, .inl ⟨h2, rfl⟩⟩
  · rw [h1]
    exact ⟨some en.val, rfl, .inr ⟨i, t, h3, by rw [h2]⟩⟩
end Den
/-! ExM: _law_told: what a call tells, or a word for what it raises. -/
namespace ExM
open PySem PySem.Spec PyProof.Rows L2 L2H ExI ExJ ExK ExL ExR Den
abbrev tdN : List Str := ["_law_text", "_law_many_here", "_law_e"]
def tdSu (k0 k1 k2 k3 k4 : Nat) (p1 p2 p3 p4 p5 p6 p7 p8 p9 p10 p11 p12 p13 p14 p15 : Pos) : List Stmt := [.If (.Call (.Name "_law_is" p1) [.Name "_law_e" p2, .Constant (.str "text") k0 p3] [] p4) [.Return (some (.Constant (.str "text") k1 p5)) p6] [] p7,
  .Return (some (.IfExp (.Call (.Name "_law_is" p8) [.Name "_law_e" p9, .Constant (.str "rule") k2 p10] [] p11) (.Constant (.str "rule") k3 p12) (.Constant (.str "other") k4 p13) p14)) p15]
def tdBd (k0 k1 k2 k3 k4 : Nat) (p1 p2 p3 p4 p5 p6 p7 p8 p9 p10 p11 p12 p13 p14 p15 q1 q2 q3 q4 q5 q6 q7 q8 : Pos) : List Stmt := [.Try [.Return (some (.Call (.Name "read_rule" q1) [.Name "_law_text" q2, .Name "_law_many_here" q3] [] q4)) q5] [.ExceptHandler (some (.Name "AirError" q6)) (some "_law_e") (tdSu k0 k1 k2 k3 k4 p1 p2 p3 p4 p5 p6 p7 p8 p9 p10 p11 p12 p13 p14 p15) q7] [] [] q8]
structure TdSc (sc : Scope) : Prop where
  v0 : Vis sc "_law_text"
  v1 : Vis sc "_law_many_here"
  v2 : Vis sc "_law_e"
  g0 : sc.names.lookup ("_law_is" : Str) = some .globalImplicit
  g1 : sc.names.lookup ("read_rule" : Str) = some .globalImplicit
  g2 : sc.names.lookup ("AirError" : Str) = some .globalImplicit
  ln : sc.names.lookup ("_law_e" : Str) = some .local
def wdB (b : Nat → Bool) : Str := if isR b "text" = true then "text" else if isR b "rule" = true then "rule" else "other"
/-- what the suite asks -/
def rdTd (a : Addr) (d : Option Addr) (b : Nat → Bool) : TS := fun E σ H => σ[2]? = some (some (.ref a)) ∧ (d = none ∨ ∃ dx fs, d = some dx ∧ H dx = some (.xd fs)) ∧ ∀ H', (∀ y o, H y = some o → H' y = some o) → E.rt (.str (wdB b)) H'
section
variable {X : Cx} {k0 k1 k2 k3 k4 : Nat} {p1 p2 p3 p4 p5 p6 p7 p8 p9 p10 p11 p12 p13 p14 p15 : Pos}
theorem td_su {a D : Addr} {d : Option Addr} {oe : Obj} {pn : List (Addr × Obj)} {b : Nat → Bool} {fI : Addr} {fdI : FuncData} {kk : Nat} (hN : X.N = tdN) (S : TdSc X.env.scope) (hz : L2N.Zn (.ref D) d oe) (hf : ∃ vs, oe.data = .fields vs)
    (hc2 : ∀ vs, oe.data = .fields vs → vs[2]? = some .none)
    (FI : FnP X.prog X.w X.K X.mg X.base (L2N.CX X.prog X.w) kk (a, oe) fI fdI ["_law_e", "_law_word"] (spIs a d b)) (mI : X.mg "_law_is" = some (.ref fI)) (kI : PySem.W.keepIn X.K (.ref fI) = true) (bI : L2.Binds X.K fdI ["_law_e", "_law_word"] [])
    (hr : RoomH kk X.A) :
    PSs (X.suite a ((a, oe) :: pn)) (tdSu k0 k1 k2 k3 k4 p1 p2 p3 p4 p5 p6 p7 p8 p9 p10 p11 p12 p13 p14 p15) (rdTd a d b) := by
  have hot : Hot1 (X.suite a ((a, oe) :: pn)).A (a, oe) ∧ (a, oe) ∈ (X.suite a ((a, oe) :: pn)).pn := by
    obtain ⟨vs, hv⟩ := hf
    exact ⟨⟨rfl, vs, hv, hc2 vs hv⟩, List.mem_cons_self⟩
  have hrs : RoomH kk (X.suite a ((a, oe) :: pn)).A := ⟨hr.dp, hr.un⟩
  have v2 : ∀ p, PE (X.suite a ((a, oe) :: pn)) (.Name "_law_e" p) (tVar 2) := fun p => pe_var (i := 2) (by show X.N[2]? = _; rw [hN]; rfl) S.v2
  have c1 : PE (X.suite a ((a, oe) :: pn)) (.Call (.Name "_law_is" p1) [.Name "_law_e" p2, .Constant (.str "text") k0 p3] [] p4) _ := pe_callP (E := fun _ _ _ _ => False) FI hrs hot S.g0 mI kI bI (fun σ => pas_no a _ σ) (pa_cons (v2 _) (pa_cons pe_str pa_nil))
  have c2 : PE (X.suite a ((a, oe) :: pn)) (.Call (.Name "_law_is" p8) [.Name "_law_e" p9, .Constant (.str "rule") k2 p10] [] p11) _ := pe_callP (E := fun _ _ _ _ => False) FI hrs hot S.g0 mI kI bI (fun σ => pas_no a _ σ) (pa_cons (v2 _) (pa_cons pe_str pa_nil))
  have s1 : PS (X.suite a ((a, oe) :: pn)) (.If (.Call (.Name "_law_is" p1) [.Name "_law_e" p2, .Constant (.str "text") k0 p3] [] p4) [.Return (some (.Constant (.str "text") k1 p5)) p6] [] p7) _ := ps_if (pt_val c1) (pss_one (ps_ret pe_str)) pss_nil
  have s2 : PS (X.suite a ((a, oe) :: pn)) (.Return (some (.IfExp (.Call (.Name "_law_is" p8) [.Name "_law_e" p9, .Constant (.str "rule") k2 p10] [] p11) (.Constant (.str "rule") k3 p12) (.Constant (.str "other") k4 p13) p14)) p15) _ := ps_ret (pe_ifExp (pt_val c2) pe_str pe_str)
  refine ExI.pss_imp (pss_cons s1 (pss_one s2)) fun E σ H h => ?_
  obtain ⟨h2, hd, q⟩ := h
  refine ⟨.ref a, h2, "text", rfl, hd, fun H' ext => ⟨isR b "text", rfl, ?_⟩⟩
  by_cases hb : isR b "text" = true
  · have q1 := q H' ext
    unfold wdB at q1
    rw [if_pos hb] at q1
    dsimp only
    rw [hb, if_pos rfl]
    exact q1
  · have hbf : isR b "text" = false := by simpa using hb
    dsimp only
    rw [hbf, if_neg (by decide)]
    have hd' : d = none ∨ ∃ dx fs, d = some dx ∧ H' dx = some (.xd fs) := hd.imp id fun ⟨dx, fs, e1, e2⟩ => ⟨dx, fs, e1, ext _ _ e2⟩
    refine ⟨.ref a, h2, "rule", rfl, hd', fun H2 ext2 => ⟨isR b "rule", rfl, ?_⟩⟩
    have q2 := q H2 fun y o e => ext2 y o (ext y o e)
    unfold wdB at q2
    rw [if_neg hb] at q2
    by_cases hb2 : isR b "rule" = true
    · rw [if_pos hb2] at q2
      dsimp only
      rw [hb2, if_pos rfl]
      exact q2
    · have hbf2 : isR b "rule" = false := by simpa using hb2
      rw [if_neg hb2] at q2
      dsimp only
      rw [hbf2, if_neg (by decide)]
      exact q2
end
def tsT (ClsF : Addr → (Nat → Bool) → Prop) (a : Addr) (cls : Value) (d : Option Addr) : TS := fun E σ H => ∃ (D : Addr) (b : Nat → Bool), cls = .ref D ∧ ClsF D b ∧ rdTd a d b E σ H
section
variable {Z : Cx} {k0 k1 k2 k3 k4 : Nat} {p1 p2 p3 p4 p5 p6 p7 p8 p9 p10 p11 p12 p13 p14 p15 q1 q2 q3 q4 q5 q6 q7 q8 : Pos}
theorem td_pss {CA fI fR : Addr} {fdI fdR : FuncData} {kk k : Nat} {psR : List Str} {sp : Sp} {ClsF : Addr → (Nat → Bool) → Prop} (hs : Z.stack = Z.env :: Z.outer) (hf : Z.env.frame = some Z.env.locals) (hN : Z.N = tdN) (S : TdSc Z.env.scope) (hma : Z.mg "AirError" = some (.ref CA))
    (FR : FnOk Z.prog Z.w Z.K Z.mg Z.base (L2N.CX Z.prog Z.w) k fR fdR psR sp) (hk : Room k Z.A) (mR : Z.mg "read_rule" = some (.ref fR)) (kR : PySem.W.keepIn Z.K (.ref fR) = true) (bR : L2.Binds Z.K fdR psR [])
    (hC : ∀ D b, ClsF D b → ∀ (a : Addr) (oe : Obj) (d : Option Addr), L2N.Zn (.ref D) d oe → (∃ vs, oe.data = .fields vs) →
      FnP Z.prog Z.w Z.K Z.mg Z.base (L2N.CX Z.prog Z.w) kk (a, oe) fI fdI ["_law_e", "_law_word"] (spIs a d b))
    (mI : Z.mg "_law_is" = some (.ref fI)) (kI : PySem.W.keepIn Z.K (.ref fI) = true) (bI : L2.Binds Z.K fdI ["_law_e", "_law_word"] [])
    (hr : RoomH kk Z.A) :
    PSs Z (tdBd k0 k1 k2 k3 k4 p1 p2 p3 p4 p5 p6 p7 p8 p9 p10 p11 p12 p13 p14 p15 q1 q2 q3 q4 q5 q6 q7 q8) (fun E σ H => ∃ v0 v1, σ[0]? = some (some v0) ∧ σ[1]? = some (some v1) ∧ sp [v0, v1] H E.rt fun cls d H' => wAs Z.K (.ref CA) 2 (tsT ClsF) (fun _ _ _ _ => False) E cls d σ H') := by
  have hnd : Z.N.Nodup := by rw [hN]; decide
  have v0 : ∀ pn xe p, PE (Z.tr pn xe) (.Name "_law_text" p) (tVar 0) := fun pn xe p => pe_var (i := 0) (by show Z.N[0]? = _; rw [hN]; rfl) S.v0
  have v1 : ∀ pn xe p, PE (Z.tr pn xe) (.Name "_law_many_here" p) (tVar 1) := fun pn xe p => pe_var (i := 1) (by show Z.N[1]? = _; rw [hN]; rfl) S.v1
  have s1 : PS Z (.Try [.Return (some (.Call (.Name "read_rule" q1) [.Name "_law_text" q2, .Name "_law_many_here" q3] [] q4)) q5] [.ExceptHandler (some (.Name "AirError" q6)) (some "_law_e") (tdSu k0 k1 k2 k3 k4 p1 p2 p3 p4 p5 p6 p7 p8 p9 p10 p11 p12 p13 p14 p15) q7] [] [] q8) _ :=
    L2N.ps_try_as (i := 2) (c := .ref CA) (tb := fun W D σ H => ∃ v0 v1, σ[0]? = some (some v0) ∧ σ[1]? = some (some v1) ∧ sp [v0, v1] H D.rt fun cls d H' => W cls d σ H') (ts := tsT ClsF) (Wout := fun _ _ _ _ => False) hs hf hnd (by rw [hN]; rfl) S.ln ⟨S.g2, by decide, .inl hma⟩ ExS.takes0N
      (fun W pn xe tk _ => ExI.pss_imp (pss_one (ps_ret (pe_callS (X := Z.tr pn xe) (E := WE W) FR ⟨hk.hd, hk.dp, hk.un⟩ S.g1 mR kR bR (fun σ => L2N.passAt tk σ) (pa_cons (v0 pn xe _) (pa_cons (v1 pn xe _) pa_nil))))) fun E σ H h => by
        obtain ⟨v0, v1, e0, e1, h⟩ := h
        exact ⟨v0, e0, v1, e1, h⟩)
      (fun a oe cls d pn hz hfd => ⟨fun pins s σ H E I h => by
        obtain ⟨D, b, rfl, cf, h⟩ := h
        exact (td_su (X := Z) (pn := pn) hN S hz hfd (fun vs hv => hz.2.2 vs hv) (hC D b cf a oe d hz hfd) mI kI bI hr).run pins s σ H E I h⟩)
  exact pss_one s1
end
end ExM
/-! DenM: _law_told as a def of the table. -/
namespace Den
open PySem PySem.Spec PyProof.Rows L2
def tdW : Nat → List Nat
  | 4 => [116, 101, 120, 116]
  | 1 => [114, 117, 108, 101]
  | _ => [111, 116, 104, 101, 114]
def toldR (F : Fn) (ds : List D) : Option Ro := match F.run ds [] with
  | some (.ret d [] []) => some (.ret d [] [])
  | some (.exc x) => if x.cls < 5 then some (.ret (.str (tdW x.cls)) [] []) else none
  | _ => none
/-- what _law_told makes of a def of two -/
def toldF (F : Fn) : Fn := ⟨[.val, .val], fun ds os => if os.isEmpty then toldR F ds else none⟩
def TdTxt (st : Stmt) : Prop := ∃ (k0 k1 k2 k3 k4 : Nat) (p1 p2 p3 p4 p5 p6 p7 p8 p9 p10 p11 p12 p13 p14 p15 q1 q2 q3 q4 q5 q6 q7 q8 : Pos), defBody st = ExM.tdBd k0 k1 k2 k3 k4 p1 p2 p3 p4 p5 p6 p7 p8 p9 p10 p11 p12 p13 p14 p15 q1 q2 q3 q4 q5 q6 q7 q8 ∧ ExM.TdSc (defScope st)
theorem wd_cb {c : Nat} (hc : c < 5) : ExM.wdB (cb c) = ⟨(tdW c).toArray⟩ := by
  have e1 : ("rule" : Str) = ⟨(clWord 1).toArray⟩ := by decide +kernel
  have e4 : ("text" : Str) = ⟨(clWord 4).toArray⟩ := by decide +kernel
  have e5 : ("other" : Str) = ⟨(tdW 0).toArray⟩ := by decide +kernel
  unfold ExM.wdB
  rw [e1, e4, e5, isR_cb hc, isR_cb hc]
  match c, hc with
  | 0, _ => decide
  | 1, _ => decide
  | 2, _ => decide
  | 3, _ => decide
  | 4, _ => decide
section
variable {P : Program} {w : World} {K : PySem.W.Frag} {mg : Str → Option Value} {base : Heap} {g : Gx}
theorem told_fn {CA f fI fR : Addr} {fdI fdR : FuncData} {psR : List Str} {st : Stmt} {k : Nat} {F : Fn} {oc dV kV doc pm cdv ct : Value} {od an : Option Addr} {osl : Array (Option Value)}
    (lk : K.lookup f = some ⟨oc, od, .func (PySem.W.fnOf "_law_told" "_law_told" (defArgs st) (defBody st) (defScope st) dV kV doc pm an cdv ct), osl⟩) (hcd : PySem.W.codeIn K cdv "_law_told" = true) (Sc : FnScope ExM.tdN ["_law_text", "_law_many_here"] (defScope st)) (tx : TdTxt st)
    (hma : mg "AirError" = some (.ref CA)) (hx : ∀ i, i < 5 → PySem.W.exmOne K (.ref (g.cl i)) (.ref CA) = some true) (hk : 1 ≤ k) (hio : F.io = [.val, .val])
    (FR : FnOk P w K mg base (L2N.CX P w) k fR fdR psR (spD g F)) (mR : mg "read_rule" = some (.ref fR)) (kR : PySem.W.keepIn K (.ref fR) = true) (bR : L2.Binds K fdR psR [])
    (hC : ∀ D b, ClsD g D b → ∀ (a : Addr) (oe : Obj) (d : Option Addr), L2N.Zn (.ref D) d oe → (∃ vs, oe.data = .fields vs) → ExK.FnP P w K mg base (L2N.CX P w) 1 (a, oe) fI fdI ["_law_e", "_law_word"] (ExL.spIs a d b))
    (mI : mg "_law_is" = some (.ref fI)) (kI : PySem.W.keepIn K (.ref fI) = true) (bI : L2.Binds K fdI ["_law_e", "_law_word"] []) :
    FnOk P w K mg base (L2N.CX P w) (k + 1) f (PySem.W.fnOf "_law_told" "_law_told" (defArgs st) (defBody st) (defScope st) dV kV doc pm an cdv ct) ["_law_text", "_law_many_here"] (spD g (toldF F)) := by
  have len : ∀ vs H Q E, spD g (toldF F) vs H Q E → vs.length = 2 := fun vs H Q E h => by
    obtain ⟨Φ, ρ, ds, os, fs, Fr, r, k0, hl, _⟩ := h
    have := k0.len
    simp only [List.length_map] at this
    rw [← this]; exact hl
  refine fn_of lk hcd Sc (fun vs H Q E h => by rw [len vs H Q E h]; rfl) fun A outer s H vs Q E hr h => ?_
  have hvl := len vs H Q E h
  obtain ⟨k0, k1, k2, k3, k4, p1, p2, p3, p4, p5, p6, p7, p8, p9, p10, p11, p12, p13, p14, p15, q1, q2, q3, q4, q5, q6, q7, q8, eb, S⟩ := tx
  obtain ⟨Φ, ρ, ds, os, fs, Fr, r, ok, hl, hrun, p⟩ := h
  have W := ExM.td_pss (Z := cxOf (L2N.CX P w) P w K mg base ExM.tdN "_law_told" (defScope st) f cdv A outer s H E) (CA := CA) (k0 := k0) (k1 := k1) (k2 := k2) (k3 := k3) (k4 := k4) (p1 := p1) (p2 := p2) (p3 := p3) (p4 := p4) (p5 := p5) (p6 := p6) (p7 := p7) (p8 := p8) (p9 := p9) (p10 := p10) (p11 := p11) (p12 := p12) (p13 := p13) (p14 := p14) (p15 := p15) (q1 := q1) (q2 := q2) (q3 := q3) (q4 := q4) (q5 := q5) (q6 := q6) (q7 := q7) (q8 := q8) (ClsF := ClsD g) (kk := 1) rfl rfl rfl S hma FR hr mR kR bR hC mI kI bI ((L2H.roomH_of hr).mono hk)
  rw [← eb] at W
  refine ⟨_, W, ?_⟩
  match vs, hvl with
  | [x0, x1], _ =>
    replace hrun : (if os.isEmpty then toldR F ds else none) = some r := hrun
    split at hrun
    · rename_i hos
      have hos : os = [] := by simpa using hos
      subst hos
      refine ⟨x0, x1, rfl, rfl, ?_⟩
      unfold toldR at hrun
      split at hrun
      · rename_i d hF
        cases hrun
        exact ⟨Φ, ρ, ds, [], fs, Fr, _, ok, by rw [hio]; exact hl, hF, fun Φ' H' ρ' v f fs' stp ok' vl => p Φ' H' ρ' v f fs' stp (by rw [hio] at ok'; exact ok') vl⟩
      · rename_i x hF
        split at hrun
        · rename_i h5
          cases hrun
          refine ⟨Φ, ρ, ds, [], fs, Fr, _, ok, by rw [hio]; exact hl, hF, fun Φ' H' ρ' cls dd st sb tb xa => ?_⟩
          obtain ⟨e1, e2, e3⟩ := xa
          have hdd : dd = none ∨ ∃ dx fs, dd = some dx ∧ H' dx = some (.xd fs) := by
            by_cases hp : x.pay = []
            · exact .inl (e2 hp)
            · obtain ⟨a, vs, z1, z2, _⟩ := e3 hp
              exact .inr ⟨a, _, z1, z2⟩
          refine ⟨true, by rw [e1]; exact hx _ h5, fun _ a ha => ⟨_, _, e1, ⟨_, h5, rfl, rfl⟩, rfl, hdd, fun H'' up2 => ?_⟩, fun z => by cases z⟩
          rw [wd_cb h5]
          have hρ : ρ = [] := by
            have := ok.obl
            exact List.length_eq_zero_iff.mp this
          have fr2 : ∀ a, Fr a → H'' a = H a ∧ Φ' a = none := fun a ha => by
            obtain ⟨e1, e2⟩ := st.frm a ha
            obtain ⟨u, hu⟩ := (ok.fr a ha).ex
            exact ⟨by rw [hu]; rw [hu] at e1; exact up2 _ _ e1, e2⟩
          refine p Φ' H'' ρ (.str ⟨(tdW x.cls).toArray⟩) [] (fun _ => []) ⟨st.ext, List.prefix_refl _, fr2⟩ ?_ ⟨by simp only [Rep]; exact ⟨trivial, trivial⟩, List.nodup_nil, fun a ha => by cases ha⟩
          refine ⟨sub_up sb up2, tb.ext up2, fun a ha => ?_, rfl, fun i d q => ?_, fun _ _ => rfl, ok.obl, fun n o q => by simp at q, fun _ _ => rfl, fun _ => List.nodup_nil, fun _ _ _ h => (by cases h), fun _ _ h => (by cases h)⟩
          · rcases ha with ha | ha
            · cases ha
            · obtain ⟨z1, z2⟩ := fr2 a ha
              obtain ⟨_, u, hu, pl⟩ := ok.fr a ha
              exact ⟨z2, u, by rw [z1]; exact hu, pl⟩
          · match i with
            | 0 => simp [outsSl, toldF] at q
            | 1 => simp [outsSl, toldF] at q
            | i + 2 => simp [outsSl, toldF] at q
        · cases hrun
      · cases hrun
    · cases hrun
/-- the table with _law_told -/
def tdNm : Str := "_law_told"
def toldG (Γ' : Tb) : Option Fn := match Γ'.fn "read_rule" with
  | some F => if F.io = [.val, .val] then some (toldF F) else none
  | none => none
def withT (Γ Γ' : Tb) : Tb := ⟨fun x => if x = tdNm then toldG Γ' else Γ.fn x, Γ.glo, Γ.lam⟩
theorem withT_ok {CA f fI : Addr} {fdI : FuncData} {st : Stmt} {k : Nat} {Γ Γ' : Tb} {oc dV kV doc pm cdv ct : Value} {od an : Option Addr} {osl : Array (Option Value)}
    (h1 : TbOk P w K mg base g (k + 1) Γ) (h2 : TbOk P w K mg base g k Γ') (hk : 1 ≤ k)
    (lk : K.lookup f = some ⟨oc, od, .func (PySem.W.fnOf "_law_told" "_law_told" (defArgs st) (defBody st) (defScope st) dV kV doc pm an cdv ct), osl⟩) (hcd : PySem.W.codeIn K cdv "_law_told" = true) (kT : PySem.W.keepIn K (.ref f) = true) (mT : mg "_law_told" = some (.ref f))
    (bT : L2.Binds K (PySem.W.fnOf "_law_told" "_law_told" (defArgs st) (defBody st) (defScope st) dV kV doc pm an cdv ct) ["_law_text", "_law_many_here"] []) (Sc : scB ExM.tdN ["_law_text", "_law_many_here"] (defScope st) = true) (tx : TdTxt st)
    (hma : mg "AirError" = some (.ref CA)) (hx : ∀ i, i < 5 → PySem.W.exmOne K (.ref (g.cl i)) (.ref CA) = some true)
    (hC : ∀ D b, ClsD g D b → ∀ (a : Addr) (oe : Obj) (d : Option Addr), L2N.Zn (.ref D) d oe → (∃ vs, oe.data = .fields vs) → ExK.FnP P w K mg base (L2N.CX P w) 1 (a, oe) fI fdI ["_law_e", "_law_word"] (ExL.spIs a d b))
    (mI : mg "_law_is" = some (.ref fI)) (kI : PySem.W.keepIn K (.ref fI) = true) (bI : L2.Binds K fdI ["_law_e", "_law_word"] []) : TbOk P w K mg base g (k + 1) (withT Γ Γ') := fun x F h => by
  replace h : (if x = tdNm then toldG Γ' else Γ.fn x) = some F := h
  split at h
  · rename_i ex
    subst ex
    unfold toldG at h
    split at h
    · rename_i F0 hF0
      split at h
      · rename_i hio
        cases h
        obtain ⟨fR, fdR, psR, FR, mR, kR, bR⟩ := h2 _ _ hF0
        exact ⟨f, _, _, told_fn lk hcd (scB_ok Sc) tx hma hx hk hio FR mR kR bR hC mI kI bI, mT, kT, bT⟩
      · cases h
    · cases h
  · exact h1 x F h
/-- _law_is, where an exception is handled -/
theorem is_hot {CA fI : Addr} {stI : Stmt} {ocI dVI kVI dcI pmI cdI ctI : Value} {odI anI : Option Addr} {slI : Array (Option Value)}
    (hC : ∀ i, i < 5 → ClsK K CA g.cl i) (hm : ∀ i, i < 5 → mg (clW i) = some (.ref (g.cl i))) (m0 : mg "isinstance" = none) (m4 : mg "ValueError" = none)
    (lkI : K.lookup fI = some ⟨ocI, odI, .func (PySem.W.fnOf "_law_is" "_law_is" (defArgs stI) (defBody stI) (defScope stI) dVI kVI dcI pmI anI cdI ctI), slI⟩) (hcI : PySem.W.codeIn K cdI "_law_is" = true) (sI : scB ExI.isN ["_law_e", "_law_word"] (defScope stI) = true) (eI : IsTxt stI) :
    ∀ D b, ClsD g D b → ∀ (a : Addr) (oe : Obj) (d : Option Addr), L2N.Zn (.ref D) d oe → (∃ vs, oe.data = .fields vs) → ExK.FnP P w K mg base (L2N.CX P w) 1 (a, oe) fI (PySem.W.fnOf "_law_is" "_law_is" (defArgs stI) (defBody stI) (defScope stI) dVI kVI dcI pmI anI cdI ctI) ["_law_e", "_law_word"] (ExL.spIs a d b) := by
  obtain ⟨csc, i0, i1, i2, i3, i4, i_1, i_2, i_3, i_4, i_5, i_6, i_7, i_8, i_9, i_10, i_11, i_12, i_13, i_14, i_15, i_16, i_17, i_18, i_19, i_20, i_21, i_22, i_23, i_24, i_25, i_26, i_27, i_28, i_29, i_30, i_31, i_32, i_33, i_34, i_35, i_36, i_37, i_38, i_39, i_40, i_41, i_42, i_43, i_44, i_45, i_46, i_47, i_48, i_49, eIb, ISc, hl⟩ := eI
  have IM : ExL.IsM mg g.cl := ⟨m0, hm 0 (by decide), hm 1 (by decide), hm 2 (by decide), hm 3 (by decide), hm 4 (by decide), m4⟩
  rintro D b ⟨i, hi, rfl, rfl⟩ a oe d hz hfd
  have c := hC i hi
  have lk := lkI
  rw [eIb] at lk ⊢
  exact ExL.is_fn (p := (a, oe)) (k := 0) lk hcI (scB_ok sI) ISc IM hl c.ec hz.zc hfd (fun j hj => c.kit j hj) c.kv
end
end Den
/-! DenN: a def of the table that makes lambdas of its own. -/
namespace Den
open PySem PySem.Spec L2
mutual
def noLam : D → Bool
  | .lam _ => false
  | .tup ds => noLamL ds
  | .lst _ ds => noLamL ds
  | .dc _ _ ds => noLamL ds
  | _ => true
def noLamL : List D → Bool
  | [] => true
  | d :: ds => noLam d && noLamL ds
end
section
variable {g g' : Gx} {Φ H : Hp} {ρ : List Addr}
theorem TpK.gx {K K' : PySem.W.Frag} {a : Addr} {vs : List V} (e : K = K') (h : TpK K Φ a vs) : TpK K' Φ a vs := e ▸ h
mutual
theorem Rep.gx (e : g.K = g'.K) : ∀ (d : D) (v : V) (f : List Addr), noLam d = true → Rep g Φ H ρ d v f → Rep g' Φ H ρ d v f
  | .non, _, _, _, h => by simpa only [Rep] using h
  | .bl b, _, _, _, h => by simpa only [Rep] using h
  | .int i, _, _, _, h => by simpa only [Rep] using h
  | .str s, _, _, _, h => by simpa only [Rep] using h
  | .tup ds, _, f, k, h => by
    simp only [Rep] at h ⊢
    obtain ⟨a, vs, ev, t, r⟩ := h
    exact ⟨a, vs, ev, t.gx e, RepL.gx e ds vs f (by simpa [noLam] using k) r⟩
  | .lst .own ds, _, f, k, h => by
    simp only [Rep] at h ⊢
    obtain ⟨a, vs, f', ev, t, n, z, r⟩ := h
    exact ⟨a, vs, f', ev, t, n, z, RepL.gx e ds vs f' (by simpa [noLam] using k) r⟩
  | .lst .fz ds, _, f, k, h => by
    simp only [Rep] at h ⊢
    obtain ⟨a, vs, ev, t, n, r⟩ := h
    exact ⟨a, vs, ev, t, n, RepL.gx e ds vs [] (by simpa [noLam] using k) r⟩
  | .lst .ro ds, _, f, k, h => by
    simp only [Rep] at h ⊢
    obtain ⟨a, vs, ev, t, n, r⟩ := h
    exact ⟨a, vs, ev, by rw [← e]; exact t, n, RepL.gx e ds vs [] (by simpa [noLam] using k) r⟩
  | .obj n, _, _, _, h => by simpa only [Rep] using h
  | .kt ks, _, _, _, h => by simpa only [Rep] using h
  | .dc .own ks ds, _, f, k, h => by
    simp only [Rep] at h ⊢
    obtain ⟨a, vs, ev, t, n, z, l, r⟩ := h
    exact ⟨a, vs, ev, t, n, z, l, RepL.gx e ds vs [] (by simpa [noLam] using k) r⟩
  | .dc .fz ks ds, _, f, k, h => by
    simp only [Rep] at h ⊢
    obtain ⟨a, vs, ev, t, n, l, r⟩ := h
    exact ⟨a, vs, ev, t, n, l, RepL.gx e ds vs [] (by simpa [noLam] using k) r⟩
  | .dc .ro ks ds, _, f, k, h => by
    simp only [Rep] at h ⊢
    obtain ⟨a, vs, ev, t, n, l, r⟩ := h
    exact ⟨a, vs, ev, t, n, l, RepL.gx e ds vs [] (by simpa [noLam] using k) r⟩
  | .lam k, _, _, k', h => by simp [noLam] at k'
  | .any, _, _, _, h => by simpa only [Rep] using h
theorem RepL.gx (e : g.K = g'.K) : ∀ (ds : List D) (vs : List V) (f : List Addr), noLamL ds = true → RepL g Φ H ρ ds vs f → RepL g' Φ H ρ ds vs f
  | [], _, _, _, h => by simpa only [RepL] using h
  | d :: ds, _, f, k, h => by
    simp only [RepL] at h ⊢
    obtain ⟨v, vs', f1, f2, e1, e2, r1, r2⟩ := h
    simp only [noLamL, Bool.and_eq_true] at k
    exact ⟨v, vs', f1, f2, e1, e2, Rep.gx e d v f1 k.1 r1, RepL.gx e ds vs' f2 k.2 r2⟩
end
theorem Ok.gx {s : S} {σ : L2.St} {fs : Ix → List Addr} {F : Addr → Prop} (eK : g.K = g'.K) (eT : g.T = g'.T) (k : Ok g Φ H ρ s σ fs F) (hs : ∀ (i : Nat) (d : D), s.sl[i]? = some (some d) → noLam d = true) (ho : s.os = []) : Ok g' Φ H ρ s σ fs F where
  sub := k.sub
  tab := eT ▸ k.tab
  fr := k.fr
  len := k.len
  slot := fun i d q => by
    obtain ⟨v, e1, r⟩ := k.slot i d q
    exact ⟨v, e1, Rep.gx eK d v _ (hs i d q) r⟩
  slot0 := k.slot0
  obl := k.obl
  obj := fun n o q => by rw [ho] at q; simp at q
  obj0 := k.obj0
  nd := k.nd
  sep := k.sep
  out := k.out
theorem noLamL_get : ∀ {ds : List D} {i : Nat} {d : D}, noLamL ds = true → ds[i]? = some d → noLam d = true
  | [], _, _, _, h => by simp at h
  | x :: ds, 0, d, k, h => by
    simp only [noLamL, Bool.and_eq_true] at k
    simp at h; subst h; exact k.1
  | x :: ds, i + 1, d, k, h => by
    simp only [noLamL, Bool.and_eq_true] at k
    exact noLamL_get k.2 (by simpa using h)
end
def allV (io : List Md) : Bool := io.all fun m => decide (m = .val)
def lamR (Γ : Tb) (LB : List C) (N : Nat) (io : List Md) (body : Ts) (ds : List D) : Option Ro := match runB (withL Γ LB) N io body ds [] with
  | some (.ret (.bl b) [] []) => some (.ret (.bl b) [] [])
  | _ => none
/-- a def with lambdas of its own: it gets no lambdas, and tells True or False -/
def lamFn (Γ : Tb) (LB : List C) (N : Nat) (io : List Md) (body : Ts) : Fn := ⟨io, fun ds os => if os.isEmpty && noLamL ds && allV io then lamR Γ LB N io body ds else none⟩
theorem fn_okR {P : Program} {w : World} {K : PySem.W.Frag} {mg : Str → Option Value} {base : Heap} {g : Gx} {Γ : Tb} {st : Stmt} {f : Addr} {N ps : List Str} {io : List Md} {k : Nat} {body : Ts} {LB : List C} {ex : Bool} {name qual : Str} {dV kV doc pm cdv ct oc : Value} {an od : Option Addr} {osl : Array (Option Value)} (lk : K.lookup f = some ⟨oc, od, .func (PySem.W.fnOf name qual (defArgs st) (defBody st) (defScope st) dV kV doc pm an cdv ct), osl⟩) (hcd : PySem.W.codeIn K cdv qual = true) (Sc : FnScope N ps (defScope st)) (hps : ps.length = io.length) (hg : K = g.K)
    (hc : chkSs ⟨N, defScope st, prOf io, none, false, true, LB, ex⟩ body (defBody st) = true) (hb : ∀ x ∈ bltL, mg x = none) (ht : ∀ g' : Gx, K = g'.K → g'.cl = g.cl → g'.T = g.T → TbOk P w K mg base g' k Γ) (hgl : ∀ g' : Gx, K = g'.K → GloOk K w mg g' Γ)
    (hL : ∃ c P, cdv = .ref c ∧ LamX.TabB base mg c P ∧ (P, (qual ++ ".<locals>.") ++ "<lambda>") ∈ g.T ∧ ∀ p ∈ g.T, p.1 = P → p.2 = (qual ++ ".<locals>.") ++ "<lambda>") (hex : ex = true → 2 ≤ k ∧ ExcF P w K mg base g.cl)
    {kk : Nat} {CA ga : Addr} (hkk : kk ≤ k + 1) (R : ExY.RfOk P w K mg base kk CA ga (ClsD g)) (hx : ∀ i, i < 5 → PySem.W.exmOne K (.ref (g.cl i)) (.ref CA) = some true) :
    FnOk P w K mg base (L2N.CX P w) (k + 3) f (PySem.W.fnOf name qual (defArgs st) (defBody st) (defScope st) dV kV doc pm an cdv ct) ps (spD g (lamFn Γ LB N.length io body)) := by
  have len : ∀ vs H Q E, spD g (lamFn Γ LB N.length io body) vs H Q E → vs.length = io.length := fun vs H Q E h => by
    obtain ⟨Φ, ρ, ds, os, fs, Fr, r, k0, hl, _⟩ := h
    have := k0.len
    simp only [List.length_map] at this
    rw [← this]; exact hl
  refine fn_of lk hcd Sc (fun vs H Q E h => by rw [len vs H Q E h, hps]) fun A outer s H vs Q E hr h => ?_
  have hvl := len vs H Q E h
  obtain ⟨Φ, ρ, ds, os, fs, Fr, r, kg, hl, hrun, p⟩ := h
  replace hrun : (if os.isEmpty && noLamL ds && allV io then lamR Γ LB N.length io body ds else none) = some r := hrun
  split at hrun
  · rename_i hcond
    simp only [Bool.and_eq_true, List.isEmpty_iff] at hcond
    obtain ⟨⟨hos, hnl⟩, hav⟩ := hcond
    subst hos
    unfold lamR at hrun
    split at hrun
    · rename_i b hB
      cases hrun
      let X := cxOf (L2N.CX P w) P w K mg base N qual (defScope st) f cdv A outer s H E
      let c : Ck := ⟨N, defScope st, prOf io, none, false, true, LB, ex⟩
      let g' := gxL g c X.env.qual X.env.cells
      have hg' : K = g'.K := hg
      have k0 : Ok g' Φ H ρ ⟨ds.map some, []⟩ (vs.map some) fs Fr := Ok.gx (g := g) (g' := g') rfl rfl kg (fun i d q => by
        have q : (ds.map some)[i]? = some (some d) := q
        rw [List.getElem?_map] at q
        cases hd : ds[i]? with
        | none => rw [hd] at q; cases q
        | some d' => rw [hd] at q; cases q; exact noLamL_get hnl hd) rfl
      have x0 : XOk g' (withL Γ LB) c E X := by
        refine ⟨hg', rfl, Sc.nd, rfl, rfl, ?_, fun _ _ _ => rfl, hb, fun y F' hy => ?_, hgl g' hg', L2N.passes_call (W := fun cls d _ H => E cls d H) (L2N.takes_of rfl rfl rfl rfl) (fun _ _ _ _ h => h), fun hl => (by cases hl), fun _ => ⟨rfl, rfl, ?_, fun k l b h1 h2 h3 h4 => ⟨b, h1, h2, h3, h4⟩⟩, fun _ => ⟨k, hr, fun j l hj => ?_, kk, CA, ga, hkk, R, hx⟩, fun he => ⟨(hex he).2, hr.mono (Nat.le_add_left _ _)⟩⟩
        · have := hr.un
          show (A.deeper _).units + 65 < cLine
          omega
        · obtain ⟨f', fd', ps', h1, h2, h3, h4⟩ := ht g' hg' rfl rfl y F' hy
          exact ⟨k, f', fd', ps', h1, hr.mono (Nat.le_add_right _ _), h2, h3, h4⟩
        · obtain ⟨cc, PP, rfl, TB, h1, h2⟩ := hL
          exact ⟨cc, PP, TB, rfl, h1, h2⟩
        · obtain ⟨b, e1, e2, e3, e4⟩ := hj
          have L := ExW.lamS2_by e3
          refine ⟨ev Γ b, ?_, L, e2, fun f c' s0 E A outer s H hr => sE b (lamCk c l.scope) E _ _ ?_ e4⟩
          · show (LB[j]?).map (ev Γ) = _
            rw [show LB[j]? = some b from e1]; rfl
          · exact xok_lam (X := X) (g := g') rfl rfl hg' rfl Sc.nd hb (ht g' hg' rfl rfl) (hgl g' hg') hex L ⟨hr.hd, hr.dp, hr.un⟩
      have so : SOk g' (withL Γ LB) c E X := ⟨x0, passes_of rfl, L2N.takes_of rfl rfl rfl rfl⟩
      refine ⟨_, sSs body _ _ so hc, ?_⟩
      have hdl : ds.length = vs.length := by rw [show ds.length = io.length from hl, hvl]
      have k1 := start_len (n := N.length) (N := N) rfl hdl k0
      have h0 : ∀ j : Nat, j < vs.length → (L2.start N vs)[j]? = (vs.map some)[j]? := fun j hj => by
        unfold L2.start
        rw [List.getElem?_append_left (by simpa using hj)]
      unfold runB at hB
      have fin : ∀ (d : D) (s' : Den.S) (outs : List D), outsOf io s'.sl = some outs → some (Ro.ret d outs s'.os) = some (.ret (.bl b) [] []) → ∀ Φ' H' ρ' v f σ' fs', Stp Φ H ρ Fr Φ' H' ρ' → PrOk (prOf io) (L2.start N vs) σ' → Ok g' Φ' H' ρ' s' σ' fs' (fadd f Fr) → Vl g' Φ' H' ρ' d v f Fr → Q v H' := fun d s' outs ho hr' Φ' H' ρ' v f σ' fs' stp pk ok vl => by
        have e1 := Option.some.inj hr'
        injection e1 with ed eo es
        subst ed eo
        have ko := ok.outs ho hvl h0 pk
        rw [es] at ko
        obtain ⟨_, hg2⟩ := outsOf_get ho
        have ko2 := Ok.gx (g := g') (g' := g) rfl rfl ko (fun i d q => by
          obtain ⟨h3, _⟩ := hg2 i d q
          have := List.all_eq_true.mp hav _ (List.mem_of_getElem? h3)
          simp at this) rfl
        exact p Φ' H' ρ' v f _ stp ko2 ⟨Rep.gx (g := g') (g' := g) rfl (.bl b) v f rfl vl.rep, vl.nd, vl.out⟩
      split at hB
      · rename_i d s' he
        split at hB
        · rename_i outs ho
          exact ⟨Φ, ρ, _, fs, Fr, _, k1, he, fin d s' outs ho hB⟩
        · cases hB
      · rename_i s' he
        split at hB
        · rename_i outs ho
          exact ⟨Φ, ρ, _, fs, Fr, _, k1, he, fun Φ' H' ρ' σ' fs' stp pk ok => fin .non s' outs ho hB Φ' H' ρ' .non [] σ' fs' stp pk ok.nof ⟨rep_non, List.nodup_nil, fun a ha => by cases ha⟩⟩
        · cases hB
      · cases hB
      · cases hB
    · cases hrun
  · cases hrun
theorem clsD_eq {g g' : Gx} (h : g.cl = g'.cl) : ClsD g' = ClsD g := by
  unfold ClsD
  rw [h]
/-- the table with such a def -/
def withR (Γ : Tb) (nm : Str) (F : Fn) : Tb := ⟨fun x => if x = nm then some F else Γ.fn x, Γ.glo, Γ.lam⟩
theorem withR_ok {P : Program} {w : World} {K : PySem.W.Frag} {mg : Str → Option Value} {base : Heap} {g : Gx} {Γ : Tb} {nm : Str} {F : Fn} {k : Nat} {f : Addr} {fd : FuncData} {ps : List Str} (h : TbOk P w K mg base g k Γ) (hF : FnOk P w K mg base (L2N.CX P w) k f fd ps (spD g F)) (hm : mg nm = some (.ref f)) (hk : PySem.W.keepIn K (.ref f) = true) (hb : Binds K fd ps []) : TbOk P w K mg base g k (withR Γ nm F) := fun x F' e => by
  replace e : (if x = nm then some F else Γ.fn x) = some F' := e
  split at e
  · rename_i ex
    subst ex
    cases e
    exact ⟨f, fd, ps, hF, hm, hk, hb⟩
  · exact h x F' e
end Den
/-! M0: evaluation by simp. -/
namespace Den
open PySem PySem.Spec L2
theorem bnd_val {α β : Type} {m : M α} {k : α → M β} {s s1 : S} {a : α} (h : m s = some (.val a s1)) : bnd m k s = k a s1 := by unfold bnd; rw [h]
@[simp] theorem bnd_ret {α β : Type} {a : α} {k : α → M β} : bnd (ret a) k = k a := rfl
@[simp] theorem lift_some' {α : Type} {a : α} : lift (some a) = ret a := rfl
@[simp] theorem ret_app {α : Type} {a : α} {s : S} : ret a s = some (.val a s) := rfl
@[simp] theorem thn_val {α : Type} {a : α} {s : S} {k : α → S → Option Rs} : Den.thn (some (.val a s)) k = k a s := rfl
@[simp] theorem sthn_nx {s : S} {k : S → Option Rs} : sthn (some (.nx s)) k = k s := rfl
@[simp] theorem sthn_rt {d : D} {s : S} {k : S → Option Rs} : sthn (some (.rt d s)) k = some (.rt d s) := rfl
@[simp] theorem ints_fz (l : List Int) : fzL (l.map D.int) = l.map D.int := by
  induction l with
  | nil => rfl
  | cons x xs ih => simp only [List.map_cons, fzL, ih, fz]
@[simp] theorem atI_0 {α : Type} {x : α} {l : List α} : atI (x :: l) 0 = some x := atI_nat (j := 0) rfl
@[simp] theorem atI_1 {α : Type} {x y : α} {l : List α} : atI (x :: y :: l) 1 = some y := atI_nat (j := 1) rfl
@[simp] theorem atI_2 {α : Type} {x y z : α} {l : List α} : atI (x :: y :: z :: l) 2 = some z := atI_nat (j := 2) rfl
@[simp] theorem atI_3 {α : Type} {x y z u : α} {l : List α} : atI (x :: y :: z :: u :: l) 3 = some u := atI_nat (j := 3) rfl
@[simp] theorem atI_4 {α : Type} {x y z u v : α} {l : List α} : atI (x :: y :: z :: u :: v :: l) 4 = some v := atI_nat (j := 4) rfl
theorem shaped_int (i : Int) : SeqAt.shaped (.int i) = true := by
  simp [SeqAt.shaped, PyData.canLay0, PyData.depth]
@[simp] theorem eqD_int {a b : Int} : eqD (.int a) (.int b) = some (decide (a = b)) := by
  unfold eqD
  rw [if_pos ⟨shaped_int a, shaped_int b⟩]
  simp only [toP, PyData.eqv]
  by_cases h : a = b
  · subst h; simp
  · rw [decide_eq_false h, beq_eq_false_iff_ne.mpr h]
theorem ixN_of {n : Nat} {i : Nat} (h : i < n) : ixN n (i : Int) = some i := by
  unfold ixN; rw [if_pos (by omega), if_pos (by omega)]; simp
end Den
/-! M1: equality, membership and shapes of plain values; loops. -/
namespace Den
open PySem PySem.Spec L2
def Shp (k : Nat) (d : D) : Prop := (toP d).canLay0 = true ∧ (toP d).depth ≤ k
theorem Shp.mono {k m : Nat} {d : D} (h : Shp k d) (l : k ≤ m) : Shp m d := ⟨h.1, Nat.le_trans h.2 l⟩
theorem shaped_of {k : Nat} {d : D} (h : Shp k d) (l : k ≤ 64 := by omega) : SeqAt.shaped (toP d) = true := by
  unfold SeqAt.shaped
  rw [h.1, decide_eq_true (Nat.le_trans h.2 l)]; rfl
theorem shp_int {k : Nat} {i : Int} : Shp k (.int i) := ⟨by simp [toP, PyData.canLay0], by simp [toP, PyData.depth]⟩
theorem shp_bl {k : Nat} {b : Bool} : Shp k (.bl b) := ⟨by simp [toP, PyData.canLay0], by simp [toP, PyData.depth]⟩
theorem shp_non {k : Nat} : Shp k .non := ⟨by simp [toP, PyData.canLay0], by simp [toP, PyData.depth]⟩
theorem shp_str {k : Nat} {s : List Nat} (h : s.all (· < 0x110000) = true) : Shp k (.str s) := ⟨by simpa [toP, PyData.canLay0, PyData.strOk] using h, by simp [toP, PyData.depth]⟩
theorem shp_all {k : Nat} : ∀ {ds : List D}, (∀ x ∈ ds, Shp k x) → PyData.canLayAll0 (toPs ds) = true ∧ PyData.depthAll (toPs ds) ≤ k
  | [], _ => ⟨by simp [toPs, PyData.canLayAll0], by simp [toPs, PyData.depthAll]⟩
  | d :: ds, h => by
    obtain ⟨h1, h2⟩ := h d List.mem_cons_self
    obtain ⟨h3, h4⟩ := shp_all fun x hx => h x (List.mem_cons_of_mem _ hx)
    refine ⟨by simp only [toPs, PyData.canLayAll0, h1, h3, Bool.and_self], ?_⟩
    simp only [toPs, PyData.depthAll]
    omega
theorem shp_tup {k : Nat} {ds : List D} (h : ∀ x ∈ ds, Shp k x) : Shp (k + 1) (.tup ds) := by
  obtain ⟨h1, h2⟩ := shp_all h
  exact ⟨by simp only [toP, PyData.canLay0, h1], by simp only [toP, PyData.depth]; omega⟩
theorem shp_lst {k : Nat} {o : Ow} {ds : List D} (h : ∀ x ∈ ds, Shp k x) : Shp (k + 1) (.lst o ds) := by
  obtain ⟨h1, h2⟩ := shp_all h
  exact ⟨by simp only [toP, PyData.canLay0, h1], by simp only [toP, PyData.depth]; omega⟩
theorem shp_ints {k : Nat} {l : List Int} : ∀ x ∈ l.map D.int, Shp k x := fun x hx => by
  obtain ⟨i, _, rfl⟩ := List.mem_map.mp hx
  exact shp_int
theorem shp_tupI {k : Nat} {l : List Int} : Shp (k + 1) (tupI l) := shp_tup shp_ints
theorem eqD_of {j k : Nat} {a b : D} (ha : Shp j a) (hb : Shp k b) (hj : j ≤ 64 := by omega) (hk : k ≤ 64 := by omega) : eqD a b = some (PyData.eqv (toP a) (toP b)) := by
  unfold eqD; rw [if_pos ⟨shaped_of ha hj, shaped_of hb hk⟩]
theorem eqv_ints : ∀ (a b : List Int), PyData.eqvAll (toPs (a.map .int)) (toPs (b.map .int)) = decide (a = b)
  | [], [] => by simp [toPs, PyData.eqvAll]
  | [], _ :: _ => by simp [toPs, toP, PyData.eqvAll]
  | _ :: _, [] => by simp [toPs, toP, PyData.eqvAll]
  | x :: a, y :: b => by
    simp only [List.map_cons, toPs, toP, PyData.eqvAll, PyData.eqv, eqv_ints a b]
    by_cases h : x = y <;> simp [h]
@[simp] theorem eqD_lst {o o' : Ow} (a b : List Int) : eqD (.lst o (a.map .int)) (.lst o' (b.map .int)) = some (decide (a = b)) := by
  rw [eqD_of (shp_lst (k := 0) shp_ints) (shp_lst (k := 0) shp_ints)]
  simp only [toP, PyData.eqv, eqv_ints]
@[simp] theorem eqD_lst0 {o o' : Ow} (a : List Int) : eqD (.lst o (a.map .int)) (.lst o' []) = some (decide (a = [])) := eqD_lst a []
theorem eqD_tupI (a b : List Int) : eqD (tupI a) (tupI b) = some (decide (a = b)) := by
  rw [eqD_of (shp_tupI (k := 0)) (shp_tupI (k := 0))]
  simp only [tupI, toP, PyData.eqv, eqv_ints]
@[simp] theorem eqD_tup (a b : List Int) : eqD (.tup (a.map .int)) (.tup (b.map .int)) = some (decide (a = b)) := eqD_tupI a b
@[simp] theorem eqD_tup0 (a : List Int) : eqD (.tup (a.map .int)) (.tup []) = some (decide (a = [])) := eqD_tupI a []
theorem eqD_str {a b : List Nat} (ha : a.all (· < 0x110000) = true) (hb : b.all (· < 0x110000) = true) : eqD (.str a) (.str b) = some (decide (a = b)) := by
  rw [eqD_of (shp_str (k := 0) ha) (shp_str (k := 0) hb)]
  simp only [toP, PyData.eqv]
  by_cases h : a = b
  · subst h; simp
  · rw [decide_eq_false h, beq_eq_false_iff_ne.mpr]
    intro e
    injection e with e
    exact h (by simpa using congrArg Array.toList e)
theorem inL_int (x : Int) : ∀ l : List Int, inL (.int x) (l.map .int) = decide (x ∈ l)
  | [] => by simp [inL, toPs]
  | y :: l => by
    have := inL_int x l
    unfold inL at this ⊢
    simp only [List.map_cons, toPs, toP, List.any_cons, PyData.eqv] at this ⊢
    rw [this]
    by_cases h : y = x
    · subst h; simp
    · have h' : ¬ x = y := fun e => h e.symm
      simp [h, h']
theorem flat_ints (l : List Int) : (l.map D.int).all flatD = true := by
  rw [List.all_eq_true]
  intro d hd
  obtain ⟨i, _, rfl⟩ := List.mem_map.mp hd
  rfl
@[simp] theorem inD_tup (x : Int) (l : List Int) : inD (.int x) (.tup (l.map .int)) = some (decide (x ∈ l)) := by
  simp only [inD, flatD, flat_ints, and_self, if_true, inL_int]
@[simp] theorem inD_lst {o : Ow} (x : Int) (l : List Int) : inD (.int x) (.lst o (l.map .int)) = some (decide (x ∈ l)) := by
  have h : SeqAt.shaped (.list (toPs (l.map D.int))) = true := shaped_of (shp_lst (o := .own) (k := 0) (shp_ints (l := l)))
  simp only [inD, toP, shaped_int, h, and_self, if_true, inL_int]
theorem findD_int (x : Int) : ∀ (l : List Int) (k : Nat), x ∈ l → findD (.int x) (l.map .int) k = some (k + l.idxOf x)
  | [], _, h => by cases h
  | y :: l, k, h => by
    simp only [List.map_cons, findD, toP, PyData.eqv]
    by_cases e : y = x
    · subst e; simp
    · have h' : x ∈ l := by
        rcases List.mem_cons.mp h with rfl | h
        · exact absurd rfl e
        · exact h
      have := findD_int x l (k + 1) h'
      rw [if_neg (by simpa using e), this, List.idxOf_cons, beq_eq_false_iff_ne.mpr e, cond_false]
      congr 1; omega
/-! ### loops -/
theorem forGo_ex {f : D → S → Option Rs} (I : Nat → S → Prop) : ∀ (xs : List D) (k : Nat), (∀ i x s, xs[i]? = some x → I (k + i) s → ∃ s', f x s = some (.nx s') ∧ I (k + i + 1) s') → ∀ s, I k s → ∃ s', forGo f xs s = some (.nx s') ∧ I (k + xs.length) s'
  | [], k, _, s, h => ⟨s, rfl, h⟩
  | x :: xs, k, hf, s, h => by
    obtain ⟨s1, e1, h1⟩ := hf 0 x s rfl h
    obtain ⟨s2, e2, h2⟩ := forGo_ex I xs (k + 1) (fun i y s hy hi => by
      have := hf (i + 1) y s (by simpa using hy) (by rw [show k + (i + 1) = k + 1 + i by omega]; exact hi)
      rw [show k + (i + 1) + 1 = k + 1 + i + 1 by omega] at this
      exact this) s1 h1
    refine ⟨s2, ?_, by rw [List.length_cons, show k + (xs.length + 1) = k + 1 + xs.length by omega]; exact h2⟩
    simp only [forGo, e1, sthn, e2]
theorem whil_t {c : M D} {f : S → Option Rs} {n : Nat} {s s1 : S} (h : c s = some (.val (.bl true) s1)) : whilGo c f (n + 1) s = sthn (f s1) (whilGo c f n) := by
  simp only [whilGo, h, thn]
theorem whil_f {c : M D} {f : S → Option Rs} {n : Nat} {s s1 : S} (h : c s = some (.val (.bl false) s1)) : whilGo c f (n + 1) s = some (.nx s1) := by
  simp only [whilGo, h, thn]
theorem callF_ret {F : Fn} {sl : List Nat} {ds outs : List D} {d : D} {s : S} {os' : List Ob} {sl' : List (Option D)} (h : F.run ds s.os = some (.ret d outs os')) (p : putB sl outs s.sl = some sl') : callF F sl ds s = some (.val d ⟨sl', os'⟩) := by
  simp only [callF, h, p]
theorem shal_own {ds : List D} : shal (.lst .own ds) = .lst .own (fzL ds) := rfl
theorem shal_fz {ds : List D} : shal (.lst .fz ds) = .lst .fz (fzL ds) := rfl
theorem shal_ro {ds : List D} : shal (.lst .ro ds) = fz (.lst .ro ds) := rfl
theorem shal_int {i : Int} : shal (.int i) = .int i := rfl
theorem shal_bl {i : Bool} : shal (.bl i) = .bl i := rfl
theorem shal_str {i : List Nat} : shal (.str i) = .str i := rfl
theorem shal_non : shal .non = .non := rfl
theorem shal_tup {ds : List D} : shal (.tup ds) = .tup (fzL ds) := rfl
end Den
namespace Den
open PySem PySem.Spec L2
/-! ### the text -/
def topS (i : Nat) : Stmt := PySem.Challenge.pw_oneair_k11_whole_the_shortest_for_two.main.body.getD i (.Pass ⟨0, 0, 0, 0⟩)
def b_need_many : Ts := (.cons (.ife (.not (.chain .le .le (.cst (.int 1)) (.var 0) (.glo "MOST_STATIONS")))
  (.cons (.rse 0)
  .nil)
  .nil)
  .nil)
def d_need_many : Df := ⟨"need_many", ["many"], ["many"], [.val], b_need_many, false, true⟩
theorem c_need_many : (chkSs ⟨d_need_many.N, defScope (topS 10), prOf d_need_many.io, none, d_need_many.lm, false, [], d_need_many.ex⟩ b_need_many (defBody (topS 10)) && scB d_need_many.N d_need_many.ps (defScope (topS 10))) = true := by decide +kernel
def b_need_most : Ts := (.cons (.expr (.cal "need_many" (.cons (.var 0) .nil)))
  (.cons (.ife (.not (.chain .le .le (.cst (.int 1)) (.var 1) (.var 0)))
  (.cons (.rse 0)
  .nil)
  .nil)
  .nil))
def d_need_most : Df := ⟨"need_most", ["many", "most"], ["many", "most"], [.val, .val], b_need_most, false, true⟩
theorem c_need_most : (chkSs ⟨d_need_most.N, defScope (topS 11), prOf d_need_most.io, none, d_need_most.lm, false, [], d_need_most.ex⟩ b_need_most (defBody (topS 11)) && scB d_need_most.N d_need_most.ps (defScope (topS 11))) = true := by decide +kernel
def lb_are_rows_0 : Ts := (.cons (.ife (.or (.op2 .ne (.bi .len (.cons (.var 2) .nil)) (.bi .len (.cons (.idx (.var 0) (.cst (.int 0))) .nil))) (.op2 .ne (.lc [3] (.nm 3) (.seq (.var 2)) (.yes (.op2 .notin (.var 3) (.cst (.str [48, 49])))) (.var 3)) (.lst .nil)))
  (.cons (.ret (.cst (.bl false)))
  .nil)
  .nil)
  .nil)
def b_are_rows : Ts := (.cons (.ife (.or (.op2 .ne (.bi .len (.cons (.var 0) .nil)) (.var 1)) (.not (.chain .le .le (.cst (.int 1)) (.bi .len (.cons (.idx (.var 0) (.cst (.int 0))) .nil)) (.glo "MOST_SIGNS"))))
  (.cons (.ret (.cst (.bl false)))
  .nil)
  .nil)
  (.cons (.forr (.nm 2) (.seq (.var 0)) lb_are_rows_0)
  (.cons (.ret (.cst (.bl true)))
  .nil)))
def d_are_rows : Df := ⟨"are_rows", ["rows", "many", "row", "sign"], ["rows", "many"], [.val, .val], b_are_rows, false, false⟩
theorem c_are_rows : (chkSs ⟨d_are_rows.N, defScope (topS 12), prOf d_are_rows.io, none, d_are_rows.lm, false, [], d_are_rows.ex⟩ b_are_rows (defBody (topS 12)) && scB d_are_rows.N d_are_rows.ps (defScope (topS 12))) = true := by decide +kernel
def lb_all_sets_0 : Ts := (.cons (.set (.nm 2) (.op2 .add (.var 2) (.lc [4] (.nm 4) (.seq (.var 2)) (.yes (.op2 .lt (.bi .len (.cons (.var 4) .nil)) (.var 1))) (.op2 .add (.var 4) (.tup (.cons (.var 3) .nil))))))
  .nil)
def b_all_sets : Ts := (.cons (.set (.nm 2) (.lst (.cons (.tup .nil) .nil)))
  (.cons (.forr (.nm 3) (.rng1 (.var 0)) lb_all_sets_0)
  (.cons (.ret (.srtKey (.slc (.var 2) (.yes (.cst (.int 1))) .no)))
  .nil)))
def d_all_sets : Df := ⟨"all_sets", ["many", "most", "found", "number", "some"], ["many", "most"], [.val, .val], b_all_sets, true, false⟩
theorem c_all_sets : (chkSs ⟨d_all_sets.N, defScope (topS 13), prOf d_all_sets.io, none, d_all_sets.lm, false, [], d_all_sets.ex⟩ b_all_sets (defBody (topS 13)) && scB d_all_sets.N d_all_sets.ps (defScope (topS 13))) = true := by decide +kernel
def lb_is_alone_0 : Ts := (.cons (.ife (.and (.op2 .eq (.var 4) (.cst (.str [49]))) (.op2 .eq (.lc [5] (.nm 5) (.seq (.var 2)) (.yes (.and (.op2 .ne (.var 5) (.var 1)) (.op2 .eq (.idx (.idx (.var 0) (.var 5)) (.var 3)) (.cst (.str [49]))))) (.var 5)) (.lst .nil)))
  (.cons (.ret (.cst (.bl true)))
  .nil)
  .nil)
  .nil)
def b_is_alone : Ts := (.cons (.forr (.tp [(.nm 3), (.nm 4)]) (.en (.idx (.var 0) (.var 1))) lb_is_alone_0)
  (.cons (.ret (.cst (.bl false)))
  .nil))
def d_is_alone : Df := ⟨"is_alone", ["rows", "number", "some", "at", "sign", "one"], ["rows", "number", "some"], [.val, .val, .val], b_is_alone, false, false⟩
theorem c_is_alone : (chkSs ⟨d_is_alone.N, defScope (topS 15), prOf d_is_alone.io, none, d_is_alone.lm, false, [], d_is_alone.ex⟩ b_is_alone (defBody (topS 15)) && scB d_is_alone.N d_is_alone.ps (defScope (topS 15))) = true := by decide +kernel
def lb_unheard_1 : Ts := (.cons (.ife (.not (.cal "is_alone" (.cons (.var 0) (.cons (.var 3) (.cons (.var 2) .nil)))))
  (.cons (.ret (.tup (.cons (.var 2) (.cons (.var 3) .nil))))
  .nil)
  .nil)
  .nil)
def lb_unheard_0 : Ts := (.cons (.forr (.nm 3) (.seq (.var 2)) lb_unheard_1)
  .nil)
def b_unheard : Ts := (.cons (.expr (.cal "need_most" (.cons (.bi .len (.cons (.var 0) .nil)) (.cons (.var 1) .nil))))
  (.cons (.ife (.not (.cal "are_rows" (.cons (.var 0) (.cons (.bi .len (.cons (.var 0) .nil)) .nil))))
  (.cons (.rsi 1 (.cst (.str [114, 111, 119, 115])))
  .nil)
  .nil)
  (.cons (.forr (.nm 2) (.seq (.cal "all_sets" (.cons (.bi .len (.cons (.var 0) .nil)) (.cons (.var 1) .nil)))) lb_unheard_0)
  (.cons (.ret (.cst .non))
  .nil))))
def d_unheard : Df := ⟨"unheard", ["rows", "most", "some", "number"], ["rows", "most"], [.val, .val], b_unheard, false, true⟩
theorem c_unheard : (chkSs ⟨d_unheard.N, defScope (topS 16), prOf d_unheard.io, none, d_unheard.lm, false, [], d_unheard.ex⟩ b_unheard (defBody (topS 16)) && scB d_unheard.N d_unheard.ps (defScope (topS 16))) = true := by decide +kernel
def lb_chains_of_1 : Ts := (.cons (.expr (.app 3 (.op2 .add (.lc [5] (.nm 5) (.seq (.var 4)) .no (.op2 .add (.var 5) (.cst (.str [48])))) (.lst (.cons (.op2 .add (.idx (.var 4) (.neg (.cst (.int 1)))) (.cst (.str [49]))) .nil)))))
  (.cons (.ife (.op2 .gt (.bi .len (.cons (.var 4) .nil)) (.cst (.int 1)))
  (.cons (.expr (.app 3 (.lc [5] (.nm 5) (.seq (.slc (.var 4) .no (.yes (.neg (.cst (.int 1)))))) .no (.op2 .add (.var 5) (.cst (.str [49]))))))
  .nil)
  .nil)
  .nil))
def lb_chains_of_0 : Ts := (.cons (.set (.nm 3) (.lst .nil))
  (.cons (.forr (.nm 4) (.seq (.var 1)) lb_chains_of_1)
  (.cons (.set (.nm 1) (.mv 3))
  .nil)))
def b_chains_of : Ts := (.cons (.set (.nm 1) (.lst (.cons (.lst (.cons (.cst (.str [])) .nil)) .nil)))
  (.cons (.forr (.nm 2) (.rng1 (.var 0)) lb_chains_of_0)
  (.cons (.ret (.mv 1))
  .nil)))
def d_chains_of : Df := ⟨"chains_of", ["size", "chains", "turn", "found", "chain", "text"], ["size"], [.val], b_chains_of, false, false⟩
theorem c_chains_of : (chkSs ⟨d_chains_of.N, defScope (topS 17), prOf d_chains_of.io, none, d_chains_of.lm, false, [], d_chains_of.ex⟩ b_chains_of (defBody (topS 17)) && scB d_chains_of.N d_chains_of.ps (defScope (topS 17))) = true := by decide +kernel
def lc_two_0 : C := (.op2 .lt (.bi .len (.cons (.cal "chains_of" (.cons (.var 1) .nil)) .nil)) (.var 0))
def lb_two_0 : Ts := (.cons (.aug 1 (.cst (.int 1)))
  .nil)
def b_two : Ts := (.cons (.expr (.cal "need_many" (.cons (.var 0) .nil)))
  (.cons (.set (.nm 1) (.cst (.int 0)))
  (.cons (.whil 1000000 lc_two_0 lb_two_0)
  (.cons (.ife (.op2 .eq (.var 1) (.cst (.int 0)))
  (.cons (.ret (.tup (.cons (.tup (.cons (.cst (.str [49])) .nil)) (.cons (.lst .nil) .nil))))
  .nil)
  .nil)
  (.cons (.set (.nm 2) (.lc [3] (.nm 3) (.seq (.cal "chains_of" (.cons (.var 1) .nil))) .no (.idx (.var 3) (.op2 .sub (.op2 .fdiv (.var 1) (.cst (.int 2))) (.mth .scount (.idx (.var 3) (.cst (.int 0))) (.cst (.str [49])))))))
  (.cons (.ret (.tup (.cons (.bi .tuple1 (.cons (.slc (.bi .sorted1 (.cons (.var 2) .nil)) .no (.yes (.var 0))) .nil)) (.cons (.cal "chains_of" (.cons (.op2 .sub (.var 1) (.cst (.int 1))) .nil)) .nil))))
  .nil))))))
def d_two : Df := ⟨"two", ["many", "size", "rows", "chain"], ["many"], [.val], b_two, false, false⟩
theorem c_two : (chkSs ⟨d_two.N, defScope (topS 18), prOf d_two.io, none, d_two.lm, false, [], d_two.ex⟩ b_two (defBody (topS 18)) && scB d_two.N d_two.ps (defScope (topS 18))) = true := by decide +kernel
def lb__law_dice_0 : Ts := (.cons (.set (.nm 2) (.op2 .mod (.op2 .add (.op2 .mul (.var 2) (.cst (.int 31))) (.bi .abs (.cons (.var 3) .nil))) (.cst (.int 2147483647))))
  .nil)
def b__law_dice : Ts := (.cons (.set (.nm 2) (.var 1))
  (.cons (.forr (.nm 3) (.seq (.var 0)) lb__law_dice_0)
  (.cons (.ret (.op2 .add (.lst (.cons (.var 2) (.cons (.cst (.int 0)) .nil))) (.lc [3] (.nm 3) (.seq (.var 0)) (.yes (.op2 .ge (.var 3) (.op2 .pow (.cst (.int 10)) (.cst (.int 18))))) (.var 3))))
  .nil)))
def d__law_dice : Df := ⟨"_law_dice", ["_law_script", "_law_k", "_law_found", "_law_cell"], ["_law_script", "_law_k"], [.val, .val], b__law_dice, false, false⟩
theorem c__law_dice : (chkSs ⟨d__law_dice.N, defScope (topS 20), prOf d__law_dice.io, none, d__law_dice.lm, false, [], d__law_dice.ex⟩ b__law_dice (defBody (topS 20)) && scB d__law_dice.N d__law_dice.ps (defScope (topS 20))) = true := by decide +kernel
def b__law_off : Ts := (.cons (.ife (.and (.op2 .eq (.idx (.var 0) (.cst (.int 1))) (.cst (.int 0))) (.op2 .gt (.bi .len (.cons (.var 0) .nil)) (.cst (.int 2))))
  (.cons (.seti 0 (.cst (.int 1)) (.mut .pop1 0 (.cons (.cst (.int 2)) .nil)))
  .nil)
  .nil)
  (.cons (.ife (.op2 .gt (.idx (.var 0) (.cst (.int 1))) (.cst (.int 0)))
  (.cons (.set (.nm 2) (.op2 .mod (.idx (.var 0) (.cst (.int 1))) (.var 1)))
  (.cons (.seti 0 (.cst (.int 1)) (.op2 .fdiv (.idx (.var 0) (.cst (.int 1))) (.var 1)))
  (.cons (.ret (.mv 2))
  .nil)))
  .nil)
  (.cons (.seti 0 (.cst (.int 0)) (.op2 .mod (.op2 .add (.op2 .mul (.idx (.var 0) (.cst (.int 0))) (.cst (.int 48271))) (.cst (.int 11))) (.cst (.int 2147483647))))
  (.cons (.ret (.op2 .mod (.op2 .fdiv (.idx (.var 0) (.cst (.int 0))) (.cst (.int 64))) (.var 1)))
  .nil))))
def d__law_off : Df := ⟨"_law_off", ["_law_d", "_law_most", "_law_found"], ["_law_d", "_law_most"], [.io, .val], b__law_off, false, false⟩
theorem c__law_off : (chkSs ⟨d__law_off.N, defScope (topS 21), prOf d__law_off.io, none, d__law_off.lm, false, [], d__law_off.ex⟩ b__law_off (defBody (topS 21)) && scB d__law_off.N d__law_off.ps (defScope (topS 21))) = true := by decide +kernel
def b__law_alike : Ts := (.cons (.ife (.isN (.var 1))
  (.cons (.ret (.isN (.var 0)))
  .nil)
  .nil)
  (.cons (.ife (.isi "bool" (.var 1))
  (.cons (.ret (.and (.isi "bool" (.var 0)) (.op2 .eq (.var 0) (.var 1))))
  .nil)
  .nil)
  (.cons (.ife (.isi "int" (.var 1))
  (.cons (.ret (.and (.isi "int" (.var 0)) (.and (.not (.isi "bool" (.var 0))) (.op2 .eq (.var 0) (.var 1)))))
  .nil)
  .nil)
  (.cons (.ife (.isi "str" (.var 1))
  (.cons (.ret (.and (.isi "str" (.var 0)) (.op2 .eq (.var 0) (.var 1))))
  .nil)
  .nil)
  (.cons (.ife (.isi "dict" (.var 1))
  (.cons (.ife (.or (.not (.isi "dict" (.var 0))) (.op2 .ne (.bi .len (.cons (.var 0) .nil)) (.bi .len (.cons (.var 1) .nil))))
  (.cons (.ret (.cst (.bl false)))
  .nil)
  .nil)
  (.cons (.ret (.bi .all1 (.cons (.lc [2] (.nm 2) (.seq (.var 1)) .no (.and (.op2 .isin (.var 2) (.var 0)) (.cal "_law_alike" (.cons (.idx (.var 0) (.var 2)) (.cons (.idx (.var 1) (.var 2)) .nil))))) .nil)))
  .nil))
  .nil)
  (.cons (.ife (.or (.op2 .ne (.isi "tuple" (.var 1)) (.isi "tuple" (.var 0))) (.op2 .ne (.isi "list" (.var 1)) (.isi "list" (.var 0))))
  (.cons (.ret (.cst (.bl false)))
  .nil)
  .nil)
  (.cons (.ife (.op2 .ne (.bi .len (.cons (.var 0) .nil)) (.bi .len (.cons (.var 1) .nil)))
  (.cons (.ret (.cst (.bl false)))
  .nil)
  .nil)
  (.cons (.ret (.bi .all1 (.cons (.lc [3] (.nm 3) (.rng1 (.bi .len (.cons (.var 1) .nil))) .no (.cal "_law_alike" (.cons (.idx (.var 0) (.var 3)) (.cons (.idx (.var 1) (.var 3)) .nil)))) .nil)))
  .nil))))))))
def d__law_alike : Df := ⟨"_law_alike", ["_law_found", "_law_due", "_law_name", "_law_k"], ["_law_found", "_law_due"], [.val, .val], b__law_alike, false, false⟩
theorem c__law_alike : (chkSs ⟨d__law_alike.N, defScope (topS 22), prOf d__law_alike.io, none, d__law_alike.lm, false, [], d__law_alike.ex⟩ b__law_alike (defBody (topS 22)) && scB d__law_alike.N d__law_alike.ps (defScope (topS 22))) = true := by decide +kernel
def b__law_many : Ts := (.cons (.ret (.idx (.lst (.cons (.cst (.int 8)) (.cons (.cst (.int 5)) (.cons (.cst (.int 4)) (.cons (.op2 .add (.cst (.int 1)) (.cal "_law_off" (.cons (.var 0) (.cons (.cst (.int 8)) .nil)))) .nil))))) (.cal "_law_off" (.cons (.var 0) (.cons (.cst (.int 4)) .nil)))))
  .nil)
def d__law_many : Df := ⟨"_law_many", ["_law_d"], ["_law_d"], [.io], b__law_many, false, false⟩
theorem c__law_many : (chkSs ⟨d__law_many.N, defScope (topS 25), prOf d__law_many.io, none, d__law_many.lm, false, [], d__law_many.ex⟩ b__law_many (defBody (topS 25)) && scB d__law_many.N d__law_many.ps (defScope (topS 25))) = true := by decide +kernel
def lb__law_sets_0 : Ts := (.cons (.set (.nm 2) (.op2 .add (.var 2) (.lc [4] (.nm 4) (.seq (.var 2)) .no (.op2 .add (.var 4) (.tup (.cons (.var 3) .nil))))))
  .nil)
def b__law_sets : Ts := (.cons (.set (.nm 2) (.lst (.cons (.tup .nil) .nil)))
  (.cons (.forr (.nm 3) (.rng1 (.var 0)) lb__law_sets_0)
  (.cons (.ret (.lc [5] (.nm 5) (.seq (.bi .sortedP (.cons (.lc [4] (.nm 4) (.seq (.var 2)) .no (.tup (.cons (.bi .len (.cons (.var 4) .nil)) (.cons (.var 4) .nil)))) .nil))) (.yes (.chain .le .le (.cst (.int 1)) (.idx (.var 5) (.cst (.int 0))) (.var 1))) (.idx (.var 5) (.cst (.int 1)))))
  .nil)))
def d__law_sets : Df := ⟨"_law_sets", ["_law_many_here", "_law_most", "_law_some", "_law_number", "_law_one", "_law_pair"], ["_law_many_here", "_law_most"], [.val, .val], b__law_sets, false, false⟩
theorem c__law_sets : (chkSs ⟨d__law_sets.N, defScope (topS 26), prOf d__law_sets.io, none, d__law_sets.lm, false, [], d__law_sets.ex⟩ b__law_sets (defBody (topS 26)) && scB d__law_sets.N d__law_sets.ps (defScope (topS 26))) = true := by decide +kernel
def lb__law_unheard_2 : Ts := (.cons (.set (.nm 6) (.lc [7] (.nm 7) (.seq (.var 2)) (.yes (.op2 .eq (.idx (.idx (.var 0) (.var 7)) (.var 5)) (.cst (.str [49])))) (.var 7)))
  (.cons (.set (.nm 4) (.or (.var 4) (.op2 .eq (.var 6) (.lst (.cons (.var 3) .nil)))))
  .nil))
def lb__law_unheard_1 : Ts := (.cons (.set (.nm 4) (.cst (.bl false)))
  (.cons (.forr (.nm 5) (.rng1 (.bi .len (.cons (.idx (.var 0) (.cst (.int 0))) .nil))) lb__law_unheard_2)
  (.cons (.ife (.not (.var 4))
  (.cons (.ret (.tup (.cons (.var 2) (.cons (.var 3) .nil))))
  .nil)
  .nil)
  .nil)))
def lb__law_unheard_0 : Ts := (.cons (.forr (.nm 3) (.seq (.var 2)) lb__law_unheard_1)
  .nil)
def b__law_unheard : Ts := (.cons (.forr (.nm 2) (.seq (.cal "_law_sets" (.cons (.bi .len (.cons (.var 0) .nil)) (.cons (.var 1) .nil)))) lb__law_unheard_0)
  (.cons (.ret (.cst .non))
  .nil))
def d__law_unheard : Df := ⟨"_law_unheard", ["_law_rows", "_law_most", "_law_some", "_law_number", "_law_good", "_law_at", "_law_speak", "_law_one"], ["_law_rows", "_law_most"], [.val, .val], b__law_unheard, false, false⟩
theorem c__law_unheard : (chkSs ⟨d__law_unheard.N, defScope (topS 27), prOf d__law_unheard.io, none, d__law_unheard.lm, false, [], d__law_unheard.ex⟩ b__law_unheard (defBody (topS 27)) && scB d__law_unheard.N d__law_unheard.ps (defScope (topS 27))) = true := by decide +kernel
def lb__law_texts_0 : Ts := (.cons (.set (.nm 1) (.op2 .add (.lc [3] (.nm 3) (.seq (.var 1)) .no (.op2 .add (.var 3) (.cst (.str [48])))) (.lc [3] (.nm 3) (.seq (.var 1)) .no (.op2 .add (.var 3) (.cst (.str [49]))))))
  .nil)
def b__law_texts : Ts := (.cons (.set (.nm 1) (.lst (.cons (.cst (.str [])) .nil)))
  (.cons (.forr (.nm 2) (.rng1 (.var 0)) lb__law_texts_0)
  (.cons (.ret (.mv 1))
  .nil)))
def d__law_texts : Df := ⟨"_law_texts", ["_law_size", "_law_found", "_law_turn", "_law_text"], ["_law_size"], [.val], b__law_texts, false, false⟩
theorem c__law_texts : (chkSs ⟨d__law_texts.N, defScope (topS 28), prOf d__law_texts.io, none, d__law_texts.lm, false, [], d__law_texts.ex⟩ b__law_texts (defBody (topS 28)) && scB d__law_texts.N d__law_texts.ps (defScope (topS 28))) = true := by decide +kernel
def lb__law_are_chains_1 : Ts := (.cons (.expr (.mut .append 2 (.cons (.idx (.var 3) (.var 4)) .nil)))
  (.cons (.ife (.op2 .gt (.var 4) (.cst (.int 0)))
  (.cons (.set (.nm 5) (.lc [6] (.nm 6) (.rng1 (.var 1)) (.yes (.op2 .ne (.idx (.idx (.var 3) (.var 4)) (.var 6)) (.idx (.idx (.var 3) (.op2 .sub (.var 4) (.cst (.int 1)))) (.var 6)))) (.var 6)))
  (.cons (.ife (.or (.op2 .ne (.bi .len (.cons (.var 5) .nil)) (.cst (.int 1))) (.op2 .ne (.idx (.idx (.var 3) (.var 4)) (.idx (.var 5) (.cst (.int 0)))) (.cst (.str [49]))))
  (.cons (.ret (.cst (.bl false)))
  .nil)
  .nil)
  .nil))
  .nil)
  .nil))
def lb__law_are_chains_0 : Ts := (.cons (.forr (.nm 4) (.rng1 (.bi .len (.cons (.var 3) .nil))) lb__law_are_chains_1)
  .nil)
def b__law_are_chains : Ts := (.cons (.set (.nm 2) (.lst .nil))
  (.cons (.forr (.nm 3) (.seq (.var 0)) lb__law_are_chains_0)
  (.cons (.ret (.and (.op2 .eq (.bi .sorted1 (.cons (.var 2) .nil)) (.bi .sorted1 (.cons (.cal "_law_texts" (.cons (.var 1) .nil)) .nil))) (.op2 .notin (.lst .nil) (.var 0))))
  .nil)))
def d__law_are_chains : Df := ⟨"_law_are_chains", ["_law_chains", "_law_size", "_law_seen", "_law_chain", "_law_k", "_law_unlike", "_law_at"], ["_law_chains", "_law_size"], [.val, .val], b__law_are_chains, false, false⟩
theorem c__law_are_chains : (chkSs ⟨d__law_are_chains.N, defScope (topS 29), prOf d__law_are_chains.io, none, d__law_are_chains.lm, false, [], d__law_are_chains.ex⟩ b__law_are_chains (defBody (topS 29)) && scB d__law_are_chains.N d__law_are_chains.ps (defScope (topS 29))) = true := by decide +kernel
def lb__law_tried_1 : Ts := (.cons (.set (.nm 4) (.op2 .add (.var 4) (.lc [6] (.nm 6) (.seq (.cal "_law_texts" (.cons (.var 1) .nil))) (.yes (.or (.op2 .eq (.var 5) (.lst .nil)) (.op2 .lt (.idx (.var 5) (.neg (.cst (.int 1)))) (.var 6)))) (.op2 .add (.var 5) (.lst (.cons (.var 6) .nil))))))
  .nil)
def lb__law_tried_0 : Ts := (.cons (.set (.nm 4) (.lst .nil))
  (.cons (.forr (.nm 5) (.seq (.var 2)) lb__law_tried_1)
  (.cons (.set (.nm 2) (.var 4))
  .nil)))
def b__law_tried : Ts := (.cons (.set (.nm 2) (.lst (.cons (.lst .nil) .nil)))
  (.cons (.forr (.nm 3) (.rng1 (.var 0)) lb__law_tried_0)
  (.cons (.ret (.op2 .ne (.lc [5] (.nm 5) (.seq (.var 2)) (.yes (.isN (.cal "_law_unheard" (.cons (.var 5) (.cons (.cst (.int 2)) .nil))))) (.var 5)) (.lst .nil)))
  .nil)))
def d__law_tried : Df := ⟨"_law_tried", ["_law_many_here", "_law_size", "_law_some", "_law_number", "_law_longer", "_law_rows", "_law_text"], ["_law_many_here", "_law_size"], [.val, .val], b__law_tried, false, false⟩
theorem c__law_tried : (chkSs ⟨d__law_tried.N, defScope (topS 30), prOf d__law_tried.io, none, d__law_tried.lm, false, [], d__law_tried.ex⟩ b__law_tried (defBody (topS 30)) && scB d__law_tried.N d__law_tried.ps (defScope (topS 30))) = true := by decide +kernel
def lb_law_1 : Ts := (.cons (.expr (.mut .append 6 (.cons (.cst (.str [120])) .nil)))
  .nil)
def lb_law_0 : Ts := (.cons (.set (.tp [(.nm 7), (.nm 8)]) (.cal "two" (.cons (.var 2) .nil)))
  (.cons (.set (.nm 4) (.bi .len (.cons (.idx (.var 7) (.cst (.int 0))) .nil)))
  (.cons (.ife (.or (.not (.isi "tuple" (.var 7))) (.op2 .ne (.bi .len (.cons (.var 7) .nil)) (.var 2)))
  (.cons (.ret (.cst (.bl false)))
  .nil)
  .nil)
  (.cons (.ife (.op2 .ne (.bi .list1 (.cons (.var 7) .nil)) (.bi .sorted1 (.cons (.var 7) .nil)))
  (.cons (.ret (.cst (.bl false)))
  .nil)
  .nil)
  (.cons (.ife (.op2 .ne (.lc [9] (.nm 9) (.seq (.var 7)) (.yes (.or (.op2 .ne (.bi .len (.cons (.var 9) .nil)) (.var 4)) (.op2 .ne (.op2 .add (.mth .scount (.var 9) (.cst (.str [48]))) (.mth .scount (.var 9) (.cst (.str [49])))) (.var 4)))) (.var 9)) (.lst .nil))
  (.cons (.ret (.cst (.bl false)))
  .nil)
  .nil)
  (.cons (.set (.nm 5) (.bi .min2 (.cons (.cst (.int 2)) (.cons (.var 2) .nil))))
  (.cons (.ife (.or (.notN (.cal "_law_unheard" (.cons (.var 7) (.cons (.var 5) .nil)))) (.notN (.cal "unheard" (.cons (.var 7) (.cons (.var 5) .nil)))))
  (.cons (.ret (.cst (.bl false)))
  .nil)
  .nil)
  (.cons (.ife (.and (.op2 .eq (.var 2) (.cst (.int 1))) (.or (.op2 .ne (.var 7) (.tup (.cons (.cst (.str [49])) .nil))) (.pk [8] (.op2 .ne (.var 8) (.lst .nil)))))
  (.cons (.ret (.cst (.bl false)))
  .nil)
  .nil)
  (.cons (.ife (.and (.op2 .gt (.var 2) (.cst (.int 1))) (.or (.not (.pk [8] (.cal "_law_are_chains" (.cons (.var 8) (.cons (.op2 .sub (.var 4) (.cst (.int 1))) .nil))))) (.pk [8] (.op2 .ge (.bi .len (.cons (.var 8) .nil)) (.var 2)))))
  (.cons (.ret (.cst (.bl false)))
  .nil)
  .nil)
  (.cons (.ife (.and (.chain .lt .lt (.cst (.int 1)) (.var 2) (.cst (.int 5))) (.cal "_law_tried" (.cons (.var 2) (.cons (.op2 .sub (.var 4) (.cst (.int 1))) .nil))))
  (.cons (.ret (.cst (.bl false)))
  .nil)
  .nil)
  (.cons (.forB 6 8 lb_law_1)
  (.cons (.expr (.mut .append 8 (.cons (.lst .nil) .nil)))
  .nil))))))))))))
def b_law : Ts := (.cons (.set (.nm 1) (.cal "_law_dice" (.cons (.var 0) (.cons (.cst (.int 0)) .nil))))
  (.cons (.set (.nm 2) (.cal "_law_many" (.cons (.var 1) .nil)))
  (.cons (.forr (.nm 3) (.rng1 (.cst (.int 2))) lb_law_0)
  (.cons (.set (.nm 10) (.idx (.lst (.cons (.cst (.int 0)) (.cons (.cst (.int 9)) (.cons (.neg (.cst (.int 1))) (.cons (.op2 .pow (.cst (.int 10)) (.cst (.int 9))) .nil))))) (.cal "_law_off" (.cons (.var 1) (.cons (.cst (.int 4)) .nil)))))
  (.cons (.ret (.rfs [10] (.cons (.lam 0 (.cal "two" (.cons (.var 10) .nil))) (.cons (.cst (.str [110, 117, 109, 98, 101, 114])) (.cons (.cst (.int 0)) .nil)))))
  .nil)))))
def d_law : Df := ⟨"law", ["_law_script", "_law_d", "_law_many_here", "_law_again", "_law_size", "_law_most", "_law_chain", "_law_rows", "_law_chains", "_law_row", "_law_odd"], ["_law_script"], [.val], b_law, false, false⟩
def LB_law : List C := [(.cal "two" (.cons (.var 10) .nil))]
theorem c_law : (chkSs ⟨d_law.N, defScope (topS 31), prOf d_law.io, none, false, true, LB_law, d_law.ex⟩ b_law (defBody (topS 31)) && scB d_law.N d_law.ps (defScope (topS 31))) = true := by decide +kernel
def gloC : Str → Option D := fun x => if x = "MOST_STATIONS" then some (.int 8) else if x = "MOST_SIGNS" then some (.int 12) else none
def defsC : List Df := [d_need_many, d_need_most, d_are_rows, d_all_sets, d_is_alone, d_unheard, d_chains_of, d_two, d__law_dice, d__law_off, d__law_alike, d__law_many, d__law_sets, d__law_unheard, d__law_texts, d__law_are_chains, d__law_tried]
end Den
namespace Den
open PySem PySem.Spec L2
/-- the dice -/
def DOk (d : List Int) : Prop := ∃ a b rest, d = a :: b :: rest ∧ 0 ≤ a ∧ 0 ≤ b ∧ ∀ x ∈ rest, 0 < x
theorem off_lo (Γ : Tb) (a m : Int) (os : List Ob) (hm : 0 < m) :
    runB Γ 3 [.io, .val] b__law_off [.lst .own [.int a, .int 0], .int m] os = some (.ret (.int ((a * 48271 + 11) % 2147483647 / 64 % m)) [.lst .own [.int ((a * 48271 + 11) % 2147483647), .int 0]] os) := by
  simp [runB, b__law_off, execs, exec, ev, evPk, evFz, opd, isVar, hasV, fill1, fillP, asg, asgs, Den.view, rdV, mvV, setS, shal, fz, fzL, bnd, ret, lift, Den.thn, sthn, startS, idxD, opF, addD, mulD, modD, fdivD, cmpD, grd, isLst, setiM, outsOf, biF, lenF, small, hm, ixN]
theorem off_hi (Γ : Tb) (a b m : Int) (rest : List Int) (os : List Ob) (hm : 0 < m) (hm2 : m < 1073741824) (hb : 0 < b) :
    runB Γ 3 [.io, .val] b__law_off [.lst .own (.int a :: .int b :: rest.map .int), .int m] os = some (.ret (.int (b % m)) [.lst .own (.int a :: .int (b / m) :: rest.map .int)] os) := by
  have hb0 : b ≠ 0 := by omega
  have h1 : (1 : Int) < (rest.length : Int) + 1 + 1 := by omega
  simp [runB, b__law_off, execs, exec, ev, evPk, evFz, opd, isVar, hasV, fill1, fillP, asg, asgs, Den.view, rdV, mvV, setS, shal, fz, fzL, bnd, ret, lift, Den.thn, sthn, startS, idxD, opF, addD, mulD, modD, fdivD, cmpD, grd, isLst, setiM, outsOf, biF, lenF, small, hm, hm2, hb, hb0, ixN, h1]
theorem off_pop (Γ : Tb) (a c m : Int) (rest : List Int) (os : List Ob) (hm : 0 < m) (hm2 : m < 1073741824) (hc : 0 < c) :
    runB Γ 3 [.io, .val] b__law_off [.lst .own (.int a :: .int 0 :: .int c :: rest.map .int), .int m] os = some (.ret (.int (c % m)) [.lst .own (.int a :: .int (c / m) :: rest.map .int)] os) := by
  have h1 : (1 : Int) < (rest.length : Int) + 1 + 1 := by omega
  have h2 : (2 : Int) < (rest.length : Int) + 1 + 1 + 1 := by omega
  have h3 : 2 < rest.length + 1 + 1 + 1 := by omega
  simp [runB, b__law_off, execs, exec, ev, evPk, evFz, opd, isVar, hasV, fill1, fillP, asg, asgs, Den.view, rdV, mvV, setS, shal, fz, fzL, bnd, ret, lift, Den.thn, sthn, startS, idxD, opF, addD, mulD, modD, fdivD, cmpD, grd, isLst, setiM, outsOf, biF, lenF, small, hm, hm2, hc, ixN, h1, h2, h3, mutL, muF, smallR]
theorem r_off (Γ : Tb) {d : List Int} (hd : DOk d) (m : Int) (os : List Ob) (hm : 0 < m) (hm2 : m < 1073741824) :
    ∃ r d', runB Γ 3 [.io, .val] b__law_off [.lst .own (d.map .int), .int m] os = some (.ret (.int r) [.lst .own (d'.map .int)] os) ∧ 0 ≤ r ∧ r < m ∧ DOk d' := by
  obtain ⟨a, b, rest, rfl, ha, hb, hr⟩ := hd
  by_cases h0 : b = 0
  · subst h0
    cases rest with
    | nil => exact ⟨_, [_, 0], off_lo Γ a m os hm, Int.emod_nonneg _ (by omega), Int.emod_lt_of_pos _ hm, _, 0, [], rfl, Int.emod_nonneg _ (by omega), by omega, by simp⟩
    | cons c rest =>
      have hc := hr c List.mem_cons_self
      exact ⟨_, _ :: _ :: rest, off_pop Γ a c m rest os hm hm2 hc, Int.emod_nonneg _ (by omega), Int.emod_lt_of_pos _ hm, a, _, rest, rfl, ha, Int.ediv_nonneg (by omega) (by omega), fun x hx => hr x (List.mem_cons_of_mem _ hx)⟩
  · have hb1 : 0 < b := by omega
    exact ⟨_, _ :: _ :: rest, off_hi Γ a b m rest os hm hm2 hb1, Int.emod_nonneg _ (by omega), Int.emod_lt_of_pos _ hm, a, _, rest, rfl, ha, Int.ediv_nonneg hb (by omega), hr⟩
end Den
/-! Mb11: taken over from k10's texts. -/
namespace Den
open PySem PySem.Spec L2
abbrev TT (n : Nat) : Tb := tab gloC defsC n
section
variable {n : Nat} {os : List Ob}
theorem glo_many (n : Nat) : (TT n).glo "MOST_STATIONS" = some (.int 8) := by cases n <;> rfl
end
section
variable {n : Nat} {os : List Ob}
variable {n : Nat} {os : List Ob}
theorem s_need_many {m : Int} (h1 : 1 ≤ m) (h8 : m ≤ 8) : runB (TT n) 1 [.val] b_need_many [.int m] os = some (.ret .non [] os) := by
  unfold runB b_need_many startS
  simp [execs, exec, ev, evs, evc, evo, evIt, evOps, fillC, ioSl, putB, evPk, evFz, opd, isVar, hasV, fill1, fillP, asg, asgs, Den.view, rdV, mvV, setS, shal_own, shal_fz, shal_ro, shal_int, shal_bl, shal_str, shal_non, shal_tup, fz, fzL, fzO, bnd, ret, lift, Den.thn, sthn, idxD, opF, addD, subD, mulD, modD, fdivD, negD, notD, isNonD, cmpD, grd, isLst, setiM, biF, lenF, small, mutL, smallR, lim, flatD, glo_many, h1, h8, outsOf]
end
section
variable {n : Nat} {os : List Ob}
variable {n : Nat} {os : List Ob}
variable {n : Nat} {os : List Ob}
theorem fn_need_many : (TT (n + 3)).fn "need_many" = some ⟨[.val], runB (TT (n + 2)) 1 [.val] b_need_many⟩ := rfl
end
section
variable {n : Nat} {os : List Ob}
variable {n : Nat} {os : List Ob}
variable {n : Nat} {os : List Ob}
variable {n : Nat} {os : List Ob}
theorem s_need_most {m k : Int} (h1 : 1 ≤ k) (hk : k ≤ m) (h8 : m ≤ 8) : runB (TT (n + 3)) 2 [.val, .val] b_need_most [.int m, .int k] os = some (.ret .non [] os) := by
  unfold runB b_need_most startS
  simp [execs, exec, ev, evs, evc, evo, evIt, evOps, fillC, ioSl, putB, evPk, evFz, opd, isVar, hasV, fill1, fillP, asg, asgs, Den.view, rdV, mvV, setS, shal_own, shal_fz, shal_ro, shal_int, shal_bl, shal_str, shal_non, shal_tup, fz, fzL, fzO, bnd, ret, lift, Den.thn, sthn, idxD, opF, addD, subD, mulD, modD, fdivD, negD, notD, isNonD, cmpD, grd, isLst, setiM, biF, lenF, small, mutL, smallR, lim, flatD, fn_need_many, callF, s_need_many (show (1 : Int) ≤ m by omega) h8, h1, hk, outsOf]
end
section
variable {n : Nat} {os : List Ob}
variable {n : Nat} {os : List Ob}
variable {n : Nat} {os : List Ob}
variable {n : Nat} {os : List Ob}
variable {n : Nat} {os : List Ob}
theorem fzL_id : ∀ {ds : List D}, (∀ d ∈ ds, fz d = d) → fzL ds = ds
  | [], _ => rfl
  | d :: ds, h => by
    show fz d :: fzL ds = _
    rw [h d List.mem_cons_self, fzL_id fun x hx => h x (List.mem_cons_of_mem _ hx)]
end
section
variable {n : Nat} {os : List Ob}
variable {n : Nat} {os : List Ob}
variable {n : Nat} {os : List Ob}
variable {n : Nat} {os : List Ob}
variable {n : Nat} {os : List Ob}
variable {n : Nat} {os : List Ob}
theorem rsg_lt {m : Int} : ∀ {ns : List Int} {a : Int}, ns.Pairwise (· < ·) → (∀ x ∈ ns, a ≤ x ∧ x < m) → (ns.length : Int) ≤ m - a ∨ ns = []
  | [], _, _, _ => .inr rfl
  | x :: ns, a, h, hb => by
    obtain ⟨h1, h2⟩ := List.pairwise_cons.mp h
    have hx := hb x List.mem_cons_self
    rcases rsg_lt (a := x + 1) h2 (fun y hy => ⟨by have := h1 y hy; omega, (hb y (List.mem_cons_of_mem _ hy)).2⟩) with q | rfl
    · refine .inl ?_
      simp only [List.length_cons]
      omega
    · refine .inl ?_
      simp only [List.length_cons, List.length_nil]
      omega
end
section
variable {n : Nat} {os : List Ob}
variable {n : Nat} {os : List Ob}
variable {n : Nat} {os : List Ob}
variable {n : Nat} {os : List Ob}
variable {n : Nat} {os : List Ob}
variable {n : Nat} {os : List Ob}
variable {n : Nat} {os : List Ob}
variable {n : Nat} {os : List Ob}
/-- a comprehension over ints that keeps some -/
theorem lcGo_filt {own : List Nat} {f : D → M (Option D)} (I : S → Prop) (q : Int → Bool) : ∀ (xs : List Int) (acc : List D) (s : S), (∀ x ∈ xs, ∀ s, I s → ∃ s', f (.int x) { s with sl := wipeD s.sl own } = some (.val (if q x then some (.int x) else none) s') ∧ I s') → I s → acc.length + xs.length ≤ lim →
    ∃ s', lcGo own f (xs.map .int) acc s = some (.val (acc ++ (xs.filter q).map .int) s') ∧ I s'
  | [], acc, s, _, h, _ => ⟨s, by simp [lcGo, ret], h⟩
  | x :: xs, acc, s, hf, h, hl => by
    obtain ⟨s1, e1, h1⟩ := hf x List.mem_cons_self s h
    rw [List.length_cons] at hl
    by_cases hq : q x = true
    · obtain ⟨s2, e2, h2⟩ := lcGo_filt I q xs (acc ++ [.int x]) s1 (fun y hy => hf y (List.mem_cons_of_mem _ hy)) h1 (by rw [List.length_append, List.length_singleton]; omega)
      refine ⟨s2, ?_, h2⟩
      rw [if_pos hq] at e1
      rw [List.map_cons]
      unfold lcGo
      rw [e1]
      dsimp only
      rw [if_pos (by omega), e2, List.append_assoc, List.filter_cons, if_pos hq]
      rfl
    · obtain ⟨s2, e2, h2⟩ := lcGo_filt I q xs acc s1 (fun y hy => hf y (List.mem_cons_of_mem _ hy)) h1 (by omega)
      refine ⟨s2, ?_, h2⟩
      rw [if_neg hq] at e1
      rw [List.map_cons]
      unfold lcGo
      rw [e1]
      dsimp only
      rw [e2, List.filter_cons, if_neg hq]
end
section
variable {n : Nat} {os : List Ob}
variable {n : Nat} {os : List Ob}
variable {n : Nat} {os : List Ob}
variable {n : Nat} {os : List Ob}
variable {n : Nat} {os : List Ob}
variable {n : Nat} {os : List Ob}
variable {n : Nat} {os : List Ob}
variable {n : Nat} {os : List Ob}
theorem fn_off {n : Nat} : (TT (n + 1)).fn "_law_off" = some ⟨[.io, .val], runB (TT n) 3 [.io, .val] b__law_off⟩ := rfl
end
section
variable {n : Nat} {os : List Ob}
variable {n : Nat} {os : List Ob}
variable {n : Nat} {os : List Ob}
variable {n : Nat} {os : List Ob}
variable {n : Nat} {os : List Ob}
variable {n : Nat} {os : List Ob}
variable {n : Nat} {os : List Ob}
variable {n : Nat} {os : List Ob}
theorem s_many {n : Nat} {os : List Ob} {d : List Int} (h : DOk d) : ∃ (m : Int) (d' : List Int), 1 ≤ m ∧ m ≤ 8 ∧ DOk d' ∧ runB (TT (n + 1)) 1 [.io] b__law_many [.lst .own (d.map .int)] os = some (.ret (.int m) [.lst .own (d'.map .int)] os) := by
  obtain ⟨r, d1, e1, r0, r1, h1⟩ := r_off (TT n) h 8 os (by omega) (by omega)
  obtain ⟨q, d2, e2, q0, q1, h2⟩ := r_off (TT n) h1 4 os (by omega) (by omega)
  have hq : q = 0 ∨ q = 1 ∨ q = 2 ∨ q = 3 := by omega
  have key : ∀ m : Int, atI [D.int 8, .int 5, .int 4, .int (1 + r)] q = some (.int m) → runB (TT (n + 1)) 1 [.io] b__law_many [.lst .own (d.map .int)] os = some (.ret (.int m) [.lst .own (d2.map .int)] os) := fun m hm => by
    unfold runB b__law_many startS
    simp [execs, exec, ev, evs, evc, evo, evIt, evOps, fillC, ioSl, putB, evPk, evFz, opd, isVar, hasV, fill1, fillP, asg, asgs, Den.view, rdV, mvV, setS, shal_own, shal_fz, shal_ro, shal_int, shal_bl, shal_str, shal_non, shal_tup, fz, fzL, fzO, bnd, ret, lift, Den.thn, sthn, idxD, opF, addD, subD, mulD, modD, fdivD, negD, notD, isNonD, cmpD, grd, isLst, setiM, biF, lenF, small, mutL, smallR, lim, flatD, fn_off, callF, e1, e2, hm, outsOf]
  rcases hq with rfl | rfl | rfl | rfl
  · exact ⟨8, d2, by omega, by omega, h2, key 8 (by simp)⟩
  · exact ⟨5, d2, by omega, by omega, h2, key 5 (by simp)⟩
  · exact ⟨4, d2, by omega, by omega, h2, key 4 (by simp)⟩
  · exact ⟨1 + r, d2, by omega, by omega, h2, key (1 + r) (by simp)⟩
end
section
variable {n : Nat} {os : List Ob}
variable {n : Nat} {os : List Ob}
variable {n : Nat} {os : List Ob}
variable {n : Nat} {os : List Ob}
variable {n : Nat} {os : List Ob}
variable {n : Nat} {os : List Ob}
variable {n : Nat} {os : List Ob}
variable {n : Nat} {os : List Ob}
def tN : Ts → Nat → T
  | .nil, _ => .bad
  | .cons t _, 0 => t
  | .cons _ ts, n + 1 => tN ts n
end
section
variable {n : Nat} {os : List Ob}
variable {n : Nat} {os : List Ob}
variable {n : Nat} {os : List Ob}
variable {n : Nat} {os : List Ob}
variable {n : Nat} {os : List Ob}
variable {n : Nat} {os : List Ob}
variable {n : Nat} {os : List Ob}
variable {n : Nat} {os : List Ob}
/-- 0, 1, .. -/
def iota (m : Int) : List Int := (List.range m.toNat).map fun i => ((i : Nat) : Int)
end
section
variable {n : Nat} {os : List Ob}
variable {n : Nat} {os : List Ob}
variable {n : Nat} {os : List Ob}
variable {n : Nat} {os : List Ob}
variable {n : Nat} {os : List Ob}
variable {n : Nat} {os : List Ob}
variable {n : Nat} {os : List Ob}
variable {n : Nat} {os : List Ob}
theorem rngL_iota (m : Int) : rngL 0 m = (iota m).map .int := by
  unfold rngL iota
  simp
end
section
variable {n : Nat} {os : List Ob}
variable {n : Nat} {os : List Ob}
variable {n : Nat} {os : List Ob}
variable {n : Nat} {os : List Ob}
variable {n : Nat} {os : List Ob}
variable {n : Nat} {os : List Ob}
variable {n : Nat} {os : List Ob}
variable {n : Nat} {os : List Ob}
theorem iota_len {m : Int} (h : 0 ≤ m) : ((iota m).length : Int) = m := by
  unfold iota; simp; omega
end
section
variable {n : Nat} {os : List Ob}
variable {n : Nat} {os : List Ob}
variable {n : Nat} {os : List Ob}
variable {n : Nat} {os : List Ob}
variable {n : Nat} {os : List Ob}
variable {n : Nat} {os : List Ob}
variable {n : Nat} {os : List Ob}
variable {n : Nat} {os : List Ob}
theorem tups_fz (l : List (List Int)) : fzL (l.map tupI) = l.map tupI := fzL_id fun d hd => by
  obtain ⟨x, _, rfl⟩ := List.mem_map.mp hd
  simp only [tupI, fz, ints_fz]
end
section
variable {n : Nat} {os : List Ob}
variable {n : Nat} {os : List Ob}
variable {n : Nat} {os : List Ob}
variable {n : Nat} {os : List Ob}
variable {n : Nat} {os : List Ob}
variable {n : Nat} {os : List Ob}
variable {n : Nat} {os : List Ob}
variable {n : Nat} {os : List Ob}
theorem cut_drop {α : Type} (l : List α) {r : Int} (h0 : 0 ≤ r) : cutL l (some r) none = l.drop r.toNat := by
  have e : HT.sIx l.length 0 (some r) = min r.toNat l.length := if_neg (by omega)
  have e0 : HT.sIx l.length l.length none = l.length := rfl
  unfold cutL
  rw [e, e0]
  by_cases h : r.toNat ≤ l.length
  · rw [Nat.min_eq_left h, List.take_of_length_le (by rw [List.length_drop]; omega)]
  · rw [Nat.min_eq_right (by omega), List.drop_of_length_le (by omega), List.drop_of_length_le (by omega)]
    simp
end
section
variable {n : Nat} {os : List Ob}
variable {n : Nat} {os : List Ob}
variable {n : Nat} {os : List Ob}
variable {n : Nat} {os : List Ob}
variable {n : Nat} {os : List Ob}
variable {n : Nat} {os : List Ob}
variable {n : Nat} {os : List Ob}
variable {n : Nat} {os : List Ob}
/-- a comprehension over what is written so -/
theorem lcGo_t {β : Type} (enc : β → D) {own : List Nat} {f : D → M (Option D)} (I : S → Prop) (q : β → Bool) (r : β → D) : ∀ (xs : List β) (acc : List D) (s : S), (∀ x ∈ xs, ∀ s, I s → ∃ s', f (enc x) { s with sl := wipeD s.sl own } = some (.val (if q x then some (r x) else none) s') ∧ I s') → I s → acc.length + xs.length ≤ lim →
    ∃ s', lcGo own f (xs.map enc) acc s = some (.val (acc ++ (xs.filter q).map r) s') ∧ I s'
  | [], acc, s, _, h, _ => ⟨s, by simp [lcGo, ret], h⟩
  | x :: xs, acc, s, hf, h, hl => by
    obtain ⟨s1, e1, h1⟩ := hf x List.mem_cons_self s h
    rw [List.length_cons] at hl
    by_cases hq : q x = true
    · obtain ⟨s2, e2, h2⟩ := lcGo_t enc I q r xs (acc ++ [r x]) s1 (fun y hy => hf y (List.mem_cons_of_mem _ hy)) h1 (by rw [List.length_append, List.length_singleton]; omega)
      refine ⟨s2, ?_, h2⟩
      rw [if_pos hq] at e1
      rw [List.map_cons]
      unfold lcGo
      rw [e1]
      dsimp only
      rw [if_pos (by omega), e2, List.append_assoc, List.filter_cons, if_pos hq]
      rfl
    · obtain ⟨s2, e2, h2⟩ := lcGo_t enc I q r xs acc s1 (fun y hy => hf y (List.mem_cons_of_mem _ hy)) h1 (by omega)
      refine ⟨s2, ?_, h2⟩
      rw [if_neg hq] at e1
      rw [List.map_cons]
      unfold lcGo
      rw [e1]
      dsimp only
      rw [e2, List.filter_cons, if_neg hq]
end
section
variable {n : Nat} {os : List Ob}
variable {n : Nat} {os : List Ob}
variable {n : Nat} {os : List Ob}
variable {n : Nat} {os : List Ob}
variable {n : Nat} {os : List Ob}
variable {n : Nat} {os : List Ob}
variable {n : Nat} {os : List Ob}
variable {n : Nat} {os : List Ob}
theorem lcGo_m {β : Type} (enc : β → D) {own : List Nat} {f : D → M (Option D)} (I : S → Prop) (r : β → D) (xs : List β) (acc : List D) (s : S) (hf : ∀ x ∈ xs, ∀ s, I s → ∃ s', f (enc x) { s with sl := wipeD s.sl own } = some (.val (some (r x)) s') ∧ I s') (h : I s) (hl : acc.length + xs.length ≤ lim) :
    ∃ s', lcGo own f (xs.map enc) acc s = some (.val (acc ++ xs.map r) s') ∧ I s' := by
  have := lcGo_t enc I (fun _ => true) r xs acc s (by simpa using hf) h hl
  rw [List.filter_eq_self.mpr (fun _ _ => rfl)] at this
  exact this
end
section
variable {n : Nat} {os : List Ob}
variable {n : Nat} {os : List Ob}
variable {n : Nat} {os : List Ob}
variable {n : Nat} {os : List Ob}
variable {n : Nat} {os : List Ob}
variable {n : Nat} {os : List Ob}
variable {n : Nat} {os : List Ob}
variable {n : Nat} {os : List Ob}
/-- all rising tuples, and those that are not too long -/
def subs : Nat → List (List Int)
  | 0 => [[]]
  | i + 1 => subs i ++ (subs i).map fun s => s ++ [((i : Nat) : Int)]
end
section
variable {n : Nat} {os : List Ob}
variable {n : Nat} {os : List Ob}
variable {n : Nat} {os : List Ob}
variable {n : Nat} {os : List Ob}
variable {n : Nat} {os : List Ob}
variable {n : Nat} {os : List Ob}
variable {n : Nat} {os : List Ob}
variable {n : Nat} {os : List Ob}
def subsK (k : Int) : Nat → List (List Int)
  | 0 => [[]]
  | i + 1 => subsK k i ++ ((subsK k i).filter fun s => decide ((s.length : Int) < k)).map fun s => s ++ [((i : Nat) : Int)]
end
section
variable {n : Nat} {os : List Ob}
variable {n : Nat} {os : List Ob}
variable {n : Nat} {os : List Ob}
variable {n : Nat} {os : List Ob}
variable {n : Nat} {os : List Ob}
variable {n : Nat} {os : List Ob}
variable {n : Nat} {os : List Ob}
variable {n : Nat} {os : List Ob}
theorem subsK_eq {k : Int} (hk : 0 ≤ k) : ∀ i, subsK k i = (subs i).filter fun s => decide ((s.length : Int) ≤ k)
  | 0 => by simp [subsK, subs, hk]
  | i + 1 => by
    simp only [subsK, subs, List.filter_append, subsK_eq hk i, List.filter_map, List.filter_filter]
    congr 2
    refine List.filter_congr fun s _ => ?_
    simp only [Function.comp, List.length_append, List.length_singleton]
    by_cases h : (s.length : Int) < k
    · have h1 : (s.length : Int) ≤ k := by omega
      have h2 : ((s.length + 1 : Nat) : Int) ≤ k := by omega
      simp [h, h1]
      omega
    · have h2 : ¬ ((s.length + 1 : Nat) : Int) ≤ k := by omega
      simp [h]
      omega
end
section
variable {n : Nat} {os : List Ob}
variable {n : Nat} {os : List Ob}
variable {n : Nat} {os : List Ob}
variable {n : Nat} {os : List Ob}
variable {n : Nat} {os : List Ob}
variable {n : Nat} {os : List Ob}
variable {n : Nat} {os : List Ob}
variable {n : Nat} {os : List Ob}
theorem subs_len : ∀ i, (subs i).length = 2 ^ i
  | 0 => rfl
  | i + 1 => by
    simp only [subs, List.length_append, List.length_map, subs_len i, Nat.pow_succ]
    omega
end
section
variable {n : Nat} {os : List Ob}
variable {n : Nat} {os : List Ob}
variable {n : Nat} {os : List Ob}
variable {n : Nat} {os : List Ob}
variable {n : Nat} {os : List Ob}
variable {n : Nat} {os : List Ob}
variable {n : Nat} {os : List Ob}
variable {n : Nat} {os : List Ob}
theorem subs_ok : ∀ (i : Nat), ∀ s ∈ subs i, s.Pairwise (· < ·) ∧ ∀ x ∈ s, 0 ≤ x ∧ x < (i : Int)
  | 0, s, h => by
    rw [subs, List.mem_singleton] at h
    subst h
    exact ⟨.nil, fun x hx => by cases hx⟩
  | i + 1, s, h => by
    simp only [subs, List.mem_append, List.mem_map] at h
    rcases h with h | ⟨t, h, rfl⟩
    · obtain ⟨h1, h2⟩ := subs_ok i s h
      exact ⟨h1, fun x hx => by have := h2 x hx; omega⟩
    · obtain ⟨h1, h2⟩ := subs_ok i t h
      refine ⟨List.pairwise_append.mpr ⟨h1, List.pairwise_singleton _ _, fun x hx y hy => ?_⟩, fun x hx => ?_⟩
      · rw [List.mem_singleton.mp hy]
        exact (h2 x hx).2
      · rcases List.mem_append.mp hx with hx | hx
        · have := h2 x hx; omega
        · rw [List.mem_singleton.mp hx]; omega
end
section
variable {n : Nat} {os : List Ob}
variable {n : Nat} {os : List Ob}
variable {n : Nat} {os : List Ob}
variable {n : Nat} {os : List Ob}
variable {n : Nat} {os : List Ob}
variable {n : Nat} {os : List Ob}
variable {n : Nat} {os : List Ob}
variable {n : Nat} {os : List Ob}
theorem subs_hd : ∀ i, ∃ t, subs i = [] :: t ∧ ∀ s ∈ t, 1 ≤ (s.length : Int)
  | 0 => ⟨[], rfl, fun s h => by cases h⟩
  | i + 1 => by
    obtain ⟨t, e, h⟩ := subs_hd i
    refine ⟨t ++ (subs i).map (fun s => s ++ [((i : Nat) : Int)]), by simp only [subs]; rw [e]; rfl, fun s hs => ?_⟩
    rcases List.mem_append.mp hs with hs | hs
    · exact h s hs
    · obtain ⟨u, _, rfl⟩ := List.mem_map.mp hs
      simp
      omega
end
section
variable {n : Nat} {os : List Ob}
variable {n : Nat} {os : List Ob}
variable {n : Nat} {os : List Ob}
variable {n : Nat} {os : List Ob}
variable {n : Nat} {os : List Ob}
variable {n : Nat} {os : List Ob}
variable {n : Nat} {os : List Ob}
variable {n : Nat} {os : List Ob}
/-- the sets as they are told -/
def setsL (m k : Int) : List (List Int) := (srtP (((subsK k m.toNat).drop 1).map keyOf)).map (·.2)
end
section
variable {n : Nat} {os : List Ob}
variable {n : Nat} {os : List Ob}
variable {n : Nat} {os : List Ob}
variable {n : Nat} {os : List Ob}
variable {n : Nat} {os : List Ob}
variable {n : Nat} {os : List Ob}
variable {n : Nat} {os : List Ob}
variable {n : Nat} {os : List Ob}
theorem sets_eq {m k : Int} (hk : 0 ≤ k) : ((srtP ((subs m.toNat).map keyOf)).filter (fun p => decide (1 ≤ p.1) && decide (p.1 ≤ k))).map (·.2) = setsL m k := by
  unfold setsL
  congr 1
  refine srtd_uniq ((srtP_srt _).filter _) (srtP_srt _) (((srtP_perm _).filter _).trans (List.Perm.trans ?_ (srtP_perm _).symm))
  rw [subsK_eq hk]
  obtain ⟨t, e, h⟩ := subs_hd m.toNat
  rw [e, List.filter_map, List.filter_cons, if_neg (by simp [keyOf]), List.filter_cons, if_pos (by simp [hk])]
  rw [List.drop_one, List.tail_cons]
  refine List.Perm.of_eq ?_
  congr 1
  refine List.filter_congr fun s hs => ?_
  have := h s hs
  show (decide (1 ≤ (s.length : Int)) && decide ((s.length : Int) ≤ k)) = decide ((s.length : Int) ≤ k)
  simp [this]
end
section
variable {n : Nat} {os : List Ob}
variable {n : Nat} {os : List Ob}
variable {n : Nat} {os : List Ob}
variable {n : Nat} {os : List Ob}
variable {n : Nat} {os : List Ob}
variable {n : Nat} {os : List Ob}
variable {n : Nat} {os : List Ob}
variable {n : Nat} {os : List Ob}
theorem setsL_ok {m k : Int} (hm : 0 ≤ m) (hk : 0 ≤ k) : ∀ s ∈ setsL m k, s.Pairwise (· < ·) ∧ (∀ x ∈ s, 0 ≤ x ∧ x < m) := fun s hs => by
  unfold setsL at hs
  obtain ⟨p, hp, rfl⟩ := List.mem_map.mp hs
  obtain ⟨u, hu, rfl⟩ := List.mem_map.mp ((srtP_perm _).mem_iff.mp hp)
  have hu := List.mem_of_mem_drop hu
  rw [subsK_eq hk] at hu
  have := subs_ok _ _ (List.mem_filter.mp hu).1
  exact ⟨this.1, fun x hx => by have := this.2 x hx; omega⟩
end
section
variable {n : Nat} {os : List Ob}
variable {n : Nat} {os : List Ob}
variable {n : Nat} {os : List Ob}
variable {n : Nat} {os : List Ob}
variable {n : Nat} {os : List Ob}
variable {n : Nat} {os : List Ob}
variable {n : Nat} {os : List Ob}
variable {n : Nat} {os : List Ob}
theorem subsK_len {m k : Int} (hk : 0 ≤ k) (h8 : m ≤ 8) {i : Nat} (hi : i ≤ m.toNat) : (subsK k i).length ≤ 256 := by
  rw [subsK_eq hk]
  refine Nat.le_trans (List.length_filter_le _ _) ?_
  rw [subs_len]
  exact Nat.le_trans (Nat.pow_le_pow_right (by omega) (show i ≤ 8 by omega)) (by decide)
end
section
variable {n : Nat} {os : List Ob}
variable {n : Nat} {os : List Ob}
variable {n : Nat} {os : List Ob}
variable {n : Nat} {os : List Ob}
variable {n : Nat} {os : List Ob}
variable {n : Nat} {os : List Ob}
variable {n : Nat} {os : List Ob}
variable {n : Nat} {os : List Ob}
theorem subs_len8 {m : Int} (h8 : m ≤ 8) {i : Nat} (hi : i ≤ m.toNat) : (subs i).length ≤ 256 := by
  rw [subs_len]
  exact Nat.le_trans (Nat.pow_le_pow_right (by omega) (show i ≤ 8 by omega)) (by decide)
end
section
variable {n : Nat} {os : List Ob}
variable {n : Nat} {os : List Ob}
variable {n : Nat} {os : List Ob}
variable {n : Nat} {os : List Ob}
variable {n : Nat} {os : List Ob}
variable {n : Nat} {os : List Ob}
variable {n : Nat} {os : List Ob}
variable {n : Nat} {os : List Ob}
theorem subs_l8 {m : Int} (h8 : m ≤ 8) {i : Nat} (hi : i ≤ m.toNat) {s : List Int} (hs : s ∈ subs i) : s.length ≤ 8 := by
  obtain ⟨h1, h2⟩ := subs_ok i s hs
  rcases rsg_lt (m := i) (a := 0) h1 h2 with h | h
  · omega
  · rw [h]; simp
end
section
variable {n : Nat} {os : List Ob}
variable {n : Nat} {os : List Ob}
variable {n : Nat} {os : List Ob}
variable {n : Nat} {os : List Ob}
variable {n : Nat} {os : List Ob}
variable {n : Nat} {os : List Ob}
variable {n : Nat} {os : List Ob}
variable {n : Nat} {os : List Ob}
theorem iota_get {m : Int} {i : Nat} {x : D} (h : ((iota m).map D.int)[i]? = some x) : x = .int i ∧ i < m.toNat := by
  unfold iota at h
  rw [List.map_map, List.getElem?_map] at h
  cases e : (List.range m.toNat)[i]? with
  | none => rw [e] at h; cases h
  | some j =>
    rw [e] at h
    obtain ⟨h1, h2⟩ := List.getElem?_eq_some_iff.mp e
    rw [List.length_range] at h1
    rw [List.getElem_range] at h2
    cases h
    exact ⟨by rw [← h2]; rfl, h1⟩
end
section
variable {n : Nat} {os : List Ob}
variable {n : Nat} {os : List Ob}
variable {n : Nat} {os : List Ob}
variable {n : Nat} {os : List Ob}
variable {n : Nat} {os : List Ob}
variable {n : Nat} {os : List Ob}
variable {n : Nat} {os : List Ob}
variable {n : Nat} {os : List Ob}
theorem tupsOf_map : ∀ l : List (List Int), tupsOf (l.map tupI) = some l
  | [] => rfl
  | a :: l => by
    show tupsOf (.tup (a.map .int) :: l.map tupI) = _
    simp only [tupsOf, intsOf_map, tupsOf_map l]
end
section
variable {n : Nat} {os : List Ob}
variable {n : Nat} {os : List Ob}
variable {n : Nat} {os : List Ob}
variable {n : Nat} {os : List Ob}
variable {n : Nat} {os : List Ob}
variable {n : Nat} {os : List Ob}
variable {n : Nat} {os : List Ob}
variable {n : Nat} {os : List Ob}
theorem pairOf_map : ∀ l : List (Int × List Int), pairOf (l.map pairD) = some l
  | [] => rfl
  | a :: l => by
    show pairOf (.tup [.int a.1, .tup (a.2.map .int)] :: l.map pairD) = _
    simp only [pairOf, intsOf_map, pairOf_map l]
end
section
variable {n : Nat} {os : List Ob}
variable {n : Nat} {os : List Ob}
variable {n : Nat} {os : List Ob}
variable {n : Nat} {os : List Ob}
variable {n : Nat} {os : List Ob}
variable {n : Nat} {os : List Ob}
variable {n : Nat} {os : List Ob}
variable {n : Nat} {os : List Ob}
theorem fn_all_sets {n : Nat} : (TT (n + 3)).fn "all_sets" = some ⟨[.val, .val], runB (TT (n + 2)) 5 [.val, .val] b_all_sets⟩ := rfl
end
section
variable {n : Nat} {os : List Ob}
variable {n : Nat} {os : List Ob}
variable {n : Nat} {os : List Ob}
variable {n : Nat} {os : List Ob}
variable {n : Nat} {os : List Ob}
variable {n : Nat} {os : List Ob}
variable {n : Nat} {os : List Ob}
variable {n : Nat} {os : List Ob}
theorem fn_law_sets {n : Nat} : (TT (n + 1)).fn "_law_sets" = some ⟨[.val, .val], runB (TT n) 6 [.val, .val] b__law_sets⟩ := rfl
end
section
variable {n : Nat} {os : List Ob}
variable {n : Nat} {os : List Ob}
variable {n : Nat} {os : List Ob}
variable {n : Nat} {os : List Ob}
variable {n : Nat} {os : List Ob}
variable {n : Nat} {os : List Ob}
variable {n : Nat} {os : List Ob}
variable {n : Nat} {os : List Ob}
theorem cut_drop1 {l : List (List Int)} : cutL (l.map tupI) (some 1) none = (l.drop 1).map tupI := by
  rw [cut_drop _ (by omega), ← List.map_drop]
  rfl
end
section
variable {n : Nat} {os : List Ob}
variable {n : Nat} {os : List Ob}
variable {n : Nat} {os : List Ob}
variable {n : Nat} {os : List Ob}
variable {n : Nat} {os : List Ob}
variable {n : Nat} {os : List Ob}
variable {n : Nat} {os : List Ob}
variable {n : Nat} {os : List Ob}
theorem s_all_sets {n : Nat} {os : List Ob} {m k : Int} (hm : 0 ≤ m) (h8 : m ≤ 8) (hk : 0 ≤ k) : runB (TT n) 5 [.val, .val] b_all_sets [.int m, .int k] os = some (.ret (.lst .own ((setsL m k).map tupI)) [] os) := by
  have mr1 : -4611686018427387904 ≤ m := by omega
  have mr2 : m ≤ 1000000 := by omega
  unfold runB b_all_sets startS
  simp [execs, exec, ev, evs, evc, evo, evIt, evOps, fillC, ioSl, putB, evPk, evFz, opd, isVar, hasV, fill1, fillP, asg, asgs, Den.view, rdV, mvV, setS, shal_own, shal_fz, shal_ro, shal_int, shal_bl, shal_str, shal_non, shal_tup, fz, fzL, fzO, bnd, ret, lift, Den.thn, sthn, idxD, opF, addD, subD, mulD, modD, fdivD, negD, notD, isNonD, cmpD, grd, isLst, setiM, biF, lenF, small, mutL, smallR, lim, flatD, mr1, mr2, rngL_iota]
  generalize hg : forGo _ _ _ = r
  obtain ⟨s', rfl, o3, o4, rfl⟩ : ∃ s', r = some (.nx s') ∧ (fun (i : Nat) s => ∃ o3 o4, s = (⟨[some (.int m), some (.int k), some (.lst .own ((subsK k i).map tupI)), o3, o4], os⟩ : S)) (0 + ((iota m).map D.int).length) s' := by
    rw [← hg]
    refine forGo_ex (fun (i : Nat) s => ∃ o3 o4, s = (⟨[some (.int m), some (.int k), some (.lst .own ((subsK k i).map tupI)), o3, o4], os⟩ : S)) ((iota m).map D.int) 0 (fun i x s hx hs => ?_) _ ⟨none, none, rfl⟩
    obtain ⟨o3, o4, rfl⟩ := hs
    obtain ⟨rfl, hi⟩ := iota_get hx
    simp only [Nat.zero_add]
    have hl := subsK_len hk h8 (i := i) (by omega)
    have hz := tups_fz (subsK k i)
    simp [execs, exec, ev, evs, evc, evo, evIt, evOps, fillC, ioSl, putB, evPk, evFz, opd, isVar, hasV, fill1, fillP, asg, asgs, Den.view, rdV, mvV, setS, shal_own, shal_fz, shal_ro, shal_int, shal_bl, shal_str, shal_non, shal_tup, fz, fzL, fzO, bnd, ret, lift, Den.thn, sthn, idxD, opF, addD, subD, mulD, modD, fdivD, negD, notD, isNonD, cmpD, grd, isLst, setiM, biF, lenF, small, mutL, smallR, lim, flatD, lb_all_sets_0, wipeD, hz]
    generalize hg2 : lcGo _ _ _ _ _ = r2
    obtain ⟨s2, rfl, o, rfl⟩ : ∃ s', r2 = some (.val ([] ++ ((subsK k i).filter fun s => decide ((s.length : Int) < k)).map fun s => tupI (s ++ [((i : Nat) : Int)])) s') ∧ (fun s => ∃ o, s = (⟨[some (.int m), some (.int k), some (.lst .fz ((subsK k i).map tupI)), some (.int i), o], os⟩ : S)) s' := by
      rw [← hg2]
      refine lcGo_t tupI (fun s => ∃ o, s = (⟨[some (.int m), some (.int k), some (.lst .fz ((subsK k i).map tupI)), some (.int i), o], os⟩ : S)) (fun s => decide ((s.length : Int) < k)) (fun s => tupI (s ++ [((i : Nat) : Int)])) (subsK k i) [] _ (fun x hx s hs => ?_) ⟨none, rfl⟩ (by simp [lim]; omega)
      obtain ⟨o, rfl⟩ := hs
      have hx8 : x.length ≤ 8 := by
        rw [subsK_eq hk] at hx
        exact subs_l8 h8 (i := i) (by omega) (List.mem_filter.mp hx).1
      have hx9 : x.length + 1 ≤ 1000000 := by omega
      refine ⟨⟨[some (.int m), some (.int k), some (.lst .fz ((subsK k i).map tupI)), some (.int i), some (tupI x)], os⟩, ?_, _, rfl⟩
      by_cases hq : (x.length : Int) < k <;> simp [execs, exec, ev, evs, evc, evo, evIt, evOps, fillC, ioSl, putB, evPk, evFz, opd, isVar, hasV, fill1, fillP, asg, asgs, Den.view, rdV, mvV, setS, shal_own, shal_fz, shal_ro, shal_int, shal_bl, shal_str, shal_non, shal_tup, fz, fzL, fzO, bnd, ret, lift, Den.thn, sthn, idxD, opF, addD, subD, mulD, modD, fdivD, negD, notD, isNonD, cmpD, grd, isLst, setiM, biF, lenF, small, mutL, smallR, lim, flatD, wipeD, tupI, hq, hx9]
    have hz2 : fzL (((subsK k i).filter fun s => decide ((s.length : Int) < k)).map fun s => tupI (s ++ [((i : Nat) : Int)])) = ((subsK k i).filter fun s => decide ((s.length : Int) < k)).map fun s => tupI (s ++ [((i : Nat) : Int)]) := by
      have := tups_fz (((subsK k i).filter fun s => decide ((s.length : Int) < k)).map fun s => s ++ [((i : Nat) : Int)])
      rw [List.map_map] at this
      exact this
    have hl2 : (subsK k i).length + ((subsK k i).filter fun s => decide ((s.length : Int) < k)).length ≤ 1000000 := by
      have := List.length_filter_le (fun s : List Int => decide ((s.length : Int) < k)) (subsK k i)
      omega
    simp [execs, exec, ev, evs, evc, evo, evIt, evOps, fillC, ioSl, putB, evPk, evFz, opd, isVar, hasV, fill1, fillP, asg, asgs, Den.view, rdV, mvV, setS, shal_own, shal_fz, shal_ro, shal_int, shal_bl, shal_str, shal_non, shal_tup, fz, fzL, fzO, bnd, ret, lift, Den.thn, sthn, idxD, opF, addD, subD, mulD, modD, fdivD, negD, notD, isNonD, cmpD, grd, isLst, setiM, biF, lenF, small, mutL, smallR, lim, flatD, restD, hz, hz2, hl2, subsK]
  simp only [Nat.zero_add, List.length_map, show (iota m).length = m.toNat by have := iota_len hm; omega]
  have hz := tups_fz (subsK k m.toNat)
  have hz1 := tups_fz ((subsK k m.toNat).drop 1)
  have s1 : slcI (.lst .fz ((subsK k m.toNat).map tupI)) (some 1) none = some (.lst .own (((subsK k m.toNat).drop 1).map tupI)) := by
    simp only [slcI, cut_drop1]
  have hS : ((srtP (((subsK k m.toNat).drop 1).map fun a => ((a.length : Int), a))).map fun p => tupI p.2) = (setsL m k).map tupI := by
    unfold setsL
    rw [List.map_map]
    rfl
  generalize (subsK k m.toNat).drop 1 = L at *
  generalize subsK k m.toNat = L0 at *
  simp [execs, exec, ev, evs, evc, evo, evIt, evOps, fillC, ioSl, putB, evPk, evFz, opd, isVar, hasV, fill1, fillP, asg, asgs, Den.view, rdV, mvV, setS, shal_own, shal_fz, shal_ro, shal_int, shal_bl, shal_str, shal_non, shal_tup, fz, fzL, fzO, bnd, ret, lift, Den.thn, sthn, idxD, opF, addD, subD, mulD, modD, fdivD, negD, notD, isNonD, cmpD, grd, isLst, setiM, biF, lenF, small, mutL, smallR, lim, flatD, hz, s1, hz1, keySrt, tupsOf_map, hS, outsOf]
end
section
variable {n : Nat} {os : List Ob}
variable {n : Nat} {os : List Ob}
variable {n : Nat} {os : List Ob}
variable {n : Nat} {os : List Ob}
variable {n : Nat} {os : List Ob}
variable {n : Nat} {os : List Ob}
variable {n : Nat} {os : List Ob}
variable {n : Nat} {os : List Ob}
theorem s_law_sets {n : Nat} {os : List Ob} {m k : Int} (hm : 0 ≤ m) (h8 : m ≤ 8) (hk : 0 ≤ k) : runB (TT n) 6 [.val, .val] b__law_sets [.int m, .int k] os = some (.ret (.lst .own ((setsL m k).map tupI)) [] os) := by
  have mr1 : -4611686018427387904 ≤ m := by omega
  have mr2 : m ≤ 1000000 := by omega
  unfold runB b__law_sets startS
  simp [execs, exec, ev, evs, evc, evo, evIt, evOps, fillC, ioSl, putB, evPk, evFz, opd, isVar, hasV, fill1, fillP, asg, asgs, Den.view, rdV, mvV, setS, shal_own, shal_fz, shal_ro, shal_int, shal_bl, shal_str, shal_non, shal_tup, fz, fzL, fzO, bnd, ret, lift, Den.thn, sthn, idxD, opF, addD, subD, mulD, modD, fdivD, negD, notD, isNonD, cmpD, grd, isLst, setiM, biF, lenF, small, mutL, smallR, lim, flatD, mr1, mr2, rngL_iota]
  generalize hg : forGo _ _ _ = r
  obtain ⟨s', rfl, o3, o4, rfl⟩ : ∃ s', r = some (.nx s') ∧ (fun (i : Nat) s => ∃ o3 o4, s = (⟨[some (.int m), some (.int k), some (.lst .own ((subs i).map tupI)), o3, o4, none], os⟩ : S)) (0 + ((iota m).map D.int).length) s' := by
    rw [← hg]
    refine forGo_ex (fun (i : Nat) s => ∃ o3 o4, s = (⟨[some (.int m), some (.int k), some (.lst .own ((subs i).map tupI)), o3, o4, none], os⟩ : S)) ((iota m).map D.int) 0 (fun i x s hx hs => ?_) _ ⟨none, none, rfl⟩
    obtain ⟨o3, o4, rfl⟩ := hs
    obtain ⟨rfl, hi⟩ := iota_get hx
    simp only [Nat.zero_add]
    have hl := subs_len8 h8 (i := i) (by omega)
    have hz := tups_fz (subs i)
    simp [execs, exec, ev, evs, evc, evo, evIt, evOps, fillC, ioSl, putB, evPk, evFz, opd, isVar, hasV, fill1, fillP, asg, asgs, Den.view, rdV, mvV, setS, shal_own, shal_fz, shal_ro, shal_int, shal_bl, shal_str, shal_non, shal_tup, fz, fzL, fzO, bnd, ret, lift, Den.thn, sthn, idxD, opF, addD, subD, mulD, modD, fdivD, negD, notD, isNonD, cmpD, grd, isLst, setiM, biF, lenF, small, mutL, smallR, lim, flatD, lb__law_sets_0, wipeD, hz]
    generalize hg2 : lcGo _ _ _ _ _ = r2
    obtain ⟨s2, rfl, o, rfl⟩ : ∃ s', r2 = some (.val ([] ++ (subs i).map fun s => tupI (s ++ [((i : Nat) : Int)])) s') ∧ (fun s => ∃ o, s = (⟨[some (.int m), some (.int k), some (.lst .fz ((subs i).map tupI)), some (.int i), o, none], os⟩ : S)) s' := by
      rw [← hg2]
      refine lcGo_m tupI (fun s => ∃ o, s = (⟨[some (.int m), some (.int k), some (.lst .fz ((subs i).map tupI)), some (.int i), o, none], os⟩ : S)) (fun s => tupI (s ++ [((i : Nat) : Int)])) (subs i) [] _ (fun x hx s hs => ?_) ⟨none, rfl⟩ (by simp [lim]; omega)
      obtain ⟨o, rfl⟩ := hs
      have hx8 : x.length ≤ 8 := subs_l8 h8 (i := i) (by omega) hx
      have hx9 : x.length + 1 ≤ 1000000 := by omega
      refine ⟨⟨[some (.int m), some (.int k), some (.lst .fz ((subs i).map tupI)), some (.int i), some (tupI x), none], os⟩, ?_, _, rfl⟩
      simp [execs, exec, ev, evs, evc, evo, evIt, evOps, fillC, ioSl, putB, evPk, evFz, opd, isVar, hasV, fill1, fillP, asg, asgs, Den.view, rdV, mvV, setS, shal_own, shal_fz, shal_ro, shal_int, shal_bl, shal_str, shal_non, shal_tup, fz, fzL, fzO, bnd, ret, lift, Den.thn, sthn, idxD, opF, addD, subD, mulD, modD, fdivD, negD, notD, isNonD, cmpD, grd, isLst, setiM, biF, lenF, small, mutL, smallR, lim, flatD, wipeD, tupI, hx9]
    have hz2 : fzL ((subs i).map fun s => tupI (s ++ [((i : Nat) : Int)])) = (subs i).map fun s => tupI (s ++ [((i : Nat) : Int)]) := by
      have := tups_fz ((subs i).map fun s => s ++ [((i : Nat) : Int)])
      rw [List.map_map] at this
      exact this
    have hl2 : (subs i).length + (subs i).length ≤ 1000000 := by omega
    simp [execs, exec, ev, evs, evc, evo, evIt, evOps, fillC, ioSl, putB, evPk, evFz, opd, isVar, hasV, fill1, fillP, asg, asgs, Den.view, rdV, mvV, setS, shal_own, shal_fz, shal_ro, shal_int, shal_bl, shal_str, shal_non, shal_tup, fz, fzL, fzO, bnd, ret, lift, Den.thn, sthn, idxD, opF, addD, subD, mulD, modD, fdivD, negD, notD, isNonD, cmpD, grd, isLst, setiM, biF, lenF, small, mutL, smallR, lim, flatD, restD, hz, hz2, hl2, subs]
  simp only [Nat.zero_add, List.length_map, show (iota m).length = m.toNat by have := iota_len hm; omega]
  have hz := tups_fz (subs m.toNat)
  have hl := subs_len8 h8 (Nat.le_refl m.toNat)
  simp [execs, exec, ev, evs, evc, evo, evIt, evOps, fillC, ioSl, putB, evPk, evFz, opd, isVar, hasV, fill1, fillP, asg, asgs, Den.view, rdV, mvV, setS, shal_own, shal_fz, shal_ro, shal_int, shal_bl, shal_str, shal_non, shal_tup, fz, fzL, fzO, bnd, ret, lift, Den.thn, sthn, idxD, opF, addD, subD, mulD, modD, fdivD, negD, notD, isNonD, cmpD, grd, isLst, setiM, biF, lenF, small, mutL, smallR, lim, flatD, hz, wipeD]
  generalize hg2 : lcGo [4] _ _ _ _ = r2
  obtain ⟨s2, rfl, o, rfl⟩ : ∃ s', r2 = some (.val ([] ++ (subs m.toNat).map fun s => pairD (keyOf s)) s') ∧ (fun s => ∃ o, s = (⟨[some (.int m), some (.int k), some (.lst .fz ((subs m.toNat).map tupI)), o3, o, none], os⟩ : S)) s' := by
    rw [← hg2]
    refine lcGo_m tupI (fun s => ∃ o, s = (⟨[some (.int m), some (.int k), some (.lst .fz ((subs m.toNat).map tupI)), o3, o, none], os⟩ : S)) (fun s => pairD (keyOf s)) (subs m.toNat) [] _ (fun x hx s hs => ?_) ⟨none, rfl⟩ (by simp [lim]; omega)
    obtain ⟨o, rfl⟩ := hs
    refine ⟨⟨[some (.int m), some (.int k), some (.lst .fz ((subs m.toNat).map tupI)), o3, some (tupI x), none], os⟩, ?_, _, rfl⟩
    simp [execs, exec, ev, evs, evc, evo, evIt, evOps, fillC, ioSl, putB, evPk, evFz, opd, isVar, hasV, fill1, fillP, asg, asgs, Den.view, rdV, mvV, setS, shal_own, shal_fz, shal_ro, shal_int, shal_bl, shal_str, shal_non, shal_tup, fz, fzL, fzO, bnd, ret, lift, Den.thn, sthn, idxD, opF, addD, subD, mulD, modD, fdivD, negD, notD, isNonD, cmpD, grd, isLst, setiM, biF, lenF, small, mutL, smallR, lim, flatD, wipeD, tupI, pairD, keyOf]
  have hz3 : ∀ l : List (Int × List Int), fzL (l.map pairD) = l.map pairD := fun l => fzL_id fun d hd => by
    obtain ⟨x, _, rfl⟩ := List.mem_map.mp hd
    simp only [pairD, tupI, fz, fzL, ints_fz]
  have e4 : ((subs m.toNat).map fun s => pairD (keyOf s)) = ((subs m.toNat).map keyOf).map pairD := by rw [List.map_map]; rfl
  obtain ⟨L, hS⟩ : ∃ L, srtP ((subs m.toNat).map keyOf) = L := ⟨_, rfl⟩
  have s5 : sortPF [.lst .fz ((subs m.toNat).map fun s => pairD (keyOf s))] = some (.lst .own (L.map pairD)) := by
    rw [e4]
    simp only [sortPF, pairOf_map, hS]
  have hz4 : fzL ((subs m.toNat).map fun s => pairD (keyOf s)) = (subs m.toNat).map fun s => pairD (keyOf s) := by
    rw [e4, hz3]
  simp [execs, exec, ev, evs, evc, evo, evIt, evOps, fillC, ioSl, putB, evPk, evFz, opd, isVar, hasV, fill1, fillP, asg, asgs, Den.view, rdV, mvV, setS, shal_own, shal_fz, shal_ro, shal_int, shal_bl, shal_str, shal_non, shal_tup, fz, fzL, fzO, bnd, ret, lift, Den.thn, sthn, idxD, opF, addD, subD, mulD, modD, fdivD, negD, notD, isNonD, cmpD, grd, isLst, setiM, biF, lenF, small, mutL, smallR, lim, flatD, restD, hz3, hz4, s5, wipeD]
  have hLl : L.length ≤ 256 := by rw [← hS, (srtP_perm _).length_eq, List.length_map]; exact hl
  generalize hg3 : lcGo _ _ _ _ _ = r3
  obtain ⟨s3, rfl, o5, rfl⟩ : ∃ s', r3 = some (.val ([] ++ (L.filter fun p => decide (1 ≤ p.1) && decide (p.1 ≤ k)).map fun p => tupI p.2) s') ∧ (fun s => ∃ o, s = (⟨[some (.int m), some (.int k), some (.lst .fz ((subs m.toNat).map tupI)), o3, o4, o], os⟩ : S)) s' := by
    rw [← hg3]
    refine lcGo_t pairD (fun s => ∃ o, s = (⟨[some (.int m), some (.int k), some (.lst .fz ((subs m.toNat).map tupI)), o3, o4, o], os⟩ : S)) (fun p => decide (1 ≤ p.1) && decide (p.1 ≤ k)) (fun p => tupI p.2) L [] _ (fun x hx s hs => ?_) ⟨none, rfl⟩ (by simp [lim]; omega)
    obtain ⟨o, rfl⟩ := hs
    refine ⟨⟨[some (.int m), some (.int k), some (.lst .fz ((subs m.toNat).map tupI)), o3, o4, some (pairD x)], os⟩, ?_, _, rfl⟩
    by_cases h1 : 1 ≤ x.1 <;> by_cases h2 : x.1 ≤ k <;> simp [execs, exec, ev, evs, evc, evo, evIt, evOps, fillC, ioSl, putB, evPk, evFz, opd, isVar, hasV, fill1, fillP, asg, asgs, Den.view, rdV, mvV, setS, shal_own, shal_fz, shal_ro, shal_int, shal_bl, shal_str, shal_non, shal_tup, fz, fzL, fzO, bnd, ret, lift, Den.thn, sthn, idxD, opF, addD, subD, mulD, modD, fdivD, negD, notD, isNonD, cmpD, grd, isLst, setiM, biF, lenF, small, mutL, smallR, lim, flatD, wipeD, tupI, pairD, h1, h2]
  have e5 := sets_eq (m := m) hk
  rw [hS] at e5
  simp [execs, exec, ev, evs, evc, evo, evIt, evOps, fillC, ioSl, putB, evPk, evFz, opd, isVar, hasV, fill1, fillP, asg, asgs, Den.view, rdV, mvV, setS, shal_own, shal_fz, shal_ro, shal_int, shal_bl, shal_str, shal_non, shal_tup, fz, fzL, fzO, bnd, ret, lift, Den.thn, sthn, idxD, opF, addD, subD, mulD, modD, fdivD, negD, notD, isNonD, cmpD, grd, isLst, setiM, biF, lenF, small, mutL, smallR, lim, flatD, restD, outsOf, ← e5]
end
section
variable {n : Nat} {os : List Ob}
variable {n : Nat} {os : List Ob}
variable {n : Nat} {os : List Ob}
variable {n : Nat} {os : List Ob}
variable {n : Nat} {os : List Ob}
variable {n : Nat} {os : List Ob}
variable {n : Nat} {os : List Ob}
variable {n : Nat} {os : List Ob}
theorem fn_need_most {n : Nat} : (TT (n + 3)).fn "need_most" = some ⟨[.val, .val], runB (TT (n + 2)) 2 [.val, .val] b_need_most⟩ := rfl
end
section
variable {n : Nat} {os : List Ob}
variable {n : Nat} {os : List Ob}
variable {n : Nat} {os : List Ob}
variable {n : Nat} {os : List Ob}
variable {n : Nat} {os : List Ob}
variable {n : Nat} {os : List Ob}
variable {n : Nat} {os : List Ob}
variable {n : Nat} {os : List Ob}
def bodyF (Γ : Tb) (tg : Tg) (b : Ts) : D → S → Option Rs := fun x s2 => Den.thn (asg tg x s2) fun _ s3 => execs Γ b s3
end
section
variable {n : Nat} {os : List Ob}
variable {n : Nat} {os : List Ob}
variable {n : Nat} {os : List Ob}
variable {n : Nat} {os : List Ob}
variable {n : Nat} {os : List Ob}
variable {n : Nat} {os : List Ob}
variable {n : Nat} {os : List Ob}
variable {n : Nat} {os : List Ob}
theorem exec_for {Γ : Tb} {tg : Tg} {it : It} {b : Ts} {s s1 : S} {xs : List D} (h : evIt Γ it s = some (.val xs s1)) : exec Γ (.forr tg it b) s = forGo (bodyF Γ tg b) xs s1 := by
  show Den.thn (evIt Γ it s) _ = _
  rw [h]
  rfl
end
section
variable {n : Nat} {os : List Ob}
variable {n : Nat} {os : List Ob}
variable {n : Nat} {os : List Ob}
variable {n : Nat} {os : List Ob}
variable {n : Nat} {os : List Ob}
variable {n : Nat} {os : List Ob}
variable {n : Nat} {os : List Ob}
variable {n : Nat} {os : List Ob}
theorem rng_get {m i : Nat} {x : D} (h : (rngL 0 (m : Int))[i]? = some x) : x = .int i ∧ i < m := by
  rw [rngL_iota] at h
  have := iota_get h
  simpa using this
end
section
variable {n : Nat} {os : List Ob}
variable {n : Nat} {os : List Ob}
variable {n : Nat} {os : List Ob}
variable {n : Nat} {os : List Ob}
variable {n : Nat} {os : List Ob}
variable {n : Nat} {os : List Ob}
variable {n : Nat} {os : List Ob}
variable {n : Nat} {os : List Ob}
theorem fn_dice {n : Nat} : (TT (n + 1)).fn "_law_dice" = some ⟨[.val, .val], runB (TT n) 4 [.val, .val] b__law_dice⟩ := rfl
end
section
variable {n : Nat} {os : List Ob}
variable {n : Nat} {os : List Ob}
variable {n : Nat} {os : List Ob}
variable {n : Nat} {os : List Ob}
variable {n : Nat} {os : List Ob}
variable {n : Nat} {os : List Ob}
variable {n : Nat} {os : List Ob}
variable {n : Nat} {os : List Ob}
theorem fn_many {n : Nat} : (TT (n + 1)).fn "_law_many" = some ⟨[.io], runB (TT n) 1 [.io] b__law_many⟩ := rfl
end
section
variable {n : Nat} {os : List Ob}
variable {n : Nat} {os : List Ob}
variable {n : Nat} {os : List Ob}
variable {n : Nat} {os : List Ob}
variable {n : Nat} {os : List Ob}
variable {n : Nat} {os : List Ob}
variable {n : Nat} {os : List Ob}
variable {n : Nat} {os : List Ob}
theorem s_dice {n : Nat} {os : List Ob} {ns : List Int} (hl : ns.length ≤ 63) : ∃ d, DOk d ∧ runB (TT n) 4 [.val, .val] b__law_dice [.lst .ro (ns.map .int), .int 0] os = some (.ret (.lst .own (d.map .int)) [] os) := by
  have eb : b__law_dice = .cons (tN b__law_dice 0) (.cons (tN b__law_dice 1) (.cons (tN b__law_dice 2) .nil)) := rfl
  have t0 : exec (TT n) (tN b__law_dice 0) ⟨[some (.lst .ro (ns.map .int)), some (.int 0), none, none], os⟩ = some (.nx ⟨[some (.lst .ro (ns.map .int)), some (.int 0), some (.int 0), none], os⟩) := by
    unfold b__law_dice
    simp [tN, execs, exec, ev, evs, evc, evo, evIt, evOps, fillC, ioSl, putB, evPk, evFz, opd, isVar, hasV, fill1, fillP, asg, asgs, Den.view, rdV, mvV, setS, shal_own, shal_fz, shal_ro, shal_int, shal_bl, shal_str, shal_non, shal_tup, fz, fzL, fzO, bnd, ret, lift, Den.thn, sthn, idxD, opF, addD, subD, mulD, modD, fdivD, negD, notD, isNonD, cmpD, grd, isLst, setiM, biF, lenF, small, mutL, smallR, lim, flatD]
  have t1 : ∃ (a : Int) (o3 : Option D), 0 ≤ a ∧ exec (TT n) (tN b__law_dice 1) ⟨[some (.lst .ro (ns.map .int)), some (.int 0), some (.int 0), none], os⟩ = some (.nx ⟨[some (.lst .ro (ns.map .int)), some (.int 0), some (.int a), o3], os⟩) := by
    have e := exec_for (Γ := TT n) (tg := .nm 3) (it := .seq (.var 0)) (b := lb__law_dice_0) (s := ⟨[some (.lst .ro (ns.map .int)), some (.int 0), some (.int 0), none], os⟩) (s1 := ⟨[some (.lst .ro (ns.map .int)), some (.int 0), some (.int 0), none], os⟩) (xs := ns.map .int) (by simp [execs, exec, ev, evs, evc, evo, evIt, evOps, fillC, ioSl, putB, evPk, evFz, opd, isVar, hasV, fill1, fillP, asg, asgs, Den.view, rdV, mvV, setS, shal_own, shal_fz, shal_ro, shal_int, shal_bl, shal_str, shal_non, shal_tup, fz, fzL, fzO, bnd, ret, lift, Den.thn, sthn, idxD, opF, addD, subD, mulD, modD, fdivD, negD, notD, isNonD, cmpD, grd, isLst, setiM, biF, lenF, small, mutL, smallR, lim, flatD])
    obtain ⟨s', e2, a, o3, ha, rfl⟩ := forGo_ex (f := bodyF (TT n) (.nm 3) lb__law_dice_0) (fun (_ : Nat) s => ∃ (a : Int) (o3 : Option D), 0 ≤ a ∧ s = (⟨[some (.lst .ro (ns.map .int)), some (.int 0), some (.int a), o3], os⟩ : S)) (ns.map .int) 0 (fun i x s hx hs => by
      obtain ⟨a, o3, ha, rfl⟩ := hs
      obtain ⟨z, _, rfl⟩ := List.mem_map.mp (List.mem_of_getElem? hx)
      refine ⟨⟨[some (.lst .ro (ns.map .int)), some (.int 0), some (.int ((a * 31 + (if z < 0 then -z else z)) % 2147483647)), some (.int z)], os⟩, ?_, _, _, Int.emod_nonneg _ (by omega), rfl⟩
      unfold bodyF lb__law_dice_0
      simp [execs, exec, ev, evs, evc, evo, evIt, evOps, fillC, ioSl, putB, evPk, evFz, opd, isVar, hasV, fill1, fillP, asg, asgs, Den.view, rdV, mvV, setS, shal_own, shal_fz, shal_ro, shal_int, shal_bl, shal_str, shal_non, shal_tup, fz, fzL, fzO, bnd, ret, lift, Den.thn, sthn, idxD, opF, addD, subD, mulD, modD, fdivD, negD, notD, isNonD, cmpD, grd, isLst, setiM, biF, lenF, small, mutL, smallR, lim, flatD, absF]) _ ⟨0, none, by omega, rfl⟩
    exact ⟨a, o3, ha, e.trans e2⟩
  obtain ⟨a, o3, ha, t1⟩ := t1
  have t2 : ∃ (l : List Int) (s' : S), (∀ x ∈ l, 0 < x) ∧ s'.os = os ∧ outsOf [.val, .val] s'.sl = some [] ∧ exec (TT n) (tN b__law_dice 2) ⟨[some (.lst .ro (ns.map .int)), some (.int 0), some (.int a), o3], os⟩ = some (.rt (.lst .own (.int a :: .int 0 :: l.map .int)) s') := by
    unfold b__law_dice
    simp [tN, execs, exec, ev, evs, evc, evo, evIt, evOps, fillC, ioSl, putB, evPk, evFz, opd, isVar, hasV, fill1, fillP, asg, asgs, Den.view, rdV, mvV, setS, shal_own, shal_fz, shal_ro, shal_int, shal_bl, shal_str, shal_non, shal_tup, fz, fzL, fzO, bnd, ret, lift, Den.thn, sthn, idxD, opF, addD, subD, mulD, modD, fdivD, negD, notD, isNonD, cmpD, grd, isLst, setiM, biF, lenF, small, mutL, smallR, lim, flatD, wipeD]
    generalize hg : lcGo _ _ _ _ _ = r
    obtain ⟨s', rfl, o, rfl⟩ : ∃ s', r = some (.val ([] ++ (ns.filter (fun x => decide (1000000000000000000 ≤ x))).map .int) s') ∧ (fun s => ∃ o, s = (⟨[some (.lst .ro (ns.map .int)), some (.int 0), some (.int a), o], os⟩ : S)) s' := by
      rw [← hg]
      refine lcGo_filt (fun s => ∃ o, s = (⟨[some (.lst .ro (ns.map .int)), some (.int 0), some (.int a), o], os⟩ : S)) (fun x => decide (1000000000000000000 ≤ x)) ns [] _ (fun x hx s hs => ?_) ⟨none, rfl⟩ (by simp [lim]; omega)
      obtain ⟨o, rfl⟩ := hs
      refine ⟨⟨[some (.lst .ro (ns.map .int)), some (.int 0), some (.int a), some (.int x)], os⟩, ?_, _, rfl⟩
      by_cases hq : 1000000000000000000 ≤ x <;> simp [execs, exec, ev, evs, evc, evo, evIt, evOps, fillC, ioSl, putB, evPk, evFz, opd, isVar, hasV, fill1, fillP, asg, asgs, Den.view, rdV, mvV, setS, shal_own, shal_fz, shal_ro, shal_int, shal_bl, shal_str, shal_non, shal_tup, fz, fzL, fzO, bnd, ret, lift, Den.thn, sthn, idxD, opF, addD, subD, mulD, modD, fdivD, negD, notD, isNonD, cmpD, grd, isLst, setiM, biF, lenF, small, mutL, smallR, lim, flatD, wipeD, powD, hq]
    have hlf : (ns.filter (fun x => decide (1000000000000000000 ≤ x))).length ≤ 63 := Nat.le_trans (List.length_filter_le _ _) hl
    have hl1 : 1 + 1 + (ns.filter (fun x => decide (1000000000000000000 ≤ x))).length ≤ 1000000 := by omega
    have hl2 : (ns.filter (fun x => decide (1000000000000000000 ≤ x))).length + 1 + 1 ≤ 1000000 := by omega
    have hpos : ∀ x ∈ ns.filter (fun x => decide (1000000000000000000 ≤ x)), 0 < x := fun x hx => by
      have := (List.mem_filter.mp hx).2
      simp only [decide_eq_true_eq] at this
      omega
    generalize ns.filter (fun x => decide (1000000000000000000 ≤ x)) = l at *
    refine ⟨l, hpos, ⟨[some (.lst .ro (ns.map .int)), some (.int 0), some (.int a), o3], os⟩, rfl, rfl, ?_⟩
    simp [execs, exec, ev, evs, evc, evo, evIt, evOps, fillC, ioSl, putB, evPk, evFz, opd, isVar, hasV, fill1, fillP, asg, asgs, Den.view, rdV, mvV, setS, shal_own, shal_fz, shal_ro, shal_int, shal_bl, shal_str, shal_non, shal_tup, fz, fzL, fzO, bnd, ret, lift, Den.thn, sthn, idxD, opF, addD, subD, mulD, modD, fdivD, negD, notD, isNonD, cmpD, grd, isLst, setiM, biF, lenF, small, mutL, smallR, lim, flatD, restD, hl1, hl2]
  obtain ⟨l, s', hl0, hs1, hs2, t2⟩ := t2
  refine ⟨a :: 0 :: l, ⟨a, 0, l, rfl, ha, by omega, hl0⟩, ?_⟩
  unfold runB startS
  rw [eb]
  simp [execs, t0, t1, t2, hs1, hs2]
end
/-- a loop that ends at the first that answers -/
theorem forGo_first {β : Type} {f : D → S → Option Rs} (enc : β → D) (I : S → Prop) (g : β → Option D) : ∀ (xs : List β) (s : S), I s → (∀ x ∈ xs, ∀ s, I s → ∃ s', I s' ∧ f (enc x) s = some (match g x with
    | some d => .rt d s'
    | none => .nx s')) → ∃ s', I s' ∧ forGo f (xs.map enc) s = some (match xs.findSome? g with
    | some d => .rt d s'
    | none => .nx s')
  | [], s, h, _ => ⟨s, h, rfl⟩
  | x :: xs, s, h, hf => by
    obtain ⟨s1, h1, e1⟩ := hf x List.mem_cons_self s h
    simp only [List.map_cons, forGo, e1, List.findSome?_cons]
    cases g x with
    | some d => exact ⟨s1, h1, rfl⟩
    | none => exact forGo_first enc I g xs s1 h1 fun y hy => hf y (List.mem_cons_of_mem _ hy)
def rowsD (rs : List (List Nat)) : D := .tup (rs.map .str)
theorem strs_fz : ∀ l : List (List Nat), fzL (l.map D.str) = l.map D.str
  | [] => rfl
  | x :: l => by simp only [List.map_cons, fzL, fz, strs_fz l]
theorem rows_fz {rs : List (List Nat)} : fz (rowsD rs) = rowsD rs := by simp only [rowsD, fz, strs_fz]
theorem rows_sh {rs : List (List Nat)} : shal (rowsD rs) = rowsD rs := rows_fz
theorem signs_fz (l : List Nat) : fzL (signs l) = signs l := by
  unfold signs
  have := strs_fz (l.map fun c => [c])
  rw [List.map_map] at this
  exact this
def okC (r : List Nat) : Prop := ∀ c ∈ r, c < 0x110000
theorem eq_signs {o o' : Ow} {l : List Nat} (h : okC l) : eqD (.lst o (signs l)) (.lst o' []) = some (decide (l = [])) := by
  have h1 : Shp 1 (.lst o (signs l)) := shp_lst (k := 0) fun x hx => by
    obtain ⟨c, hc, rfl⟩ := List.mem_map.mp hx
    exact shp_str (by simpa using h c hc)
  have h2 : Shp 1 (.lst o' []) := shp_lst (k := 0) fun x hx => by cases hx
  rw [eqD_of h1 h2]
  cases l with
  | nil => simp [signs, toP, toPs, PyData.eqv, PyData.eqvAll]
  | cons c l => simp [signs, toP, toPs, PyData.eqv, PyData.eqvAll]
def isBit (c : Nat) : Bool := decide (c = 48 ∨ c = 49)
def okR (m : Int) (rs : List (List Nat)) : Bool := decide ((rs.length : Int) = m) && (match rs with
  | [] => false
  | r :: _ => decide (1 ≤ r.length ∧ r.length ≤ 12) && rs.all fun x => decide (x.length = r.length) && x.all isBit)
theorem glo_signs (n : Nat) : (TT n).glo "MOST_SIGNS" = some (.int 12) := by cases n <;> rfl
theorem in_01 (c : Nat) : inD (.str [c]) (.str [48, 49]) = some (isBit c) := by
  unfold isBit
  simp [inD]
theorem fn_are_rows {n : Nat} : (TT (n + 1)).fn "are_rows" = some ⟨[.val, .val], runB (TT n) 4 [.val, .val] b_are_rows⟩ := rfl
theorem ar_row {n : Nat} {os : List Ob} {P : D} {L : Nat} {mm : Option D} {o2 o3 : Option D} {x : List Nat} {r0 : List Nat} (fP : fz P = P) (sP : shal P = P) (i0 : idxD P (.int 0) = some (.str r0)) (h0 : r0.length ≤ 1000) (hx : okC x) (hl : x.length ≤ 1000) :
    ∃ a2 a3, bodyF (TT n) (.nm 2) lb_are_rows_0 (.str x) ⟨[some P, mm, o2, o3], os⟩ = some (match (if decide (x.length = r0.length) && x.all isBit then none else some (D.bl false)) with
      | some d => .rt d ⟨[some P, mm, a2, a3], os⟩
      | none => .nx ⟨[some P, mm, a2, a3], os⟩) := by
  have l0 : lenF [.str r0] = some (.int (r0.length : Int)) := by simp only [lenF]; rw [if_pos (by simp only [lim]; omega)]
  have lx : lenF [.str x] = some (.int (x.length : Int)) := by simp only [lenF]; rw [if_pos (by simp only [lim]; omega)]
  by_cases h1 : x.length = r0.length
  · have hc : ∀ f : D → M (Option D), (∀ c ∈ x, ∀ o3, f (.str [c]) { (⟨[some P, mm, some (.str x), o3], os⟩ : S) with sl := wipeD [some P, mm, some (.str x), o3] [3] } = some (.val (if !isBit c then some (.str [c]) else none) ⟨[some P, mm, some (.str x), some (.str [c])], os⟩)) → ∃ a3, lcGo [3] f (signs x) [] ⟨[some P, mm, some (.str x), none], os⟩ = some (.val (signs (x.filter fun c => !isBit c)) ⟨[some P, mm, some (.str x), a3], os⟩) := fun f hf => by
      obtain ⟨s', e, o, rfl⟩ := lcGo_t (fun c : Nat => D.str [c]) (own := [3]) (f := f) (fun s => ∃ o3, s = (⟨[some P, mm, some (.str x), o3], os⟩ : S)) (fun c => !isBit c) (fun c => D.str [c]) x [] ⟨[some P, mm, some (.str x), none], os⟩ (fun c hcx s hs => by
        obtain ⟨o3, rfl⟩ := hs
        exact ⟨_, hf c hcx o3, _, rfl⟩) ⟨none, rfl⟩ (by simp [lim]; omega)
      exact ⟨o, by simpa [signs] using e⟩
    have hok : okC (x.filter fun c => !isBit c) := fun c hcx => hx c (List.mem_filter.mp hcx).1
    have he : (decide ((x.filter fun c => !isBit c) = [])) = x.all isBit := by
      rw [Bool.eq_iff_iff, decide_eq_true_eq, List.filter_eq_nil_iff, List.all_eq_true]
      simp
    have hli : x.length ≤ 1000000 := by omega
    have h1i : ((x.length : Nat) : Int) = (r0.length : Int) := by omega
    obtain ⟨B, hB⟩ : ∃ B, x.all isBit = B := ⟨_, rfl⟩
    rw [hB] at he ⊢
    refine ⟨some (.str x), o3, ?_⟩
    unfold bodyF lb_are_rows_0
    simp [execs, exec, ev, evs, evc, evo, evIt, evOps, fillC, ioSl, putB, evPk, evFz, opd, isVar, hasV, fill1, fillP, asg, asgs, Den.view, rdV, mvV, setS, shal_own, shal_fz, shal_ro, shal_int, shal_bl, shal_str, shal_non, shal_tup, fz, fzL, fzO, bnd, ret, lift, Den.thn, sthn, idxD, opF, addD, subD, mulD, modD, fdivD, negD, notD, isNonD, cmpD, grd, isLst, setiM, biF, lenF, small, mutL, smallR, lim, flatD, -idxD, -lenF, fP, sP, i0, l0, lx, h1i, hli, wipeD]
    generalize hg : lcGo _ _ _ _ _ = res
    obtain ⟨a3, rfl⟩ : ∃ a3, res = some (.val (signs (x.filter fun c => !isBit c)) ⟨[some P, mm, some (.str x), a3], os⟩) := by
      rw [← hg]
      refine hc _ fun c hcx o3 => ?_
      by_cases hb : isBit c = true <;> simp [execs, exec, ev, evs, evc, evo, evIt, evOps, fillC, ioSl, putB, evPk, evFz, opd, isVar, hasV, fill1, fillP, asg, asgs, Den.view, rdV, mvV, setS, shal_own, shal_fz, shal_ro, shal_int, shal_bl, shal_str, shal_non, shal_tup, fz, fzL, fzO, bnd, ret, lift, Den.thn, sthn, idxD, opF, addD, subD, mulD, modD, fdivD, negD, notD, isNonD, cmpD, grd, isLst, setiM, biF, lenF, small, mutL, smallR, lim, flatD, wipeD, in_01, hb]
    have es := eq_signs (o := .fz) (o' := .fz) hok
    rw [he] at es
    have fs := signs_fz (x.filter fun c => !isBit c)
    generalize signs (x.filter fun c => !isBit c) = Y at *
    clear he hB
    cases B <;> simp [execs, exec, ev, evs, evc, evo, evIt, evOps, fillC, ioSl, putB, evPk, evFz, opd, isVar, hasV, fill1, fillP, asg, asgs, Den.view, rdV, mvV, setS, shal_own, shal_fz, shal_ro, shal_int, shal_bl, shal_str, shal_non, shal_tup, fz, fzL, fzO, bnd, ret, lift, Den.thn, sthn, idxD, opF, addD, subD, mulD, modD, fdivD, negD, notD, isNonD, cmpD, grd, isLst, setiM, biF, lenF, small, mutL, smallR, lim, flatD, restD, es, fs, h1]
  · have h1i : ¬ ((x.length : Nat) : Int) = (r0.length : Int) := by omega
    refine ⟨some (.str x), o3, ?_⟩
    unfold bodyF lb_are_rows_0
    simp [execs, exec, ev, evs, evc, evo, evIt, evOps, fillC, ioSl, putB, evPk, evFz, opd, isVar, hasV, fill1, fillP, asg, asgs, Den.view, rdV, mvV, setS, shal_own, shal_fz, shal_ro, shal_int, shal_bl, shal_str, shal_non, shal_tup, fz, fzL, fzO, bnd, ret, lift, Den.thn, sthn, idxD, opF, addD, subD, mulD, modD, fdivD, negD, notD, isNonD, cmpD, grd, isLst, setiM, biF, lenF, small, mutL, smallR, lim, flatD, -idxD, -lenF, fP, sP, i0, l0, lx, h1i, h1]
theorem find_none {rs : List (List Nat)} {p : List Nat → Bool} : (rs.findSome? fun x => if p x then none else some (D.bl false)) = if rs.all p then none else some (.bl false) := by
  induction rs with
  | nil => rfl
  | cons x rs ih =>
    simp only [List.findSome?_cons, List.all_cons]
    by_cases hp : p x = true
    · simp only [hp, if_true, Bool.true_and]; exact ih
    · simp [hp]
theorem s_are_rows {n : Nat} {os : List Ob} {m : Int} {rs : List (List Nat)} (hc : ∀ r ∈ rs, okC r) (hl : ∀ r ∈ rs, r.length ≤ 1000) (hm : 1 ≤ m) : runB (TT n) 4 [.val, .val] b_are_rows [rowsD rs, .int m] os = some (.ret (.bl (okR m rs)) [] os) := by
  have fr := rows_fz (rs := rs)
  have sr := rows_sh (rs := rs)
  have lr : lenF [rowsD rs] = some (.int (rs.length : Int)) := by simp [rowsD, lenF]
  by_cases h1 : (rs.length : Int) = m
  · cases rs with
    | nil => simp at h1; omega
    | cons r rs =>
      have i0 : idxD (rowsD (r :: rs)) (.int 0) = some (.str r) := (show atI ((r :: rs).map D.str) ((0 : Nat) : Int) = _ from atI_nat (by simp))
      have hr := hl r List.mem_cons_self
      rw [h1] at lr
      have l0 : lenF [.str r] = some (.int (r.length : Int)) := by simp only [lenF]; rw [if_pos (by simp only [lim]; omega)]
      have i2 : fz (rowsD (r :: rs)) = .tup ((r :: rs).map .str) := fr
      by_cases h2 : 1 ≤ r.length ∧ r.length ≤ 12
      · have h2a : (1 : Int) ≤ r.length := by omega
        have h2b : (r.length : Int) ≤ 12 := by omega
        have hp := fun (x : List Nat) (hx : x ∈ r :: rs) (o2 o3 : Option D) => ar_row (n := n) (os := os) (L := 0) (mm := some (.int m)) (o2 := o2) (o3 := o3) fr sr i0 hr (hc x hx) (hl x hx)
        have hfor := exec_for (Γ := TT n) (tg := .nm 2) (it := .seq (.var 0)) (b := lb_are_rows_0) (s := ⟨[some (rowsD (r :: rs)), some (.int m), none, none], os⟩) (s1 := ⟨[some (rowsD (r :: rs)), some (.int m), none, none], os⟩) (xs := (r :: rs).map .str) (by
          simp only [evIt, ev, rdV, bnd, fr]
          have hz := strs_fz (r :: rs)
          rw [List.map_cons] at hz
          simp [rowsD, fz, hz, ret, setS])
        obtain ⟨s', ⟨a2, a3, rfl⟩, e2⟩ := forGo_first (f := bodyF (TT n) (.nm 2) lb_are_rows_0) D.str (fun s => ∃ o2 o3, s = (⟨[some (rowsD (r :: rs)), some (.int m), o2, o3], os⟩ : S)) (fun x => if decide (x.length = r.length) && x.all isBit then none else some (D.bl false)) (r :: rs) _ ⟨none, none, rfl⟩ fun x hx s hs => by
          obtain ⟨o2, o3, rfl⟩ := hs
          obtain ⟨a2, a3, e⟩ := hp x hx o2 o3
          exact ⟨_, ⟨a2, a3, rfl⟩, e⟩
        have e := hfor.trans e2
        rw [find_none] at e
        have ho : okR m (r :: rs) = (r :: rs).all fun x => decide (x.length = r.length) && x.all isBit := by
          unfold okR
          rw [decide_eq_true h1]
          simp [h2]
        rw [ho]
        generalize ((r :: rs).all fun x => decide (x.length = r.length) && x.all isBit) = B at *
        generalize hP : rowsD (r :: rs) = P at *
        have eb : b_are_rows = .cons (tN b_are_rows 0) (.cons (tN b_are_rows 1) (.cons (tN b_are_rows 2) .nil)) := rfl
        have t0 : exec (TT n) (tN b_are_rows 0) ⟨[some P, some (.int m), none, none], os⟩ = some (.nx ⟨[some P, some (.int m), none, none], os⟩) := by
          unfold b_are_rows
          simp [tN, execs, exec, ev, evs, evc, evo, evIt, evOps, fillC, ioSl, putB, evPk, evFz, opd, isVar, hasV, fill1, fillP, asg, asgs, Den.view, rdV, mvV, setS, shal_own, shal_fz, shal_ro, shal_int, shal_bl, shal_str, shal_non, shal_tup, fz, fzL, fzO, bnd, ret, lift, Den.thn, sthn, idxD, opF, addD, subD, mulD, modD, fdivD, negD, notD, isNonD, cmpD, grd, isLst, setiM, biF, lenF, small, mutL, smallR, lim, flatD, -idxD, -lenF, fr, sr, lr, i0, l0, h1, h2a, h2b, glo_signs]
        have t1 : exec (TT n) (tN b_are_rows 1) ⟨[some P, some (.int m), none, none], os⟩ = _ := e
        unfold runB startS
        rw [eb]
        have q0 : execs (TT n) (.cons (tN b_are_rows 0) (.cons (tN b_are_rows 1) (.cons (tN b_are_rows 2) .nil))) ⟨[some P, some (.int m), none, none], os⟩ = some (.rt (.bl B) ⟨[some P, some (.int m), a2, a3], os⟩) := by
          simp only [execs, t0, t1, sthn_nx]
          cases B with
          | true => simp [sthn, tN, b_are_rows, execs, exec, ev, evs, evc, evo, evIt, evOps, fillC, ioSl, putB, evPk, evFz, opd, isVar, hasV, fill1, fillP, asg, asgs, Den.view, rdV, mvV, setS, shal_own, shal_fz, shal_ro, shal_int, shal_bl, shal_str, shal_non, shal_tup, fz, fzL, fzO, bnd, ret, lift, Den.thn, sthn, idxD, opF, addD, subD, mulD, modD, fdivD, negD, notD, isNonD, cmpD, grd, isLst, setiM, biF, lenF, small, mutL, smallR, lim, flatD]
          | false => simp [sthn]
        have q1 : execs (TT n) _ ⟨List.map some [P, .int m] ++ List.replicate (4 - [P, D.int m].length) none, os⟩ = _ := q0
        rw [q1]
        simp [outsOf, fz]
      · have ho : okR m (r :: rs) = false := by
          unfold okR
          simp [h2]
        rw [ho]
        have h2' : ¬ ((1 : Int) ≤ r.length ∧ (r.length : Int) ≤ 12) := fun z => h2 ⟨by omega, by omega⟩
        generalize rowsD (r :: rs) = P at *
        unfold runB b_are_rows startS
        by_cases h3 : (1 : Int) ≤ r.length
        · have h4 : ¬ (r.length : Int) ≤ 12 := fun z => h2' ⟨h3, z⟩
          simp [execs, exec, ev, evs, evc, evo, evIt, evOps, fillC, ioSl, putB, evPk, evFz, opd, isVar, hasV, fill1, fillP, asg, asgs, Den.view, rdV, mvV, setS, shal_own, shal_fz, shal_ro, shal_int, shal_bl, shal_str, shal_non, shal_tup, fz, fzL, fzO, bnd, ret, lift, Den.thn, sthn, idxD, opF, addD, subD, mulD, modD, fdivD, negD, notD, isNonD, cmpD, grd, isLst, setiM, biF, lenF, small, mutL, smallR, lim, flatD, -idxD, -lenF, fr, sr, lr, i0, l0, h1, h3, h4, glo_signs, outsOf]
        · simp [execs, exec, ev, evs, evc, evo, evIt, evOps, fillC, ioSl, putB, evPk, evFz, opd, isVar, hasV, fill1, fillP, asg, asgs, Den.view, rdV, mvV, setS, shal_own, shal_fz, shal_ro, shal_int, shal_bl, shal_str, shal_non, shal_tup, fz, fzL, fzO, bnd, ret, lift, Den.thn, sthn, idxD, opF, addD, subD, mulD, modD, fdivD, negD, notD, isNonD, cmpD, grd, isLst, setiM, biF, lenF, small, mutL, smallR, lim, flatD, -idxD, -lenF, fr, sr, lr, i0, l0, h1, h3, glo_signs, outsOf]
  · have ho : okR m rs = false := by
      unfold okR
      simp [h1]
    rw [ho]
    generalize rowsD rs = P at *
    unfold runB b_are_rows startS
    simp [execs, exec, ev, evs, evc, evo, evIt, evOps, fillC, ioSl, putB, evPk, evFz, opd, isVar, hasV, fill1, fillP, asg, asgs, Den.view, rdV, mvV, setS, shal_own, shal_fz, shal_ro, shal_int, shal_bl, shal_str, shal_non, shal_tup, fz, fzL, fzO, bnd, ret, lift, Den.thn, sthn, idxD, opF, addD, subD, mulD, modD, fdivD, negD, notD, isNonD, cmpD, grd, isLst, setiM, biF, lenF, small, mutL, smallR, lim, flatD, -idxD, -lenF, fr, sr, lr, h1, outsOf]
/-- rows of one length, of 0 and 1 -/
def GR (m : Int) (L : Nat) (rs : List (List Nat)) : Prop := (rs.length : Int) = m ∧ 1 ≤ L ∧ L ≤ 12 ∧ ∀ r ∈ rs, r.length = L ∧ r.all isBit = true
theorem bit_lt {c : Nat} (h : isBit c = true) : c < 0x110000 := by
  unfold isBit at h
  have := of_decide_eq_true h
  omega
theorem GR.okc {m : Int} {L : Nat} {rs : List (List Nat)} (h : GR m L rs) : ∀ r ∈ rs, okC r := fun r hr c hc => bit_lt (List.all_eq_true.mp (h.2.2.2 r hr).2 c hc)
theorem GR.len {m : Int} {L : Nat} {rs : List (List Nat)} (h : GR m L rs) : ∀ r ∈ rs, r.length ≤ 1000 := fun r hr => by have := (h.2.2.2 r hr).1; have := h.2.2.1; omega
theorem GR.ok {m : Int} {L : Nat} {rs : List (List Nat)} (h : GR m L rs) (hm : 1 ≤ m) : okR m rs = true := by
  obtain ⟨h1, h2, h3, h4⟩ := h
  cases rs with
  | nil => simp at h1; omega
  | cons r rs =>
    unfold okR
    have hr := (h4 r List.mem_cons_self).1
    have e1 : decide (1 ≤ r.length ∧ r.length ≤ 12) = true := decide_eq_true (by omega)
    have e2 : ((r :: rs).all fun x => decide (x.length = r.length) && x.all isBit) = true := List.all_eq_true.mpr fun x hx => by
      rw [decide_eq_true (by rw [(h4 x hx).1, hr]), (h4 x hx).2]; rfl
    rw [decide_eq_true h1]
    show (true && (decide (1 ≤ r.length ∧ r.length ≤ 12) && ((r :: rs).all fun x => decide (x.length = r.length) && x.all isBit))) = true
    rw [e1, e2]; rfl
def sgn (rs : List (List Nat)) (i : Int) (a : Nat) : Nat := ((rs[i.toNat]?).getD []).getD a 0
def bit (rs : List (List Nat)) (i : Int) (a : Nat) : Bool := decide (sgn rs i a = 49)
def othS (rs : List (List Nat)) (n : Int) (s : List Int) (a : Nat) : List Int := s.filter fun o => decide (o ≠ n) && bit rs o a
def aloneAt (rs : List (List Nat)) (n : Int) (s : List Int) (a : Nat) : Bool := bit rs n a && decide (othS rs n s a = [])
def alone (rs : List (List Nat)) (L : Nat) (n : Int) (s : List Int) : Bool := (List.range L).any fun a => aloneAt rs n s a
theorem row_at {m : Int} {L : Nat} {rs : List (List Nat)} (h : GR m L rs) {i : Int} (h0 : 0 ≤ i) (h1 : i < m) : ∃ r, rs[i.toNat]? = some r ∧ r ∈ rs ∧ r.length = L ∧ idxD (rowsD rs) (.int i) = some (.str r) := by
  have hl : i.toNat < rs.length := by have := h.1; omega
  refine ⟨rs[i.toNat], List.getElem?_eq_getElem hl, List.getElem_mem hl, (h.2.2.2 _ (List.getElem_mem hl)).1, ?_⟩
  have : (rs.map D.str)[i.toNat]? = some (.str rs[i.toNat]) := by rw [List.getElem?_map, List.getElem?_eq_getElem hl]; rfl
  have := atI_nat this
  rw [show ((i.toNat : Nat) : Int) = i by omega] at this
  exact this
theorem sgn_at {m : Int} {L : Nat} {rs : List (List Nat)} (h : GR m L rs) {i : Int} {r : List Nat} (e : rs[i.toNat]? = some r) (hr : r ∈ rs) (hl : r.length = L) {a : Nat} (ha : a < L) : idxD (.str r) (.int (a : Nat)) = some (.str [sgn rs i a]) ∧ sgn rs i a < 0x110000 := by
  have hal : a < r.length := by omega
  have e2 : sgn rs i a = r[a] := by
    unfold sgn
    rw [e]
    simp [List.getD_eq_getElem?_getD, List.getElem?_eq_getElem hal]
  have hlim : r.length ≤ lim := by have := h.2.2.1; simp only [lim]; omega
  refine ⟨?_, by rw [e2]; exact h.okc r hr _ (List.getElem_mem hal)⟩
  have := atI_nat (List.getElem?_eq_getElem hal)
  simp only [idxD]
  rw [if_pos hlim, this, e2]
  rfl
theorem eq_one {c : Nat} (h : c < 0x110000) : eqD (.str [c]) (.str [49]) = some (decide (c = 49)) := by
  rw [eqD_str (by simpa using h) (by decide)]
  congr 1
  simp
theorem enL_signs (r : List Nat) : enL 0 (signs r) = (List.range r.length).map fun a => D.tup [.int (a : Nat), .str [r.getD a 0]] := by
  refine List.ext_getElem? fun i => ?_
  rw [enL_get]
  by_cases hi : i < r.length
  · simp [signs, List.getElem?_eq_getElem hi, List.getD_eq_getElem?_getD, List.getElem?_range hi]
  · rw [List.getElem?_eq_none (by simp [signs]; omega), List.getElem?_eq_none (by simp; omega)]
    rfl
theorem fn_is_alone {n : Nat} : (TT (n + 1)).fn "is_alone" = some ⟨[.val, .val, .val], runB (TT n) 6 [.val, .val, .val] b_is_alone⟩ := rfl
theorem alone_turn {n : Nat} {os : List Ob} {m q : Int} {L : Nat} {rs : List (List Nat)} {s : List Int} (h : GR m L rs) (q0 : 0 ≤ q) (q1 : q < m) (hs : ∀ o ∈ s, 0 ≤ o ∧ o < m) (hsl : s.length ≤ 8) {a : Nat} (ha : a < L) {o3 o4 o5 : Option D} :
    ∃ a3 a4 a5, bodyF (TT n) (.tp [.nm 3, .nm 4]) lb_is_alone_0 (.tup [.int (a : Nat), .str [sgn rs q a]]) ⟨[some (rowsD rs), some (.int q), some (.tup (s.map .int)), o3, o4, o5], os⟩ = some (match (if aloneAt rs q s a then some (D.bl true) else none) with
      | some d => .rt d ⟨[some (rowsD rs), some (.int q), some (.tup (s.map .int)), a3, a4, a5], os⟩
      | none => .nx ⟨[some (rowsD rs), some (.int q), some (.tup (s.map .int)), a3, a4, a5], os⟩) := by
  have fr := rows_fz (rs := rs)
  have sr := rows_sh (rs := rs)
  obtain ⟨r, e, hr, hl, _⟩ := row_at h q0 q1
  have e1 := eq_one (sgn_at h e hr hl ha).2
  unfold aloneAt
  by_cases hb : sgn rs q a = 49
  · have hbt : bit rs q a = true := decide_eq_true hb
    rw [hbt]
    rw [decide_eq_true hb] at e1
    have hc : ∀ f : D → M (Option D), (∀ o ∈ s, ∀ o5, ∃ a5, f (.int o) { (⟨[some (rowsD rs), some (.int q), some (.tup (s.map .int)), some (.int (a : Nat)), some (.str [sgn rs q a]), o5], os⟩ : S) with sl := wipeD [some (rowsD rs), some (.int q), some (.tup (s.map .int)), some (.int (a : Nat)), some (.str [sgn rs q a]), o5] [5] } = some (.val (if decide (o ≠ q) && bit rs o a then some (.int o) else none) ⟨[some (rowsD rs), some (.int q), some (.tup (s.map .int)), some (.int (a : Nat)), some (.str [sgn rs q a]), a5], os⟩)) →
        ∃ a5, lcGo [5] f (s.map .int) [] ⟨[some (rowsD rs), some (.int q), some (.tup (s.map .int)), some (.int (a : Nat)), some (.str [sgn rs q a]), none], os⟩ = some (.val ((othS rs q s a).map .int) ⟨[some (rowsD rs), some (.int q), some (.tup (s.map .int)), some (.int (a : Nat)), some (.str [sgn rs q a]), a5], os⟩) := fun f hf => by
      obtain ⟨s', e, o, rfl⟩ := lcGo_t D.int (own := [5]) (f := f) (fun z => ∃ o5, z = (⟨[some (rowsD rs), some (.int q), some (.tup (s.map .int)), some (.int (a : Nat)), some (.str [sgn rs q a]), o5], os⟩ : S)) (fun o => decide (o ≠ q) && bit rs o a) D.int s [] ⟨[some (rowsD rs), some (.int q), some (.tup (s.map .int)), some (.int (a : Nat)), some (.str [sgn rs q a]), none], os⟩ (fun x hx z hz => by
        obtain ⟨o5, rfl⟩ := hz
        obtain ⟨a5, e⟩ := hf x hx o5
        exact ⟨_, e, a5, rfl⟩) ⟨none, rfl⟩ (by simp [lim]; omega)
      exact ⟨o, by simpa [othS] using e⟩
    refine ⟨some (.int (a : Nat)), some (.str [sgn rs q a]), o5, ?_⟩
    unfold bodyF lb_is_alone_0
    generalize hS : sgn rs q a = z at *
    generalize hP : rowsD rs = P at *
    simp [execs, exec, ev, evs, evc, evo, evIt, evOps, fillC, ioSl, putB, evPk, evFz, opd, isVar, hasV, fill1, fillP, asg, asgs, Den.view, rdV, mvV, setS, shal_own, shal_fz, shal_ro, shal_int, shal_bl, shal_str, shal_non, shal_tup, fz, fzL, fzO, bnd, ret, lift, Den.thn, sthn, idxD, opF, addD, subD, mulD, modD, fdivD, negD, notD, isNonD, cmpD, grd, isLst, setiM, biF, lenF, small, mutL, smallR, lim, flatD, -idxD, -lenF, asgs, fr, sr, e1, wipeD]
    generalize hg : lcGo _ _ _ _ _ = res
    obtain ⟨a5, rfl⟩ : ∃ a5, res = some (.val ((othS rs q s a).map .int) ⟨[some P, some (.int q), some (.tup (s.map .int)), some (.int (a : Nat)), some (.str [z]), a5], os⟩) := by
      rw [← hg]
      refine hc _ fun o ho o5 => ⟨some (.int o), ?_⟩
      obtain ⟨h0, h1⟩ := hs o ho
      by_cases hq : o = q
      · simp [execs, exec, ev, evs, evc, evo, evIt, evOps, fillC, ioSl, putB, evPk, evFz, opd, isVar, hasV, fill1, fillP, asg, asgs, Den.view, rdV, mvV, setS, shal_own, shal_fz, shal_ro, shal_int, shal_bl, shal_str, shal_non, shal_tup, fz, fzL, fzO, bnd, ret, lift, Den.thn, sthn, idxD, opF, addD, subD, mulD, modD, fdivD, negD, notD, isNonD, cmpD, grd, isLst, setiM, biF, lenF, small, mutL, smallR, lim, flatD, wipeD, hq]
      · obtain ⟨r', e', hr', hl', i'⟩ := row_at h h0 h1
        rw [hP] at i'
        obtain ⟨i2, lt⟩ := sgn_at h e' hr' hl' ha
        have e2 := eq_one lt
        have hbb : bit rs o a = decide (sgn rs o a = 49) := rfl
        by_cases hz : sgn rs o a = 49
        · rw [decide_eq_true hz] at e2 hbb
          simp [execs, exec, ev, evs, evc, evo, evIt, evOps, fillC, ioSl, putB, evPk, evFz, opd, isVar, hasV, fill1, fillP, asg, asgs, Den.view, rdV, mvV, setS, shal_own, shal_fz, shal_ro, shal_int, shal_bl, shal_str, shal_non, shal_tup, fz, fzL, fzO, bnd, ret, lift, Den.thn, sthn, idxD, opF, addD, subD, mulD, modD, fdivD, negD, notD, isNonD, cmpD, grd, isLst, setiM, biF, lenF, small, mutL, smallR, lim, flatD, -idxD, wipeD, hq, fr, sr, i', i2, e2, hbb]
        · rw [decide_eq_false hz] at e2 hbb
          simp [execs, exec, ev, evs, evc, evo, evIt, evOps, fillC, ioSl, putB, evPk, evFz, opd, isVar, hasV, fill1, fillP, asg, asgs, Den.view, rdV, mvV, setS, shal_own, shal_fz, shal_ro, shal_int, shal_bl, shal_str, shal_non, shal_tup, fz, fzL, fzO, bnd, ret, lift, Den.thn, sthn, idxD, opF, addD, subD, mulD, modD, fdivD, negD, notD, isNonD, cmpD, grd, isLst, setiM, biF, lenF, small, mutL, smallR, lim, flatD, -idxD, wipeD, hq, fr, sr, i', i2, e2, hbb]
    have e0 : eqD (.lst .fz []) (.lst .fz []) = some true := eqD_lst0 []
    by_cases hn : othS rs q s a = [] <;> simp [execs, exec, ev, evs, evc, evo, evIt, evOps, fillC, ioSl, putB, evPk, evFz, opd, isVar, hasV, fill1, fillP, asg, asgs, Den.view, rdV, mvV, setS, shal_own, shal_fz, shal_ro, shal_int, shal_bl, shal_str, shal_non, shal_tup, fz, fzL, fzO, bnd, ret, lift, Den.thn, sthn, idxD, opF, addD, subD, mulD, modD, fdivD, negD, notD, isNonD, cmpD, grd, isLst, setiM, biF, lenF, small, mutL, smallR, lim, flatD, restD, hn, e0]
  · have hbt : bit rs q a = false := decide_eq_false hb
    rw [hbt]
    rw [decide_eq_false hb] at e1
    refine ⟨some (.int (a : Nat)), some (.str [sgn rs q a]), o5, ?_⟩
    generalize sgn rs q a = z at *
    generalize rowsD rs = P at *
    unfold bodyF lb_is_alone_0
    simp [execs, exec, ev, evs, evc, evo, evIt, evOps, fillC, ioSl, putB, evPk, evFz, opd, isVar, hasV, fill1, fillP, asg, asgs, Den.view, rdV, mvV, setS, shal_own, shal_fz, shal_ro, shal_int, shal_bl, shal_str, shal_non, shal_tup, fz, fzL, fzO, bnd, ret, lift, Den.thn, sthn, idxD, opF, addD, subD, mulD, modD, fdivD, negD, notD, isNonD, cmpD, grd, isLst, setiM, biF, lenF, small, mutL, smallR, lim, flatD, -idxD, asgs, e1]
theorem find_some {β : Type} {xs : List β} {p : β → Bool} {d : D} : (xs.findSome? fun x => if p x then some d else none) = if xs.any p then some d else none := by
  induction xs with
  | nil => rfl
  | cons x xs ih =>
    simp only [List.findSome?_cons, List.any_cons]
    by_cases hp : p x = true
    · simp [hp]
    · simp only [hp, Bool.false_or]; simpa using ih
theorem s_is_alone {n : Nat} {os : List Ob} {m q : Int} {L : Nat} {rs : List (List Nat)} {s : List Int} (h : GR m L rs) (q0 : 0 ≤ q) (q1 : q < m) (hs : ∀ o ∈ s, 0 ≤ o ∧ o < m) (hsl : s.length ≤ 8) : runB (TT n) 6 [.val, .val, .val] b_is_alone [rowsD rs, .int q, .tup (s.map .int)] os = some (.ret (.bl (alone rs L q s)) [] os) := by
  have fr := rows_fz (rs := rs)
  have sr := rows_sh (rs := rs)
  obtain ⟨r, e, hr, hl, i⟩ := row_at h q0 q1
  have hL := h.2.2.1
  have hll : r.length ≤ 1000000 := by omega
  have hfor := exec_for (Γ := TT n) (tg := .tp [.nm 3, .nm 4]) (it := .en (.idx (.var 0) (.var 1))) (b := lb_is_alone_0) (s := ⟨[some (rowsD rs), some (.int q), some (.tup (s.map .int)), none, none, none], os⟩) (s1 := ⟨[some (rowsD rs), some (.int q), some (.tup (s.map .int)), none, none, none], os⟩) (xs := enL 0 (signs r)) (by
    generalize rowsD rs = P at *
    simp [execs, exec, ev, evs, evc, evo, evIt, evOps, fillC, ioSl, putB, evPk, evFz, opd, isVar, hasV, fill1, fillP, asg, asgs, Den.view, rdV, mvV, setS, shal_own, shal_fz, shal_ro, shal_int, shal_bl, shal_str, shal_non, shal_tup, fz, fzL, fzO, bnd, ret, lift, Den.thn, sthn, idxD, opF, addD, subD, mulD, modD, fdivD, negD, notD, isNonD, cmpD, grd, isLst, setiM, biF, lenF, small, mutL, smallR, lim, flatD, -idxD, fr, sr, i, hll])
  rw [enL_signs, hl] at hfor
  have hsg : ∀ a, r.getD a 0 = sgn rs q a := fun a => by
    unfold sgn
    rw [e]; rfl
  simp only [hsg] at hfor
  obtain ⟨s', ⟨a3, a4, a5, rfl⟩, e2⟩ := forGo_first (f := bodyF (TT n) (.tp [.nm 3, .nm 4]) lb_is_alone_0) (fun a : Nat => D.tup [.int (a : Nat), .str [sgn rs q a]]) (fun z => ∃ o3 o4 o5, z = (⟨[some (rowsD rs), some (.int q), some (.tup (s.map .int)), o3, o4, o5], os⟩ : S)) (fun a => if aloneAt rs q s a then some (D.bl true) else none) (List.range L) _ ⟨none, none, none, rfl⟩ fun a ha z hz => by
    obtain ⟨o3, o4, o5, rfl⟩ := hz
    obtain ⟨a3, a4, a5, e⟩ := alone_turn (n := n) (os := os) h q0 q1 hs hsl (List.mem_range.mp ha) (o3 := o3) (o4 := o4) (o5 := o5)
    exact ⟨_, ⟨a3, a4, a5, rfl⟩, e⟩
  have e := hfor.trans e2
  rw [find_some] at e
  have ho : alone rs L q s = (List.range L).any fun a => aloneAt rs q s a := rfl
  rw [ho]
  generalize ((List.range L).any fun a => aloneAt rs q s a) = B at *
  generalize rowsD rs = P at *
  have eb : b_is_alone = .cons (tN b_is_alone 0) (.cons (tN b_is_alone 1) .nil) := rfl
  unfold runB startS
  rw [eb]
  have q0 : execs (TT n) (.cons (tN b_is_alone 0) (.cons (tN b_is_alone 1) .nil)) ⟨[some P, some (.int q), some (.tup (s.map .int)), none, none, none], os⟩ = some (.rt (.bl B) ⟨[some P, some (.int q), some (.tup (s.map .int)), a3, a4, a5], os⟩) := by
    have t1 : exec (TT n) (tN b_is_alone 0) ⟨[some P, some (.int q), some (.tup (s.map .int)), none, none, none], os⟩ = _ := e
    simp only [execs, t1, sthn_nx]
    cases B with
    | true => simp [sthn]
    | false => simp [sthn, tN, b_is_alone, execs, exec, ev, evs, evc, evo, evIt, evOps, fillC, ioSl, putB, evPk, evFz, opd, isVar, hasV, fill1, fillP, asg, asgs, Den.view, rdV, mvV, setS, shal_own, shal_fz, shal_ro, shal_int, shal_bl, shal_str, shal_non, shal_tup, fz, fzL, fzO, bnd, ret, lift, Den.thn, sthn, idxD, opF, addD, subD, mulD, modD, fdivD, negD, notD, isNonD, cmpD, grd, isLst, setiM, biF, lenF, small, mutL, smallR, lim, flatD]
  have q1 : execs (TT n) _ ⟨List.map some [P, .int q, .tup (s.map .int)] ++ List.replicate (6 - [P, D.int q, .tup (s.map .int)].length) none, os⟩ = _ := q0
  rw [q1]
  simp [outsOf, fz]
def unhS (al : Int → List Int → Bool) (s : List Int) : Option D := s.findSome? fun x => if al x s then none else some (.tup [tupI s, .int x])
def unhF (rs : List (List Nat)) (L : Nat) (m q : Int) : Option D := (setsL m q).findSome? fun s => unhS (fun x s => alone rs L x s) s
theorem fn_unheard {n : Nat} : (TT (n + 3)).fn "unheard" = some ⟨[.val, .val], runB (TT (n + 2)) 4 [.val, .val] b_unheard⟩ := rfl
theorem tupI_fz (s : List Int) : fz (tupI s) = tupI s := by simp only [tupI, fz, ints_fz]
theorem tupI_sh (s : List Int) : shal (tupI s) = tupI s := tupI_fz s
theorem execs_fin {Γ : Tb} {t : T} {s : S} {r : Rs} (h : exec Γ t s = some r) : execs Γ (.cons t .nil) s = some r := by
  simp only [execs, h]
  cases r <;> rfl
theorem unh_turn {n : Nat} {os : List Ob} {m x : Int} {L : Nat} {rs : List (List Nat)} {s : List Int} {mm o3 : Option D} (h : GR m L rs) (x0 : 0 ≤ x) (x1 : x < m) (hs : ∀ o ∈ s, 0 ≤ o ∧ o < m) (hsl : s.length ≤ 8) :
    bodyF (TT (n + 1)) (.nm 3) lb_unheard_1 (.int x) ⟨[some (rowsD rs), mm, some (tupI s), o3], os⟩ = some (match (if alone rs L x s then none else some (D.tup [tupI s, .int x])) with
      | some d => .rt d ⟨[some (rowsD rs), mm, some (tupI s), some (.int x)], os⟩
      | none => .nx ⟨[some (rowsD rs), mm, some (tupI s), some (.int x)], os⟩) := by
  have e := s_is_alone (n := n) (os := os) h x0 x1 hs hsl
  have fr := rows_fz (rs := rs)
  have sr := rows_sh (rs := rs)
  have ft := tupI_fz s
  have st := tupI_sh s
  change runB (TT n) 6 [.val, .val, .val] b_is_alone [rowsD rs, .int x, tupI s] os = _ at e
  generalize rowsD rs = P at *
  generalize tupI s = Z at *
  generalize alone rs L x s = B at *
  unfold bodyF lb_unheard_1
  cases B <;> simp [execs, exec, ev, evs, evc, evo, evIt, evOps, fillC, ioSl, putB, evPk, evFz, opd, isVar, hasV, fill1, fillP, asg, asgs, Den.view, rdV, mvV, setS, shal_own, shal_fz, shal_ro, shal_int, shal_bl, shal_str, shal_non, shal_tup, fz, fzL, fzO, bnd, ret, lift, Den.thn, sthn, idxD, opF, addD, subD, mulD, modD, fdivD, negD, notD, isNonD, cmpD, grd, isLst, setiM, biF, lenF, small, mutL, smallR, lim, flatD, fn_is_alone, callF, fr, sr, ft, st, e]
theorem unh_in {n : Nat} {os : List Ob} {m : Int} {L : Nat} {rs : List (List Nat)} {s : List Int} {mm o2 o3 : Option D} (h : GR m L rs) (hs : ∀ o ∈ s, 0 ≤ o ∧ o < m) (hsl : s.length ≤ 8) :
    ∃ a3, bodyF (TT (n + 1)) (.nm 2) lb_unheard_0 (tupI s) ⟨[some (rowsD rs), mm, o2, o3], os⟩ = some (match unhS (fun x s => alone rs L x s) s with
      | some d => .rt d ⟨[some (rowsD rs), mm, some (tupI s), a3], os⟩
      | none => .nx ⟨[some (rowsD rs), mm, some (tupI s), a3], os⟩) := by
  have ft := tupI_fz s
  have hfor := exec_for (Γ := TT (n + 1)) (tg := .nm 3) (it := .seq (.var 2)) (b := lb_unheard_1) (s := ⟨[some (rowsD rs), mm, some (tupI s), o3], os⟩) (s1 := ⟨[some (rowsD rs), mm, some (tupI s), o3], os⟩) (xs := s.map .int) (by
    simp only [evIt, ev, rdV, bnd]
    simp [tupI, fz, ints_fz, ret, setS])
  obtain ⟨s', ⟨a3, rfl⟩, e2⟩ := forGo_first (f := bodyF (TT (n + 1)) (.nm 3) lb_unheard_1) D.int (fun z => ∃ o3, z = (⟨[some (rowsD rs), mm, some (tupI s), o3], os⟩ : S)) (fun x => if alone rs L x s then none else some (D.tup [tupI s, .int x])) s _ ⟨o3, rfl⟩ fun x hx z hz => by
    obtain ⟨o3, rfl⟩ := hz
    exact ⟨_, ⟨_, rfl⟩, unh_turn h (hs x hx).1 (hs x hx).2 hs hsl⟩
  refine ⟨a3, ?_⟩
  have e := execs_fin (hfor.trans e2)
  have hb : bodyF (TT (n + 1)) (.nm 2) lb_unheard_0 (tupI s) ⟨[some (rowsD rs), mm, o2, o3], os⟩ = execs (TT (n + 1)) lb_unheard_0 ⟨[some (rowsD rs), mm, some (tupI s), o3], os⟩ := by
    unfold bodyF
    simp [asg, setS]
  rw [hb]
  exact e
theorem sets_l8 {m q : Int} (hm : 0 ≤ m) (h8 : m ≤ 8) (hq : 0 ≤ q) : ∀ s ∈ setsL m q, (∀ o ∈ s, 0 ≤ o ∧ o < m) ∧ s.length ≤ 8 ∧ s.Pairwise (· < ·) := fun s hs => by
  obtain ⟨h1, h2⟩ := setsL_ok hm hq s hs
  refine ⟨h2, ?_, h1⟩
  rcases rsg_lt (m := m) (a := 0) h1 h2 with h | h
  · omega
  · rw [h]; simp
theorem s_unheard {n : Nat} {os : List Ob} {m q : Int} {L : Nat} {rs : List (List Nat)} (h : GR m L rs) (h1 : 1 ≤ m) (h8 : m ≤ 8) (q1 : 1 ≤ q) (qm : q ≤ m) : runB (TT (n + 4)) 4 [.val, .val] b_unheard [rowsD rs, .int q] os = some (.ret ((unhF rs L m q).getD .non) [] os) := by
  have fr := rows_fz (rs := rs)
  have sr := rows_sh (rs := rs)
  have lr : lenF [rowsD rs] = some (.int m) := by
    have := h.1
    simp [rowsD, lenF, this]
  have en := s_need_most (n := n) (os := os) (m := m) (k := q) q1 qm h8
  have ea := s_are_rows (n := n + 3) (os := os) (m := m) h.okc h.len h1
  rw [h.ok h1] at ea
  have es := s_all_sets (n := n + 3) (os := os) (m := m) (k := q) (by omega) h8 (by omega)
  have hz := tups_fz (setsL m q)
  have hS := sets_l8 (m := m) (q := q) (by omega) h8 (by omega)
  have hin := fun (s : List Int) (hs : s ∈ setsL m q) (o2 o3 : Option D) => unh_in (n := n + 3) (os := os) (mm := some (.int q)) (o2 := o2) (o3 := o3) h (hS s hs).1 (hS s hs).2.1
  have eb : b_unheard = .cons (tN b_unheard 0) (.cons (tN b_unheard 1) (.cons (tN b_unheard 2) (.cons (tN b_unheard 3) .nil))) := rfl
  have hu : unhF rs L m q = (setsL m q).findSome? fun s => unhS (fun x s => alone rs L x s) s := rfl
  rw [hu]
  have t0 : exec (TT (n + 4)) (tN b_unheard 0) ⟨[some (rowsD rs), some (.int q), none, none], os⟩ = some (.nx ⟨[some (rowsD rs), some (.int q), none, none], os⟩) := by
    generalize rowsD rs = P at *
    unfold b_unheard
    simp [tN, execs, exec, ev, evs, evc, evo, evIt, evOps, fillC, ioSl, putB, evPk, evFz, opd, isVar, hasV, fill1, fillP, asg, asgs, Den.view, rdV, mvV, setS, shal_own, shal_fz, shal_ro, shal_int, shal_bl, shal_str, shal_non, shal_tup, fz, fzL, fzO, bnd, ret, lift, Den.thn, sthn, idxD, opF, addD, subD, mulD, modD, fdivD, negD, notD, isNonD, cmpD, grd, isLst, setiM, biF, lenF, small, mutL, smallR, lim, flatD, -lenF, fr, sr, lr, fn_need_most (n := n + 1), callF, en]
  have t1 : exec (TT (n + 4)) (tN b_unheard 1) ⟨[some (rowsD rs), some (.int q), none, none], os⟩ = some (.nx ⟨[some (rowsD rs), some (.int q), none, none], os⟩) := by
    generalize rowsD rs = P at *
    unfold b_unheard
    simp [tN, execs, exec, ev, evs, evc, evo, evIt, evOps, fillC, ioSl, putB, evPk, evFz, opd, isVar, hasV, fill1, fillP, asg, asgs, Den.view, rdV, mvV, setS, shal_own, shal_fz, shal_ro, shal_int, shal_bl, shal_str, shal_non, shal_tup, fz, fzL, fzO, bnd, ret, lift, Den.thn, sthn, idxD, opF, addD, subD, mulD, modD, fdivD, negD, notD, isNonD, cmpD, grd, isLst, setiM, biF, lenF, small, mutL, smallR, lim, flatD, -lenF, fr, sr, lr, fn_are_rows, callF, ea]
  have hfor := exec_for (Γ := TT (n + 4)) (tg := .nm 2) (it := .seq (.cal "all_sets" (.cons (.bi .len (.cons (.var 0) .nil)) (.cons (.var 1) .nil)))) (b := lb_unheard_0) (s := ⟨[some (rowsD rs), some (.int q), none, none], os⟩) (s1 := ⟨[some (rowsD rs), some (.int q), none, none], os⟩) (xs := (setsL m q).map tupI) (by
    generalize rowsD rs = P at *
    simp [execs, exec, ev, evs, evc, evo, evIt, evOps, fillC, ioSl, putB, evPk, evFz, opd, isVar, hasV, fill1, fillP, asg, asgs, Den.view, rdV, mvV, setS, shal_own, shal_fz, shal_ro, shal_int, shal_bl, shal_str, shal_non, shal_tup, fz, fzL, fzO, bnd, ret, lift, Den.thn, sthn, idxD, opF, addD, subD, mulD, modD, fdivD, negD, notD, isNonD, cmpD, grd, isLst, setiM, biF, lenF, small, mutL, smallR, lim, flatD, -lenF, fr, sr, lr, fn_all_sets (n := n + 1), callF, es, hz])
  obtain ⟨s', ⟨a2, a3, rfl⟩, e2⟩ := forGo_first (f := bodyF (TT (n + 4)) (.nm 2) lb_unheard_0) tupI (fun z => ∃ o2 o3, z = (⟨[some (rowsD rs), some (.int q), o2, o3], os⟩ : S)) (fun s => unhS (fun x s => alone rs L x s) s) (setsL m q) _ ⟨none, none, rfl⟩ fun s hs z hz => by
    obtain ⟨o2, o3, rfl⟩ := hz
    obtain ⟨a3, e⟩ := hin s hs o2 o3
    exact ⟨_, ⟨_, _, rfl⟩, e⟩
  have t2 := hfor.trans e2
  generalize hU : ((setsL m q).findSome? fun s => unhS (fun x s => alone rs L x s) s) = U at *
  have hUz : ∀ d, U = some d → fz d = d := fun d hd => by
    rw [hd] at hU
    obtain ⟨s, _, e⟩ := List.exists_of_findSome?_eq_some hU
    obtain ⟨x, _, e'⟩ := List.exists_of_findSome?_eq_some e
    split at e'
    · cases e'
    · cases e'
      simp only [fz, fzL, tupI_fz]
  generalize rowsD rs = P at *
  have t2' : exec (TT (n + 4)) (tN b_unheard 2) ⟨[some P, some (.int q), none, none], os⟩ = _ := t2
  unfold runB startS
  rw [eb]
  have q0 : execs (TT (n + 4)) (.cons (tN b_unheard 0) (.cons (tN b_unheard 1) (.cons (tN b_unheard 2) (.cons (tN b_unheard 3) .nil)))) ⟨[some P, some (.int q), none, none], os⟩ = some (.rt (U.getD .non) ⟨[some P, some (.int q), a2, a3], os⟩) := by
    simp only [execs, t0, t1, t2', sthn_nx]
    cases U with
    | some d => simp [sthn]
    | none => simp [sthn, tN, b_unheard, execs, exec, ev, evs, evc, evo, evIt, evOps, fillC, ioSl, putB, evPk, evFz, opd, isVar, hasV, fill1, fillP, asg, asgs, Den.view, rdV, mvV, setS, shal_own, shal_fz, shal_ro, shal_int, shal_bl, shal_str, shal_non, shal_tup, fz, fzL, fzO, bnd, ret, lift, Den.thn, sthn, idxD, opF, addD, subD, mulD, modD, fdivD, negD, notD, isNonD, cmpD, grd, isLst, setiM, biF, lenF, small, mutL, smallR, lim, flatD]
  have q1 : execs (TT (n + 4)) _ ⟨List.map some [P, .int q] ++ List.replicate (4 - [P, D.int q].length) none, os⟩ = _ := q0
  rw [q1]
  cases U with
  | some d => simp [outsOf, hUz d rfl]
  | none => simp [outsOf, fz]
def spkS (rs : List (List Nat)) (s : List Int) (a : Nat) : List Int := s.filter fun o => bit rs o a
def lawAt (rs : List (List Nat)) (x : Int) (s : List Int) (a : Nat) : Bool := decide (spkS rs s a = [x])
def lalone (rs : List (List Nat)) (L : Nat) (x : Int) (s : List Int) : Bool := (List.range L).any fun a => lawAt rs x s a
theorem one_of {l : List Int} {x : Int} (hn : l.Nodup) (h : ∀ y ∈ l, y = x) (hx : x ∈ l) : l = [x] := by
  cases l with
  | nil => cases hx
  | cons y l =>
    have hy := h y List.mem_cons_self
    subst hy
    cases l with
    | nil => rfl
    | cons z l =>
      have hz := h z (by simp)
      subst hz
      simp at hn
theorem law_at {rs : List (List Nat)} {x : Int} {s : List Int} {a : Nat} (hn : s.Nodup) (hx : x ∈ s) : lawAt rs x s a = aloneAt rs x s a := by
  unfold lawAt aloneAt
  rw [Bool.eq_iff_iff, decide_eq_true_eq, Bool.and_eq_true, decide_eq_true_eq]
  unfold spkS othS
  constructor
  · intro h
    have h1 : x ∈ s.filter fun o => bit rs o a := by rw [h]; simp
    refine ⟨(List.mem_filter.mp h1).2, ?_⟩
    have : (s.filter fun o => decide (o ≠ x) && bit rs o a) = (s.filter fun o => bit rs o a).filter fun o => decide (o ≠ x) := by
      rw [List.filter_filter]
    rw [this, h]
    simp
  · rintro ⟨h1, h2⟩
    refine one_of (hn.filter _) (fun y hy => ?_) (List.mem_filter.mpr ⟨hx, h1⟩)
    obtain ⟨a1, a2⟩ := List.mem_filter.mp hy
    by_cases e : y = x
    · exact e
    · exact absurd (List.filter_eq_nil_iff.mp h2 y a1) (by simp [e, a2])
theorem lalone_eq {rs : List (List Nat)} {L : Nat} {x : Int} {s : List Int} (hn : s.Nodup) (hx : x ∈ s) : lalone rs L x s = alone rs L x s := by
  unfold lalone alone
  congr 1
  funext a
  exact law_at hn hx
theorem eq_list1 (l : List Int) (x : Int) : eqD (.lst .fz (l.map .int)) (.lst .fz [.int x]) = some (decide (l = [x])) := eqD_lst l [x]
theorem lu_at {n : Nat} {os : List Ob} {m x : Int} {L : Nat} {rs : List (List Nat)} {s : List Int} {mm o5 o6 o7 : Option D} {B : Bool} (h : GR m L rs) (hs : ∀ o ∈ s, 0 ≤ o ∧ o < m) (hsl : s.length ≤ 8) {a : Nat} (ha : a < L) :
    ∃ a6 a7, bodyF (TT n) (.nm 5) lb__law_unheard_2 (.int (a : Nat)) ⟨[some (rowsD rs), mm, some (tupI s), some (.int x), some (.bl B), o5, o6, o7], os⟩ = some (.nx ⟨[some (rowsD rs), mm, some (tupI s), some (.int x), some (.bl (B || lawAt rs x s a)), some (.int (a : Nat)), a6, a7], os⟩) := by
  have fr := rows_fz (rs := rs)
  have sr := rows_sh (rs := rs)
  have hc : ∀ f : D → M (Option D), (∀ o ∈ s, ∀ o7, ∃ a7, f (.int o) { (⟨[some (rowsD rs), mm, some (.tup (s.map .int)), some (.int x), some (.bl B), some (.int (a : Nat)), o6, o7], os⟩ : S) with sl := wipeD [some (rowsD rs), mm, some (.tup (s.map .int)), some (.int x), some (.bl B), some (.int (a : Nat)), o6, o7] [7] } = some (.val (if bit rs o a then some (.int o) else none) ⟨[some (rowsD rs), mm, some (.tup (s.map .int)), some (.int x), some (.bl B), some (.int (a : Nat)), o6, a7], os⟩)) →
      ∃ a7, lcGo [7] f (s.map .int) [] ⟨[some (rowsD rs), mm, some (.tup (s.map .int)), some (.int x), some (.bl B), some (.int (a : Nat)), o6, none], os⟩ = some (.val ((spkS rs s a).map .int) ⟨[some (rowsD rs), mm, some (.tup (s.map .int)), some (.int x), some (.bl B), some (.int (a : Nat)), o6, a7], os⟩) := fun f hf => by
    obtain ⟨s', e, o, rfl⟩ := lcGo_t D.int (own := [7]) (f := f) (fun z => ∃ o7, z = (⟨[some (rowsD rs), mm, some (.tup (s.map .int)), some (.int x), some (.bl B), some (.int (a : Nat)), o6, o7], os⟩ : S)) (fun o => bit rs o a) D.int s [] ⟨[some (rowsD rs), mm, some (.tup (s.map .int)), some (.int x), some (.bl B), some (.int (a : Nat)), o6, none], os⟩ (fun y hy z hz => by
      obtain ⟨o7, rfl⟩ := hz
      obtain ⟨a7, e⟩ := hf y hy o7
      exact ⟨_, e, a7, rfl⟩) ⟨none, rfl⟩ (by simp [lim]; omega)
    exact ⟨o, by simpa [spkS] using e⟩
  have key : ∀ f : D → M (Option D), f = (fun y => bnd (asg (.nm 7) y) fun _ => bnd (evc (TT n) (.yes (.op2 .eq (.idx (.idx (.var 0) (.var 7)) (.var 5)) (.cst (.str [49]))))) fun b => if b then bnd (rdV 7) fun d => ret (some d) else ret none) → ∀ o ∈ s, ∀ o7, ∃ a7, f (.int o) { (⟨[some (rowsD rs), mm, some (.tup (s.map .int)), some (.int x), some (.bl B), some (.int (a : Nat)), o6, o7], os⟩ : S) with sl := wipeD [some (rowsD rs), mm, some (.tup (s.map .int)), some (.int x), some (.bl B), some (.int (a : Nat)), o6, o7] [7] } = some (.val (if bit rs o a then some (.int o) else none) ⟨[some (rowsD rs), mm, some (.tup (s.map .int)), some (.int x), some (.bl B), some (.int (a : Nat)), o6, a7], os⟩) := fun f hf o ho o7 => by
    subst hf
    refine ⟨some (.int o), ?_⟩
    obtain ⟨h0, h1⟩ := hs o ho
    obtain ⟨r', e', hr', hl', i'⟩ := row_at h h0 h1
    obtain ⟨i2, lt⟩ := sgn_at h e' hr' hl' ha
    have e2 := eq_one lt
    have hbb : bit rs o a = decide (sgn rs o a = 49) := rfl
    generalize rowsD rs = P at *
    by_cases hz : sgn rs o a = 49
    · rw [decide_eq_true hz] at e2 hbb
      simp [execs, exec, ev, evs, evc, evo, evIt, evOps, fillC, ioSl, putB, evPk, evFz, opd, isVar, hasV, fill1, fillP, asg, asgs, Den.view, rdV, mvV, setS, shal_own, shal_fz, shal_ro, shal_int, shal_bl, shal_str, shal_non, shal_tup, fz, fzL, fzO, bnd, ret, lift, Den.thn, sthn, idxD, opF, addD, subD, mulD, modD, fdivD, negD, notD, isNonD, cmpD, grd, isLst, setiM, biF, lenF, small, mutL, smallR, lim, flatD, -idxD, wipeD, fr, sr, i', i2, e2, hbb]
    · rw [decide_eq_false hz] at e2 hbb
      simp [execs, exec, ev, evs, evc, evo, evIt, evOps, fillC, ioSl, putB, evPk, evFz, opd, isVar, hasV, fill1, fillP, asg, asgs, Den.view, rdV, mvV, setS, shal_own, shal_fz, shal_ro, shal_int, shal_bl, shal_str, shal_non, shal_tup, fz, fzL, fzO, bnd, ret, lift, Den.thn, sthn, idxD, opF, addD, subD, mulD, modD, fdivD, negD, notD, isNonD, cmpD, grd, isLst, setiM, biF, lenF, small, mutL, smallR, lim, flatD, -idxD, wipeD, fr, sr, i', i2, e2, hbb]
  obtain ⟨a7, e⟩ := hc _ (key _ rfl)
  have hl := eq_list1 (spkS rs s a) x
  have hz := ints_fz (spkS rs s a)
  refine ⟨some (.lst .own ((spkS rs s a).map .int)), o7, ?_⟩
  unfold lawAt
  generalize spkS rs s a = Y at *
  have t0 : exec (TT n) (tN lb__law_unheard_2 0) ⟨[some (rowsD rs), mm, some (tupI s), some (.int x), some (.bl B), some (.int (a : Nat)), o6, o7], os⟩ = some (.nx ⟨[some (rowsD rs), mm, some (tupI s), some (.int x), some (.bl B), some (.int (a : Nat)), some (.lst .own (Y.map .int)), o7], os⟩) := by
    clear hc key
    generalize rowsD rs = P at *
    unfold lb__law_unheard_2
    simp only [tN, exec, ev, evIt, bnd, rdV]
    simp [tupI, fz, ints_fz, ret, setS, wipeD]
    rw [e]
    simp [Den.thn, asg, setS, restD]
  have t1 : exec (TT n) (tN lb__law_unheard_2 1) ⟨[some (rowsD rs), mm, some (tupI s), some (.int x), some (.bl B), some (.int (a : Nat)), some (.lst .own (Y.map .int)), o7], os⟩ = some (.nx ⟨[some (rowsD rs), mm, some (tupI s), some (.int x), some (.bl (B || decide (Y = [x]))), some (.int (a : Nat)), some (.lst .own (Y.map .int)), o7], os⟩) := by
    clear hc key
    generalize rowsD rs = P at *
    generalize tupI s = Z at *
    unfold lb__law_unheard_2
    cases B with
    | true => simp [tN, execs, exec, ev, evs, evc, evo, evIt, evOps, fillC, ioSl, putB, evPk, evFz, opd, isVar, hasV, fill1, fillP, asg, asgs, Den.view, rdV, mvV, setS, shal_own, shal_fz, shal_ro, shal_int, shal_bl, shal_str, shal_non, shal_tup, fz, fzL, fzO, bnd, ret, lift, Den.thn, sthn, idxD, opF, addD, subD, mulD, modD, fdivD, negD, notD, isNonD, cmpD, grd, isLst, setiM, biF, lenF, small, mutL, smallR, lim, flatD]
    | false => simp [tN, execs, exec, ev, evs, evc, evo, evIt, evOps, fillC, ioSl, putB, evPk, evFz, opd, isVar, hasV, fill1, fillP, asg, asgs, Den.view, rdV, mvV, setS, shal_own, shal_fz, shal_ro, shal_int, shal_bl, shal_str, shal_non, shal_tup, fz, fzL, fzO, bnd, ret, lift, Den.thn, sthn, idxD, opF, addD, subD, mulD, modD, fdivD, negD, notD, isNonD, cmpD, grd, isLst, setiM, biF, lenF, small, mutL, smallR, lim, flatD, hl, hz]
  have eb : lb__law_unheard_2 = .cons (tN lb__law_unheard_2 0) (.cons (tN lb__law_unheard_2 1) .nil) := rfl
  unfold bodyF
  rw [eb]
  simp [asg, setS, execs, t0, t1]
theorem any_succ {p : Nat → Bool} (k : Nat) : (List.range (k + 1)).any p = ((List.range k).any p || p k) := by
  rw [List.range_succ, List.any_append]
  simp
theorem lu_turn {n : Nat} {os : List Ob} {m x : Int} {L : Nat} {rs : List (List Nat)} {s : List Int} {mm o3 o4 o5 o6 o7 : Option D} (h : GR m L rs) (h1 : 1 ≤ m) (hs : ∀ o ∈ s, 0 ≤ o ∧ o < m) (hsl : s.length ≤ 8) :
    ∃ a4 a5 a6 a7, bodyF (TT n) (.nm 3) lb__law_unheard_1 (.int x) ⟨[some (rowsD rs), mm, some (tupI s), o3, o4, o5, o6, o7], os⟩ = some (match (if lalone rs L x s then none else some (D.tup [tupI s, .int x])) with
      | some d => .rt d ⟨[some (rowsD rs), mm, some (tupI s), some (.int x), a4, a5, a6, a7], os⟩
      | none => .nx ⟨[some (rowsD rs), mm, some (tupI s), some (.int x), a4, a5, a6, a7], os⟩) := by
  have fr := rows_fz (rs := rs)
  have sr := rows_sh (rs := rs)
  have ft := tupI_fz s
  obtain ⟨r, e, hr, hl, i0⟩ := row_at h (Int.le_refl 0) (by omega)
  have hL := h.2.2.1
  have l0 : lenF [.str r] = some (.int (L : Int)) := by simp only [lenF]; rw [if_pos (by simp only [lim]; omega), hl]
  have hm1 : -4611686018427387904 ≤ (L : Int) := by omega
  have hm2 : (L : Int) ≤ 1000000 := by omega
  have hfor := exec_for (Γ := TT n) (tg := .nm 5) (it := .rng1 (.bi .len (.cons (.idx (.var 0) (.cst (.int 0))) .nil))) (b := lb__law_unheard_2) (s := ⟨[some (rowsD rs), mm, some (tupI s), some (.int x), some (.bl false), o5, o6, o7], os⟩) (s1 := ⟨[some (rowsD rs), mm, some (tupI s), some (.int x), some (.bl false), o5, o6, o7], os⟩) (xs := rngL 0 (L : Int)) (by
    generalize rowsD rs = P at *
    simp [execs, exec, ev, evs, evc, evo, evIt, evOps, fillC, ioSl, putB, evPk, evFz, opd, isVar, hasV, fill1, fillP, asg, asgs, Den.view, rdV, mvV, setS, shal_own, shal_fz, shal_ro, shal_int, shal_bl, shal_str, shal_non, shal_tup, fz, fzL, fzO, bnd, ret, lift, Den.thn, sthn, idxD, opF, addD, subD, mulD, modD, fdivD, negD, notD, isNonD, cmpD, grd, isLst, setiM, biF, lenF, small, mutL, smallR, lim, flatD, -idxD, -lenF, fr, sr, i0, l0, hm2])
  obtain ⟨s', e2, a5, a6, a7, rfl⟩ := forGo_ex (f := bodyF (TT n) (.nm 5) lb__law_unheard_2) (fun (k : Nat) z => ∃ o5 o6 o7, z = (⟨[some (rowsD rs), mm, some (tupI s), some (.int x), some (.bl ((List.range k).any fun a => lawAt rs x s a)), o5, o6, o7], os⟩ : S)) (rngL 0 (L : Int)) 0 (fun i y z hy hz => by
    obtain ⟨o5, o6, o7, rfl⟩ := hz
    obtain ⟨rfl, hi⟩ := rng_get hy
    simp only [Nat.zero_add]
    obtain ⟨a6, a7, e⟩ := lu_at (n := n) (os := os) (mm := mm) (x := x) (o5 := o5) (o6 := o6) (o7 := o7) (B := (List.range i).any fun a => lawAt rs x s a) h hs hsl hi
    exact ⟨_, e, _, _, _, by rw [any_succ]⟩) _ ⟨o5, o6, o7, rfl⟩
  have hn : (rngL 0 (L : Int)).length = L := by simp [rngL]
  have e3 := hfor.trans e2
  rw [Nat.zero_add, hn] at e3
  have hla : lalone rs L x s = (List.range L).any fun a => lawAt rs x s a := rfl
  rw [hla]
  generalize ((List.range L).any fun a => lawAt rs x s a) = B at *
  refine ⟨some (.bl B), a5, a6, a7, ?_⟩
  have eb : lb__law_unheard_1 = .cons (tN lb__law_unheard_1 0) (.cons (tN lb__law_unheard_1 1) (.cons (tN lb__law_unheard_1 2) .nil)) := rfl
  generalize rowsD rs = P at *
  have t0 : exec (TT n) (tN lb__law_unheard_1 0) ⟨[some P, mm, some (tupI s), some (.int x), o4, o5, o6, o7], os⟩ = some (.nx ⟨[some P, mm, some (tupI s), some (.int x), some (.bl false), o5, o6, o7], os⟩) := by
    generalize tupI s = Z at *
    unfold lb__law_unheard_1
    simp [tN, execs, exec, ev, evs, evc, evo, evIt, evOps, fillC, ioSl, putB, evPk, evFz, opd, isVar, hasV, fill1, fillP, asg, asgs, Den.view, rdV, mvV, setS, shal_own, shal_fz, shal_ro, shal_int, shal_bl, shal_str, shal_non, shal_tup, fz, fzL, fzO, bnd, ret, lift, Den.thn, sthn, idxD, opF, addD, subD, mulD, modD, fdivD, negD, notD, isNonD, cmpD, grd, isLst, setiM, biF, lenF, small, mutL, smallR, lim, flatD]
  have t1 : exec (TT n) (tN lb__law_unheard_1 1) ⟨[some P, mm, some (tupI s), some (.int x), some (.bl false), o5, o6, o7], os⟩ = some (.nx ⟨[some P, mm, some (tupI s), some (.int x), some (.bl B), a5, a6, a7], os⟩) := e3
  have t2 : exec (TT n) (tN lb__law_unheard_1 2) ⟨[some P, mm, some (tupI s), some (.int x), some (.bl B), a5, a6, a7], os⟩ = some (match (if B then none else some (D.tup [tupI s, .int x])) with
      | some d => .rt d ⟨[some P, mm, some (tupI s), some (.int x), some (.bl B), a5, a6, a7], os⟩
      | none => .nx ⟨[some P, mm, some (tupI s), some (.int x), some (.bl B), a5, a6, a7], os⟩) := by
    generalize tupI s = Z at *
    unfold lb__law_unheard_1
    cases B <;> simp [tN, execs, exec, ev, evs, evc, evo, evIt, evOps, fillC, ioSl, putB, evPk, evFz, opd, isVar, hasV, fill1, fillP, asg, asgs, Den.view, rdV, mvV, setS, shal_own, shal_fz, shal_ro, shal_int, shal_bl, shal_str, shal_non, shal_tup, fz, fzL, fzO, bnd, ret, lift, Den.thn, sthn, idxD, opF, addD, subD, mulD, modD, fdivD, negD, notD, isNonD, cmpD, grd, isLst, setiM, biF, lenF, small, mutL, smallR, lim, flatD, ft]
  unfold bodyF
  rw [eb]
  simp only [asg, setS, execs, Den.thn]
  simp only [t0, t1, t2, sthn_nx, List.length_cons, List.set]
  cases B <;> simp [sthn, t0, t1, t2]
theorem findSome_congr {α β : Type} {f g : α → Option β} : ∀ {xs : List α}, (∀ x ∈ xs, f x = g x) → xs.findSome? f = xs.findSome? g
  | [], _ => rfl
  | x :: xs, h => by
    simp only [List.findSome?_cons]
    rw [h x List.mem_cons_self, findSome_congr fun y hy => h y (List.mem_cons_of_mem _ hy)]
theorem lu_in {n : Nat} {os : List Ob} {m : Int} {L : Nat} {rs : List (List Nat)} {s : List Int} {mm o2 o3 o4 o5 o6 o7 : Option D} (h : GR m L rs) (h1 : 1 ≤ m) (hs : ∀ o ∈ s, 0 ≤ o ∧ o < m) (hsl : s.length ≤ 8) (hp : s.Pairwise (· < ·)) :
    ∃ a3 a4 a5 a6 a7, bodyF (TT n) (.nm 2) lb__law_unheard_0 (tupI s) ⟨[some (rowsD rs), mm, o2, o3, o4, o5, o6, o7], os⟩ = some (match unhS (fun x s => alone rs L x s) s with
      | some d => .rt d ⟨[some (rowsD rs), mm, some (tupI s), a3, a4, a5, a6, a7], os⟩
      | none => .nx ⟨[some (rowsD rs), mm, some (tupI s), a3, a4, a5, a6, a7], os⟩) := by
  have hfor := exec_for (Γ := TT n) (tg := .nm 3) (it := .seq (.var 2)) (b := lb__law_unheard_1) (s := ⟨[some (rowsD rs), mm, some (tupI s), o3, o4, o5, o6, o7], os⟩) (s1 := ⟨[some (rowsD rs), mm, some (tupI s), o3, o4, o5, o6, o7], os⟩) (xs := s.map .int) (by
    simp only [evIt, ev, rdV, bnd]
    simp [tupI, fz, ints_fz, ret, setS])
  obtain ⟨s', ⟨a3, a4, a5, a6, a7, rfl⟩, e2⟩ := forGo_first (f := bodyF (TT n) (.nm 3) lb__law_unheard_1) D.int (fun z => ∃ o3 o4 o5 o6 o7, z = (⟨[some (rowsD rs), mm, some (tupI s), o3, o4, o5, o6, o7], os⟩ : S)) (fun x => if lalone rs L x s then none else some (D.tup [tupI s, .int x])) s _ ⟨o3, o4, o5, o6, o7, rfl⟩ fun x hx z hz => by
    obtain ⟨o3, o4, o5, o6, o7, rfl⟩ := hz
    obtain ⟨a4, a5, a6, a7, e⟩ := lu_turn (n := n) (os := os) (mm := mm) (x := x) (o3 := o3) (o4 := o4) (o5 := o5) (o6 := o6) (o7 := o7) h h1 hs hsl
    exact ⟨_, ⟨_, _, _, _, _, rfl⟩, e⟩
  have hn : s.Nodup := hp.imp fun h => by omega
  have hU : (s.findSome? fun x => if lalone rs L x s then none else some (D.tup [tupI s, .int x])) = unhS (fun x s => alone rs L x s) s := by
    unfold unhS
    exact findSome_congr fun x hx => by rw [lalone_eq hn hx]
  rw [hU] at e2
  refine ⟨a3, a4, a5, a6, a7, ?_⟩
  have e := execs_fin (hfor.trans e2)
  have hb : bodyF (TT n) (.nm 2) lb__law_unheard_0 (tupI s) ⟨[some (rowsD rs), mm, o2, o3, o4, o5, o6, o7], os⟩ = execs (TT n) lb__law_unheard_0 ⟨[some (rowsD rs), mm, some (tupI s), o3, o4, o5, o6, o7], os⟩ := by
    unfold bodyF
    simp [asg, setS]
  rw [hb]
  exact e
theorem s_law_unheard {n : Nat} {os : List Ob} {m q : Int} {L : Nat} {rs : List (List Nat)} (h : GR m L rs) (h1 : 1 ≤ m) (h8 : m ≤ 8) (q1 : 1 ≤ q) : runB (TT (n + 1)) 8 [.val, .val] b__law_unheard [rowsD rs, .int q] os = some (.ret ((unhF rs L m q).getD .non) [] os) := by
  have fr := rows_fz (rs := rs)
  have sr := rows_sh (rs := rs)
  have lr : lenF [rowsD rs] = some (.int m) := by
    have := h.1
    simp [rowsD, lenF, this]
  have es := s_law_sets (n := n) (os := os) (m := m) (k := q) (by omega) h8 (by omega)
  have hz := tups_fz (setsL m q)
  have hS := sets_l8 (m := m) (q := q) (by omega) h8 (by omega)
  have hu : unhF rs L m q = (setsL m q).findSome? fun s => unhS (fun x s => alone rs L x s) s := rfl
  rw [hu]
  have hfor := exec_for (Γ := TT (n + 1)) (tg := .nm 2) (it := .seq (.cal "_law_sets" (.cons (.bi .len (.cons (.var 0) .nil)) (.cons (.var 1) .nil)))) (b := lb__law_unheard_0) (s := ⟨[some (rowsD rs), some (.int q), none, none, none, none, none, none], os⟩) (s1 := ⟨[some (rowsD rs), some (.int q), none, none, none, none, none, none], os⟩) (xs := (setsL m q).map tupI) (by
    generalize rowsD rs = P at *
    simp [execs, exec, ev, evs, evc, evo, evIt, evOps, fillC, ioSl, putB, evPk, evFz, opd, isVar, hasV, fill1, fillP, asg, asgs, Den.view, rdV, mvV, setS, shal_own, shal_fz, shal_ro, shal_int, shal_bl, shal_str, shal_non, shal_tup, fz, fzL, fzO, bnd, ret, lift, Den.thn, sthn, idxD, opF, addD, subD, mulD, modD, fdivD, negD, notD, isNonD, cmpD, grd, isLst, setiM, biF, lenF, small, mutL, smallR, lim, flatD, -lenF, fr, sr, lr, fn_law_sets, callF, es, hz])
  obtain ⟨s', ⟨a2, a3, a4, a5, a6, a7, rfl⟩, e2⟩ := forGo_first (f := bodyF (TT (n + 1)) (.nm 2) lb__law_unheard_0) tupI (fun z => ∃ o2 o3 o4 o5 o6 o7, z = (⟨[some (rowsD rs), some (.int q), o2, o3, o4, o5, o6, o7], os⟩ : S)) (fun s => unhS (fun x s => alone rs L x s) s) (setsL m q) _ ⟨none, none, none, none, none, none, rfl⟩ fun s hs z hz => by
    obtain ⟨o2, o3, o4, o5, o6, o7, rfl⟩ := hz
    obtain ⟨a3, a4, a5, a6, a7, e⟩ := lu_in (n := n + 1) (os := os) (mm := some (.int q)) (o2 := o2) (o3 := o3) (o4 := o4) (o5 := o5) (o6 := o6) (o7 := o7) h h1 (hS s hs).1 (hS s hs).2.1 (hS s hs).2.2
    exact ⟨_, ⟨_, _, _, _, _, _, rfl⟩, e⟩
  have t2 := hfor.trans e2
  generalize hU : ((setsL m q).findSome? fun s => unhS (fun x s => alone rs L x s) s) = U at *
  have hUz : ∀ d, U = some d → fz d = d := fun d hd => by
    rw [hd] at hU
    obtain ⟨s, _, e⟩ := List.exists_of_findSome?_eq_some hU
    obtain ⟨x, _, e'⟩ := List.exists_of_findSome?_eq_some e
    split at e'
    · cases e'
    · cases e'
      simp only [fz, fzL, tupI_fz]
  generalize rowsD rs = P at *
  have eb : b__law_unheard = .cons (tN b__law_unheard 0) (.cons (tN b__law_unheard 1) .nil) := rfl
  have t2' : exec (TT (n + 1)) (tN b__law_unheard 0) ⟨[some P, some (.int q), none, none, none, none, none, none], os⟩ = _ := t2
  unfold runB startS
  rw [eb]
  have q0 : execs (TT (n + 1)) (.cons (tN b__law_unheard 0) (.cons (tN b__law_unheard 1) .nil)) ⟨[some P, some (.int q), none, none, none, none, none, none], os⟩ = some (.rt (U.getD .non) ⟨[some P, some (.int q), a2, a3, a4, a5, a6, a7], os⟩) := by
    simp only [execs, t2', sthn_nx]
    cases U with
    | some d => simp [sthn]
    | none => simp [sthn, tN, b__law_unheard, execs, exec, ev, evs, evc, evo, evIt, evOps, fillC, ioSl, putB, evPk, evFz, opd, isVar, hasV, fill1, fillP, asg, asgs, Den.view, rdV, mvV, setS, shal_own, shal_fz, shal_ro, shal_int, shal_bl, shal_str, shal_non, shal_tup, fz, fzL, fzO, bnd, ret, lift, Den.thn, sthn, idxD, opF, addD, subD, mulD, modD, fdivD, negD, notD, isNonD, cmpD, grd, isLst, setiM, biF, lenF, small, mutL, smallR, lim, flatD]
  have q1 : execs (TT (n + 1)) _ ⟨List.map some [P, .int q] ++ List.replicate (8 - [P, D.int q].length) none, os⟩ = _ := q0
  rw [q1]
  cases U with
  | some d => simp [outsOf, hUz d rfl]
  | none => simp [outsOf, fz]
end Den
/-! Mc11: _law_unheard of a list of texts. -/
namespace Den
open PySem PySem.Spec L2
def rowsF (rs : List (List Nat)) : D := .lst .fz (rs.map .str)
theorem rows_fzF {rs : List (List Nat)} : fz (rowsF rs) = rowsF rs := by simp only [rowsF, fz, fzO, strs_fz]
theorem rows_shF {rs : List (List Nat)} : shal (rowsF rs) = rowsF rs := rows_fzF
theorem row_atF {m : Int} {L : Nat} {rs : List (List Nat)} (h : GR m L rs) {i : Int} (h0 : 0 ≤ i) (h1 : i < m) : ∃ r, rs[i.toNat]? = some r ∧ r ∈ rs ∧ r.length = L ∧ idxD (rowsF rs) (.int i) = some (.str r) := by
  have hl : i.toNat < rs.length := by have := h.1; omega
  refine ⟨rs[i.toNat], List.getElem?_eq_getElem hl, List.getElem_mem hl, (h.2.2.2 _ (List.getElem_mem hl)).1, ?_⟩
  have : (rs.map D.str)[i.toNat]? = some (.str rs[i.toNat]) := by rw [List.getElem?_map, List.getElem?_eq_getElem hl]; rfl
  have := atI_nat this
  rw [show ((i.toNat : Nat) : Int) = i by omega] at this
  exact this
theorem lu_atF {n : Nat} {os : List Ob} {m x : Int} {L : Nat} {rs : List (List Nat)} {s : List Int} {mm o5 o6 o7 : Option D} {B : Bool} (h : GR m L rs) (hs : ∀ o ∈ s, 0 ≤ o ∧ o < m) (hsl : s.length ≤ 8) {a : Nat} (ha : a < L) :
    ∃ a6 a7, bodyF (TT n) (.nm 5) lb__law_unheard_2 (.int (a : Nat)) ⟨[some (rowsF rs), mm, some (tupI s), some (.int x), some (.bl B), o5, o6, o7], os⟩ = some (.nx ⟨[some (rowsF rs), mm, some (tupI s), some (.int x), some (.bl (B || lawAt rs x s a)), some (.int (a : Nat)), a6, a7], os⟩) := by
  have fr := rows_fzF (rs := rs)
  have sr := rows_shF (rs := rs)
  have hc : ∀ f : D → M (Option D), (∀ o ∈ s, ∀ o7, ∃ a7, f (.int o) { (⟨[some (rowsF rs), mm, some (.tup (s.map .int)), some (.int x), some (.bl B), some (.int (a : Nat)), o6, o7], os⟩ : S) with sl := wipeD [some (rowsF rs), mm, some (.tup (s.map .int)), some (.int x), some (.bl B), some (.int (a : Nat)), o6, o7] [7] } = some (.val (if bit rs o a then some (.int o) else none) ⟨[some (rowsF rs), mm, some (.tup (s.map .int)), some (.int x), some (.bl B), some (.int (a : Nat)), o6, a7], os⟩)) →
      ∃ a7, lcGo [7] f (s.map .int) [] ⟨[some (rowsF rs), mm, some (.tup (s.map .int)), some (.int x), some (.bl B), some (.int (a : Nat)), o6, none], os⟩ = some (.val ((spkS rs s a).map .int) ⟨[some (rowsF rs), mm, some (.tup (s.map .int)), some (.int x), some (.bl B), some (.int (a : Nat)), o6, a7], os⟩) := fun f hf => by
    obtain ⟨s', e, o, rfl⟩ := lcGo_t D.int (own := [7]) (f := f) (fun z => ∃ o7, z = (⟨[some (rowsF rs), mm, some (.tup (s.map .int)), some (.int x), some (.bl B), some (.int (a : Nat)), o6, o7], os⟩ : S)) (fun o => bit rs o a) D.int s [] ⟨[some (rowsF rs), mm, some (.tup (s.map .int)), some (.int x), some (.bl B), some (.int (a : Nat)), o6, none], os⟩ (fun y hy z hz => by
      obtain ⟨o7, rfl⟩ := hz
      obtain ⟨a7, e⟩ := hf y hy o7
      exact ⟨_, e, a7, rfl⟩) ⟨none, rfl⟩ (by simp [lim]; omega)
    exact ⟨o, by simpa [spkS] using e⟩
  have key : ∀ f : D → M (Option D), f = (fun y => bnd (asg (.nm 7) y) fun _ => bnd (evc (TT n) (.yes (.op2 .eq (.idx (.idx (.var 0) (.var 7)) (.var 5)) (.cst (.str [49]))))) fun b => if b then bnd (rdV 7) fun d => ret (some d) else ret none) → ∀ o ∈ s, ∀ o7, ∃ a7, f (.int o) { (⟨[some (rowsF rs), mm, some (.tup (s.map .int)), some (.int x), some (.bl B), some (.int (a : Nat)), o6, o7], os⟩ : S) with sl := wipeD [some (rowsF rs), mm, some (.tup (s.map .int)), some (.int x), some (.bl B), some (.int (a : Nat)), o6, o7] [7] } = some (.val (if bit rs o a then some (.int o) else none) ⟨[some (rowsF rs), mm, some (.tup (s.map .int)), some (.int x), some (.bl B), some (.int (a : Nat)), o6, a7], os⟩) := fun f hf o ho o7 => by
    subst hf
    refine ⟨some (.int o), ?_⟩
    obtain ⟨h0, h1⟩ := hs o ho
    obtain ⟨r', e', hr', hl', i'⟩ := row_atF h h0 h1
    obtain ⟨i2, lt⟩ := sgn_at h e' hr' hl' ha
    have e2 := eq_one lt
    have hbb : bit rs o a = decide (sgn rs o a = 49) := rfl
    generalize rowsF rs = P at *
    by_cases hz : sgn rs o a = 49
    · rw [decide_eq_true hz] at e2 hbb
      simp [execs, exec, ev, evs, evc, evo, evIt, evOps, fillC, ioSl, putB, evPk, evFz, opd, isVar, hasV, fill1, fillP, asg, asgs, Den.view, rdV, mvV, setS, shal_own, shal_fz, shal_ro, shal_int, shal_bl, shal_str, shal_non, shal_tup, fz, fzL, fzO, bnd, ret, lift, Den.thn, sthn, idxD, opF, addD, subD, mulD, modD, fdivD, negD, notD, isNonD, cmpD, grd, isLst, setiM, biF, lenF, small, mutL, smallR, lim, flatD, -idxD, wipeD, fr, sr, i', i2, e2, hbb]
    · rw [decide_eq_false hz] at e2 hbb
      simp [execs, exec, ev, evs, evc, evo, evIt, evOps, fillC, ioSl, putB, evPk, evFz, opd, isVar, hasV, fill1, fillP, asg, asgs, Den.view, rdV, mvV, setS, shal_own, shal_fz, shal_ro, shal_int, shal_bl, shal_str, shal_non, shal_tup, fz, fzL, fzO, bnd, ret, lift, Den.thn, sthn, idxD, opF, addD, subD, mulD, modD, fdivD, negD, notD, isNonD, cmpD, grd, isLst, setiM, biF, lenF, small, mutL, smallR, lim, flatD, -idxD, wipeD, fr, sr, i', i2, e2, hbb]
  obtain ⟨a7, e⟩ := hc _ (key _ rfl)
  have hl := eq_list1 (spkS rs s a) x
  have hz := ints_fz (spkS rs s a)
  refine ⟨some (.lst .own ((spkS rs s a).map .int)), o7, ?_⟩
  unfold lawAt
  generalize spkS rs s a = Y at *
  have t0 : exec (TT n) (tN lb__law_unheard_2 0) ⟨[some (rowsF rs), mm, some (tupI s), some (.int x), some (.bl B), some (.int (a : Nat)), o6, o7], os⟩ = some (.nx ⟨[some (rowsF rs), mm, some (tupI s), some (.int x), some (.bl B), some (.int (a : Nat)), some (.lst .own (Y.map .int)), o7], os⟩) := by
    clear hc key
    generalize rowsF rs = P at *
    unfold lb__law_unheard_2
    simp only [tN, exec, ev, evIt, bnd, rdV]
    simp [tupI, fz, ints_fz, ret, setS, wipeD]
    rw [e]
    simp [Den.thn, asg, setS, restD]
  have t1 : exec (TT n) (tN lb__law_unheard_2 1) ⟨[some (rowsF rs), mm, some (tupI s), some (.int x), some (.bl B), some (.int (a : Nat)), some (.lst .own (Y.map .int)), o7], os⟩ = some (.nx ⟨[some (rowsF rs), mm, some (tupI s), some (.int x), some (.bl (B || decide (Y = [x]))), some (.int (a : Nat)), some (.lst .own (Y.map .int)), o7], os⟩) := by
    clear hc key
    generalize rowsF rs = P at *
    generalize tupI s = Z at *
    unfold lb__law_unheard_2
    cases B with
    | true => simp [tN, execs, exec, ev, evs, evc, evo, evIt, evOps, fillC, ioSl, putB, evPk, evFz, opd, isVar, hasV, fill1, fillP, asg, asgs, Den.view, rdV, mvV, setS, shal_own, shal_fz, shal_ro, shal_int, shal_bl, shal_str, shal_non, shal_tup, fz, fzL, fzO, bnd, ret, lift, Den.thn, sthn, idxD, opF, addD, subD, mulD, modD, fdivD, negD, notD, isNonD, cmpD, grd, isLst, setiM, biF, lenF, small, mutL, smallR, lim, flatD]
    | false => simp [tN, execs, exec, ev, evs, evc, evo, evIt, evOps, fillC, ioSl, putB, evPk, evFz, opd, isVar, hasV, fill1, fillP, asg, asgs, Den.view, rdV, mvV, setS, shal_own, shal_fz, shal_ro, shal_int, shal_bl, shal_str, shal_non, shal_tup, fz, fzL, fzO, bnd, ret, lift, Den.thn, sthn, idxD, opF, addD, subD, mulD, modD, fdivD, negD, notD, isNonD, cmpD, grd, isLst, setiM, biF, lenF, small, mutL, smallR, lim, flatD, hl, hz]
  have eb : lb__law_unheard_2 = .cons (tN lb__law_unheard_2 0) (.cons (tN lb__law_unheard_2 1) .nil) := rfl
  unfold bodyF
  rw [eb]
  simp [asg, setS, execs, t0, t1]
theorem lu_turnF {n : Nat} {os : List Ob} {m x : Int} {L : Nat} {rs : List (List Nat)} {s : List Int} {mm o3 o4 o5 o6 o7 : Option D} (h : GR m L rs) (h1 : 1 ≤ m) (hs : ∀ o ∈ s, 0 ≤ o ∧ o < m) (hsl : s.length ≤ 8) :
    ∃ a4 a5 a6 a7, bodyF (TT n) (.nm 3) lb__law_unheard_1 (.int x) ⟨[some (rowsF rs), mm, some (tupI s), o3, o4, o5, o6, o7], os⟩ = some (match (if lalone rs L x s then none else some (D.tup [tupI s, .int x])) with
      | some d => .rt d ⟨[some (rowsF rs), mm, some (tupI s), some (.int x), a4, a5, a6, a7], os⟩
      | none => .nx ⟨[some (rowsF rs), mm, some (tupI s), some (.int x), a4, a5, a6, a7], os⟩) := by
  have fr := rows_fzF (rs := rs)
  have sr := rows_shF (rs := rs)
  have ft := tupI_fz s
  obtain ⟨r, e, hr, hl, i0⟩ := row_atF h (Int.le_refl 0) (by omega)
  have hL := h.2.2.1
  have l0 : lenF [.str r] = some (.int (L : Int)) := by simp only [lenF]; rw [if_pos (by simp only [lim]; omega), hl]
  have hm1 : -4611686018427387904 ≤ (L : Int) := by omega
  have hm2 : (L : Int) ≤ 1000000 := by omega
  have hfor := exec_for (Γ := TT n) (tg := .nm 5) (it := .rng1 (.bi .len (.cons (.idx (.var 0) (.cst (.int 0))) .nil))) (b := lb__law_unheard_2) (s := ⟨[some (rowsF rs), mm, some (tupI s), some (.int x), some (.bl false), o5, o6, o7], os⟩) (s1 := ⟨[some (rowsF rs), mm, some (tupI s), some (.int x), some (.bl false), o5, o6, o7], os⟩) (xs := rngL 0 (L : Int)) (by
    generalize rowsF rs = P at *
    simp [execs, exec, ev, evs, evc, evo, evIt, evOps, fillC, ioSl, putB, evPk, evFz, opd, isVar, hasV, fill1, fillP, asg, asgs, Den.view, rdV, mvV, setS, shal_own, shal_fz, shal_ro, shal_int, shal_bl, shal_str, shal_non, shal_tup, fz, fzL, fzO, bnd, ret, lift, Den.thn, sthn, idxD, opF, addD, subD, mulD, modD, fdivD, negD, notD, isNonD, cmpD, grd, isLst, setiM, biF, lenF, small, mutL, smallR, lim, flatD, -idxD, -lenF, fr, sr, i0, l0, hm2])
  obtain ⟨s', e2, a5, a6, a7, rfl⟩ := forGo_ex (f := bodyF (TT n) (.nm 5) lb__law_unheard_2) (fun (k : Nat) z => ∃ o5 o6 o7, z = (⟨[some (rowsF rs), mm, some (tupI s), some (.int x), some (.bl ((List.range k).any fun a => lawAt rs x s a)), o5, o6, o7], os⟩ : S)) (rngL 0 (L : Int)) 0 (fun i y z hy hz => by
    obtain ⟨o5, o6, o7, rfl⟩ := hz
    obtain ⟨rfl, hi⟩ := rng_get hy
    simp only [Nat.zero_add]
    obtain ⟨a6, a7, e⟩ := lu_atF (n := n) (os := os) (mm := mm) (x := x) (o5 := o5) (o6 := o6) (o7 := o7) (B := (List.range i).any fun a => lawAt rs x s a) h hs hsl hi
    exact ⟨_, e, _, _, _, by rw [any_succ]⟩) _ ⟨o5, o6, o7, rfl⟩
  have hn : (rngL 0 (L : Int)).length = L := by simp [rngL]
  have e3 := hfor.trans e2
  rw [Nat.zero_add, hn] at e3
  have hla : lalone rs L x s = (List.range L).any fun a => lawAt rs x s a := rfl
  rw [hla]
  generalize ((List.range L).any fun a => lawAt rs x s a) = B at *
  refine ⟨some (.bl B), a5, a6, a7, ?_⟩
  have eb : lb__law_unheard_1 = .cons (tN lb__law_unheard_1 0) (.cons (tN lb__law_unheard_1 1) (.cons (tN lb__law_unheard_1 2) .nil)) := rfl
  generalize rowsF rs = P at *
  have t0 : exec (TT n) (tN lb__law_unheard_1 0) ⟨[some P, mm, some (tupI s), some (.int x), o4, o5, o6, o7], os⟩ = some (.nx ⟨[some P, mm, some (tupI s), some (.int x), some (.bl false), o5, o6, o7], os⟩) := by
    generalize tupI s = Z at *
    unfold lb__law_unheard_1
    simp [tN, execs, exec, ev, evs, evc, evo, evIt, evOps, fillC, ioSl, putB, evPk, evFz, opd, isVar, hasV, fill1, fillP, asg, asgs, Den.view, rdV, mvV, setS, shal_own, shal_fz, shal_ro, shal_int, shal_bl, shal_str, shal_non, shal_tup, fz, fzL, fzO, bnd, ret, lift, Den.thn, sthn, idxD, opF, addD, subD, mulD, modD, fdivD, negD, notD, isNonD, cmpD, grd, isLst, setiM, biF, lenF, small, mutL, smallR, lim, flatD]
  have t1 : exec (TT n) (tN lb__law_unheard_1 1) ⟨[some P, mm, some (tupI s), some (.int x), some (.bl false), o5, o6, o7], os⟩ = some (.nx ⟨[some P, mm, some (tupI s), some (.int x), some (.bl B), a5, a6, a7], os⟩) := e3
  have t2 : exec (TT n) (tN lb__law_unheard_1 2) ⟨[some P, mm, some (tupI s), some (.int x), some (.bl B), a5, a6, a7], os⟩ = some (match (if B then none else some (D.tup [tupI s, .int x])) with
      | some d => .rt d ⟨[some P, mm, some (tupI s), some (.int x), some (.bl B), a5, a6, a7], os⟩
      | none => .nx ⟨[some P, mm, some (tupI s), some (.int x), some (.bl B), a5, a6, a7], os⟩) := by
    generalize tupI s = Z at *
    unfold lb__law_unheard_1
    cases B <;> simp [tN, execs, exec, ev, evs, evc, evo, evIt, evOps, fillC, ioSl, putB, evPk, evFz, opd, isVar, hasV, fill1, fillP, asg, asgs, Den.view, rdV, mvV, setS, shal_own, shal_fz, shal_ro, shal_int, shal_bl, shal_str, shal_non, shal_tup, fz, fzL, fzO, bnd, ret, lift, Den.thn, sthn, idxD, opF, addD, subD, mulD, modD, fdivD, negD, notD, isNonD, cmpD, grd, isLst, setiM, biF, lenF, small, mutL, smallR, lim, flatD, ft]
  unfold bodyF
  rw [eb]
  simp only [asg, setS, execs, Den.thn]
  simp only [t0, t1, t2, sthn_nx, List.length_cons, List.set]
  cases B <;> simp [sthn, t0, t1, t2]
theorem lu_inF {n : Nat} {os : List Ob} {m : Int} {L : Nat} {rs : List (List Nat)} {s : List Int} {mm o2 o3 o4 o5 o6 o7 : Option D} (h : GR m L rs) (h1 : 1 ≤ m) (hs : ∀ o ∈ s, 0 ≤ o ∧ o < m) (hsl : s.length ≤ 8) (hp : s.Pairwise (· < ·)) :
    ∃ a3 a4 a5 a6 a7, bodyF (TT n) (.nm 2) lb__law_unheard_0 (tupI s) ⟨[some (rowsF rs), mm, o2, o3, o4, o5, o6, o7], os⟩ = some (match unhS (fun x s => alone rs L x s) s with
      | some d => .rt d ⟨[some (rowsF rs), mm, some (tupI s), a3, a4, a5, a6, a7], os⟩
      | none => .nx ⟨[some (rowsF rs), mm, some (tupI s), a3, a4, a5, a6, a7], os⟩) := by
  have hfor := exec_for (Γ := TT n) (tg := .nm 3) (it := .seq (.var 2)) (b := lb__law_unheard_1) (s := ⟨[some (rowsF rs), mm, some (tupI s), o3, o4, o5, o6, o7], os⟩) (s1 := ⟨[some (rowsF rs), mm, some (tupI s), o3, o4, o5, o6, o7], os⟩) (xs := s.map .int) (by
    simp only [evIt, ev, rdV, bnd]
    simp [tupI, fz, ints_fz, ret, setS])
  obtain ⟨s', ⟨a3, a4, a5, a6, a7, rfl⟩, e2⟩ := forGo_first (f := bodyF (TT n) (.nm 3) lb__law_unheard_1) D.int (fun z => ∃ o3 o4 o5 o6 o7, z = (⟨[some (rowsF rs), mm, some (tupI s), o3, o4, o5, o6, o7], os⟩ : S)) (fun x => if lalone rs L x s then none else some (D.tup [tupI s, .int x])) s _ ⟨o3, o4, o5, o6, o7, rfl⟩ fun x hx z hz => by
    obtain ⟨o3, o4, o5, o6, o7, rfl⟩ := hz
    obtain ⟨a4, a5, a6, a7, e⟩ := lu_turnF (n := n) (os := os) (mm := mm) (x := x) (o3 := o3) (o4 := o4) (o5 := o5) (o6 := o6) (o7 := o7) h h1 hs hsl
    exact ⟨_, ⟨_, _, _, _, _, rfl⟩, e⟩
  have hn : s.Nodup := hp.imp fun h => by omega
  have hU : (s.findSome? fun x => if lalone rs L x s then none else some (D.tup [tupI s, .int x])) = unhS (fun x s => alone rs L x s) s := by
    unfold unhS
    exact findSome_congr fun x hx => by rw [lalone_eq hn hx]
  rw [hU] at e2
  refine ⟨a3, a4, a5, a6, a7, ?_⟩
  have e := execs_fin (hfor.trans e2)
  have hb : bodyF (TT n) (.nm 2) lb__law_unheard_0 (tupI s) ⟨[some (rowsF rs), mm, o2, o3, o4, o5, o6, o7], os⟩ = execs (TT n) lb__law_unheard_0 ⟨[some (rowsF rs), mm, some (tupI s), o3, o4, o5, o6, o7], os⟩ := by
    unfold bodyF
    simp [asg, setS]
  rw [hb]
  exact e
theorem s_law_unheardF {n : Nat} {os : List Ob} {m q : Int} {L : Nat} {rs : List (List Nat)} (h : GR m L rs) (h1 : 1 ≤ m) (h8 : m ≤ 8) (q1 : 1 ≤ q) : runB (TT (n + 1)) 8 [.val, .val] b__law_unheard [rowsF rs, .int q] os = some (.ret ((unhF rs L m q).getD .non) [] os) := by
  have fr := rows_fzF (rs := rs)
  have sr := rows_shF (rs := rs)
  have lr : lenF [rowsF rs] = some (.int m) := by
    have := h.1
    simp [rowsF, lenF, this]
  have es := s_law_sets (n := n) (os := os) (m := m) (k := q) (by omega) h8 (by omega)
  have hz := tups_fz (setsL m q)
  have hS := sets_l8 (m := m) (q := q) (by omega) h8 (by omega)
  have hu : unhF rs L m q = (setsL m q).findSome? fun s => unhS (fun x s => alone rs L x s) s := rfl
  rw [hu]
  have hfor := exec_for (Γ := TT (n + 1)) (tg := .nm 2) (it := .seq (.cal "_law_sets" (.cons (.bi .len (.cons (.var 0) .nil)) (.cons (.var 1) .nil)))) (b := lb__law_unheard_0) (s := ⟨[some (rowsF rs), some (.int q), none, none, none, none, none, none], os⟩) (s1 := ⟨[some (rowsF rs), some (.int q), none, none, none, none, none, none], os⟩) (xs := (setsL m q).map tupI) (by
    generalize rowsF rs = P at *
    simp [execs, exec, ev, evs, evc, evo, evIt, evOps, fillC, ioSl, putB, evPk, evFz, opd, isVar, hasV, fill1, fillP, asg, asgs, Den.view, rdV, mvV, setS, shal_own, shal_fz, shal_ro, shal_int, shal_bl, shal_str, shal_non, shal_tup, fz, fzL, fzO, bnd, ret, lift, Den.thn, sthn, idxD, opF, addD, subD, mulD, modD, fdivD, negD, notD, isNonD, cmpD, grd, isLst, setiM, biF, lenF, small, mutL, smallR, lim, flatD, -lenF, fr, sr, lr, fn_law_sets, callF, es, hz])
  obtain ⟨s', ⟨a2, a3, a4, a5, a6, a7, rfl⟩, e2⟩ := forGo_first (f := bodyF (TT (n + 1)) (.nm 2) lb__law_unheard_0) tupI (fun z => ∃ o2 o3 o4 o5 o6 o7, z = (⟨[some (rowsF rs), some (.int q), o2, o3, o4, o5, o6, o7], os⟩ : S)) (fun s => unhS (fun x s => alone rs L x s) s) (setsL m q) _ ⟨none, none, none, none, none, none, rfl⟩ fun s hs z hz => by
    obtain ⟨o2, o3, o4, o5, o6, o7, rfl⟩ := hz
    obtain ⟨a3, a4, a5, a6, a7, e⟩ := lu_inF (n := n + 1) (os := os) (mm := some (.int q)) (o2 := o2) (o3 := o3) (o4 := o4) (o5 := o5) (o6 := o6) (o7 := o7) h h1 (hS s hs).1 (hS s hs).2.1 (hS s hs).2.2
    exact ⟨_, ⟨_, _, _, _, _, _, rfl⟩, e⟩
  have t2 := hfor.trans e2
  generalize hU : ((setsL m q).findSome? fun s => unhS (fun x s => alone rs L x s) s) = U at *
  have hUz : ∀ d, U = some d → fz d = d := fun d hd => by
    rw [hd] at hU
    obtain ⟨s, _, e⟩ := List.exists_of_findSome?_eq_some hU
    obtain ⟨x, _, e'⟩ := List.exists_of_findSome?_eq_some e
    split at e'
    · cases e'
    · cases e'
      simp only [fz, fzL, tupI_fz]
  generalize rowsF rs = P at *
  have eb : b__law_unheard = .cons (tN b__law_unheard 0) (.cons (tN b__law_unheard 1) .nil) := rfl
  have t2' : exec (TT (n + 1)) (tN b__law_unheard 0) ⟨[some P, some (.int q), none, none, none, none, none, none], os⟩ = _ := t2
  unfold runB startS
  rw [eb]
  have q0 : execs (TT (n + 1)) (.cons (tN b__law_unheard 0) (.cons (tN b__law_unheard 1) .nil)) ⟨[some P, some (.int q), none, none, none, none, none, none], os⟩ = some (.rt (U.getD .non) ⟨[some P, some (.int q), a2, a3, a4, a5, a6, a7], os⟩) := by
    simp only [execs, t2', sthn_nx]
    cases U with
    | some d => simp [sthn]
    | none => simp [sthn, tN, b__law_unheard, execs, exec, ev, evs, evc, evo, evIt, evOps, fillC, ioSl, putB, evPk, evFz, opd, isVar, hasV, fill1, fillP, asg, asgs, Den.view, rdV, mvV, setS, shal_own, shal_fz, shal_ro, shal_int, shal_bl, shal_str, shal_non, shal_tup, fz, fzL, fzO, bnd, ret, lift, Den.thn, sthn, idxD, opF, addD, subD, mulD, modD, fdivD, negD, notD, isNonD, cmpD, grd, isLst, setiM, biF, lenF, small, mutL, smallR, lim, flatD]
  have q1 : execs (TT (n + 1)) _ ⟨List.map some [P, .int q] ++ List.replicate (8 - [P, D.int q].length) none, os⟩ = _ := q0
  rw [q1]
  cases U with
  | some d => simp [outsOf, hUz d rfl]
  | none => simp [outsOf, fz]
end Den
/-! Md11: two(m), run. -/
namespace Den
open PySem PySem.Spec L2
def chStep (c : List (List (List Nat))) : List (List (List Nat)) := c.flatMap fun ch => (ch.map (· ++ [48]) ++ [ch.getLastD [] ++ [49]]) :: (if ch.length > 1 then [ch.dropLast.map (· ++ [49])] else [])
def chL : Nat → List (List (List Nat))
  | 0 => [[[]]]
  | k + 1 => chStep (chL k)
def chD (c : List (List (List Nat))) : D := .lst .own (c.map fun ch => .lst .own (ch.map .str))
def szL : Nat → Nat
  | 1 => 0
  | 2 => 2
  | 3 => 3
  | 4 => 4
  | 5 => 4
  | 6 => 4
  | _ => 5
def rowsL (m : Nat) : List (List Nat) := if m = 1 then [[49]] else (ExO.srtT ((chL (szL m)).map fun ch => ch.getD (szL m / 2 - (ch.headD []).count 49) [])).take m
def lenL (m : Nat) : Nat := if m = 1 then 1 else szL m
def chM (m : Nat) : List (List (List Nat)) := if m = 1 then [] else chL (szL m - 1)
theorem fn_two {n : Nat} : (TT (n + 3)).fn "two" = some ⟨[.val], runB (TT (n + 2)) 4 [.val] b_two⟩ := rfl
theorem s_two1 {n : Nat} : runB (TT (n + 5)) 4 [.val] b_two [.int 1] [] = some (.ret (.tup [rowsD (rowsL 1), chD (chM 1)]) [] []) := by kernel_rfl
theorem s_two2 {n : Nat} : runB (TT (n + 5)) 4 [.val] b_two [.int 2] [] = some (.ret (.tup [rowsD (rowsL 2), chD (chM 2)]) [] []) := by kernel_rfl
theorem s_two3 {n : Nat} : runB (TT (n + 5)) 4 [.val] b_two [.int 3] [] = some (.ret (.tup [rowsD (rowsL 3), chD (chM 3)]) [] []) := by kernel_rfl
theorem s_two4 {n : Nat} : runB (TT (n + 5)) 4 [.val] b_two [.int 4] [] = some (.ret (.tup [rowsD (rowsL 4), chD (chM 4)]) [] []) := by kernel_rfl
theorem s_two5 {n : Nat} : runB (TT (n + 5)) 4 [.val] b_two [.int 5] [] = some (.ret (.tup [rowsD (rowsL 5), chD (chM 5)]) [] []) := by kernel_rfl
theorem s_two6 {n : Nat} : runB (TT (n + 5)) 4 [.val] b_two [.int 6] [] = some (.ret (.tup [rowsD (rowsL 6), chD (chM 6)]) [] []) := by kernel_rfl
theorem s_two7 {n : Nat} : runB (TT (n + 5)) 4 [.val] b_two [.int 7] [] = some (.ret (.tup [rowsD (rowsL 7), chD (chM 7)]) [] []) := by kernel_rfl
theorem s_two8 {n : Nat} : runB (TT (n + 5)) 4 [.val] b_two [.int 8] [] = some (.ret (.tup [rowsD (rowsL 8), chD (chM 8)]) [] []) := by kernel_rfl
theorem gr_all : ∀ m ∈ [1, 2, 3, 4, 5, 6, 7, 8], (decide ((rowsL m).length = m) && decide (1 ≤ lenL m) && decide (lenL m ≤ 12) && ((rowsL m).all fun r => decide (r.length = lenL m) && r.all isBit)) = true := by decide +kernel
theorem unh_all : ∀ m ∈ [1, 2, 3, 4, 5, 6, 7, 8], (unhF (rowsL m) (lenL m) (m : Int) (if m = 1 then 1 else 2)).isNone = true := by decide +kernel
end Den
/-! Nf11: the law's turn for each number of stations. -/
namespace Den
open PySem PySem.Spec L2
abbrev GL (n : Nat) : Tb := withL (TT n) LB_law
theorem gl_fn {n : Nat} {x : Str} : (GL n).fn x = (TT n).fn x := rfl
def appT : Ts → Ts → Ts
  | .nil, b => b
  | .cons t ts, b => .cons t (appT ts b)
def takeT : Nat → Ts → Ts
  | 0, _ => .nil
  | _, .nil => .nil
  | n + 1, .cons t ts => .cons t (takeT n ts)
def dropT : Nat → Ts → Ts
  | 0, ts => ts
  | _, .nil => .nil
  | n + 1, .cons _ ts => dropT n ts
theorem execs_appT {Γ : Tb} : ∀ (a b : Ts) (s : S), execs Γ (appT a b) s = sthn (execs Γ a s) (execs Γ b)
  | .nil, b, s => rfl
  | .cons t ts, b, s => by
    show sthn (exec Γ t s) (fun z => execs Γ (appT ts b) z) = sthn (sthn (exec Γ t s) (execs Γ ts)) (execs Γ b)
    cases h : exec Γ t s with
    | none => rfl
    | some r => cases r with
      | nx z => exact execs_appT ts b z
      | rt _ _ => rfl
      | ex _ => rfl
def st11 (sc : D) (d : List Int) (m : Int) (o3 o4 o5 o6 o7 o8 o9 o10 : Option D) : S := ⟨[some sc, some (.lst .own (d.map .int)), some (.int m), o3, o4, o5, o6, o7, o8, o9, o10], []⟩
def chX (c : List (List (List Nat))) : D := .lst .own ((c.map fun ch => .lst .own (ch.map .str ++ [.str [120]])) ++ [.lst .fz []])
section
variable {n : Nat} {sc : D} {d : List Int} {x : Int} {o4 o5 o7 o8 : Option D}
theorem tA1 : execs (GL (n + 8)) (takeT 6 lb_law_0) (st11 sc d 1 (some (.int x)) o4 o5 none o7 o8 none none) = some (.nx (st11 sc d 1 (some (.int x)) (some (.int ((lenL 1 : Nat) : Int))) (some (.int 1)) none (some (rowsD (rowsL 1))) (some (chD (chM 1))) none none)) := by kernel_rfl
theorem tB1 : execs (GL (n + 8)) (dropT 7 lb_law_0) (st11 sc d 1 (some (.int x)) (some (.int ((lenL 1 : Nat) : Int))) (some (.int 1)) none (some (rowsD (rowsL 1))) (some (chD (chM 1))) none none) = some (.nx (st11 sc d 1 (some (.int x)) (some (.int ((lenL 1 : Nat) : Int))) (some (.int 1)) none (some (rowsD (rowsL 1))) (some (chX (chM 1))) none none)) := by kernel_rfl
theorem tA2 : execs (GL (n + 8)) (takeT 6 lb_law_0) (st11 sc d 2 (some (.int x)) o4 o5 none o7 o8 none none) = some (.nx (st11 sc d 2 (some (.int x)) (some (.int ((lenL 2 : Nat) : Int))) (some (.int 2)) none (some (rowsD (rowsL 2))) (some (chD (chM 2))) none none)) := by kernel_rfl
theorem tB2 : execs (GL (n + 8)) (dropT 7 lb_law_0) (st11 sc d 2 (some (.int x)) (some (.int ((lenL 2 : Nat) : Int))) (some (.int 2)) none (some (rowsD (rowsL 2))) (some (chD (chM 2))) none none) = some (.nx (st11 sc d 2 (some (.int x)) (some (.int ((lenL 2 : Nat) : Int))) (some (.int 2)) none (some (rowsD (rowsL 2))) (some (chX (chM 2))) none none)) := by kernel_rfl
theorem tA3 : execs (GL (n + 8)) (takeT 6 lb_law_0) (st11 sc d 3 (some (.int x)) o4 o5 none o7 o8 none none) = some (.nx (st11 sc d 3 (some (.int x)) (some (.int ((lenL 3 : Nat) : Int))) (some (.int 2)) none (some (rowsD (rowsL 3))) (some (chD (chM 3))) none none)) := by kernel_rfl
theorem tB3 : execs (GL (n + 8)) (dropT 7 lb_law_0) (st11 sc d 3 (some (.int x)) (some (.int ((lenL 3 : Nat) : Int))) (some (.int 2)) none (some (rowsD (rowsL 3))) (some (chD (chM 3))) none none) = some (.nx (st11 sc d 3 (some (.int x)) (some (.int ((lenL 3 : Nat) : Int))) (some (.int 2)) none (some (rowsD (rowsL 3))) (some (chX (chM 3))) none none)) := by kernel_rfl
theorem tA4 : execs (GL (n + 8)) (takeT 6 lb_law_0) (st11 sc d 4 (some (.int x)) o4 o5 none o7 o8 none none) = some (.nx (st11 sc d 4 (some (.int x)) (some (.int ((lenL 4 : Nat) : Int))) (some (.int 2)) none (some (rowsD (rowsL 4))) (some (chD (chM 4))) none none)) := by kernel_rfl
theorem tB4a : execs (GL (n + 8)) (takeT 2 (dropT 7 lb_law_0)) (st11 sc d 4 (some (.int x)) (some (.int ((lenL 4 : Nat) : Int))) (some (.int 2)) none (some (rowsD (rowsL 4))) (some (chD (chM 4))) none none) = some (.nx (st11 sc d 4 (some (.int x)) (some (.int ((lenL 4 : Nat) : Int))) (some (.int 2)) none (some (rowsD (rowsL 4))) (some (chD (chM 4))) none none)) := by kernel_rfl
theorem tB4b : execs (GL (n + 8)) (dropT 10 lb_law_0) (st11 sc d 4 (some (.int x)) (some (.int ((lenL 4 : Nat) : Int))) (some (.int 2)) none (some (rowsD (rowsL 4))) (some (chD (chM 4))) none none) = some (.nx (st11 sc d 4 (some (.int x)) (some (.int ((lenL 4 : Nat) : Int))) (some (.int 2)) none (some (rowsD (rowsL 4))) (some (chX (chM 4))) none none)) := by kernel_rfl
theorem tA5 : execs (GL (n + 8)) (takeT 6 lb_law_0) (st11 sc d 5 (some (.int x)) o4 o5 none o7 o8 none none) = some (.nx (st11 sc d 5 (some (.int x)) (some (.int ((lenL 5 : Nat) : Int))) (some (.int 2)) none (some (rowsD (rowsL 5))) (some (chD (chM 5))) none none)) := by kernel_rfl
theorem tB5 : execs (GL (n + 8)) (dropT 7 lb_law_0) (st11 sc d 5 (some (.int x)) (some (.int ((lenL 5 : Nat) : Int))) (some (.int 2)) none (some (rowsD (rowsL 5))) (some (chD (chM 5))) none none) = some (.nx (st11 sc d 5 (some (.int x)) (some (.int ((lenL 5 : Nat) : Int))) (some (.int 2)) none (some (rowsD (rowsL 5))) (some (chX (chM 5))) none none)) := by kernel_rfl
theorem tA6 : execs (GL (n + 8)) (takeT 6 lb_law_0) (st11 sc d 6 (some (.int x)) o4 o5 none o7 o8 none none) = some (.nx (st11 sc d 6 (some (.int x)) (some (.int ((lenL 6 : Nat) : Int))) (some (.int 2)) none (some (rowsD (rowsL 6))) (some (chD (chM 6))) none none)) := by kernel_rfl
theorem tB6 : execs (GL (n + 8)) (dropT 7 lb_law_0) (st11 sc d 6 (some (.int x)) (some (.int ((lenL 6 : Nat) : Int))) (some (.int 2)) none (some (rowsD (rowsL 6))) (some (chD (chM 6))) none none) = some (.nx (st11 sc d 6 (some (.int x)) (some (.int ((lenL 6 : Nat) : Int))) (some (.int 2)) none (some (rowsD (rowsL 6))) (some (chX (chM 6))) none none)) := by kernel_rfl
theorem tA7 : execs (GL (n + 8)) (takeT 6 lb_law_0) (st11 sc d 7 (some (.int x)) o4 o5 none o7 o8 none none) = some (.nx (st11 sc d 7 (some (.int x)) (some (.int ((lenL 7 : Nat) : Int))) (some (.int 2)) none (some (rowsD (rowsL 7))) (some (chD (chM 7))) none none)) := by kernel_rfl
theorem tB7 : execs (GL (n + 8)) (dropT 7 lb_law_0) (st11 sc d 7 (some (.int x)) (some (.int ((lenL 7 : Nat) : Int))) (some (.int 2)) none (some (rowsD (rowsL 7))) (some (chD (chM 7))) none none) = some (.nx (st11 sc d 7 (some (.int x)) (some (.int ((lenL 7 : Nat) : Int))) (some (.int 2)) none (some (rowsD (rowsL 7))) (some (chX (chM 7))) none none)) := by kernel_rfl
theorem tA8 : execs (GL (n + 8)) (takeT 6 lb_law_0) (st11 sc d 8 (some (.int x)) o4 o5 none o7 o8 none none) = some (.nx (st11 sc d 8 (some (.int x)) (some (.int ((lenL 8 : Nat) : Int))) (some (.int 2)) none (some (rowsD (rowsL 8))) (some (chD (chM 8))) none none)) := by kernel_rfl
theorem tB8 : execs (GL (n + 8)) (dropT 7 lb_law_0) (st11 sc d 8 (some (.int x)) (some (.int ((lenL 8 : Nat) : Int))) (some (.int 2)) none (some (rowsD (rowsL 8))) (some (chD (chM 8))) none none) = some (.nx (st11 sc d 8 (some (.int x)) (some (.int ((lenL 8 : Nat) : Int))) (some (.int 2)) none (some (rowsD (rowsL 8))) (some (chX (chM 8))) none none)) := by kernel_rfl
end
end Den
/-! Ng11: tried. -/
namespace Den
open PySem PySem.Spec L2
def candS (ts : List (List Nat)) (c : List (List (List Nat))) : List (List (List Nat)) := c.flatMap fun r => (ts.filter fun t => r.isEmpty || ExO.ltS (r.getLastD []) t).map fun t => r ++ [t]
def txt : Nat → List (List Nat)
  | 0 => [[]]
  | k + 1 => (txt k).map (· ++ [48]) ++ (txt k).map (· ++ [49])
def cand3 : List (List (List Nat)) := candS (txt 3) (candS (txt 3) (candS (txt 3) [[]]))
def cand4 : List (List (List Nat)) := candS (txt 3) cand3
theorem fn_law_unheard {n : Nat} : (TT (n + 1)).fn "_law_unheard" = some ⟨[.val, .val], runB (TT n) 8 [.val, .val] b__law_unheard⟩ := rfl
theorem fn_law_tried {n : Nat} : (TT (n + 1)).fn "_law_tried" = some ⟨[.val, .val], runB (TT n) 7 [.val, .val] b__law_tried⟩ := rfl
theorem isNonD_fz (d : D) : isNonD (fz d) = isNonD d := by cases d <;> rfl
theorem cand_len : cand4.length = 70 := by kernel_rfl
theorem cand_ok : (cand4.all fun c => decide (c.length = 4) && (c.all fun r => decide (r.length = 3) && r.all isBit) && (match unhF c 3 4 2 with
    | some d => !isNonD d
    | none => false)) = true := by decide +kernel
def lcC : C := .cal "_law_unheard" (.cons (.var 5) (.cons (.cst (.int 2)) .nil))
def lcT : C := .lc [5] (.nm 5) (.seq (.var 2)) (.yes (.isN lcC)) (.var 5)
def triedF (n : Nat) : D → M (Option D) := fun y => bnd (asg (.nm 5) y) fun _ => bnd (evc (TT (n + 3)) (.yes (.isN lcC))) fun b => if b then bnd (ev (TT (n + 3)) (.var 5)) fun d => ret (some d) else ret none
def stT (P : D) (o5 : Option D) : S := ⟨[some (.int 4), some (.int 3), some P, some (.int 3), some P, o5, none], []⟩
theorem tried_body {n : Nat} {c : List (List Nat)} (hc : c ∈ cand4) (P : D) (o5 : Option D) : triedF n (rowsF c) { stT P o5 with sl := wipeD (stT P o5).sl [5] } = some (.val none (stT P (some (rowsF c)))) := by
  have h := List.all_eq_true.mp cand_ok c hc
  simp only [Bool.and_eq_true, decide_eq_true_eq] at h
  obtain ⟨⟨h1, h2⟩, h3⟩ := h
  have hG : GR 4 3 c := ⟨by rw [h1]; rfl, by omega, by omega, fun r hr => by
    have := List.all_eq_true.mp h2 r hr
    simpa only [Bool.and_eq_true, decide_eq_true_eq] using this⟩
  have e := s_law_unheardF (n := n + 1) (os := []) (q := 2) hG (by omega) (by omega) (by omega)
  have fr := rows_fzF (rs := c)
  have sr := rows_shF (rs := c)
  cases hu : unhF c 3 4 2 with
  | none => rw [hu] at h3; cases h3
  | some d0 =>
    rw [hu] at h3 e
    have h3 : isNonD d0 = false := by simpa using h3
    have e : runB (TT (n + 2)) 8 [.val, .val] b__law_unheard [rowsF c, .int 2] [] = some (.ret d0 [] []) := e
    clear hG h2 h1 hu hc
    generalize rowsF c = R at *
    unfold triedF lcC stT
    simp [execs, exec, ev, evs, evc, evo, evIt, evOps, fillC, ioSl, putB, evPk, evFz, opd, isVar, hasV, fill1, fillP, asg, asgs, Den.view, rdV, mvV, setS, shal_own, shal_fz, shal_ro, shal_int, shal_bl, shal_str, shal_non, shal_tup, fz, fzL, fzO, bnd, ret, lift, Den.thn, sthn, idxD, opF, addD, subD, mulD, modD, fdivD, negD, notD, isNonD, cmpD, grd, isLst, setiM, biF, lenF, small, mutL, smallR, lim, flatD, -isNonD, wipeD, fn_law_unheard, callF, e, fr, isNonD_fz, h3]
theorem lc_gen {Γ : Tb} {P : List D} {l : D} {o5 : Option D} {F : D → M (Option D)} (hz : fzL P = P) (hF : F = fun y => bnd (asg (.nm 5) y) fun _ => bnd (evc Γ (.yes (.isN lcC))) fun b => if b then bnd (ev Γ (.var 5)) fun d => ret (some d) else ret none)
    (e' : lcGo [5] F P [] (stT (.lst .fz P) none) = some (.val [] (stT (.lst .fz P) o5))) : ev Γ lcT (stT (.lst .fz P) (some l)) = some (.val (.lst .own []) (stT (.lst .fz P) (some l))) := by
  subst hF
  have hi : evIt Γ (.seq (.var 2)) (stT (.lst .fz P) (some l)) = some (.val P (stT (.lst .fz P) (some l))) := by
    simp [stT, execs, exec, ev, evs, evc, evo, evIt, evOps, fillC, ioSl, putB, evPk, evFz, opd, isVar, hasV, fill1, fillP, asg, asgs, Den.view, rdV, mvV, setS, shal_own, shal_fz, shal_ro, shal_int, shal_bl, shal_str, shal_non, shal_tup, fz, fzL, fzO, bnd, ret, lift, Den.thn, sthn, idxD, opF, addD, subD, mulD, modD, fdivD, negD, notD, isNonD, cmpD, grd, isLst, setiM, biF, lenF, small, mutL, smallR, lim, flatD, hz]
  show bnd (evIt Γ (.seq (.var 2))) _ (stT (.lst .fz P) (some l)) = _
  rw [bnd_val hi]
  show (match lcGo [5] (fun y => bnd (asg (.nm 5) y) fun _ => bnd (evc Γ (.yes (.isN lcC))) fun b => if b then bnd (ev Γ (.var 5)) fun d => ret (some d) else ret none) P [] (stT (.lst .fz P) none) with
    | some (.val ds s1) => some (Ex.val (D.lst .own ds) { s1 with sl := restD s1.sl (stT (.lst .fz P) (some l)).sl [5] })
    | _ => none) = _
  rw [e']
  rfl
theorem tried_lc {n : Nat} : ∃ o5', lcGo [5] (triedF n) (cand4.map rowsF) [] (stT (.lst .fz (cand4.map rowsF)) none) = some (.val [] (stT (.lst .fz (cand4.map rowsF)) o5')) := by
  generalize hP : D.lst .fz (cand4.map rowsF) = P
  obtain ⟨s', e, o5', rfl⟩ := lcGo_t rowsF (own := [5]) (f := triedF n) (fun z => ∃ o5, z = stT P o5) (fun _ => false) rowsF cand4 [] (stT P none)
    (fun c hc z hz => by obtain ⟨o5, rfl⟩ := hz; exact ⟨_, tried_body hc _ o5, _, rfl⟩) ⟨none, rfl⟩ (by rw [cand_len]; decide)
  refine ⟨o5', e.trans ?_⟩
  simp
theorem t2_gen {Γ : Tb} {P l : D} (lcE : ev Γ lcT (stT P (some l)) = some (.val (.lst .own []) (stT P (some l)))) : exec Γ (.ret (.op2 .ne lcT (.lst .nil))) (stT P (some l)) = some (.rt (.bl false) (stT P (some l))) := by
  have h1 : (bnd (ev Γ lcT) fun d => ret (some (fz d))) (stT P (some l)) = some (.val (some (.lst .fz [])) (stT P (some l))) := by rw [bnd_val lcE]; rfl
  show Den.thn (bnd (bnd (ev Γ lcT) fun d => ret (some (fz d))) (fun x => bnd (opd (.lst .nil) (ev Γ (.lst .nil))) fun y => bnd (fill1 lcT x) fun d => bnd (fill1 (.lst .nil) y) fun e => lift (opF .ne d e)) (stT P (some l))) _ = _
  rw [bnd_val h1]
  kernel_rfl
theorem tried_t1 {n : Nat} : execs (TT (n + 3)) (takeT 2 b__law_tried) ⟨[some (.int 4), some (.int 3), none, none, none, none, none], []⟩ = some (.nx (stT (.lst .fz (cand4.map rowsF)) (some (rowsF (cand3.getLastD []))))) := by kernel_rfl
theorem run_gen {Γ : Tb} {P l : D} (t1 : execs Γ (takeT 2 b__law_tried) ⟨[some (.int 4), some (.int 3), none, none, none, none, none], []⟩ = some (.nx (stT P (some l)))) (t2 : exec Γ (tN b__law_tried 2) (stT P (some l)) = some (.rt (.bl false) (stT P (some l)))) :
    runB Γ 7 [.val, .val] b__law_tried [.int 4, .int 3] [] = some (.ret (.bl false) [] []) := by
  have ex : b__law_tried = appT (takeT 2 b__law_tried) (.cons (tN b__law_tried 2) .nil) := rfl
  have q : execs Γ b__law_tried (startS 7 [.int 4, .int 3] []) = some (.rt (.bl false) (stT P (some l))) := by
    rw [ex, execs_appT]
    show sthn (execs Γ (takeT 2 b__law_tried) ⟨[some (.int 4), some (.int 3), none, none, none, none, none], []⟩) _ = _
    rw [t1]
    exact execs_fin t2
  unfold runB
  rw [q]
  rfl
theorem cand_fz : fzL (cand4.map rowsF) = cand4.map rowsF := by rw [fzL_map, List.map_map]; exact List.map_congr_left fun c _ => rows_fzF
theorem s_tried4 {n : Nat} : runB (TT (n + 3)) 7 [.val, .val] b__law_tried [.int 4, .int 3] [] = some (.ret (.bl false) [] []) := by
  obtain ⟨o5, e⟩ := tried_lc (n := n)
  exact run_gen tried_t1 (t2_gen (lc_gen cand_fz (by unfold triedF; rfl) e))
end Den
/-! Nh11: the law's turn. -/
namespace Den
open PySem PySem.Spec L2
theorem gr_of {m : Nat} (h : m ∈ [1, 2, 3, 4, 5, 6, 7, 8]) : GR (m : Int) (lenL m) (rowsL m) := by
  have := gr_all m h
  simp only [Bool.and_eq_true, decide_eq_true_eq] at this
  obtain ⟨⟨⟨h1, h2⟩, h3⟩, h4⟩ := this
  exact ⟨by rw [h1], h2, h3, fun r hr => by
    have := List.all_eq_true.mp h4 r hr
    simpa only [Bool.and_eq_true, decide_eq_true_eq] using this⟩
section
variable {n : Nat} {sc : D} {d : List Int} {x : Int} {o3 o4 o5 o7 o8 : Option D}
theorem u6 {m q : Int} {P L C : D} (fP : fz P = P) (sP : shal P = P) (e1 : runB (TT (n + 7)) 8 [.val, .val] b__law_unheard [P, .int q] [] = some (.ret .non [] [])) (e2 : runB (TT (n + 7)) 4 [.val, .val] b_unheard [P, .int q] [] = some (.ret .non [] [])) :
    exec (GL (n + 8)) (tN lb_law_0 6) (st11 sc d m (some (.int x)) (some L) (some (.int q)) none (some P) (some C) none none) = some (.nx (st11 sc d m (some (.int x)) (some L) (some (.int q)) none (some P) (some C) none none)) := by
  unfold lb_law_0 st11
  have f1 : (TT (n + 8)).fn "_law_unheard" = some ⟨[.val, .val], runB (TT (n + 7)) 8 [.val, .val] b__law_unheard⟩ := rfl
  have f2 : (TT (n + 8)).fn "unheard" = some ⟨[.val, .val], runB (TT (n + 7)) 4 [.val, .val] b_unheard⟩ := rfl
  simp [tN, execs, exec, ev, evs, evc, evo, evIt, evOps, fillC, ioSl, putB, evPk, evFz, opd, isVar, hasV, fill1, fillP, asg, asgs, Den.view, rdV, mvV, setS, shal_own, shal_fz, shal_ro, shal_int, shal_bl, shal_str, shal_non, shal_tup, fz, fzL, fzO, bnd, ret, lift, Den.thn, sthn, idxD, opF, addD, subD, mulD, modD, fdivD, negD, notD, isNonD, cmpD, grd, isLst, setiM, biF, lenF, small, mutL, smallR, lim, flatD, gl_fn, f1, f2, callF, e1, e2, fP]
theorem u9_gen {Γ : Tb} {R : List D → List Ob → Option Ro} {o5 o7 o8 : Option D} (hf : Γ.fn "_law_tried" = some ⟨[.val, .val], R⟩) (hr : R [.int 4, .int 3] [] = some (.ret (.bl false) [] [])) : exec Γ (tN lb_law_0 9) (st11 sc d 4 (some (.int x)) (some (.int 4)) o5 none o7 o8 none none) = some (.nx (st11 sc d 4 (some (.int x)) (some (.int 4)) o5 none o7 o8 none none)) := by
  unfold lb_law_0 st11
  simp [tN, execs, exec, ev, evs, evc, evo, evIt, evOps, fillC, ioSl, putB, evPk, evFz, opd, isVar, hasV, fill1, fillP, asg, asgs, Den.view, rdV, mvV, setS, shal_own, shal_fz, shal_ro, shal_int, shal_bl, shal_str, shal_non, shal_tup, fz, fzL, fzO, bnd, ret, lift, Den.thn, sthn, idxD, opF, addD, subD, mulD, modD, fdivD, negD, notD, isNonD, cmpD, grd, isLst, setiM, biF, lenF, small, mutL, smallR, lim, flatD, hf, callF, hr]
theorem u9 {o5 o7 o8 : Option D} : exec (GL (n + 8)) (tN lb_law_0 9) (st11 sc d 4 (some (.int x)) (some (.int 4)) o5 none o7 o8 none none) = some (.nx (st11 sc d 4 (some (.int x)) (some (.int 4)) o5 none o7 o8 none none)) := by
  have f1 : (GL (n + 8)).fn "_law_tried" = some ⟨[.val, .val], runB (TT (n + 4 + 3)) 7 [.val, .val] b__law_tried⟩ := rfl
  have e1 := s_tried4 (n := n + 4)
  generalize runB (TT (n + 4 + 3)) 7 [.val, .val] b__law_tried = R at f1 e1
  exact u9_gen f1 e1
theorem lb_cut : lb_law_0 = appT (takeT 6 lb_law_0) (.cons (tN lb_law_0 6) (dropT 7 lb_law_0)) := rfl
theorem join {m : Int} {s1 s2 s3 : S} (tA : execs (GL (n + 8)) (takeT 6 lb_law_0) (st11 sc d m (some (.int x)) o4 o5 none o7 o8 none none) = some (.nx s1)) (t6 : exec (GL (n + 8)) (tN lb_law_0 6) s1 = some (.nx s2)) (tB : execs (GL (n + 8)) (dropT 7 lb_law_0) s2 = some (.nx s3)) :
    bodyF (GL (n + 8)) (.nm 3) lb_law_0 (.int x) (st11 sc d m o3 o4 o5 none o7 o8 none none) = some (.nx s3) := by
  show execs (GL (n + 8)) lb_law_0 (st11 sc d m (some (.int x)) o4 o5 none o7 o8 none none) = _
  rw [lb_cut, execs_appT, tA]
  show sthn (exec (GL (n + 8)) (tN lb_law_0 6) s1) _ = _
  rw [t6]
  exact tB
theorem lb_cut2 : dropT 7 lb_law_0 = appT (takeT 2 (dropT 7 lb_law_0)) (.cons (tN lb_law_0 9) (dropT 10 lb_law_0)) := rfl
theorem glue {Γ : Tb} {s s1 s2 s3 : S} (h1 : execs Γ (takeT 2 (dropT 7 lb_law_0)) s = some (.nx s1)) (h2 : exec Γ (tN lb_law_0 9) s1 = some (.nx s2)) (h3 : execs Γ (dropT 10 lb_law_0) s2 = some (.nx s3)) : execs Γ (dropT 7 lb_law_0) s = some (.nx s3) := by
  rw [lb_cut2, execs_appT, h1, sthn_nx]
  show sthn (exec Γ (tN lb_law_0 9) s1) (execs Γ (dropT 10 lb_law_0)) = _
  rw [h2, sthn_nx, h3]
theorem lenL4 : ((lenL 4 : Nat) : Int) = 4 := rfl
theorem tB4 : execs (GL (n + 8)) (dropT 7 lb_law_0) (st11 sc d 4 (some (.int x)) (some (.int ((lenL 4 : Nat) : Int))) (some (.int 2)) none (some (rowsD (rowsL 4))) (some (chD (chM 4))) none none) = some (.nx (st11 sc d 4 (some (.int x)) (some (.int ((lenL 4 : Nat) : Int))) (some (.int 2)) none (some (rowsD (rowsL 4))) (some (chX (chM 4))) none none)) := by
  have ha := tB4a (n := n) (sc := sc) (d := d) (x := x)
  have hb := tB4b (n := n) (sc := sc) (d := d) (x := x)
  rw [lenL4] at ha hb ⊢
  generalize rowsD (rowsL 4) = P at *
  generalize chD (chM 4) = C at *
  generalize chX (chM 4) = C' at *
  have hc := u9 (n := n) (sc := sc) (d := d) (x := x) (o5 := some (.int 2)) (o7 := some P) (o8 := some C)
  generalize GL (n + 8) = G at *
  exact glue ha hc hb
theorem turn1 : ∃ a4 a5 a7 a8, bodyF (GL (n + 8)) (.nm 3) lb_law_0 (.int x) (st11 sc d 1 o3 o4 o5 none o7 o8 none none) = some (.nx (st11 sc d 1 (some (.int x)) a4 a5 none a7 a8 none none)) := by
  have hG : GR 1 (lenL 1) (rowsL 1) := gr_of (m := 1) (by decide)
  have hu : unhF (rowsL 1) (lenL 1) 1 1 = none := Option.isNone_iff_eq_none.mp (unh_all 1 (by decide))
  have e1 := s_law_unheard (n := n + 6) (os := []) (q := 1) hG (by omega) (by omega) (by omega)
  have e2 := s_unheard (n := n + 3) (os := []) (q := 1) hG (by omega) (by omega) (by omega) (by omega)
  rw [hu] at e1 e2
  exact ⟨_, _, _, _, join tA1 (u6 rows_fz rows_sh e1 e2) tB1⟩
theorem turn2 : ∃ a4 a5 a7 a8, bodyF (GL (n + 8)) (.nm 3) lb_law_0 (.int x) (st11 sc d 2 o3 o4 o5 none o7 o8 none none) = some (.nx (st11 sc d 2 (some (.int x)) a4 a5 none a7 a8 none none)) := by
  have hG : GR 2 (lenL 2) (rowsL 2) := gr_of (m := 2) (by decide)
  have hu : unhF (rowsL 2) (lenL 2) 2 2 = none := Option.isNone_iff_eq_none.mp (unh_all 2 (by decide))
  have e1 := s_law_unheard (n := n + 6) (os := []) (q := 2) hG (by omega) (by omega) (by omega)
  have e2 := s_unheard (n := n + 3) (os := []) (q := 2) hG (by omega) (by omega) (by omega) (by omega)
  rw [hu] at e1 e2
  exact ⟨_, _, _, _, join tA2 (u6 rows_fz rows_sh e1 e2) tB2⟩
theorem turn3 : ∃ a4 a5 a7 a8, bodyF (GL (n + 8)) (.nm 3) lb_law_0 (.int x) (st11 sc d 3 o3 o4 o5 none o7 o8 none none) = some (.nx (st11 sc d 3 (some (.int x)) a4 a5 none a7 a8 none none)) := by
  have hG : GR 3 (lenL 3) (rowsL 3) := gr_of (m := 3) (by decide)
  have hu : unhF (rowsL 3) (lenL 3) 3 2 = none := Option.isNone_iff_eq_none.mp (unh_all 3 (by decide))
  have e1 := s_law_unheard (n := n + 6) (os := []) (q := 2) hG (by omega) (by omega) (by omega)
  have e2 := s_unheard (n := n + 3) (os := []) (q := 2) hG (by omega) (by omega) (by omega) (by omega)
  rw [hu] at e1 e2
  exact ⟨_, _, _, _, join tA3 (u6 rows_fz rows_sh e1 e2) tB3⟩
theorem turn4 : ∃ a4 a5 a7 a8, bodyF (GL (n + 8)) (.nm 3) lb_law_0 (.int x) (st11 sc d 4 o3 o4 o5 none o7 o8 none none) = some (.nx (st11 sc d 4 (some (.int x)) a4 a5 none a7 a8 none none)) := by
  have hG : GR 4 (lenL 4) (rowsL 4) := gr_of (m := 4) (by decide)
  have hu : unhF (rowsL 4) (lenL 4) 4 2 = none := Option.isNone_iff_eq_none.mp (unh_all 4 (by decide))
  have e1 := s_law_unheard (n := n + 6) (os := []) (q := 2) hG (by omega) (by omega) (by omega)
  have e2 := s_unheard (n := n + 3) (os := []) (q := 2) hG (by omega) (by omega) (by omega) (by omega)
  rw [hu] at e1 e2
  exact ⟨_, _, _, _, join tA4 (u6 rows_fz rows_sh e1 e2) tB4⟩
theorem turn5 : ∃ a4 a5 a7 a8, bodyF (GL (n + 8)) (.nm 3) lb_law_0 (.int x) (st11 sc d 5 o3 o4 o5 none o7 o8 none none) = some (.nx (st11 sc d 5 (some (.int x)) a4 a5 none a7 a8 none none)) := by
  have hG : GR 5 (lenL 5) (rowsL 5) := gr_of (m := 5) (by decide)
  have hu : unhF (rowsL 5) (lenL 5) 5 2 = none := Option.isNone_iff_eq_none.mp (unh_all 5 (by decide))
  have e1 := s_law_unheard (n := n + 6) (os := []) (q := 2) hG (by omega) (by omega) (by omega)
  have e2 := s_unheard (n := n + 3) (os := []) (q := 2) hG (by omega) (by omega) (by omega) (by omega)
  rw [hu] at e1 e2
  exact ⟨_, _, _, _, join tA5 (u6 rows_fz rows_sh e1 e2) tB5⟩
theorem turn6 : ∃ a4 a5 a7 a8, bodyF (GL (n + 8)) (.nm 3) lb_law_0 (.int x) (st11 sc d 6 o3 o4 o5 none o7 o8 none none) = some (.nx (st11 sc d 6 (some (.int x)) a4 a5 none a7 a8 none none)) := by
  have hG : GR 6 (lenL 6) (rowsL 6) := gr_of (m := 6) (by decide)
  have hu : unhF (rowsL 6) (lenL 6) 6 2 = none := Option.isNone_iff_eq_none.mp (unh_all 6 (by decide))
  have e1 := s_law_unheard (n := n + 6) (os := []) (q := 2) hG (by omega) (by omega) (by omega)
  have e2 := s_unheard (n := n + 3) (os := []) (q := 2) hG (by omega) (by omega) (by omega) (by omega)
  rw [hu] at e1 e2
  exact ⟨_, _, _, _, join tA6 (u6 rows_fz rows_sh e1 e2) tB6⟩
theorem turn7 : ∃ a4 a5 a7 a8, bodyF (GL (n + 8)) (.nm 3) lb_law_0 (.int x) (st11 sc d 7 o3 o4 o5 none o7 o8 none none) = some (.nx (st11 sc d 7 (some (.int x)) a4 a5 none a7 a8 none none)) := by
  have hG : GR 7 (lenL 7) (rowsL 7) := gr_of (m := 7) (by decide)
  have hu : unhF (rowsL 7) (lenL 7) 7 2 = none := Option.isNone_iff_eq_none.mp (unh_all 7 (by decide))
  have e1 := s_law_unheard (n := n + 6) (os := []) (q := 2) hG (by omega) (by omega) (by omega)
  have e2 := s_unheard (n := n + 3) (os := []) (q := 2) hG (by omega) (by omega) (by omega) (by omega)
  rw [hu] at e1 e2
  exact ⟨_, _, _, _, join tA7 (u6 rows_fz rows_sh e1 e2) tB7⟩
theorem turn8 : ∃ a4 a5 a7 a8, bodyF (GL (n + 8)) (.nm 3) lb_law_0 (.int x) (st11 sc d 8 o3 o4 o5 none o7 o8 none none) = some (.nx (st11 sc d 8 (some (.int x)) a4 a5 none a7 a8 none none)) := by
  have hG : GR 8 (lenL 8) (rowsL 8) := gr_of (m := 8) (by decide)
  have hu : unhF (rowsL 8) (lenL 8) 8 2 = none := Option.isNone_iff_eq_none.mp (unh_all 8 (by decide))
  have e1 := s_law_unheard (n := n + 6) (os := []) (q := 2) hG (by omega) (by omega) (by omega)
  have e2 := s_unheard (n := n + 3) (os := []) (q := 2) hG (by omega) (by omega) (by omega) (by omega)
  rw [hu] at e1 e2
  exact ⟨_, _, _, _, join tA8 (u6 rows_fz rows_sh e1 e2) tB8⟩
theorem turn {m : Int} (h1 : 1 ≤ m) (h8 : m ≤ 8) : ∃ a4 a5 a7 a8, bodyF (GL (n + 8)) (.nm 3) lb_law_0 (.int x) (st11 sc d m o3 o4 o5 none o7 o8 none none) = some (.nx (st11 sc d m (some (.int x)) a4 a5 none a7 a8 none none)) := by
  have : m = 1 ∨ m = 2 ∨ m = 3 ∨ m = 4 ∨ m = 5 ∨ m = 6 ∨ m = 7 ∨ m = 8 := by omega
  rcases this with rfl | rfl | rfl | rfl | rfl | rfl | rfl | rfl
  · exact turn1
  · exact turn2
  · exact turn3
  · exact turn4
  · exact turn5
  · exact turn6
  · exact turn7
  · exact turn8
end
end Den
/-! Ni11: the law holds. -/
namespace Den
open PySem PySem.Spec L2
theorem gOff {n : Nat} : (GL (n + 1)).fn "_law_off" = some ⟨[.io, .val], runB (TT n) 3 [.io, .val] b__law_off⟩ := rfl
theorem odd_turn {n : Nat} {sc : D} {d : List Int} {m : Int} {o3 o4 o5 o7 o8 : Option D} (hd : DOk d) : ∃ (v : Int) (d' : List Int), (v = 0 ∨ v = 9 ∨ v = -1 ∨ v = 1000000000) ∧ DOk d' ∧
    exec (GL (n + 8)) (tN b_law 3) (st11 sc d m o3 o4 o5 none o7 o8 none none) = some (.nx (st11 sc d' m o3 o4 o5 none o7 o8 none (some (.int v)))) := by
  obtain ⟨r, d', e, r0, r1, hd'⟩ := r_off (TT (n + 7)) hd 4 [] (by omega) (by omega)
  have hr : r = 0 ∨ r = 1 ∨ r = 2 ∨ r = 3 := by omega
  have hp : ∀ v : Int, atI [D.int 0, .int 9, .int (-1), .int 1000000000] r = some (.int v) → exec (GL (n + 8)) (tN b_law 3) (st11 sc d m o3 o4 o5 none o7 o8 none none) = some (.nx (st11 sc d' m o3 o4 o5 none o7 o8 none (some (.int v)))) := fun v hv => by
    unfold b_law st11
    have f1 : (TT (n + 8)).fn "_law_off" = some ⟨[.io, .val], runB (TT (n + 7)) 3 [.io, .val] b__law_off⟩ := rfl
    simp [tN, execs, exec, ev, evs, evc, evo, evIt, evOps, fillC, ioSl, putB, evPk, evFz, opd, isVar, hasV, fill1, fillP, asg, asgs, Den.view, rdV, mvV, setS, shal_own, shal_fz, shal_ro, shal_int, shal_bl, shal_str, shal_non, shal_tup, fz, fzL, fzO, bnd, ret, lift, Den.thn, sthn, idxD, opF, addD, subD, mulD, modD, fdivD, negD, notD, isNonD, cmpD, grd, isLst, setiM, biF, lenF, small, mutL, smallR, lim, flatD, powD, gl_fn, f1, callF, e, hv]
  rcases hr with rfl | rfl | rfl | rfl
  · exact ⟨0, d', .inl rfl, hd', hp _ (by simp)⟩
  · exact ⟨9, d', .inr (.inl rfl), hd', hp _ (by simp)⟩
  · exact ⟨-1, d', .inr (.inr (.inl rfl)), hd', hp _ (by simp)⟩
  · exact ⟨1000000000, d', .inr (.inr (.inr rfl)), hd', hp _ (by simp)⟩
section
variable {n : Nat} {sc : D} {d : List Int} {m : Int} {o3 o4 o5 o7 o8 : Option D}
theorem ref0 : exec (GL (n + 8)) (tN b_law 4) (st11 sc d m o3 o4 o5 none o7 o8 none (some (.int 0))) = some (.rt (.bl true) (st11 sc d m o3 o4 o5 none o7 o8 none (some (.int 0)))) := by kernel_rfl
theorem ref1 : exec (GL (n + 8)) (tN b_law 4) (st11 sc d m o3 o4 o5 none o7 o8 none (some (.int 9))) = some (.rt (.bl true) (st11 sc d m o3 o4 o5 none o7 o8 none (some (.int 9)))) := by kernel_rfl
theorem ref2 : exec (GL (n + 8)) (tN b_law 4) (st11 sc d m o3 o4 o5 none o7 o8 none (some (.int (-1)))) = some (.rt (.bl true) (st11 sc d m o3 o4 o5 none o7 o8 none (some (.int (-1))))) := by kernel_rfl
theorem ref3 : exec (GL (n + 8)) (tN b_law 4) (st11 sc d m o3 o4 o5 none o7 o8 none (some (.int 1000000000))) = some (.rt (.bl true) (st11 sc d m o3 o4 o5 none o7 o8 none (some (.int 1000000000)))) := by kernel_rfl
theorem refused {v : Int} (hv : v = 0 ∨ v = 9 ∨ v = -1 ∨ v = 1000000000) : exec (GL (n + 8)) (tN b_law 4) (st11 sc d m o3 o4 o5 none o7 o8 none (some (.int v))) = some (.rt (.bl true) (st11 sc d m o3 o4 o5 none o7 o8 none (some (.int v)))) := by
  rcases hv with rfl | rfl | rfl | rfl
  · exact ref0
  · exact ref1
  · exact ref2
  · exact ref3
end
theorem law_true (ns : List Int) (hl : ns.length ≤ 63) (hb : ∀ z ∈ ns, Builtin.Int.intBits z ≤ 1048576) : runB (withL (tab gloC defsC 60) LB_law) d_law.N.length [.val] b_law [.lst .ro (ns.map .int)] [] = some (.ret (.bl true) [] []) := by
  show runB (GL 60) 11 [.val] b_law [.lst .ro (ns.map .int)] [] = some (.ret (.bl true) [] [])
  obtain ⟨d0, hd0, e0⟩ := s_dice (n := 59) (os := []) hl
  obtain ⟨m, d1, m1, m8, hd1, e1⟩ := s_many (n := 58) (os := []) hd0
  have eb : b_law = .cons (tN b_law 0) (.cons (tN b_law 1) (.cons (tN b_law 2) (.cons (tN b_law 3) (.cons (tN b_law 4) .nil)))) := rfl
  have t0 : exec (GL 60) (tN b_law 0) ⟨[some (.lst .ro (ns.map .int)), none, none, none, none, none, none, none, none, none, none], []⟩ = some (.nx ⟨[some (.lst .ro (ns.map .int)), some (.lst .own (d0.map .int)), none, none, none, none, none, none, none, none, none], []⟩) := by
    unfold b_law
    simp [tN, execs, exec, ev, evs, evc, evo, evIt, evOps, fillC, ioSl, putB, evPk, evFz, opd, isVar, hasV, fill1, fillP, asg, asgs, Den.view, rdV, mvV, setS, shal_own, shal_fz, shal_ro, shal_int, shal_bl, shal_str, shal_non, shal_tup, fz, fzL, fzO, bnd, ret, lift, Den.thn, sthn, idxD, opF, addD, subD, mulD, modD, fdivD, negD, notD, isNonD, cmpD, grd, isLst, setiM, biF, lenF, small, mutL, smallR, lim, flatD, gl_fn, fn_dice, callF, e0]
  have t1 : exec (GL 60) (tN b_law 1) ⟨[some (.lst .ro (ns.map .int)), some (.lst .own (d0.map .int)), none, none, none, none, none, none, none, none, none], []⟩ = some (.nx (st11 (.lst .ro (ns.map .int)) d1 m none none none none none none none none)) := by
    unfold b_law st11
    simp [tN, execs, exec, ev, evs, evc, evo, evIt, evOps, fillC, ioSl, putB, evPk, evFz, opd, isVar, hasV, fill1, fillP, asg, asgs, Den.view, rdV, mvV, setS, shal_own, shal_fz, shal_ro, shal_int, shal_bl, shal_str, shal_non, shal_tup, fz, fzL, fzO, bnd, ret, lift, Den.thn, sthn, idxD, opF, addD, subD, mulD, modD, fdivD, negD, notD, isNonD, cmpD, grd, isLst, setiM, biF, lenF, small, mutL, smallR, lim, flatD, gl_fn, fn_many, callF, e1]
  have t2 : ∃ a3 a4 a5 a7 a8, exec (GL 60) (tN b_law 2) (st11 (.lst .ro (ns.map .int)) d1 m none none none none none none none none) = some (.nx (st11 (.lst .ro (ns.map .int)) d1 m a3 a4 a5 none a7 a8 none none)) := by
    have e := exec_for (Γ := GL 60) (tg := .nm 3) (it := .rng1 (.cst (.int 2))) (b := lb_law_0) (s := st11 (.lst .ro (ns.map .int)) d1 m none none none none none none none none) (s1 := st11 (.lst .ro (ns.map .int)) d1 m none none none none none none none none) (xs := [.int 0, .int 1]) (by simp [execs, exec, ev, evs, evc, evo, evIt, evOps, fillC, ioSl, putB, evPk, evFz, opd, isVar, hasV, fill1, fillP, asg, asgs, Den.view, rdV, mvV, setS, shal_own, shal_fz, shal_ro, shal_int, shal_bl, shal_str, shal_non, shal_tup, fz, fzL, fzO, bnd, ret, lift, Den.thn, sthn, idxD, opF, addD, subD, mulD, modD, fdivD, negD, notD, isNonD, cmpD, grd, isLst, setiM, biF, lenF, small, mutL, smallR, lim, flatD]; rfl)
    obtain ⟨b4, b5, b7, b8, u0⟩ := turn (n := 52) (sc := .lst .ro (ns.map .int)) (d := d1) (o3 := none) (o4 := none) (o5 := none) (o7 := none) (o8 := none) (x := 0) m1 m8
    obtain ⟨c4, c5, c7, c8, u1⟩ := turn (n := 52) (sc := .lst .ro (ns.map .int)) (d := d1) (o3 := some (.int 0)) (o4 := b4) (o5 := b5) (o7 := b7) (o8 := b8) (x := 1) m1 m8
    refine ⟨some (.int 1), c4, c5, c7, c8, e.trans ?_⟩
    show sthn _ _ = _
    rw [show bodyF (GL 60) (.nm 3) lb_law_0 (.int 0) _ = _ from u0, sthn_nx]
    show sthn _ _ = _
    rw [show bodyF (GL 60) (.nm 3) lb_law_0 (.int 1) _ = _ from u1, sthn_nx]
    rfl
  obtain ⟨a3, a4, a5, a7, a8, t2⟩ := t2
  obtain ⟨v, d2, hv, hd2, t3⟩ := odd_turn (n := 52) (sc := .lst .ro (ns.map .int)) (m := m) (o3 := a3) (o4 := a4) (o5 := a5) (o7 := a7) (o8 := a8) hd1
  have t4 := refused (n := 52) (sc := .lst .ro (ns.map .int)) (d := d2) (m := m) (o3 := a3) (o4 := a4) (o5 := a5) (o7 := a7) (o8 := a8) hv
  unfold runB startS
  rw [eb]
  have go : ∀ {t : T} {ts : Ts} {s s' : S}, exec (GL 60) t s = some (.nx s') → execs (GL 60) (.cons t ts) s = execs (GL 60) ts s' := fun {t ts s s'} e => by
    show sthn (exec (GL 60) t s) _ = _
    rw [e, sthn_nx]
  have fin := (go t0).trans ((go t1).trans ((go t2).trans ((go t3).trans (execs_fin t4))))
  have q1 : execs (GL 60) _ ⟨List.map some [.lst .ro (ns.map .int)] ++ List.replicate (11 - [D.lst .ro (ns.map .int)].length) none, []⟩ = _ := fin
  rw [q1]
  simp [outsOf, st11]
end Den
namespace Den
open PySem PySem.Spec PyProof.Rows L2
def clA (a b c d e : Addr) : Nat → Addr
  | 0 => a
  | 1 => b
  | 2 => c
  | 3 => d
  | _ => e
/-- the __init__ of a class of the top -/
def iniS (i : Nat) : Stmt := match topS i with
  | .ClassDef _ _ _ body _ _ _ _ _ _ _ => body.getD 0 (.Pass ⟨0, 0, 0, 0⟩)
  | _ => .Pass ⟨0, 0, 0, 0⟩
theorem iniSc_1 : scB ["self", clFld 1] ["self", clFld 1] (defScope (iniS 3)) = true := by decide +kernel
theorem iniTx_1 : IniTxt (iniS 3) (clFld 1) := ⟨_, _, _, _, _, _, _, _, _, _, _, rfl, by decide +kernel, .inl (by decide +kernel), .inl (by decide +kernel), fun _ => rfl⟩
theorem iniSc_2 : scB ["self", clFld 2] ["self", clFld 2] (defScope (iniS 4)) = true := by decide +kernel
theorem iniTx_2 : IniTxt (iniS 4) (clFld 2) := ⟨_, _, _, _, _, _, _, _, _, _, _, rfl, by decide +kernel, .inl (by decide +kernel), .inl (by decide +kernel), fun _ => rfl⟩
theorem iniSc_3 : scB ["self", clFld 3] ["self", clFld 3] (defScope (iniS 5)) = true := by decide +kernel
theorem iniTx_3 : IniTxt (iniS 5) (clFld 3) := ⟨_, _, _, _, _, _, _, _, _, _, _, rfl, by decide +kernel, .inl (by decide +kernel), .inl (by decide +kernel), fun _ => rfl⟩
theorem rfSc : scB ExR.rfN ["_law_work", "_law_word", "_law_value"] (defScope (topS 24)) = true := by decide +kernel
theorem rfTx : RfTxt (topS 24) := ⟨_, _, _, _, _, _, _, _, _, _, _, _, _, _, _, _, _, _, _, _, _, _, _, _, _, _, _, _, _, _, _, _, _, _, _, _, _, _, _, _, rfl, ⟨visK (by decide +kernel), visK (by decide +kernel), visK (by decide +kernel), by decide +kernel, by decide +kernel⟩, by decide +kernel, by decide +kernel, visK (by decide +kernel)⟩
theorem isSc : scB ExI.isN ["_law_e", "_law_word"] (defScope (topS 23)) = true := by decide +kernel
theorem isTx : IsTxt (topS 23) := ⟨_, _, _, _, _, _, _, _, _, _, _, _, _, _, _, _, _, _, _, _, _, _, _, _, _, _, _, _, _, _, _, _, _, _, _, _, _, _, _, _, _, _, _, _, _, _, _, _, _, _, _, _, _, _, _, rfl, ⟨visK (by decide +kernel), visK (by decide +kernel), locK (by decide +kernel), locK (by decide +kernel), by decide +kernel, by decide +kernel, by decide +kernel, by decide +kernel, by decide +kernel, by decide +kernel, by decide +kernel, blkOk_by (by decide +kernel), by decide +kernel, by decide +kernel⟩, rfl⟩
theorem alSc : scB ExJ.alN ["_law_found", "_law_due"] (defScope (topS 22)) = true := by decide +kernel
theorem alTx : AlTxt (topS 22) := ⟨_, _, _, _, _, _, _, _, _, _, _, _, _, _, _, _, _, _, _, _, _, _, _, _, _, _, _, _, _, _, _, _, _, rfl, ⟨visK (by decide +kernel), visK (by decide +kernel), by decide +kernel, by decide +kernel, by decide +kernel, by decide +kernel⟩⟩
/-! ### what the head has written -/
theorem law_mk {w : World} {K : PySem.W.Frag} {h : Heap} {mg : Str → Option Value} {fa : Addr} (KX : K.In h) (G : h.Ns mainGlobals mg) (T : AllTab PySem.Challenge.pw_oneair_k11_whole_the_shortest_for_two mg h) (hfa : mg "law" = some (.ref fa))
    {fx10 : Addr} {ocx10 kVx10 dcx10 pmx10 cdx10 ctx10 : Value} {odx10 anx10 : Option Addr} {slx10 : Array (Option Value)}
    {fx11 : Addr} {ocx11 kVx11 dcx11 pmx11 cdx11 ctx11 : Value} {odx11 anx11 : Option Addr} {slx11 : Array (Option Value)}
    {fx12 : Addr} {ocx12 kVx12 dcx12 pmx12 cdx12 ctx12 : Value} {odx12 anx12 : Option Addr} {slx12 : Array (Option Value)}
    {fx13 : Addr} {ocx13 kVx13 dcx13 pmx13 ctx13 : Value} {odx13 anx13 : Option Addr} {slx13 : Array (Option Value)}
    {cx13 Px13 : Addr} {ex13 : Value} {ddx13 : Option Addr} {vsx13 : Array Value} {smx13 : Array (Option Value)}
    {fx15 : Addr} {ocx15 kVx15 dcx15 pmx15 cdx15 ctx15 : Value} {odx15 anx15 : Option Addr} {slx15 : Array (Option Value)}
    {fx16 : Addr} {ocx16 kVx16 dcx16 pmx16 cdx16 ctx16 : Value} {odx16 anx16 : Option Addr} {slx16 : Array (Option Value)}
    {fx17 : Addr} {ocx17 kVx17 dcx17 pmx17 cdx17 ctx17 : Value} {odx17 anx17 : Option Addr} {slx17 : Array (Option Value)}
    {fx18 : Addr} {ocx18 kVx18 dcx18 pmx18 cdx18 ctx18 : Value} {odx18 anx18 : Option Addr} {slx18 : Array (Option Value)}
    {fx20 : Addr} {ocx20 kVx20 dcx20 pmx20 cdx20 ctx20 : Value} {odx20 anx20 : Option Addr} {slx20 : Array (Option Value)}
    {fx21 : Addr} {ocx21 kVx21 dcx21 pmx21 cdx21 ctx21 : Value} {odx21 anx21 : Option Addr} {slx21 : Array (Option Value)}
    {fx22 : Addr} {ocx22 kVx22 dcx22 pmx22 cdx22 ctx22 : Value} {odx22 anx22 : Option Addr} {slx22 : Array (Option Value)}
    {fx23 : Addr} {ocx23 kVx23 dcx23 pmx23 cdx23 ctx23 : Value} {odx23 anx23 : Option Addr} {slx23 : Array (Option Value)}
    {fx24 : Addr} {ocx24 kVx24 dcx24 pmx24 cdx24 ctx24 : Value} {odx24 anx24 : Option Addr} {slx24 : Array (Option Value)}
    {fx25 : Addr} {ocx25 kVx25 dcx25 pmx25 cdx25 ctx25 : Value} {odx25 anx25 : Option Addr} {slx25 : Array (Option Value)}
    {fx26 : Addr} {ocx26 kVx26 dcx26 pmx26 cdx26 ctx26 : Value} {odx26 anx26 : Option Addr} {slx26 : Array (Option Value)}
    {fx27 : Addr} {ocx27 kVx27 dcx27 pmx27 cdx27 ctx27 : Value} {odx27 anx27 : Option Addr} {slx27 : Array (Option Value)}
    {fx28 : Addr} {ocx28 kVx28 dcx28 pmx28 cdx28 ctx28 : Value} {odx28 anx28 : Option Addr} {slx28 : Array (Option Value)}
    {fx29 : Addr} {ocx29 kVx29 dcx29 pmx29 cdx29 ctx29 : Value} {odx29 anx29 : Option Addr} {slx29 : Array (Option Value)}
    {fx30 : Addr} {ocx30 kVx30 dcx30 pmx30 cdx30 ctx30 : Value} {odx30 anx30 : Option Addr} {slx30 : Array (Option Value)}
    {fx31 : Addr} {ocx31 kVx31 dcx31 pmx31 ctx31 : Value} {odx31 anx31 : Option Addr} {slx31 : Array (Option Value)}
    {cx31 Px31 : Addr} {ex31 : Value} {ddx31 : Option Addr} {vsx31 : Array Value} {smx31 : Array (Option Value)}
    {CA C0 C1 C2 C3 C4 : Addr}
    {fI1 : Addr} {nm1 q1 : Str} {N1 : Addr} {bs1 bm1 : List Value} {sn1 : List Str} {sub1 : List Value} {ab1 : Bool} {col1 : Option Bool} {dd1 : Option Addr} {m01 m11 m21 m31 m51 : Option Value}
    {ocI1 kVI1 dcI1 pmI1 cdI1 ctI1 : Value} {odI1 anI1 : Option Addr} {slI1 : Array (Option Value)}
    {fI2 : Addr} {nm2 q2 : Str} {N2 : Addr} {bs2 bm2 : List Value} {sn2 : List Str} {sub2 : List Value} {ab2 : Bool} {col2 : Option Bool} {dd2 : Option Addr} {m02 m12 m22 m32 m52 : Option Value}
    {ocI2 kVI2 dcI2 pmI2 cdI2 ctI2 : Value} {odI2 anI2 : Option Addr} {slI2 : Array (Option Value)}
    {fI3 : Addr} {nm3 q3 : Str} {N3 : Addr} {bs3 bm3 : List Value} {sn3 : List Str} {sub3 : List Value} {ab3 : Bool} {col3 : Option Bool} {dd3 : Option Addr} {m03 m13 m23 m33 m53 : Option Value}
    {ocI3 kVI3 dcI3 pmI3 cdI3 ctI3 : Value} {odI3 anI3 : Option Addr} {slI3 : Array (Option Value)}
    {t_MOST_STATIONS : Tok}
    {t_MOST_SIGNS : Tok}
    (ax10 : PySem.W.nsIn K mainGlobals "need_many" = some (some (.ref fx10)))
    (lx10 : K.lookup fx10 = some ⟨ocx10, odx10, .func (PySem.W.fnOf "need_many" "need_many" (defArgs (topS 10)) (defBody (topS 10)) (defScope (topS 10)) .none kVx10 dcx10 pmx10 anx10 cdx10 ctx10), slx10⟩)
    (ccx10 : PySem.W.codeIn K cdx10 "need_many" = true)
    (kx10 : PySem.W.keepIn K (.ref fx10) = true)
    (ax11 : PySem.W.nsIn K mainGlobals "need_most" = some (some (.ref fx11)))
    (lx11 : K.lookup fx11 = some ⟨ocx11, odx11, .func (PySem.W.fnOf "need_most" "need_most" (defArgs (topS 11)) (defBody (topS 11)) (defScope (topS 11)) .none kVx11 dcx11 pmx11 anx11 cdx11 ctx11), slx11⟩)
    (ccx11 : PySem.W.codeIn K cdx11 "need_most" = true)
    (kx11 : PySem.W.keepIn K (.ref fx11) = true)
    (ax12 : PySem.W.nsIn K mainGlobals "are_rows" = some (some (.ref fx12)))
    (lx12 : K.lookup fx12 = some ⟨ocx12, odx12, .func (PySem.W.fnOf "are_rows" "are_rows" (defArgs (topS 12)) (defBody (topS 12)) (defScope (topS 12)) .none kVx12 dcx12 pmx12 anx12 cdx12 ctx12), slx12⟩)
    (ccx12 : PySem.W.codeIn K cdx12 "are_rows" = true)
    (kx12 : PySem.W.keepIn K (.ref fx12) = true)
    (ax13 : PySem.W.nsIn K mainGlobals "all_sets" = some (some (.ref fx13)))
    (lx13 : K.lookup fx13 = some ⟨ocx13, odx13, .func (PySem.W.fnOf "all_sets" "all_sets" (defArgs (topS 13)) (defBody (topS 13)) (defScope (topS 13)) .none kVx13 dcx13 pmx13 anx13 (.ref cx13) ctx13), slx13⟩)
    (ccx13 : PySem.W.codeIn K (.ref cx13) "all_sets" = true)
    (kx13 : PySem.W.keepIn K (.ref fx13) = true)
    (lcx13 : K.lookup cx13 = some ⟨ex13, ddx13, .fields vsx13, smx13⟩)
    (hx13 : vsx13[11]? = some (.ref Px13))
    (npx13 : K.lookup Px13 = none)
    (ax15 : PySem.W.nsIn K mainGlobals "is_alone" = some (some (.ref fx15)))
    (lx15 : K.lookup fx15 = some ⟨ocx15, odx15, .func (PySem.W.fnOf "is_alone" "is_alone" (defArgs (topS 15)) (defBody (topS 15)) (defScope (topS 15)) .none kVx15 dcx15 pmx15 anx15 cdx15 ctx15), slx15⟩)
    (ccx15 : PySem.W.codeIn K cdx15 "is_alone" = true)
    (kx15 : PySem.W.keepIn K (.ref fx15) = true)
    (ax16 : PySem.W.nsIn K mainGlobals "unheard" = some (some (.ref fx16)))
    (lx16 : K.lookup fx16 = some ⟨ocx16, odx16, .func (PySem.W.fnOf "unheard" "unheard" (defArgs (topS 16)) (defBody (topS 16)) (defScope (topS 16)) .none kVx16 dcx16 pmx16 anx16 cdx16 ctx16), slx16⟩)
    (ccx16 : PySem.W.codeIn K cdx16 "unheard" = true)
    (kx16 : PySem.W.keepIn K (.ref fx16) = true)
    (ax17 : PySem.W.nsIn K mainGlobals "chains_of" = some (some (.ref fx17)))
    (lx17 : K.lookup fx17 = some ⟨ocx17, odx17, .func (PySem.W.fnOf "chains_of" "chains_of" (defArgs (topS 17)) (defBody (topS 17)) (defScope (topS 17)) .none kVx17 dcx17 pmx17 anx17 cdx17 ctx17), slx17⟩)
    (ccx17 : PySem.W.codeIn K cdx17 "chains_of" = true)
    (kx17 : PySem.W.keepIn K (.ref fx17) = true)
    (ax18 : PySem.W.nsIn K mainGlobals "two" = some (some (.ref fx18)))
    (lx18 : K.lookup fx18 = some ⟨ocx18, odx18, .func (PySem.W.fnOf "two" "two" (defArgs (topS 18)) (defBody (topS 18)) (defScope (topS 18)) .none kVx18 dcx18 pmx18 anx18 cdx18 ctx18), slx18⟩)
    (ccx18 : PySem.W.codeIn K cdx18 "two" = true)
    (kx18 : PySem.W.keepIn K (.ref fx18) = true)
    (ax20 : PySem.W.nsIn K mainGlobals "_law_dice" = some (some (.ref fx20)))
    (lx20 : K.lookup fx20 = some ⟨ocx20, odx20, .func (PySem.W.fnOf "_law_dice" "_law_dice" (defArgs (topS 20)) (defBody (topS 20)) (defScope (topS 20)) .none kVx20 dcx20 pmx20 anx20 cdx20 ctx20), slx20⟩)
    (ccx20 : PySem.W.codeIn K cdx20 "_law_dice" = true)
    (kx20 : PySem.W.keepIn K (.ref fx20) = true)
    (ax21 : PySem.W.nsIn K mainGlobals "_law_off" = some (some (.ref fx21)))
    (lx21 : K.lookup fx21 = some ⟨ocx21, odx21, .func (PySem.W.fnOf "_law_off" "_law_off" (defArgs (topS 21)) (defBody (topS 21)) (defScope (topS 21)) .none kVx21 dcx21 pmx21 anx21 cdx21 ctx21), slx21⟩)
    (ccx21 : PySem.W.codeIn K cdx21 "_law_off" = true)
    (kx21 : PySem.W.keepIn K (.ref fx21) = true)
    (ax22 : PySem.W.nsIn K mainGlobals "_law_alike" = some (some (.ref fx22)))
    (lx22 : K.lookup fx22 = some ⟨ocx22, odx22, .func (PySem.W.fnOf "_law_alike" "_law_alike" (defArgs (topS 22)) (defBody (topS 22)) (defScope (topS 22)) .none kVx22 dcx22 pmx22 anx22 cdx22 ctx22), slx22⟩)
    (ccx22 : PySem.W.codeIn K cdx22 "_law_alike" = true)
    (kx22 : PySem.W.keepIn K (.ref fx22) = true)
    (ax23 : PySem.W.nsIn K mainGlobals "_law_is" = some (some (.ref fx23)))
    (lx23 : K.lookup fx23 = some ⟨ocx23, odx23, .func (PySem.W.fnOf "_law_is" "_law_is" (defArgs (topS 23)) (defBody (topS 23)) (defScope (topS 23)) .none kVx23 dcx23 pmx23 anx23 cdx23 ctx23), slx23⟩)
    (ccx23 : PySem.W.codeIn K cdx23 "_law_is" = true)
    (kx23 : PySem.W.keepIn K (.ref fx23) = true)
    (ax24 : PySem.W.nsIn K mainGlobals "_law_refused" = some (some (.ref fx24)))
    (lx24 : K.lookup fx24 = some ⟨ocx24, odx24, .func (PySem.W.fnOf "_law_refused" "_law_refused" (defArgs (topS 24)) (defBody (topS 24)) (defScope (topS 24)) .none kVx24 dcx24 pmx24 anx24 cdx24 ctx24), slx24⟩)
    (ccx24 : PySem.W.codeIn K cdx24 "_law_refused" = true)
    (kx24 : PySem.W.keepIn K (.ref fx24) = true)
    (ax25 : PySem.W.nsIn K mainGlobals "_law_many" = some (some (.ref fx25)))
    (lx25 : K.lookup fx25 = some ⟨ocx25, odx25, .func (PySem.W.fnOf "_law_many" "_law_many" (defArgs (topS 25)) (defBody (topS 25)) (defScope (topS 25)) .none kVx25 dcx25 pmx25 anx25 cdx25 ctx25), slx25⟩)
    (ccx25 : PySem.W.codeIn K cdx25 "_law_many" = true)
    (kx25 : PySem.W.keepIn K (.ref fx25) = true)
    (ax26 : PySem.W.nsIn K mainGlobals "_law_sets" = some (some (.ref fx26)))
    (lx26 : K.lookup fx26 = some ⟨ocx26, odx26, .func (PySem.W.fnOf "_law_sets" "_law_sets" (defArgs (topS 26)) (defBody (topS 26)) (defScope (topS 26)) .none kVx26 dcx26 pmx26 anx26 cdx26 ctx26), slx26⟩)
    (ccx26 : PySem.W.codeIn K cdx26 "_law_sets" = true)
    (kx26 : PySem.W.keepIn K (.ref fx26) = true)
    (ax27 : PySem.W.nsIn K mainGlobals "_law_unheard" = some (some (.ref fx27)))
    (lx27 : K.lookup fx27 = some ⟨ocx27, odx27, .func (PySem.W.fnOf "_law_unheard" "_law_unheard" (defArgs (topS 27)) (defBody (topS 27)) (defScope (topS 27)) .none kVx27 dcx27 pmx27 anx27 cdx27 ctx27), slx27⟩)
    (ccx27 : PySem.W.codeIn K cdx27 "_law_unheard" = true)
    (kx27 : PySem.W.keepIn K (.ref fx27) = true)
    (ax28 : PySem.W.nsIn K mainGlobals "_law_texts" = some (some (.ref fx28)))
    (lx28 : K.lookup fx28 = some ⟨ocx28, odx28, .func (PySem.W.fnOf "_law_texts" "_law_texts" (defArgs (topS 28)) (defBody (topS 28)) (defScope (topS 28)) .none kVx28 dcx28 pmx28 anx28 cdx28 ctx28), slx28⟩)
    (ccx28 : PySem.W.codeIn K cdx28 "_law_texts" = true)
    (kx28 : PySem.W.keepIn K (.ref fx28) = true)
    (ax29 : PySem.W.nsIn K mainGlobals "_law_are_chains" = some (some (.ref fx29)))
    (lx29 : K.lookup fx29 = some ⟨ocx29, odx29, .func (PySem.W.fnOf "_law_are_chains" "_law_are_chains" (defArgs (topS 29)) (defBody (topS 29)) (defScope (topS 29)) .none kVx29 dcx29 pmx29 anx29 cdx29 ctx29), slx29⟩)
    (ccx29 : PySem.W.codeIn K cdx29 "_law_are_chains" = true)
    (kx29 : PySem.W.keepIn K (.ref fx29) = true)
    (ax30 : PySem.W.nsIn K mainGlobals "_law_tried" = some (some (.ref fx30)))
    (lx30 : K.lookup fx30 = some ⟨ocx30, odx30, .func (PySem.W.fnOf "_law_tried" "_law_tried" (defArgs (topS 30)) (defBody (topS 30)) (defScope (topS 30)) .none kVx30 dcx30 pmx30 anx30 cdx30 ctx30), slx30⟩)
    (ccx30 : PySem.W.codeIn K cdx30 "_law_tried" = true)
    (kx30 : PySem.W.keepIn K (.ref fx30) = true)
    (ax31 : PySem.W.nsIn K mainGlobals "law" = some (some (.ref fx31)))
    (lx31 : K.lookup fx31 = some ⟨ocx31, odx31, .func (PySem.W.fnOf "law" "law" (defArgs (topS 31)) (defBody (topS 31)) (defScope (topS 31)) .none kVx31 dcx31 pmx31 anx31 (.ref cx31) ctx31), slx31⟩)
    (ccx31 : PySem.W.codeIn K (.ref cx31) "law" = true)
    (kx31 : PySem.W.keepIn K (.ref fx31) = true)
    (lcx31 : K.lookup cx31 = some ⟨ex31, ddx31, .fields vsx31, smx31⟩)
    (hx31 : vsx31[11]? = some (.ref Px31))
    (npx31 : K.lookup Px31 = none)
    (z_len : PySem.W.nsIn K mainGlobals "len" = some none)
    (z_abs : PySem.W.nsIn K mainGlobals "abs" = some none)
    (z_max : PySem.W.nsIn K mainGlobals "max" = some none)
    (z_min : PySem.W.nsIn K mainGlobals "min" = some none)
    (z_int : PySem.W.nsIn K mainGlobals "int" = some none)
    (z_tuple : PySem.W.nsIn K mainGlobals "tuple" = some none)
    (z_list : PySem.W.nsIn K mainGlobals "list" = some none)
    (z_sorted : PySem.W.nsIn K mainGlobals "sorted" = some none)
    (z_all : PySem.W.nsIn K mainGlobals "all" = some none)
    (z_isinstance : PySem.W.nsIn K mainGlobals "isinstance" = some none)
    (z_range : PySem.W.nsIn K mainGlobals "range" = some none)
    (z_reversed : PySem.W.nsIn K mainGlobals "reversed" = some none)
    (z_set : PySem.W.nsIn K mainGlobals "set" = some none)
    (z_bool : PySem.W.nsIn K mainGlobals "bool" = some none)
    (z_str : PySem.W.nsIn K mainGlobals "str" = some none)
    (z_dict : PySem.W.nsIn K mainGlobals "dict" = some none)
    (z_enumerate : PySem.W.nsIn K mainGlobals "enumerate" = some none)
    (z_zip : PySem.W.nsIn K mainGlobals "zip" = some none)
    (z_sum : PySem.W.nsIn K mainGlobals "sum" = some none)
    (z_any : PySem.W.nsIn K mainGlobals "any" = some none)
    (z_ValueError : PySem.W.nsIn K mainGlobals "ValueError" = some none)
    (gCA : PySem.W.nsIn K mainGlobals "AirError" = some (some (.ref CA)))
    (gC0 : PySem.W.nsIn K mainGlobals "BadNumber" = some (some (.ref C0)))
    (gC1 : PySem.W.nsIn K mainGlobals "BadRule" = some (some (.ref C1)))
    (gC2 : PySem.W.nsIn K mainGlobals "BadWakes" = some (some (.ref C2)))
    (gC3 : PySem.W.nsIn K mainGlobals "BadPlan" = some (some (.ref C3)))
    (gC4 : PySem.W.nsIn K mainGlobals "BadText" = some (some (.ref C4)))
    (cB0 : clsB K CA (clA C0 C1 C2 C3 C4) 0 = true)
    (cB1 : clsB K CA (clA C0 C1 C2 C3 C4) 1 = true)
    (cB2 : clsB K CA (clA C0 C1 C2 C3 C4) 2 = true)
    (cB3 : clsB K CA (clA C0 C1 C2 C3 C4) 3 = true)
    (cB4 : clsB K CA (clA C0 C1 C2 C3 C4) 4 = true)
    (q0 : PySem.W.excIn K C0 VEb "ValueError.__new__" = true)
    (q4 : PySem.W.excIn K C4 VEb "ValueError.__new__" = true)
    (bB : baseB K CA = true)
    (bI : PySem.W.findCls K (.ref CA) (.type "type") "__init__" = some (.val (.builtin "ValueError.__init__")))
    (kb1 : PySem.W.kitOne K (.type "str") (.type "bool") = some false)
    (kb2 : PySem.W.kitOne K (.type "str") (.type "int") = some false)
    (kb3 : PySem.W.kitOne K (.type "str") (.type "str") = some true)
    (xL1 : K.lookup C1 = some (excClassObj nm1 q1 C1 N1 bs1 bm1 true sn1 sub1 ab1 col1 dd1 m01 m11 m21 m31 m51 "ValueError.__new__"))
    (xr1 : PySem.HandSPX.refsVE bm1 = true)
    (xi1 : PySem.W.findIn K (.ref C1) "__init__" = some (some (.ref fI1)))
    (iB1 : iniB K C1 fI1 (clFld 1) = true)
    (xl1 : K.lookup fI1 = some ⟨ocI1, odI1, .func (PySem.W.fnOf "__init__" "BadRule.__init__" (defArgs (iniS 3)) (defBody (iniS 3)) (defScope (iniS 3)) .none kVI1 dcI1 pmI1 anI1 cdI1 ctI1), slI1⟩)
    (xc1 : PySem.W.codeIn K cdI1 "BadRule.__init__" = true)
    (xL2 : K.lookup C2 = some (excClassObj nm2 q2 C2 N2 bs2 bm2 true sn2 sub2 ab2 col2 dd2 m02 m12 m22 m32 m52 "ValueError.__new__"))
    (xr2 : PySem.HandSPX.refsVE bm2 = true)
    (xi2 : PySem.W.findIn K (.ref C2) "__init__" = some (some (.ref fI2)))
    (iB2 : iniB K C2 fI2 (clFld 2) = true)
    (xl2 : K.lookup fI2 = some ⟨ocI2, odI2, .func (PySem.W.fnOf "__init__" "BadWakes.__init__" (defArgs (iniS 4)) (defBody (iniS 4)) (defScope (iniS 4)) .none kVI2 dcI2 pmI2 anI2 cdI2 ctI2), slI2⟩)
    (xc2 : PySem.W.codeIn K cdI2 "BadWakes.__init__" = true)
    (xL3 : K.lookup C3 = some (excClassObj nm3 q3 C3 N3 bs3 bm3 true sn3 sub3 ab3 col3 dd3 m03 m13 m23 m33 m53 "ValueError.__new__"))
    (xr3 : PySem.HandSPX.refsVE bm3 = true)
    (xi3 : PySem.W.findIn K (.ref C3) "__init__" = some (some (.ref fI3)))
    (iB3 : iniB K C3 fI3 (clFld 3) = true)
    (xl3 : K.lookup fI3 = some ⟨ocI3, odI3, .func (PySem.W.fnOf "__init__" "BadPlan.__init__" (defArgs (iniS 5)) (defBody (iniS 5)) (defScope (iniS 5)) .none kVI3 dcI3 pmI3 anI3 cdI3 ctI3), slI3⟩)
    (xc3 : PySem.W.codeIn K cdI3 "BadPlan.__init__" = true)
    (ne13_31 : Px13 ≠ Px31)
    (g_MOST_STATIONS : PySem.W.nsIn K mainGlobals "MOST_STATIONS" = some (some (.int 8 t_MOST_STATIONS)))
    (g_MOST_SIGNS : PySem.W.nsIn K mainGlobals "MOST_SIGNS" = some (some (.int 12 t_MOST_SIGNS))) :
    LamX.LawAtS PySem.Challenge.rw_oneair_k11_whole_the_shortest_for_two w K (L2N.CX PySem.Challenge.pw_oneair_k11_whole_the_shortest_for_two w) 63 63 "_law_script" mg fa h := by
  have e := hfa.symm.trans (PySem.W.mg_of KX G ax31)
  cases e
  have hb : ∀ x ∈ bltL, mg x = none := fun x hx => by
    simp only [bltL, List.mem_cons, List.not_mem_nil, or_false] at hx
    rcases hx with rfl | rfl | rfl | rfl | rfl | rfl | rfl | rfl | rfl | rfl | rfl | rfl | rfl | rfl | rfl | rfl | rfl | rfl | rfl | rfl
    · exact PySem.W.mg_none_of KX G z_len
    · exact PySem.W.mg_none_of KX G z_abs
    · exact PySem.W.mg_none_of KX G z_max
    · exact PySem.W.mg_none_of KX G z_min
    · exact PySem.W.mg_none_of KX G z_int
    · exact PySem.W.mg_none_of KX G z_tuple
    · exact PySem.W.mg_none_of KX G z_list
    · exact PySem.W.mg_none_of KX G z_sorted
    · exact PySem.W.mg_none_of KX G z_all
    · exact PySem.W.mg_none_of KX G z_isinstance
    · exact PySem.W.mg_none_of KX G z_range
    · exact PySem.W.mg_none_of KX G z_reversed
    · exact PySem.W.mg_none_of KX G z_set
    · exact PySem.W.mg_none_of KX G z_bool
    · exact PySem.W.mg_none_of KX G z_str
    · exact PySem.W.mg_none_of KX G z_dict
    · exact PySem.W.mg_none_of KX G z_enumerate
    · exact PySem.W.mg_none_of KX G z_zip
    · exact PySem.W.mg_none_of KX G z_sum
    · exact PySem.W.mg_none_of KX G z_any
  have tb13 := tab_of (x := "all_sets") T KX (by decide +kernel) (PySem.W.mg_of KX G ax13) lx13 rfl rfl lcx13 hx13
  have tb31 := tab_of (x := "law") T KX (by decide +kernel) (PySem.W.mg_of KX G ax31) lx31 rfl rfl lcx31 hx31
  refine ⟨PySem.W.fnOf "law" "law" (defArgs (topS 31)) (defBody (topS 31)) (defScope (topS 31)) .none kVx31 dcx31 pmx31 anx31 (.ref cx31) ctx31, [(cx13, Px13), (cx31, Px31)], spLw (⟨K, clA C0 C1 C2 C3 C4, [(Px13, ("all_sets" ++ ".<locals>.") ++ "<lambda>"), (Px31, ("law" ++ ".<locals>.") ++ "<lambda>")], fun _ _ => False, "", []⟩ : Gx) ⟨[.val], runB (withL (tab gloC defsC 60) LB_law) d_law.N.length [.val] b_law⟩, ?_, ?_, ?_, fun s v => .of_eq rfl, fun H a ns hl hbits hT hS => ?_, fun base hKb hN hTB => ?_⟩
  · intro p hp
    simp only [List.mem_cons, List.not_mem_nil, or_false] at hp
    rcases hp with rfl | rfl
    · exact tb13.1
    · exact tb31.1
  · intro p hp
    simp only [List.mem_cons, List.not_mem_nil, or_false] at hp
    rcases hp with rfl | rfl
    · exact npx13
    · exact npx31
  · intro p hp
    simp only [List.mem_cons, List.not_mem_nil, or_false] at hp
    rcases hp with rfl | rfl
    · exact tb13.2
    · exact tb31.2
  · refine ⟨a, ns, rfl, ?_, hS, ⟨[], law_true ns hl hbits⟩, fun _ => rfl⟩
    intro p hp
    simp only [List.mem_cons, List.not_mem_nil, or_false] at hp
    rcases hp with rfl | rfl
    · exact LamX.TabS.nil (hT (cx13, Px13) (by simp))
    · exact LamX.TabS.nil (hT (cx31, Px31) (by simp))
  · have hgl : ∀ g : Gx, K = g.K → GloG K w mg g gloC := fun g hg => ⟨(fun x d hne hx => by
      subst hg
      unfold gloC at hx
      split at hx
      · rename_i e
        subst e
        cases hx
        exact ⟨.int 8, _, PySem.W.mg_of KX G g_MOST_STATIONS, ⟨_, rfl⟩, fun _ _ _ => rep_int⟩
      split at hx
      · rename_i e
        subst e
        cases hx
        exact ⟨.int 12, _, PySem.W.mg_of KX G g_MOST_SIGNS, ⟨_, rfl⟩, fun _ _ _ => rep_int⟩
      cases hx), (fun d hd => by
      have e : gloC gdN = none := rfl
      rw [e] at hd
      cases hd)⟩
    have hC : ∀ i, i < 5 → ClsK K CA (clA C0 C1 C2 C3 C4) i := fun i hi => match i, hi with
      | 0, _ => clsB_ok cB0
      | 1, _ => clsB_ok cB1
      | 2, _ => clsB_ok cB2
      | 3, _ => clsB_ok cB3
      | 4, _ => clsB_ok cB4
    have hm : ∀ i, i < 5 → mg (clW i) = some (.ref (clA C0 C1 C2 C3 C4 i)) := fun i hi => match i, hi with
      | 0, _ => PySem.W.mg_of KX G gC0
      | 1, _ => PySem.W.mg_of KX G gC1
      | 2, _ => PySem.W.mg_of KX G gC2
      | 3, _ => PySem.W.mg_of KX G gC3
      | 4, _ => PySem.W.mg_of KX G gC4
    have mCA := PySem.W.mg_of KX G gCA
    have hI : ∀ i, 1 ≤ i → i ≤ 3 → IniK K mg (clA C0 C1 C2 C3 C4 i) CA (clFld i) := fun i h1 h3 => match i, h1, h3 with
      | 1, _, _ => ⟨⟨_, _, _, _, _, _, _, _, _, _, _, _, _, _, _, xL1, xr1⟩, fI1, iniS 3, _, _, _, _, _, _, _, _, _, _, _, _, iB1, xl1, xc1, .all fun us hl => match us, hl with | [_, _], _ => rfl, iniSc_1, iniTx_1⟩
      | 2, _, _ => ⟨⟨_, _, _, _, _, _, _, _, _, _, _, _, _, _, _, xL2, xr2⟩, fI2, iniS 4, _, _, _, _, _, _, _, _, _, _, _, _, iB2, xl2, xc2, .all fun us hl => match us, hl with | [_, _], _ => rfl, iniSc_2, iniTx_2⟩
      | 3, _, _ => ⟨⟨_, _, _, _, _, _, _, _, _, _, _, _, _, _, _, xL3, xr3⟩, fI3, iniS 5, _, _, _, _, _, _, _, _, _, _, _, _, iB3, xl3, xc3, .all fun us hl => match us, hl with | [_, _], _ => rfl, iniSc_3, iniTx_3⟩
    have hex : ExcF PySem.Challenge.pw_oneair_k11_whole_the_shortest_for_two w K mg base (clA C0 C1 C2 C3 C4) := excf_mk (g := (⟨K, clA C0 C1 C2 C3 C4, [(Px13, ("all_sets" ++ ".<locals>.") ++ "<lambda>"), (Px31, ("law" ++ ".<locals>.") ++ "<lambda>")], fun _ _ => False, "", []⟩ : Gx)) hC hm mCA (fun i hi => by rcases hi with rfl | rfl; exact q0; exact q4) bB bI hI
    have R := rf_mk (P := PySem.Challenge.pw_oneair_k11_whole_the_shortest_for_two) (w := w) (base := base) (g := (⟨K, clA C0 C1 C2 C3 C4, [(Px13, ("all_sets" ++ ".<locals>.") ++ "<lambda>"), (Px31, ("law" ++ ".<locals>.") ++ "<lambda>")], fun _ _ => False, "", []⟩ : Gx)) hC hm mCA (PySem.W.mg_none_of KX G z_isinstance) (PySem.W.mg_none_of KX G z_bool) (PySem.W.mg_none_of KX G z_int) (PySem.W.mg_none_of KX G z_str) (PySem.W.mg_none_of KX G z_ValueError) ⟨kb1, kb2, kb3⟩ lx24 ccx24 kx24 (PySem.W.mg_of KX G ax24) (.all fun us hl => match us, hl with | [_, _, _], _ => rfl) rfSc rfTx lx23 ccx23 kx23 (PySem.W.mg_of KX G ax23) (.all fun us hl => match us, hl with | [_, _], _ => rfl) isSc isTx lx22 ccx22 kx22 (PySem.W.mg_of KX G ax22) (.all fun us hl => match us, hl with | [_, _], _ => rfl) alSc alTx
    have lam_one13 : ∀ {g : Gx} {p : Addr × Str}, g.T = ([(Px13, ("all_sets" ++ ".<locals>.") ++ "<lambda>"), (Px31, ("law" ++ ".<locals>.") ++ "<lambda>")] : List (Addr × Str)) → p ∈ g.T → p.1 = Px13 → p.2 = ("all_sets" ++ ".<locals>.") ++ "<lambda>" := fun {g p} hT hp e => by
      rw [hT] at hp
      simp only [List.mem_cons, List.not_mem_nil, or_false] at hp
      rcases hp with rfl | rfl
      · rfl
      · exact absurd e.symm ne13_31
    have lam_one31 : ∀ {g : Gx} {p : Addr × Str}, g.T = ([(Px13, ("all_sets" ++ ".<locals>.") ++ "<lambda>"), (Px31, ("law" ++ ".<locals>.") ++ "<lambda>")] : List (Addr × Str)) → p ∈ g.T → p.1 = Px31 → p.2 = ("law" ++ ".<locals>.") ++ "<lambda>" := fun {g p} hT hp e => by
      rw [hT] at hp
      simp only [List.mem_cons, List.not_mem_nil, or_false] at hp
      rcases hp with rfl | rfl
      · exact absurd e ne13_31
      · rfl
    have hd : ∀ g : Gx, K = g.K → g.T = ([(Px13, ("all_sets" ++ ".<locals>.") ++ "<lambda>"), (Px31, ("law" ++ ".<locals>.") ++ "<lambda>")] : List (Addr × Str)) → ∀ d ∈ defsC, DfOk K mg base g d := fun g hg hT d hd => by
      simp only [defsC, List.mem_cons, List.not_mem_nil, or_false] at hd
      rcases hd with rfl | rfl | rfl | rfl | rfl | rfl | rfl | rfl | rfl | rfl | rfl | rfl | rfl | rfl | rfl | rfl | rfl
      · exact df_mk (d := d_need_many) (st := topS 10) lx10 ccx10 kx10 c_need_many rfl (PySem.W.mg_of KX G ax10) (fun us hl => match us, hl with | [_], _ => rfl) rfl
      · exact df_mk (d := d_need_most) (st := topS 11) lx11 ccx11 kx11 c_need_most rfl (PySem.W.mg_of KX G ax11) (fun us hl => match us, hl with | [_, _], _ => rfl) rfl
      · exact df_mk (d := d_are_rows) (st := topS 12) lx12 ccx12 kx12 c_are_rows rfl (PySem.W.mg_of KX G ax12) (fun us hl => match us, hl with | [_, _], _ => rfl) rfl
      · exact df_mkL (d := d_all_sets) (st := topS 13) lx13 ccx13 kx13 c_all_sets rfl (PySem.W.mg_of KX G ax13) (fun us hl => match us, hl with | [_, _], _ => rfl) ⟨cx13, Px13, rfl, hTB (cx13, Px13) (by simp), by rw [hT]; exact List.mem_cons_self, fun p hp e => lam_one13 hT hp e⟩
      · exact df_mk (d := d_is_alone) (st := topS 15) lx15 ccx15 kx15 c_is_alone rfl (PySem.W.mg_of KX G ax15) (fun us hl => match us, hl with | [_, _, _], _ => rfl) rfl
      · exact df_mk (d := d_unheard) (st := topS 16) lx16 ccx16 kx16 c_unheard rfl (PySem.W.mg_of KX G ax16) (fun us hl => match us, hl with | [_, _], _ => rfl) rfl
      · exact df_mk (d := d_chains_of) (st := topS 17) lx17 ccx17 kx17 c_chains_of rfl (PySem.W.mg_of KX G ax17) (fun us hl => match us, hl with | [_], _ => rfl) rfl
      · exact df_mk (d := d_two) (st := topS 18) lx18 ccx18 kx18 c_two rfl (PySem.W.mg_of KX G ax18) (fun us hl => match us, hl with | [_], _ => rfl) rfl
      · exact df_mk (d := d__law_dice) (st := topS 20) lx20 ccx20 kx20 c__law_dice rfl (PySem.W.mg_of KX G ax20) (fun us hl => match us, hl with | [_, _], _ => rfl) rfl
      · exact df_mk (d := d__law_off) (st := topS 21) lx21 ccx21 kx21 c__law_off rfl (PySem.W.mg_of KX G ax21) (fun us hl => match us, hl with | [_, _], _ => rfl) rfl
      · exact df_mk (d := d__law_alike) (st := topS 22) lx22 ccx22 kx22 c__law_alike rfl (PySem.W.mg_of KX G ax22) (fun us hl => match us, hl with | [_, _], _ => rfl) rfl
      · exact df_mk (d := d__law_many) (st := topS 25) lx25 ccx25 kx25 c__law_many rfl (PySem.W.mg_of KX G ax25) (fun us hl => match us, hl with | [_], _ => rfl) rfl
      · exact df_mk (d := d__law_sets) (st := topS 26) lx26 ccx26 kx26 c__law_sets rfl (PySem.W.mg_of KX G ax26) (fun us hl => match us, hl with | [_, _], _ => rfl) rfl
      · exact df_mk (d := d__law_unheard) (st := topS 27) lx27 ccx27 kx27 c__law_unheard rfl (PySem.W.mg_of KX G ax27) (fun us hl => match us, hl with | [_, _], _ => rfl) rfl
      · exact df_mk (d := d__law_texts) (st := topS 28) lx28 ccx28 kx28 c__law_texts rfl (PySem.W.mg_of KX G ax28) (fun us hl => match us, hl with | [_], _ => rfl) rfl
      · exact df_mk (d := d__law_are_chains) (st := topS 29) lx29 ccx29 kx29 c__law_are_chains rfl (PySem.W.mg_of KX G ax29) (fun us hl => match us, hl with | [_, _], _ => rfl) rfl
      · exact df_mk (d := d__law_tried) (st := topS 30) lx30 ccx30 kx30 c__law_tried rfl (PySem.W.mg_of KX G ax30) (fun us hl => match us, hl with | [_, _], _ => rfl) rfl
    obtain ⟨hcl, hsl⟩ := and2 c_law
    exact fn_okL (g := (⟨K, clA C0 C1 C2 C3 C4, [(Px13, ("all_sets" ++ ".<locals>.") ++ "<lambda>"), (Px31, ("law" ++ ".<locals>.") ++ "<lambda>")], fun _ _ => False, "", []⟩ : Gx)) lx31 ccx31 (scB_ok hsl) rfl rfl hcl hb (fun g' h1 h2 h3 => tab_ok h1 hb (fun _ => by rw [h2]; exact hex) (hd g' h1 h3) (hgl g' h1) 60) (fun g' h1 => by show GloG _ _ _ _ (tab gloC defsC 60).glo; rw [tab_glo]; exact hgl g' h1) ⟨cx31, Px31, rfl, hTB (cx31, Px31) (by simp), by simp, fun p hp e => lam_one31 (g := (⟨K, clA C0 C1 C2 C3 C4, [(Px13, ("all_sets" ++ ".<locals>.") ++ "<lambda>"), (Px31, ("law" ++ ".<locals>.") ++ "<lambda>")], fun _ _ => False, "", []⟩ : Gx)) rfl hp e⟩ (fun h => by cases h) (kk := 1) (by decide) R (fun i hi => (hC i hi).ex)
end Den
open PySem PySem.W PyProof.Rows
set_option maxHeartbeats 0 in
theorem PySem.Challenge.cw_oneair_k11_whole_the_shortest_for_two_holds : PySem.Challenge.rw_oneair_k11_whole_the_shortest_for_two.Holds := by
  w_on; o_law; k_head; (case hw => w_witness2)
  k_fill
  refine Den.walk_den (l := PySem.Challenge.rw_oneair_k11_whole_the_shortest_for_two) (n := 63) (k := 63) (x := "_law_script") (CX := fun w => L2N.CX PySem.Challenge.pw_oneair_k11_whole_the_shortest_for_two w) rfl (by decide) rfl ⟨rfl, by decide, by decide⟩ (fun w h Y => by first | exact PySem.W.kIn_of Y | exact PySem.W.km_in_of Y) ?F (fun _ _ _ _ _ z => by obtain ⟨_, _, _, _, _, _, _, _, _, _, _, _, z⟩ := z; exact z)
  case F =>
    intro w mg fa h KX G hmg T
    refine' Den.law_mk KX G T hmg ?ax10 ?lx10 ?ccx10 ?kx10 ?ax11 ?lx11 ?ccx11 ?kx11 ?ax12 ?lx12 ?ccx12 ?kx12 ?ax13 ?lx13 ?ccx13 ?kx13 ?lcx13 ?hx13 ?npx13 ?ax15 ?lx15 ?ccx15 ?kx15 ?ax16 ?lx16 ?ccx16 ?kx16 ?ax17 ?lx17 ?ccx17 ?kx17 ?ax18 ?lx18 ?ccx18 ?kx18 ?ax20 ?lx20 ?ccx20 ?kx20 ?ax21 ?lx21 ?ccx21 ?kx21 ?ax22 ?lx22 ?ccx22 ?kx22 ?ax23 ?lx23 ?ccx23 ?kx23 ?ax24 ?lx24 ?ccx24 ?kx24 ?ax25 ?lx25 ?ccx25 ?kx25 ?ax26 ?lx26 ?ccx26 ?kx26 ?ax27 ?lx27 ?ccx27 ?kx27 ?ax28 ?lx28 ?ccx28 ?kx28 ?ax29 ?lx29 ?ccx29 ?kx29 ?ax30 ?lx30 ?ccx30 ?kx30 ?ax31 ?lx31 ?ccx31 ?kx31 ?lcx31 ?hx31 ?npx31 ?z_len ?z_abs ?z_max ?z_min ?z_int ?z_tuple ?z_list ?z_sorted ?z_all ?z_isinstance ?z_range ?z_reversed ?z_set ?z_bool ?z_str ?z_dict ?z_enumerate ?z_zip ?z_sum ?z_any ?z_ValueError ?gCA ?gC0 ?gC1 ?gC2 ?gC3 ?gC4 ?cB0 ?cB1 ?cB2 ?cB3 ?cB4 ?q0 ?q4 ?bB ?bI ?kb1 ?kb2 ?kb3 ?xL1 ?xr1 ?xi1 ?iB1 ?xl1 ?xc1 ?xL2 ?xr2 ?xi2 ?iB2 ?xl2 ?xc2 ?xL3 ?xr3 ?xi3 ?iB3 ?xl3 ?xc3 ?ne13_31 ?g_MOST_STATIONS ?g_MOST_SIGNS
    (case ax10 => k_is); (case lx10 => k_is); (case ccx10 => k_is); (case kx10 => k_is); (case ax11 => k_is); (case lx11 => k_is); (case ccx11 => k_is); (case kx11 => k_is); (case ax12 => k_is); (case lx12 => k_is); (case ccx12 => k_is); (case kx12 => k_is); (case ax13 => k_is); (case lx13 => k_is); (case ccx13 => k_is); (case kx13 => k_is); (case lcx13 => k_is); (case hx13 => rfl); (case npx13 => kernel_rfl); (case ax15 => k_is); (case lx15 => k_is); (case ccx15 => k_is); (case kx15 => k_is); (case ax16 => k_is); (case lx16 => k_is); (case ccx16 => k_is); (case kx16 => k_is); (case ax17 => k_is); (case lx17 => k_is); (case ccx17 => k_is); (case kx17 => k_is); (case ax18 => k_is); (case lx18 => k_is); (case ccx18 => k_is); (case kx18 => k_is); (case ax20 => k_is); (case lx20 => k_is); (case ccx20 => k_is); (case kx20 => k_is); (case ax21 => k_is); (case lx21 => k_is); (case ccx21 => k_is); (case kx21 => k_is); (case ax22 => k_is); (case lx22 => k_is); (case ccx22 => k_is); (case kx22 => k_is); (case ax23 => k_is); (case lx23 => k_is); (case ccx23 => k_is); (case kx23 => k_is); (case ax24 => k_is); (case lx24 => k_is); (case ccx24 => k_is); (case kx24 => k_is); (case ax25 => k_is); (case lx25 => k_is); (case ccx25 => k_is); (case kx25 => k_is); (case ax26 => k_is); (case lx26 => k_is); (case ccx26 => k_is); (case kx26 => k_is); (case ax27 => k_is); (case lx27 => k_is); (case ccx27 => k_is); (case kx27 => k_is); (case ax28 => k_is); (case lx28 => k_is); (case ccx28 => k_is); (case kx28 => k_is); (case ax29 => k_is); (case lx29 => k_is); (case ccx29 => k_is); (case kx29 => k_is); (case ax30 => k_is); (case lx30 => k_is); (case ccx30 => k_is); (case kx30 => k_is); (case ax31 => k_is); (case lx31 => k_is); (case ccx31 => k_is); (case kx31 => k_is); (case lcx31 => k_is); (case hx31 => rfl); (case npx31 => kernel_rfl); (case z_len => k_is); (case z_abs => k_is); (case z_max => k_is); (case z_min => k_is); (case z_int => k_is); (case z_tuple => k_is); (case z_list => k_is); (case z_sorted => k_is); (case z_all => k_is); (case z_isinstance => k_is); (case z_range => k_is); (case z_reversed => k_is); (case z_set => k_is); (case z_bool => k_is); (case z_str => k_is); (case z_dict => k_is); (case z_enumerate => k_is); (case z_zip => k_is); (case z_sum => k_is); (case z_any => k_is); (case z_ValueError => k_is); (case gCA => k_is); (case gC0 => k_is); (case gC1 => k_is); (case gC2 => k_is); (case gC3 => k_is); (case gC4 => k_is); (case cB0 => kernel_rfl); (case cB1 => kernel_rfl); (case cB2 => kernel_rfl); (case cB3 => kernel_rfl); (case cB4 => kernel_rfl); (case q0 => kernel_rfl); (case q4 => kernel_rfl); (case bB => kernel_rfl); (case bI => k_is); (case kb1 => kernel_rfl); (case kb2 => kernel_rfl); (case kb3 => kernel_rfl); (case xL1 => k_is); (case xr1 => kernel_rfl); (case xi1 => k_is); (case iB1 => kernel_rfl); (case xl1 => k_is); (case xc1 => k_is); (case xL2 => k_is); (case xr2 => kernel_rfl); (case xi2 => k_is); (case iB2 => kernel_rfl); (case xl2 => k_is); (case xc2 => k_is); (case xL3 => k_is); (case xr3 => kernel_rfl); (case xi3 => k_is); (case iB3 => kernel_rfl); (case xl3 => k_is); (case xc3 => k_is); (case ne13_31 => decide); (case g_MOST_STATIONS => k_is); (case g_MOST_SIGNS => k_is)
