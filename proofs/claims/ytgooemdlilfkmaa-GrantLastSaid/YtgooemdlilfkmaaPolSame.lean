/-
  Policies compared, and a label's quota by the document: what these functions answer. No statement of a seat is proved here.
-/
import Derived.Test.YtgooemdlilfkmaaPolRef2
set_option linter.unusedVariables false
set_option linter.unusedSimpArgs false
set_option linter.unusedSectionVars false
set_option linter.unnecessarySimpa false
set_option maxRecDepth 100000
namespace Go.Proofs.Ytgooemdlilfkmaa
open Go.Ab
attribute [local simp] depth_eq callRes_V keep

section
variable {xu xq : AV} {us : List Clear} {qs : List Quota} {gr : Int} (hu : Sl 3 (encCs us) xu) (hq : Sl 5 (encQs qs) xq) (hql : qs.length < 4611686018427387904) (hul : us.length < 4611686018427387904)
include hu hq hql hul

theorem of_loop {r1 r3 r4 : Ref} {a : UInt8} {b : UInt32} {Q : AV → Heap → Prop} : ∀ (s : List Quota) (k : Nat) (i : Int) (H : Heap), qs.drop k = s → k ≤ qs.length → i = k →
    Fr H → H.get r1 = some ⟨3, [.agg [xu, xq, aI gr]], false, false⟩ → H.get r3 = some ⟨2, [.agg [a8 a, a32 b]], false, false⟩ → H.get r4 = some ⟨5, [.agg (Quota.mk 0 0 0 0 0).enc], false, false⟩ →
    (∀ y H', y = .agg (orNew a b (s.find? (labIs a b))).enc → Q y H') →
    GoL env Try.f57 0 hd_blindstampref06_Of_2 [(4, .ptr r4 0 0), (5, aI i), (2, .ptr r1 0 0), (3, .ptr r3 0 0)] H Q := by
  intro s
  induction s with
  | nil =>
    rintro k i H hs hk rfl hF h1 h3 h4 hQ
    obtain rfl := drop_nil hs hk
    refine vc_blindstampref06_Of_2 _ _ _ _ _ _ fun g => ?_
    simp [new_ne, ne_new, new_ne1, ne_new1, gen_put', *, VC_blindstampref06_Of_2, hq.r, Quota.enc]
    all_goals exact hQ _ _ (by simp [Quota.enc])
  | cons q s ih =>
    rintro k i H hs hk rfl hF h1 h3 h4 hQ
    obtain ⟨hlt, hg, hs', hg'⟩ := drop_cons hs
    refine vc_blindstampref06_Of_2 _ _ _ _ _ _ fun g => ?_
    simp [new_ne, ne_new, new_ne1, ne_new1, gen_put', *, VC_blindstampref06_Of_2, hq.r, hq.idx, Quota.enc, eqA, eqFs]
    cases hl : labIs a b q with
    | true =>
      have hl' := hl
      unfold labIs at hl'
      simp [hl', hq.r, hq.idx, hlt, hg, h1, h4, Quota.enc]
      exact hQ _ _ (by simp [hl, Quota.enc])
    | false =>
      have hl' := hl
      unfold labIs at hl'
      simp [hl', IntWalk.i64_in ((k : Int) + 1) (by omega)]
      exact ih (k + 1) _ _ hs' (by omega) (by simp) hF h1 h3 h4 fun y H' e => hQ y H' (by simp [e, hl])

@[simp] theorem s_Of (a : UInt8) (b : UInt32) : limf env 57 [.agg [xu, xq, aI gr], .agg [a8 a, a32 b]] = some (.agg (quotaOf qs a b).enc) := by
  refine limf_of (fn := Try.f57) (c := bd_blindstampref06_Of) rfl (by kernel_rfl) (by kernel_rfl) (by kernel_rfl) (by kernel_rfl) ?_; refine vc_blindstampref06_Of _ _ _ _ fun g => ?_
  simp [new_ne, ne_new, new_ne1, ne_new1, gen_put', *, VC_blindstampref06_Of, hu.r, hq.r]
  exact of_loop (gr := gr) (a := a) (b := b) hu hq hql hul qs 0 _ _ rfl (by omega) rfl (by simp (maxDischargeDepth := 12) [Fr_cons, Fr_consK, Fr.nil, Fr_put, new_ne, ne_new, new_ne1, ne_new1, get_new, get_new1, gen_put', *]) (by simp) (by simp) (by simp [Quota.enc]) fun y H' e => by simp [e, quotaOf, Quota.enc]

@[simp] theorem s_RQuota (a : UInt8) (b : UInt32) : limf env 25 [.agg [xu, xq, aI gr], .agg [a8 a, a32 b]] = some (.tup [.agg (quotaE us qs gr a b).enc, aI (askedE us qs gr a)]) := by
  refine limf_of (fn := Try.f25) (c := bd_blindstampref06_Quota) rfl (by kernel_rfl) (by kernel_rfl) (by kernel_rfl) (by kernel_rfl) ?_; refine vc_blindstampref06_Quota _ _ _ _ fun g => ?_
  have h1 := s_Right (gr := gr) hu hq hql hul
  have h2 := s_Of (gr := gr) hu hq hql hul a b
  simp [new_ne, ne_new, new_ne1, ne_new1, gen_put', *, VC_blindstampref06_Quota, hu.r, hq.r]
  by_cases ha : a ≤ 15
  · have hl : lcheck a = 0 := by simp [ha]
    cases hm : mayB us qs gr <;> simp [*, askedE, bad, hu.r, hq.r, quotaE, Quota.enc]
  · have hl : lcheck a = 8 := by unfold lcheck; rw [if_pos (UInt8.not_le.1 ha)]
    cases hm : mayB us qs gr <;> simp [*, askedE, bad, hu.r, hq.r, quotaE, Quota.enc]
end

/- ## Rows compared -/
theorem Clear.eq_iff (a b : Clear) : a = b ↔ (a.lv = b.lv ∧ a.cats = b.cats) ∧ a.ok = b.ok := by
  cases a; cases b; simp [and_assoc]
theorem Quota.eq_iff (a b : Quota) : a = b ↔ (a.lv = b.lv ∧ a.cats = b.cats) ∧ a.opens = b.opens ∧ a.ops = b.ops ∧ a.cells = b.cells := by
  cases a; cases b; simp [and_assoc]

section
variable {xa xb : AV} {cs ds : List Clear} (ha : Sl 3 (encCs cs) xa) (hb : Sl 3 (encCs ds) xb) (hal : cs.length < 4611686018427387904) (hlen : cs.length = ds.length)
include ha hb hal hlen
theorem eqC_loop {Q : AV → Heap → Prop} : ∀ (s : List Clear) (k : Nat) (i : Int) (H : Heap), cs.drop k = s → k ≤ cs.length → i = k → (∀ y H', y = aB (decide (s = ds.drop k)) → Q y H') →
    GoL env Try.f60 0 hd_slices_Equal___blindstamp_api_Clear_blindstamp_api_Clear__4 [(13, aI i), (1, xb), (0, xa), (12, aI cs.length)] H Q := by
  intro s
  induction s with
  | nil =>
    rintro k i H hs hk rfl hQ
    obtain rfl := drop_nil hs hk
    refine vc_slices_Equal___blindstamp_api_Clear_blindstamp_api_Clear__4 _ _ _ _ _ _ fun g => ?_
    simp [new_ne, ne_new, new_ne1, ne_new1, gen_put', *, VC_slices_Equal___blindstamp_api_Clear_blindstamp_api_Clear__4]
    all_goals exact hQ _ _ (by simp [hlen])
  | cons c s ih =>
    rintro k i H hs hk rfl hQ
    obtain ⟨hlt, hg, hs', hg'⟩ := drop_cons hs
    have hlt2 : k < ds.length := by omega
    have hd : ds.drop k = ds[k] :: ds.drop (k + 1) := List.drop_eq_getElem_cons hlt2
    refine vc_slices_Equal___blindstamp_api_Clear_blindstamp_api_Clear__4 _ _ _ _ _ _ fun g => ?_
    have e := IntWalk.i64_in ((k : Int) + 1) (by omega)
    have ih' := ih (k + 1) _ H hs' (by omega) rfl
    clear hlen
    simp [new_ne, ne_new, new_ne1, ne_new1, gen_put', *, VC_slices_Equal___blindstamp_api_Clear_blindstamp_api_Clear__4, ha.idx, hb.idx, Clear.enc, eqA, eqFs]
    by_cases hc : c = ds[k]
    · have hc' := (Clear.eq_iff _ _).1 hc
      simp [hc', e]
      exact ih' fun y H' ey => hQ _ _ (by simp [ey, cons_drop hlt2, hc])
    · have hc' := fun h => hc ((Clear.eq_iff _ _).2 h)
      have h2 : (decide (c.lv = ds[k].lv) && decide (c.cats = ds[k].cats) && decide (c.ok = ds[k].ok)) = false := by
        rw [Bool.eq_false_iff]; intro h; simp only [Bool.and_eq_true, decide_eq_true_eq] at h; exact hc' h
      have h3 := congrArg (fun b => !b) h2
      simp only [Bool.not_and, Bool.not_false] at h3
      simp [h3]
      exact hQ _ _ (by simp [cons_drop hlt2, hc])

@[simp] theorem s_EqC : limf env 60 [xa, xb] = some (aB (decide (cs = ds))) := by
  refine limf_of (fn := Try.f60) (c := bd_slices_Equal___blindstamp_api_Clear_blindstamp_api_Clear_) rfl (by kernel_rfl) (by kernel_rfl) (by kernel_rfl) (by kernel_rfl) ?_; refine vc_slices_Equal___blindstamp_api_Clear_blindstamp_api_Clear_ _ _ _ _ fun g => ?_
  have hlen' : (cs.length : Int) = ds.length := by rw [hlen]
  simp [new_ne, ne_new, new_ne1, ne_new1, gen_put', *, VC_slices_Equal___blindstamp_api_Clear_blindstamp_api_Clear_, ha.r, hb.r]
  rw [← hlen]
  exact eqC_loop ha hb hal hlen cs 0 _ _ rfl (by omega) rfl fun y H' e => by simp [e]
end
theorem s_EqC' {xa xb : AV} {cs ds : List Clear} (ha : Sl 3 (encCs cs) xa) (hb : Sl 3 (encCs ds) xb) (hal : cs.length < 4611686018427387904) : limf env 60 [xa, xb] = some (aB (decide (cs = ds))) := by
  by_cases hlen : cs.length = ds.length
  · exact s_EqC ha hb hal hlen
  · refine limf_of (fn := Try.f60) (c := bd_slices_Equal___blindstamp_api_Clear_blindstamp_api_Clear_) rfl (by kernel_rfl) (by kernel_rfl) (by kernel_rfl) (by kernel_rfl) ?_; refine vc_slices_Equal___blindstamp_api_Clear_blindstamp_api_Clear_ _ _ _ _ fun g => ?_
    have hlen' : ¬ (cs.length : Int) = ds.length := by omega
    have hne : ¬ cs = ds := fun e => hlen (by rw [e])
    simp [new_ne, ne_new, new_ne1, ne_new1, gen_put', *, VC_slices_Equal___blindstamp_api_Clear_blindstamp_api_Clear_, ha.r, hb.r]

section
variable {xa xb : AV} {cs ds : List Quota} (ha : Sl 5 (encQs cs) xa) (hb : Sl 5 (encQs ds) xb) (hal : cs.length < 4611686018427387904) (hlen : cs.length = ds.length)
include ha hb hal hlen
theorem eqQ_loop {Q : AV → Heap → Prop} : ∀ (s : List Quota) (k : Nat) (i : Int) (H : Heap), cs.drop k = s → k ≤ cs.length → i = k → (∀ y H', y = aB (decide (s = ds.drop k)) → Q y H') →
    GoL env Try.f61 0 hd_slices_Equal___blindstamp_api_Quota_blindstamp_api_Quota__4 [(13, aI i), (1, xb), (0, xa), (12, aI cs.length)] H Q := by
  intro s
  induction s with
  | nil =>
    rintro k i H hs hk rfl hQ
    obtain rfl := drop_nil hs hk
    refine vc_slices_Equal___blindstamp_api_Quota_blindstamp_api_Quota__4 _ _ _ _ _ _ fun g => ?_
    simp [new_ne, ne_new, new_ne1, ne_new1, gen_put', *, VC_slices_Equal___blindstamp_api_Quota_blindstamp_api_Quota__4]
    all_goals exact hQ _ _ (by simp [hlen])
  | cons c s ih =>
    rintro k i H hs hk rfl hQ
    obtain ⟨hlt, hg, hs', hg'⟩ := drop_cons hs
    have hlt2 : k < ds.length := by omega
    have hd : ds.drop k = ds[k] :: ds.drop (k + 1) := List.drop_eq_getElem_cons hlt2
    refine vc_slices_Equal___blindstamp_api_Quota_blindstamp_api_Quota__4 _ _ _ _ _ _ fun g => ?_
    have e := IntWalk.i64_in ((k : Int) + 1) (by omega)
    have ih' := ih (k + 1) _ H hs' (by omega) rfl
    clear hlen
    simp [new_ne, ne_new, new_ne1, ne_new1, gen_put', *, VC_slices_Equal___blindstamp_api_Quota_blindstamp_api_Quota__4, ha.idx, hb.idx, Quota.enc, eqA, eqFs]
    by_cases hc : c = ds[k]
    · have hc' := (Quota.eq_iff _ _).1 hc
      simp [hc', e]
      exact ih' fun y H' ey => hQ _ _ (by simp [ey, cons_drop hlt2, hc])
    · have hc' := fun h => hc ((Quota.eq_iff _ _).2 h)
      have h2 : (decide (c.lv = ds[k].lv) && decide (c.cats = ds[k].cats) && (decide (c.opens = ds[k].opens) && (decide (c.ops = ds[k].ops) && decide (c.cells = ds[k].cells)))) = false := by
        rw [Bool.eq_false_iff]; intro h; simp only [Bool.and_eq_true, decide_eq_true_eq] at h; exact hc' h
      have h3 := congrArg (fun b => !b) h2
      simp only [Bool.not_and, Bool.not_false] at h3
      simp [h3]
      exact hQ _ _ (by simp [cons_drop hlt2, hc])

@[simp] theorem s_EqQ : limf env 61 [xa, xb] = some (aB (decide (cs = ds))) := by
  refine limf_of (fn := Try.f61) (c := bd_slices_Equal___blindstamp_api_Quota_blindstamp_api_Quota_) rfl (by kernel_rfl) (by kernel_rfl) (by kernel_rfl) (by kernel_rfl) ?_; refine vc_slices_Equal___blindstamp_api_Quota_blindstamp_api_Quota_ _ _ _ _ fun g => ?_
  have hlen' : (cs.length : Int) = ds.length := by rw [hlen]
  simp [new_ne, ne_new, new_ne1, ne_new1, gen_put', *, VC_slices_Equal___blindstamp_api_Quota_blindstamp_api_Quota_, ha.r, hb.r]
  rw [← hlen]
  exact eqQ_loop ha hb hal hlen cs 0 _ _ rfl (by omega) rfl fun y H' e => by simp [e]
end
theorem s_EqQ' {xa xb : AV} {cs ds : List Quota} (ha : Sl 5 (encQs cs) xa) (hb : Sl 5 (encQs ds) xb) (hal : cs.length < 4611686018427387904) : limf env 61 [xa, xb] = some (aB (decide (cs = ds))) := by
  by_cases hlen : cs.length = ds.length
  · exact s_EqQ ha hb hal hlen
  · refine limf_of (fn := Try.f61) (c := bd_slices_Equal___blindstamp_api_Quota_blindstamp_api_Quota_) rfl (by kernel_rfl) (by kernel_rfl) (by kernel_rfl) (by kernel_rfl) ?_; refine vc_slices_Equal___blindstamp_api_Quota_blindstamp_api_Quota_ _ _ _ _ fun g => ?_
    have hlen' : ¬ (cs.length : Int) = ds.length := by omega
    have hne : ¬ cs = ds := fun e => hlen (by rw [e])
    simp [new_ne, ne_new, new_ne1, ne_new1, gen_put', *, VC_slices_Equal___blindstamp_api_Quota_blindstamp_api_Quota_, ha.r, hb.r]

end Go.Proofs.Ytgooemdlilfkmaa
