/-
  The functions of policy, and the document's: what they answer. No statement of a seat is proved here.
-/
import Derived.Test.YtgooemdlilfkmaaPolFns
set_option linter.unusedVariables false
set_option linter.unusedSimpArgs false
set_option maxRecDepth 100000
namespace Go.Proofs.Ytgooemdlilfkmaa
open Go.Ab
attribute [local simp] depth_eq callRes_V keep

def quotaAns (us : List Clear) (qs : List Quota) (gr : Int) (a : UInt8) (b : UInt32) : Quota := if askedE us qs gr a = 0 then quotaOf qs a b else ⟨0, 0, 0, 0, 0⟩
def encQ (q : Quota) : AV := .agg q.enc

section
variable {xu xq : AV} {us : List Clear} {qs : List Quota} {gr : Int} (hu : Sl 3 (encCs us) xu) (hq : Sl 5 (encQs qs) xq) (hql : qs.length < 4611686018427387904) (hul : us.length < 4611686018427387904)
include hu hq hql hul

@[simp] theorem s_May (user : Int) (a : UInt8) (b : UInt32) : limf env 15 [.agg [xu, xq, aI gr], aI user, .agg [a8 a, a32 b]] = some (.tup [aB (decide (askedE us qs gr a = 0) && opensB us user a b), aI (askedE us qs gr a)]) := by
  refine limf_of (fn := Try.f15) (c := bd_policy_May) rfl (by kernel_rfl) (by kernel_rfl) (by kernel_rfl) (by kernel_rfl) ?_; refine vc_policy_May _ _ _ _ _ fun g => ?_
  simp [new_ne, ne_new, new_ne1, ne_new1, gen_put', *, VC_policy_May, hu.r, hq.r, s_asked hu hq hql hul]
  by_cases h0 : 0 ≤ user ∧ user < us.length
  · obtain ⟨n, rfl⟩ := Int.eq_ofNat_of_zero_le h0.1
    have hn : n < us.length := by omega
    have h1 : ¬ (n : Int) < 0 := by omega
    have h2 : ¬ (us.length : Int) ≤ n := by omega
    repeat' ((first | refine br_of (fun h => ?_) (fun h => ?_) | refine gQ_oft (fun h => ?_) (fun h => ?_) | refine gQ_off (fun h => ?_) (fun h => ?_) | refine gW_oft (fun h => ?_) (fun h => ?_) | refine gW_off (fun h => ?_) (fun h => ?_)) <;> (try simp only [decide_eq_true_eq, decide_eq_false_iff_not, Bool.not_eq_true', Bool.not_eq_false', Bool.and_eq_true, Bool.or_eq_true] at h) <;> (try simp [new_ne, ne_new, new_ne1, ne_new1, gen_put', *, hu.r, hq.r, hu.idx, hn, h1, h2, opensB, Clear.enc]))
  · have h1 : ¬ user < 0 → (us.length : Int) ≤ user := by omega
    repeat' ((first | refine br_of (fun h => ?_) (fun h => ?_) | refine gQ_oft (fun h => ?_) (fun h => ?_) | refine gQ_off (fun h => ?_) (fun h => ?_) | refine gW_oft (fun h => ?_) (fun h => ?_) | refine gW_off (fun h => ?_) (fun h => ?_)) <;> (try simp only [decide_eq_true_eq, decide_eq_false_iff_not, Bool.not_eq_true', Bool.not_eq_false', Bool.and_eq_true, Bool.or_eq_true] at h) <;> (try simp [new_ne, ne_new, new_ne1, ne_new1, gen_put', *, hu.r, hq.r, hu.idx, opensB, Clear.enc]))

@[simp] theorem s_Blocks : limf env 22 [.agg [xu, xq, aI gr]] = some (.tup [aI (if mayB us qs gr = true then blocksOf gr qs else 0), aI (bad (mayB us qs gr))]) := by
  refine limf_of (fn := Try.f22) (c := bd_policy_Blocks) rfl (by kernel_rfl) (by kernel_rfl) (by kernel_rfl) (by kernel_rfl) ?_; refine vc_policy_Blocks _ _ _ fun g => ?_
  simp [new_ne, ne_new, new_ne1, ne_new1, gen_put', *, VC_policy_Blocks, hu.r, hq.r, s_Check hu hq hql hul]
  cases hm : mayB us qs gr <;> simp [bad, hu.r, hq.r, s_blocks hu hq hql]
end

@[simp] theorem s_Great {xu xq : AV} {us : List Clear} {qs : List Quota} (gr : Int) (hu : Sl 3 (encCs us) xu) (hq : Sl 5 (encQs qs) xq) : limf env 18 [.agg [xu, xq, aI gr]] = some (aB (decide (100 < (us.length : Int)) || decide (100 < (qs.length : Int)))) := by
  refine limf_of (fn := Try.f18) (c := bd_blindstampref06_Great) rfl (by kernel_rfl) (by kernel_rfl) (by kernel_rfl) (by kernel_rfl) ?_; refine vc_blindstampref06_Great _ _ _ fun g => ?_
  simp [new_ne, ne_new, new_ne1, ne_new1, gen_put', *, VC_blindstampref06_Great, hu.r, hq.r]
  repeat' ((first | refine br_of (fun h => ?_) (fun h => ?_) | refine gQ_oft (fun h => ?_) (fun h => ?_) | refine gQ_off (fun h => ?_) (fun h => ?_) | refine gW_oft (fun h => ?_) (fun h => ?_) | refine gW_off (fun h => ?_) (fun h => ?_)) <;> (try simp only [decide_eq_true_eq, decide_eq_false_iff_not, Bool.not_eq_true', Bool.not_eq_false', Bool.and_eq_true, Bool.or_eq_true] at h) <;> (try simp [new_ne, ne_new, new_ne1, ne_new1, gen_put', *, hu.r, hq.r]))

/- ## A label's quota -/
@[simp] theorem s_QF1 (a : UInt8) (b : UInt32) (x y z : Int) : limf env 46 [.agg [a8 a, a32 b, aI x, aI y, aI z]] = some (.agg [a8 a, a32 b]) := by
  refine limf_of (fn := Try.f46) (c := bd_policy_QuotaF1) rfl (by kernel_rfl) (by kernel_rfl) (by kernel_rfl) (by kernel_rfl) ?_; refine vc_policy_QuotaF1 _ _ _ fun g => ?_
  simp [new_ne, ne_new, new_ne1, ne_new1, gen_put', *, VC_policy_QuotaF1]

@[simp] theorem s_findF1 (q : Quota) (a : UInt8) (b : UInt32) : limf env 70 [.agg [a8 q.lv, a32 q.cats, aI q.opens, aI q.ops, aI q.cells], .iptr 1 [.fn (.func 46) [] []] 0 0, .iptr 2 [.agg [a8 a, a32 b]] 0 0] = some (aB (labIs a b q)) := by
  refine limf_of (fn := Try.f70) (c := bd_policy_find_blindstamp_api_Quota_blindstamp_api_Label_F1) rfl (by kernel_rfl) (by kernel_rfl) (by kernel_rfl) (by kernel_rfl) ?_; refine vc_policy_find_blindstamp_api_Quota_blindstamp_api_Label_F1 _ _ _ _ _ fun g => ?_
  simp [new_ne, ne_new, new_ne1, ne_new1, gen_put', *, VC_policy_find_blindstamp_api_Quota_blindstamp_api_Label_F1, eqA, eqFs, labIs]

/-- The number of the first with a label, or -1. -/
def findFrom (a : UInt8) (b : UInt32) : List Quota → Nat → Int
  | [], _ => -1
  | q :: s, k => if labIs a b q = true then k else findFrom a b s (k + 1)

section
variable {xq : AV} {qs : List Quota} (hq : Sl 5 (encQs qs) xq) (hql : qs.length < 4611686018427387904)
include hq hql
theorem indexFunc_loop {a : UInt8} {b : UInt32} {Q : AV → Heap → Prop} : ∀ (s : List Quota) (k : Nat) (i : Int) (H : Heap), qs.drop k = s → k ≤ qs.length → i = k → (∀ y H', y = aI (findFrom a b s k) → Q y H') →
    GoL env Try.f69 0 hd_slices_IndexFunc___blindstamp_api_Quota_blindstamp_api_Quota__2 [(8, aI i), (0, xq), (1, .fn (.func 70) [] [.iptr 1 [.fn (.func 46) [] []] 0 0, .iptr 2 [.agg [a8 a, a32 b]] 0 0]), (7, aI qs.length)] H Q := by
  intro s
  induction s with
  | nil =>
    rintro k i H hs hk rfl hQ
    obtain rfl := drop_nil hs hk
    refine vc_slices_IndexFunc___blindstamp_api_Quota_blindstamp_api_Quota__2 _ _ _ _ _ _ fun g => ?_
    simp [new_ne, ne_new, new_ne1, ne_new1, gen_put', *, VC_slices_IndexFunc___blindstamp_api_Quota_blindstamp_api_Quota__2]
    all_goals (first | exact hQ _ _ rfl | exact hQ _ _ (by simp [*]))
  | cons q s ih =>
    rintro k i H hs hk rfl hQ
    obtain ⟨hlt, hg, hs', hg'⟩ := drop_cons hs
    refine vc_slices_IndexFunc___blindstamp_api_Quota_blindstamp_api_Quota__2 _ _ _ _ _ _ fun g => ?_
    simp [new_ne, ne_new, new_ne1, ne_new1, gen_put', *, VC_slices_IndexFunc___blindstamp_api_Quota_blindstamp_api_Quota__2, hq.idx, hlt, hg, Quota.enc]
    refine br_of (fun h => ?_) (fun h => ?_)
    · all_goals (first | exact hQ _ _ rfl | exact hQ _ _ (by simp [*, findFrom]))
    simp [IntWalk.i64_in ((k : Int) + 1) (by omega)]
    exact ih (k + 1) _ _ hs' (by omega) (by simp) (fun y H' e => hQ y H' (by simp [*, findFrom]))

@[simp] theorem s_IndexFunc (a : UInt8) (b : UInt32) : limf env 69 [xq, .fn (.func 70) [] [.iptr 1 [.fn (.func 46) [] []] 0 0, .iptr 2 [.agg [a8 a, a32 b]] 0 0]] = some (aI (findFrom a b qs 0)) := by
  refine limf_of (fn := Try.f69) (c := bd_slices_IndexFunc___blindstamp_api_Quota_blindstamp_api_Quota_) rfl (by kernel_rfl) (by kernel_rfl) (by kernel_rfl) (by kernel_rfl) ?_; refine vc_slices_IndexFunc___blindstamp_api_Quota_blindstamp_api_Quota_ _ _ _ _ fun g => ?_
  simp [new_ne, ne_new, new_ne1, ne_new1, gen_put', *, VC_slices_IndexFunc___blindstamp_api_Quota_blindstamp_api_Quota_, hq.r]
  exact indexFunc_loop hq hql qs 0 _ _ rfl (by omega) (by simp) (fun y H' e => by simp [e])

omit hq hql in
theorem findFrom_find (a : UInt8) (b : UInt32) : ∀ (s : List Quota) (k : Nat), qs.drop k = s → (findFrom a b s k = -1 ∧ s.find? (labIs a b) = none) ∨ ∃ n, ∃ h : n < qs.length, findFrom a b s k = (n : Int) ∧ s.find? (labIs a b) = some qs[n] := by
  intro s
  induction s with
  | nil => intro k _; exact .inl ⟨rfl, rfl⟩
  | cons q s ih =>
    intro k hs
    obtain ⟨hlt, hg, hs', hg'⟩ := drop_cons hs
    unfold findFrom
    by_cases h : labIs a b q = true
    · exact .inr ⟨k, hlt, by simp [h], by simp [h, hg]⟩
    · rcases ih (k + 1) hs' with ⟨h1, h2⟩ | ⟨n, hn, h1, h2⟩
      · exact .inl ⟨by simp [h, h1], by simp [h, h2]⟩
      · exact .inr ⟨n, hn, by simp [h, h1], by simp [h, h2]⟩

@[simp] theorem s_find (a : UInt8) (b : UInt32) : limf env 45 [xq, .agg [a8 a, a32 b], .fn (.func 46) [] []] = some (match qs.find? (labIs a b) with
    | some q => .tup [.agg q.enc, aB true]
    | none => .tup [.agg (Quota.mk 0 0 0 0 0).enc, aB false]) := by
  refine limf_of (fn := Try.f45) (c := bd_policy_find_blindstamp_api_Quota_blindstamp_api_Label_) rfl (by kernel_rfl) (by kernel_rfl) (by kernel_rfl) (by kernel_rfl) ?_; refine vc_policy_find_blindstamp_api_Quota_blindstamp_api_Label_ _ _ _ _ _ fun g => ?_
  simp [new_ne, ne_new, new_ne1, ne_new1, gen_put', *, VC_policy_find_blindstamp_api_Quota_blindstamp_api_Label_, hq.r, s_IndexFunc hq hql]
  rcases findFrom_find a b qs 0 rfl with ⟨h1, h2⟩ | ⟨n, hn, h1, h2⟩
  · rw [h1, h2]
    simp [Quota.enc]
  · have h3 : ¬ (n : Int) < 0 := by omega
    rw [h1, h2]
    simp [hq.idx, hn, h3, Quota.enc]
end

end Go.Proofs.Ytgooemdlilfkmaa
