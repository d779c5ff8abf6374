/-
  Policies copied: what these functions answer. No statement of a seat is proved here.
-/
import Derived.Test.YtgooemdlilfkmaaPolSame2
set_option linter.unusedVariables false
set_option linter.unusedSimpArgs false
set_option linter.unusedSectionVars false
set_option linter.unnecessarySimpa false
set_option maxRecDepth 100000
namespace Go.Proofs.Ytgooemdlilfkmaa
open Go.Ab
attribute [local simp] depth_eq callRes_V keep appRes_G appFine_n appFine_s appG_n appG_s roomB

theorem mode1 {f : FuncId} (h : keep.contains f = true) : (env.mode f == 1) = true := by
  show ((if keep.contains f then 1 else if ([] : List FuncId).contains f then 2 else 0) == 1) = true
  rw [h]; rfl
@[simp] theorem handed1 {f : FuncId} (h : keep.contains f = true) (x : AV) (H : Heap) (y : AV) : handed env f x H y ↔ (viewRefs H.get depth x).Nodup ∧ exportA H.get depth x = some y := handed_keep (mode1 h) x H y

theorem nil30 : qBin env.P .eql 30 (.tmp 3) (.const (.slice none 0 0)) (some aNil) (some aNil) = some (aB true, []) := by kernel_rfl
theorem nil31 : qBin env.P .eql 31 (.tmp 3) (.const (.slice none 0 0)) (some aNil) (some aNil) = some (aB true, []) := by kernel_rfl

theorem s_CloneC {xu : AV} {us : List Clear} (hu : Sl 3 (encCs us) xu) (hul : us.length * 12 ≤ 140737488355328) : limf env 58 [xu] = some (cloneA xu) := by
  rcases hu.nilEq with ⟨rfl, he⟩ | ⟨c, rfl⟩
  · refine limf_of (fn := Try.f58) (c := bd_slices_Clone___blindstamp_api_Clear_blindstamp_api_Clear_) rfl (by kernel_rfl) (by kernel_rfl) (by kernel_rfl) (by kernel_rfl) ?_; refine vc_slices_Clone___blindstamp_api_Clear_blindstamp_api_Clear_ _ _ _ fun g => ?_
    simp [new_ne, ne_new, new_ne1, ne_new1, gen_put', *, VC_slices_Clone___blindstamp_api_Clear_blindstamp_api_Clear_, nil30]
  · by_cases hn : us = []
    · refine limf_of (fn := Try.f58) (c := bd_slices_Clone___blindstamp_api_Clear_blindstamp_api_Clear_) rfl (by kernel_rfl) (by kernel_rfl) (by kernel_rfl) (by kernel_rfl) ?_; refine vc_slices_Clone___blindstamp_api_Clear_blindstamp_api_Clear_ _ _ _ fun g => ?_
      subst hn
      simp [new_ne, ne_new, new_ne1, ne_new1, gen_put', *, VC_slices_Clone___blindstamp_api_Clear_blindstamp_api_Clear_]
    · refine limf_of (fn := Try.f58) (c := bd_slices_Clone___blindstamp_api_Clear_blindstamp_api_Clear_) rfl (by kernel_rfl) (by kernel_rfl) (by kernel_rfl) (by kernel_rfl) ?_; refine vc_slices_Clone___blindstamp_api_Clear_blindstamp_api_Clear_ _ _ _ fun g => ?_
      simp [new_ne, ne_new, new_ne1, ne_new1, gen_put', *, VC_slices_Clone___blindstamp_api_Clear_blindstamp_api_Clear_, List.length_pos_iff, cloneA_ne]

theorem s_CloneQ {xu : AV} {us : List Quota} (hu : Sl 5 (encQs us) xu) (hul : us.length * 32 ≤ 140737488355328) : limf env 59 [xu] = some (cloneA xu) := by
  rcases hu.nilEq with ⟨rfl, he⟩ | ⟨c, rfl⟩
  · refine limf_of (fn := Try.f59) (c := bd_slices_Clone___blindstamp_api_Quota_blindstamp_api_Quota_) rfl (by kernel_rfl) (by kernel_rfl) (by kernel_rfl) (by kernel_rfl) ?_; refine vc_slices_Clone___blindstamp_api_Quota_blindstamp_api_Quota_ _ _ _ fun g => ?_
    simp [new_ne, ne_new, new_ne1, ne_new1, gen_put', *, VC_slices_Clone___blindstamp_api_Quota_blindstamp_api_Quota_, nil31]
  · by_cases hn : us = []
    · refine limf_of (fn := Try.f59) (c := bd_slices_Clone___blindstamp_api_Quota_blindstamp_api_Quota_) rfl (by kernel_rfl) (by kernel_rfl) (by kernel_rfl) (by kernel_rfl) ?_; refine vc_slices_Clone___blindstamp_api_Quota_blindstamp_api_Quota_ _ _ _ fun g => ?_
      subst hn
      simp [new_ne, ne_new, new_ne1, ne_new1, gen_put', *, VC_slices_Clone___blindstamp_api_Quota_blindstamp_api_Quota_]
    · refine limf_of (fn := Try.f59) (c := bd_slices_Clone___blindstamp_api_Quota_blindstamp_api_Quota_) rfl (by kernel_rfl) (by kernel_rfl) (by kernel_rfl) (by kernel_rfl) ?_; refine vc_slices_Clone___blindstamp_api_Quota_blindstamp_api_Quota_ _ _ _ fun g => ?_
      simp [new_ne, ne_new, new_ne1, ne_new1, gen_put', *, VC_slices_Clone___blindstamp_api_Quota_blindstamp_api_Quota_, List.length_pos_iff, cloneA_ne]

section
variable {xu xq : AV} {us : List Clear} {qs : List Quota} {gr : Int} (hu : Sl 3 (encCs us) xu) (hq : Sl 5 (encQs qs) xq) (hql : qs.length * 32 ≤ 140737488355328) (hul : us.length * 12 ≤ 140737488355328)
include hu hq hql hul

theorem s_Twin : limf env 26 [.agg [xu, xq, aI gr]] = some (.agg [cloneA xu, cloneA xq, aI gr]) := by
  have hyu := s_CloneC hu hul
  have hyq := s_CloneQ hq hql
  have ou := cloneA_out hu
  have oq := cloneA_out hq
  generalize cloneA xu = yu at *
  generalize cloneA xq = yq at *
  refine limf_of (fn := Try.f26) (c := bd_policy_Twin) rfl (by kernel_rfl) (by kernel_rfl) (by kernel_rfl) (by kernel_rfl) ?_; refine vc_policy_Twin _ _ _ fun g => ?_
  rcases ou with ⟨rfl, h1⟩ | rfl | ⟨rfl, h1⟩ <;> rcases oq with ⟨rfl, h2⟩ | rfl | ⟨rfl, h2⟩ <;> simp [new_ne, ne_new, new_ne1, ne_new1, gen_put', *, VC_policy_Twin, hu.r, hq.r, callG_data]

theorem s_RTwin : limf env 20 [.agg [xu, xq, aI gr]] = some (.agg [outA 3 (encCs us), outA 5 (encQs qs), aI gr]) := by
  refine limf_of (fn := Try.f20) (c := bd_blindstampref06_Twin) rfl (by kernel_rfl) (by kernel_rfl) (by kernel_rfl) (by kernel_rfl) ?_; refine vc_blindstampref06_Twin _ _ _ fun g => ?_
  by_cases h1 : us = []
  · by_cases h2 : qs = []
    · subst h1; subst h2
      simp [new_ne, ne_new, new_ne1, ne_new1, gen_put', *, VC_blindstampref06_Twin, hu.r, hq.r, hu.elsOf, hq.elsOf]
    · subst h1
      simp [new_ne, ne_new, new_ne1, ne_new1, gen_put', *, VC_blindstampref06_Twin, hu.r, hq.r, hu.elsOf, hq.elsOf, outA_ne]
  · by_cases h2 : qs = []
    · subst h2
      simp [new_ne, ne_new, new_ne1, ne_new1, gen_put', *, VC_blindstampref06_Twin, hu.r, hq.r, hu.elsOf, hq.elsOf, outA_ne]
    · simp [new_ne, ne_new, new_ne1, ne_new1, gen_put', *, VC_blindstampref06_Twin, hu.r, hq.r, hu.elsOf, hq.elsOf, outA_ne]
end

end Go.Proofs.Ytgooemdlilfkmaa
