/-
  Labels, handles, ids, spans, runes: what the functions answer. No statement of a seat is proved here.
-/
import Derived.Test.YtehkjjcdkbcebaaRbVc1
import Derived.Test.YtehkjjcdkbcebaaIdMath
set_option linter.unusedVariables false
set_option linter.unusedSimpArgs false
set_option linter.unusedSectionVars false
set_option linter.unnecessarySimpa false
set_option maxRecDepth 100000
namespace Go.Proofs.Ytehkjjcdkbcebaa
open Go.Ab
attribute [local simp] depth_eq callRes_V callG_frz callG_own keep thr appRes_G appFine_n appFine_s appG_n appG_s roomB appRes_I islFine_some islG_ne List.take_of_length_le
@[simp] theorem s_LCheck (a : UInt8) (b : UInt32) : limf env 97 [.agg [a8 a, a32 b]] = some (aI (bad (decide (a ≤ 15)))) := by
  refine limf_of (fn := Try.f97) (c := bd_label_Check) rfl (by kernel_rfl) (by kernel_rfl) (by kernel_rfl) (by kernel_rfl) ?_; refine vc_label_Check _ _ _ fun g => ?_
  simp [new_ne, ne_new, new_ne1, ne_new1, gen_put', *, VC_label_Check]
  repeat' ((first | refine br_of (fun h => ?_) (fun h => ?_) | refine gQ_oft (fun h => ?_) (fun h => ?_) | refine gQ_off (fun h => ?_) (fun h => ?_) | refine gW_oft (fun h => ?_) (fun h => ?_) | refine gW_off (fun h => ?_) (fun h => ?_)) <;> (try simp only [decide_eq_true_eq, decide_eq_false_iff_not, Bool.not_eq_true', Bool.not_eq_false', Bool.and_eq_true, Bool.or_eq_true] at h) <;> (try simp [new_ne, ne_new, new_ne1, ne_new1, gen_put', *]))
  all_goals (try grind [bad])
@[simp] theorem s_right (b : Bool) : limf env 99 [aB b] = some (aI (bad b)) := by
  refine limf_of (fn := Try.f99) (c := bd_ids_right) rfl (by kernel_rfl) (by kernel_rfl) (by kernel_rfl) (by kernel_rfl) ?_; refine vc_ids_right _ _ _ fun g => ?_
  cases b <;> simp [new_ne, ne_new, new_ne1, ne_new1, gen_put', *, VC_ids_right, bad]
@[simp] theorem s_CheckHandle (a : UInt8) (b : UInt32) (n : UInt8) : limf env 62 [.agg [a8 a, a32 b, a8 n]] = some (aI (bad (handB ⟨a, b, n⟩))) := by
  refine limf_of (fn := Try.f62) (c := bd_ids_CheckHandle) rfl (by kernel_rfl) (by kernel_rfl) (by kernel_rfl) (by kernel_rfl) ?_; refine vc_ids_CheckHandle _ _ _ fun g => ?_
  simp [new_ne, ne_new, new_ne1, ne_new1, gen_put', *, VC_ids_CheckHandle, handB]
  repeat' ((first | refine br_of (fun h => ?_) (fun h => ?_) | refine gQ_oft (fun h => ?_) (fun h => ?_) | refine gQ_off (fun h => ?_) (fun h => ?_) | refine gW_oft (fun h => ?_) (fun h => ?_) | refine gW_off (fun h => ?_) (fun h => ?_)) <;> (try simp only [decide_eq_true_eq, decide_eq_false_iff_not, Bool.not_eq_true', Bool.not_eq_false', Bool.and_eq_true, Bool.or_eq_true] at h) <;> (try simp [new_ne, ne_new, new_ne1, ne_new1, gen_put', *]))
@[simp] theorem s_ICheck (a : UInt8) (b : UInt32) (n : UInt8) (k : Int) : limf env 84 [.agg [a8 a, a32 b, a8 n, aI k]] = some (aI (bad (idB ⟨⟨a, b, n⟩, k⟩))) := by
  refine limf_of (fn := Try.f84) (c := bd_ids_Check) rfl (by kernel_rfl) (by kernel_rfl) (by kernel_rfl) (by kernel_rfl) ?_; refine vc_ids_Check _ _ _ fun g => ?_
  simp [new_ne, ne_new, new_ne1, ne_new1, gen_put', *, VC_ids_Check, idB]
  repeat' ((first | refine br_of (fun h => ?_) (fun h => ?_) | refine gQ_oft (fun h => ?_) (fun h => ?_) | refine gQ_off (fun h => ?_) (fun h => ?_) | refine gW_oft (fun h => ?_) (fun h => ?_) | refine gW_off (fun h => ?_) (fun h => ?_)) <;> (try simp only [decide_eq_true_eq, decide_eq_false_iff_not, Bool.not_eq_true', Bool.not_eq_false', Bool.and_eq_true, Bool.or_eq_true] at h) <;> (try simp [new_ne, ne_new, new_ne1, ne_new1, gen_put', *]))
@[simp] theorem s_CheckSpan (a : UInt8) (b : UInt32) (n : UInt8) (k m : Int) : limf env 63 [.agg [a8 a, a32 b, a8 n, aI k, aI m]] = some (aI (bad (spanB ⟨⟨⟨a, b, n⟩, k⟩, m⟩))) := by
  refine limf_of (fn := Try.f63) (c := bd_ids_CheckSpan) rfl (by kernel_rfl) (by kernel_rfl) (by kernel_rfl) (by kernel_rfl) ?_; refine vc_ids_CheckSpan _ _ _ fun g => ?_
  cases hb : idB ⟨⟨a, b, n⟩, k⟩ with
  | false => simp [new_ne, ne_new, new_ne1, ne_new1, gen_put', *, VC_ids_CheckSpan, spanB]
  | true =>
    have hn := idB_n hb
    simp only at hn
    by_cases h1 : 1 ≤ m
    · by_cases h2 : m ≤ 64
      · have w1 := IntWalk.i64_in (k + m) (by omega)
        have w2 := IntWalk.i64_in (k + m - 1) (by omega)
        simp [new_ne, ne_new, new_ne1, ne_new1, gen_put', *, VC_ids_CheckSpan, spanB]
      · simp [new_ne, ne_new, new_ne1, ne_new1, gen_put', *, VC_ids_CheckSpan, spanB]
    · simp [new_ne, ne_new, new_ne1, ne_new1, gen_put', *, VC_ids_CheckSpan, spanB]
end Go.Proofs.Ytehkjjcdkbcebaa
