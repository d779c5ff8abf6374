/-
  How many bytes an operation has, by its kind and its elements. No statement of a seat is proved here.
-/
import Derived.Test.YtehkjjcdkbcebaaOpPutA
import Derived.Test.YtehkjjcdkbcebaaMlVc3
set_option linter.unusedVariables false
set_option linter.unusedSimpArgs false
set_option linter.unusedSectionVars false
set_option linter.unnecessarySimpa false
set_option maxRecDepth 100000
namespace Go.Proofs.Ytehkjjcdkbcebaa
open Go.Ab
attribute [local simp] depth_eq callRes_V callG_frz callG_own keep thr appRes_G appFine_n appFine_s appG_n appG_s roomB appRes_I islFine_some islG_ne List.take_of_length_le
theorem s_OpSize0 {k : UInt8} {m : Int} (hk : k = 1 ∨ k = 2 ∨ k = 3) (h1 : 1 ≤ m) (h64 : m ≤ 64) : limf env 17 [a8 k, aI m] = some (aI (if k = 1 then 37 + 4 * m else if k = 3 then 29 else 24)) := by
  refine limf_of (fn := Try.f17) (c := bd_op_Size) rfl (by kernel_rfl) (by kernel_rfl) (by kernel_rfl) (by kernel_rfl) ?_; refine vc_op_Size _ _ _ _ fun g => ?_
  have h4 := s_parts
  have g1 : ¬ m < 1 := by omega
  have g2 : ¬ 64 < m := by omega
  have f4 : limf env 93 [aI m] = some (aI (13 + 4 * m)) := by
    refine limf_of (fn := Try.f93) (c := bd_op_partsF4) rfl (by kernel_rfl) (by kernel_rfl) (by kernel_rfl) (by kernel_rfl) ?_; refine vc_op_partsF4 _ _ _ fun g => ?_
    have w1 := IntWalk.i64_in (4 * m) (by omega)
    have w2 := IntWalk.i64_in (13 + 4 * m) (by omega)
    simp [new_ne, ne_new, new_ne1, ne_new1, gen_put', *, VC_op_partsF4]
  have f6 : limf env 95 [aI m] = some (aI 0) := by
    refine limf_of (fn := Try.f95) (c := bd_op_partsF6) rfl (by kernel_rfl) (by kernel_rfl) (by kernel_rfl) (by kernel_rfl) ?_; refine vc_op_partsF6 _ _ _ fun g => ?_
    simp [new_ne, ne_new, new_ne1, ne_new1, gen_put', *, VC_op_partsF6]
  have f8 : limf env 98 [aI m] = some (aI 5) := by
    refine limf_of (fn := Try.f98) (c := bd_op_partsF8) rfl (by kernel_rfl) (by kernel_rfl) (by kernel_rfl) (by kernel_rfl) ?_; refine vc_op_partsF8 _ _ _ fun g => ?_
    simp [new_ne, ne_new, new_ne1, ne_new1, gen_put', *, VC_op_partsF8]
  have w3 := IntWalk.i64_in (37 + 4 * m) (by omega)
  have e3 : 24 + (13 + 4 * m) = 37 + 4 * m := by omega
  rcases hk with rfl | rfl | rfl
  · simp [new_ne, ne_new, new_ne1, ne_new1, gen_put', *, VC_op_Size, partsV, qIndex_a8, partAV_r]
  · simp [new_ne, ne_new, new_ne1, ne_new1, gen_put', *, VC_op_Size, partsV, qIndex_a8, partAV_r]
  · simp [new_ne, ne_new, new_ne1, ne_new1, gen_put', *, VC_op_Size, partsV, qIndex_a8, partAV_r]
theorem s_OpSizeB {o : Opn} (ho : opB o = true) : limf env 17 [a8 o.kind, aI o.s.many] = some (aI (sizeK o : Nat)) := by
  have hp := opB_parts ho
  have hs := s_OpSize0 (k := o.kind) (m := o.s.many) (by rcases hp.2.2.2.2.2 with ⟨h, _⟩ | ⟨h, _⟩ | ⟨h, _⟩ <;> simp [h]) hp.2.2.2.1 hp.2.2.2.2.1
  rw [hs]
  have h1 := hp.2.2.2.1
  congr 2
  unfold sizeK
  split
  · omega
  · split <;> rfl
end Go.Proofs.Ytehkjjcdkbcebaa
