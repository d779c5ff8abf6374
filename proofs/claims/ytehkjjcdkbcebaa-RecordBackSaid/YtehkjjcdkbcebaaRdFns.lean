/-
  Bytes copied and read: what these functions answer. No statement of a seat is proved here.
-/
import Derived.Test.YtehkjjcdkbcebaaOpBytes
set_option linter.unusedVariables false
set_option linter.unusedSimpArgs false
set_option linter.unusedSectionVars false
set_option linter.unnecessarySimpa false
set_option maxRecDepth 100000
namespace Go.Proofs.Ytehkjjcdkbcebaa
open Go.Ab
attribute [local simp] depth_eq callRes_V callG_frz callG_own keep thr appRes_G appFine_n appFine_s appG_n appG_s roomB appRes_I islFine_some islG_ne List.take_of_length_le
theorem s_BClone5 (c : Option Nat) (b1 b2 b3 b4 b5 : UInt8) : limf env 59 [.isl 1 [a8 b1, a8 b2, a8 b3, a8 b4, a8 b5] c] = some (.fsl 1 [a8 b1, a8 b2, a8 b3, a8 b4, a8 b5] none) := by
  refine limf_of (fn := Try.f59) (c := bd_bytes_Clone) rfl (by kernel_rfl) (by kernel_rfl) (by kernel_rfl) (by kernel_rfl) ?_; refine vc_bytes_Clone _ _ _ fun g => ?_
  simp [new_ne, ne_new, new_ne1, ne_new1, gen_put', *, VC_bytes_Clone]
theorem s_BEqual {x y : AV} {l m : List UInt8} (hx : Sl 1 (by8 l) x) (hy : Sl 1 (by8 m) y) : limf env 80 [x, y] = some (aB (decide (l = m))) := by
  refine limf_of (fn := Try.f80) (c := bd_bytes_Equal) rfl (by kernel_rfl) (by kernel_rfl) (by kernel_rfl) (by kernel_rfl) ?_; refine vc_bytes_Equal _ _ _ _ fun g => ?_
  have e : ∀ l : List UInt8, by8 l = [] → l = [] := fun l h => by simpa [by8] using h
  rcases hx with ⟨rfl, h1⟩ | ⟨c, rfl, h1⟩ <;> rcases hy with ⟨rfl, h2⟩ | ⟨c', rfl, h2⟩
  · obtain rfl := e l h1
    obtain rfl := e m h2
    simp [new_ne, ne_new, new_ne1, ne_new1, gen_put', *, VC_bytes_Equal]
  · obtain rfl := e l h1
    simp [new_ne, ne_new, new_ne1, ne_new1, gen_put', *, VC_bytes_Equal]
    try exact ⟨fun h => h.symm, fun h => h.symm⟩
  · obtain rfl := e m h2
    simp [new_ne, ne_new, new_ne1, ne_new1, gen_put', *, VC_bytes_Equal]
  · simp [new_ne, ne_new, new_ne1, ne_new1, gen_put', *, VC_bytes_Equal]
end Go.Proofs.Ytehkjjcdkbcebaa
