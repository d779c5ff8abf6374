/-
  Labels, and the small functions of policy: what they answer. No statement of a seat is proved here.
-/
import Derived.Test.YtgooemdlilfkmaaPgVc
set_option linter.unusedVariables false
set_option linter.unusedSimpArgs false
set_option maxRecDepth 100000
namespace Go.Proofs.Ytgooemdlilfkmaa
open Go.Ab

theorem handed0 {f : FuncId} (hf : (env.mode f == 1) = false) {x y : AV} {H : Heap} (h : view H.get depth x = some y) : handed env f x H y := by
  unfold handed
  rw [if_neg (by simpa using hf)]
  exact h

def lcheck (a : UInt8) : Int := if 15 < a then 8 else 0
theorem label_Check (a : UInt8) (b : UInt32) : limf env 51 [.agg [a8 a, a32 b]] = some (aI (lcheck a)) := by
  unfold lcheck
  refine limf_of (fn := Try.f51) (c := bd_label_Check) rfl (by kernel_rfl) (by kernel_rfl) (by kernel_rfl) (by kernel_rfl) ?_
  refine vc_label_Check _ _ _ fun g => ?_
  simp [VC_label_Check, br_ite]
  split <;> (refine handed0 rfl ?_; simp [depth_eq, *])

theorem label_Leq (a : UInt8) (b : UInt32) (c : UInt8) (d : UInt32) : limf env 19 [.agg [a8 a, a32 b], .agg [a8 c, a32 d]] = some (aB (decide (a ≤ c) && decide (b &&& ~~~d = 0))) := by
  refine limf_of (fn := Try.f19) (c := bd_label_Leq) rfl (by kernel_rfl) (by kernel_rfl) (by kernel_rfl) (by kernel_rfl) ?_
  refine vc_label_Leq _ _ _ _ fun g => ?_
  by_cases h : a ≤ c
  · simp [VC_label_Leq, h]
    refine handed0 rfl ?_
    simp [depth_eq]
  · simp [VC_label_Leq, h]
    refine handed0 rfl ?_
    simp [depth_eq]

theorem label_Ahead (a : UInt8) (b : UInt32) (c : UInt8) (d : UInt32) : limf env 21 [.agg [a8 a, a32 b], .agg [a8 c, a32 d]] = some (aB (decide (a < c) || (decide (a = c) && decide (b < d)))) := by
  refine limf_of (fn := Try.f21) (c := bd_label_Ahead) rfl (by kernel_rfl) (by kernel_rfl) (by kernel_rfl) (by kernel_rfl) ?_
  refine vc_label_Ahead _ _ _ _ fun g => ?_
  simp [VC_label_Ahead, fillAV, patch_eq]
  by_cases h1 : a < c
  · simp [h1]; refine handed0 rfl ?_; simp [depth_eq]
  · by_cases h2 : a = c
    · simp [h1, h2, eqA, eqFs]; refine handed0 rfl ?_; simp [depth_eq]
    · simp [h1, h2, eqA, eqFs]; refine handed0 rfl ?_; simp [depth_eq]

theorem label_Least : limf env 68 [] = some (.agg [a8 0, a32 0]) := by
  refine limf_of (fn := Try.f68) (c := bd_label_Least) rfl (by kernel_rfl) (by kernel_rfl) (by kernel_rfl) (by kernel_rfl) ?_
  refine vc_label_Least _ _ fun g => ?_
  simp [VC_label_Least, fillAV, patch_eq]
  refine handed0 rfl ?_; simp [depth_eq]

theorem policy_from (n m : Int) : limf env 49 [aI n, aI m] = some (aB (decide (0 ≤ n) && decide (n ≤ m))) := by
  refine limf_of (fn := Try.f49) (c := bd_policy_from) rfl (by kernel_rfl) (by kernel_rfl) (by kernel_rfl) (by kernel_rfl) ?_
  refine vc_policy_from _ _ _ _ fun g => ?_
  by_cases h : 0 ≤ n
  · simp [VC_policy_from, h]; refine handed0 rfl ?_; simp [depth_eq]
  · simp [VC_policy_from, h]; refine handed0 rfl ?_; simp [depth_eq]

end Go.Proofs.Ytgooemdlilfkmaa
