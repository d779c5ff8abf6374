/-
  Labels: what the functions answer. No statement of a seat is proved here.
-/
import Derived.Test.YtgooemdlilfkmaaPgVc
import Derived.Test.YtgooemdlilfkmaaPolMath
import Derived.Test.YtgooemdlilfkmaaAbsRules
set_option linter.unusedVariables false
set_option linter.unusedSimpArgs false
set_option maxRecDepth 100000
namespace Go.Proofs.Ytgooemdlilfkmaa
open Go.Ab

theorem mode0 {f : FuncId} (h : keep.contains f = false) : (env.mode f == 1) = false := by
  show ((if keep.contains f then 1 else if ([] : List FuncId).contains f then 2 else 0) == 1) = false
  rw [h]; rfl
@[simp] theorem handed0 {f : FuncId} (h : keep.contains f = false) (x : AV) (H : Heap) (y : AV) : handed env f x H y ↔ view H.get depth x = some y := handed_of (mode0 h) x H y
attribute [local simp] depth_eq callRes_V keep

@[simp] theorem s_LCheck (a : UInt8) (b : UInt32) : limf env 51 [.agg [a8 a, a32 b]] = some (aI (lcheck a)) := by
  refine limf_of (fn := Try.f51) (c := bd_label_Check) rfl (by kernel_rfl) (by kernel_rfl) (by kernel_rfl) (by kernel_rfl) ?_; refine vc_label_Check _ _ _ fun g => ?_
  simp [new_ne, ne_new, new_ne1, ne_new1, gen_put', *, VC_label_Check]
  repeat' ((first | refine br_of (fun h => ?_) (fun h => ?_) | refine gQ_oft (fun h => ?_) (fun h => ?_) | refine gQ_off (fun h => ?_) (fun h => ?_) | refine gW_oft (fun h => ?_) (fun h => ?_) | refine gW_off (fun h => ?_) (fun h => ?_)) <;> (try simp only [decide_eq_true_eq, decide_eq_false_iff_not, Bool.not_eq_true', Bool.not_eq_false', Bool.and_eq_true, Bool.or_eq_true] at h) <;> (try simp [new_ne, ne_new, new_ne1, ne_new1, gen_put', *, lcheck]))

@[simp] theorem s_Leq (a : UInt8) (b : UInt32) (c : UInt8) (d : UInt32) : limf env 19 [.agg [a8 a, a32 b], .agg [a8 c, a32 d]] = some (aB (leqB a b c d)) := by
  refine limf_of (fn := Try.f19) (c := bd_label_Leq) rfl (by kernel_rfl) (by kernel_rfl) (by kernel_rfl) (by kernel_rfl) ?_; refine vc_label_Leq _ _ _ _ fun g => ?_
  simp [new_ne, ne_new, new_ne1, ne_new1, gen_put', *, VC_label_Leq]
  repeat' ((first | refine br_of (fun h => ?_) (fun h => ?_) | refine gQ_oft (fun h => ?_) (fun h => ?_) | refine gQ_off (fun h => ?_) (fun h => ?_) | refine gW_oft (fun h => ?_) (fun h => ?_) | refine gW_off (fun h => ?_) (fun h => ?_)) <;> (try simp only [decide_eq_true_eq, decide_eq_false_iff_not, Bool.not_eq_true', Bool.not_eq_false', Bool.and_eq_true, Bool.or_eq_true] at h) <;> (try simp [new_ne, ne_new, new_ne1, ne_new1, gen_put', *, leqB]))

@[simp] theorem s_Ahead (a : UInt8) (b : UInt32) (c : UInt8) (d : UInt32) : limf env 21 [.agg [a8 a, a32 b], .agg [a8 c, a32 d]] = some (aB (aheadB a b c d)) := by
  refine limf_of (fn := Try.f21) (c := bd_label_Ahead) rfl (by kernel_rfl) (by kernel_rfl) (by kernel_rfl) (by kernel_rfl) ?_; refine vc_label_Ahead _ _ _ _ fun g => ?_
  simp [new_ne, ne_new, new_ne1, ne_new1, gen_put', *, VC_label_Ahead, fillAV, eqA, eqFs]
  repeat' ((first | refine br_of (fun h => ?_) (fun h => ?_) | refine gQ_oft (fun h => ?_) (fun h => ?_) | refine gQ_off (fun h => ?_) (fun h => ?_) | refine gW_oft (fun h => ?_) (fun h => ?_) | refine gW_off (fun h => ?_) (fun h => ?_)) <;> (try simp only [decide_eq_true_eq, decide_eq_false_iff_not, Bool.not_eq_true', Bool.not_eq_false', Bool.and_eq_true, Bool.or_eq_true] at h) <;> (try simp [new_ne, ne_new, new_ne1, ne_new1, gen_put', *, aheadB, fillAV, eqA, eqFs]))

@[simp] theorem s_Least : limf env 68 [] = some (.agg [a8 0, a32 0]) := by
  refine limf_of (fn := Try.f68) (c := bd_label_Least) rfl (by kernel_rfl) (by kernel_rfl) (by kernel_rfl) (by kernel_rfl) ?_; refine vc_label_Least _ _ fun g => ?_
  simp [new_ne, ne_new, new_ne1, ne_new1, gen_put', *, VC_label_Least, fillAV]

@[simp] theorem s_from (n m : Int) : limf env 49 [aI n, aI m] = some (aB (decide (0 ≤ n) && decide (n ≤ m))) := by
  refine limf_of (fn := Try.f49) (c := bd_policy_from) rfl (by kernel_rfl) (by kernel_rfl) (by kernel_rfl) (by kernel_rfl) ?_; refine vc_policy_from _ _ _ _ fun g => ?_
  simp [new_ne, ne_new, new_ne1, ne_new1, gen_put', *, VC_policy_from]
  repeat' ((first | refine br_of (fun h => ?_) (fun h => ?_) | refine gQ_oft (fun h => ?_) (fun h => ?_) | refine gQ_off (fun h => ?_) (fun h => ?_) | refine gW_oft (fun h => ?_) (fun h => ?_) | refine gW_off (fun h => ?_) (fun h => ?_)) <;> (try simp only [decide_eq_true_eq, decide_eq_false_iff_not, Bool.not_eq_true', Bool.not_eq_false', Bool.and_eq_true, Bool.or_eq_true] at h) <;> (try simp [new_ne, ne_new, new_ne1, ne_new1, gen_put', *]))

@[simp] theorem s_RMay (a : UInt8) (b : UInt32) : limf env 55 [.agg [a8 a, a32 b]] = some (aB (decide (a ≤ 15))) := by
  refine limf_of (fn := Try.f55) (c := bd_blindstampref01_May) rfl (by kernel_rfl) (by kernel_rfl) (by kernel_rfl) (by kernel_rfl) ?_; refine vc_blindstampref01_May _ _ _ fun g => ?_
  simp [new_ne, ne_new, new_ne1, ne_new1, gen_put', *, VC_blindstampref01_May]

@[simp] theorem s_clear (v : UInt8) (c : UInt32) (ok : Bool) : limf env 50 [.agg [a8 v, a32 c, aB ok]] = some (aB (clearB v c ok)) := by
  refine limf_of (fn := Try.f50) (c := bd_policy_clear) rfl (by kernel_rfl) (by kernel_rfl) (by kernel_rfl) (by kernel_rfl) ?_; refine vc_policy_clear _ _ _ fun g => ?_
  simp [new_ne, ne_new, new_ne1, ne_new1, gen_put', *, VC_policy_clear, fillAV, eqA, eqFs]
  repeat' ((first | refine br_of (fun h => ?_) (fun h => ?_) | refine gQ_oft (fun h => ?_) (fun h => ?_) | refine gQ_off (fun h => ?_) (fun h => ?_) | refine gW_oft (fun h => ?_) (fun h => ?_) | refine gW_off (fun h => ?_) (fun h => ?_)) <;> (try simp only [decide_eq_true_eq, decide_eq_false_iff_not, Bool.not_eq_true', Bool.not_eq_false', Bool.and_eq_true, Bool.or_eq_true] at h) <;> (try simp [new_ne, ne_new, new_ne1, ne_new1, gen_put', *, clearB, fillAV, eqA, eqFs]))

@[simp] theorem s_RMayClear (v : UInt8) (c : UInt32) (ok : Bool) : limf env 72 [.agg [a8 v, a32 c, aB ok]] = some (aB (clearB v c ok)) := by
  refine limf_of (fn := Try.f72) (c := bd_blindstampref06_MayClear) rfl (by kernel_rfl) (by kernel_rfl) (by kernel_rfl) (by kernel_rfl) ?_; refine vc_blindstampref06_MayClear _ _ _ fun g => ?_
  simp [new_ne, ne_new, new_ne1, ne_new1, gen_put', *, VC_blindstampref06_MayClear, fillAV, eqA, eqFs]
  repeat' ((first | refine br_of (fun h => ?_) (fun h => ?_) | refine gQ_oft (fun h => ?_) (fun h => ?_) | refine gQ_off (fun h => ?_) (fun h => ?_) | refine gW_oft (fun h => ?_) (fun h => ?_) | refine gW_off (fun h => ?_) (fun h => ?_)) <;> (try simp only [decide_eq_true_eq, decide_eq_false_iff_not, Bool.not_eq_true', Bool.not_eq_false', Bool.and_eq_true, Bool.or_eq_true] at h) <;> (try simp [new_ne, ne_new, new_ne1, ne_new1, gen_put', *, clearB, fillAV, eqA, eqFs]))

end Go.Proofs.Ytgooemdlilfkmaa
