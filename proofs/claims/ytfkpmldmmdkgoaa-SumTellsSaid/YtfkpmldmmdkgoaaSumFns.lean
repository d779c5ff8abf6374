/-
  The functions of the sum: what they answer. No statement of a seat is proved here.
-/
import Derived.Test.YtfkpmldmmdkgoaaSumOf
import Derived.Test.YtfkpmldmmdkgoaaAbsLib
set_option linter.unusedVariables false
set_option linter.unusedSimpArgs false
set_option maxRecDepth 100000
namespace Go.Proofs.Ytfkpmldmmdkgoaa
open Go.Ab


theorem handed0 {f : FuncId} {x y : AV} {H : Heap} (h : view H.get depth x = some y) : handed env f x H y := by
  unfold handed
  rw [if_neg (by simp [env, envOf])]
  exact h

theorem elem_22 : (telem env.P 22).bind (tsize env.P) = some 1 := by simp

theorem sum_Bytes (s : UInt32) : limf env 11 [a32 s] = some (.isl 1 (by8 (bytesOf s)) (some 3)) := by
  refine limf_of (fn := Try.f11) (c := bd_sum_Bytes) rfl (by kernel_rfl) (by kernel_rfl) (by kernel_rfl) (by kernel_rfl) ?_
  refine vc_sum_Bytes _ _ _ fun g => ?_
  simp [VC_sum_Bytes]
  refine doW_of (bs_plain (z := 1) (by' := 1) (zz := a8 0) (es := by8 (bytesOf s)) (by simp) (by simp) (by simp [viewParts, depth_eq]) rfl (by simp) (by simp) (by simp [fillSlice, bytesOf, by8])) ?_
  refine handed0 ?_
  rw [depth_eq, view_osl (b := ⟨1, by8 (bytesOf s), true, false⟩) (by simp)]
  simp [bytesOf, by8]

theorem bytes_Equal {x y : AV} {l m : List UInt8} (hx : Sl 1 (by8 l) x) (hy : Sl 1 (by8 m) y) : limf env 15 [x, y] = some (aB (decide (l = m))) := by
  refine limf_of (fn := Try.f15) (c := bd_bytes_Equal) rfl (by kernel_rfl) (by kernel_rfl) (by kernel_rfl) (by kernel_rfl) ?_
  refine vc_bytes_Equal _ _ _ _ fun g => ?_
  simp [VC_bytes_Equal, hx.conv (P := env.P) (src := 22) (dst := 9) (by simp) (by simp), hy.conv (P := env.P) (src := 22) (dst := 9) (by simp) (by simp)]
  exact handed0 (by simp [depth_eq])

theorem sum_Right {x : AV} {l : List UInt8} (hx : Sl 1 (by8 l) x) (hl : l.length ≤ 100000) : limf env 10 [x] = some (aB (rightB l)) := by
  refine limf_of (fn := Try.f10) (c := bd_sum_Right) rfl (by kernel_rfl) (by kernel_rfl) (by kernel_rfl) (by kernel_rfl) ?_
  refine vc_sum_Right _ _ _ fun g => ?_
  simp [VC_sum_Right, hx.len, IntWalk.i64_in ((l.length : Int) - 3) (by omega)]
  by_cases h3 : 3 ≤ l.length
  · have h3' : (3 : Int) ≤ (l.length : Int) := by omega
    have h30 : (0 : Int) ≤ (l.length : Int) - 3 := by omega
    have hn : ((l.length : Int) - 3).toNat = l.length - 3 := by omega
    have hxl : ∃ c, x = .isl 1 (by8 l) c ∧ (by8 l).length ≤ c.getD (by8 l).length := by
      rcases hx with ⟨_, e⟩ | h
      · have := congrArg List.length e; simp at this; subst this; simp at h3
      · exact h
    obtain ⟨c, rfl, hcap⟩ := hxl
    have e1 := slice_full (P := env.P) (t := 22) elem_22 (Heap.get []) (es := by8 l) (c := c) h30 (by simp; omega) hcap
    have hlt : (by8 (l.take (l.length - 3))).length = l.length - 3 := by simp
    obtain ⟨y, e2, hy⟩ := slice_to (P := env.P) (t := 22) elem_22 (Heap.get []) hx h30 (by simp; omega)
    rw [hn, by8_take] at e1 hy
    simp [h3', e1, e2]
    refine doW_call (y := a32 (crc (l.take (l.length - 3)))) rfl (by simp [depth_eq, hy.view]) (sum_Of hy (by simp; omega)) rfl ?_
    simp [h3']
    refine doW_callF (y := .isl 1 (by8 (bytesOf (crc (l.take (l.length - 3))))) (some 3)) rfl (by simp [depth_eq]) (sum_Bytes _) rfl (fun r => rfl) ?_
    simp [h3']
    refine doW_of (app_full (z := 1) (by' := 1) (by simp) (by simp) (isl_els 1 _ _ _) (by simp [bytesOf, by8]) (by simp [bytesOf, by8]) (by simp [bytesOf, roomB]; omega)) ?_
    simp [h3']
    refine doW_call (y := aB (rightB l)) rfl (xs := [.isl 1 (by8 (l.take (l.length - 3) ++ bytesOf (crc (l.take (l.length - 3))))) none, .isl 1 (by8 l) c]) ?_ ?_ rfl ?_
    · rw [depth_eq]
      simp only [List.append_nil, List.nil_append, List.mapM_cons, List.mapM_nil]
      rw [view_full (z := 1) (es := by8 (l.take (l.length - 3)) ++ by8 (bytesOf (crc (l.take (l.length - 3))))) (fz := false) (by simp) (by simp), by8_append]
      rfl
    · rw [bytes_Equal (Sl.mk 1 _) hx]
      simp [rightB, h3]
    · simp [h3']
      refine handed0 ?_
      simp [depth_eq]
  · have h3' : ¬ (3 : Int) ≤ (l.length : Int) := by omega
    simp [h3', rightB, h3]
    refine handed0 ?_
    simp [depth_eq]


end Go.Proofs.Ytfkpmldmmdkgoaa
