/-
  The sum of bytes: what its function answers. No statement of a seat is proved here.
-/
import Derived.Test.YtfkpmldmmdkgoaaSumVc
import Derived.Test.YtfkpmldmmdkgoaaSumMath
set_option linter.unusedVariables false
set_option linter.unusedSimpArgs false
set_option maxRecDepth 100000
namespace Go.Proofs.Ytfkpmldmmdkgoaa
open Go.Ab

theorem of_inner {x6 : AV} {n i : Int} {H : Heap} {Q : AV → Heap → Prop} : ∀ (d k : Nat) (s : UInt32), k + d = 8 →
    GoL env Try.f9 0 hd_sum_Of_3 [(8, aI (IntKind.i64.wrap (i + 1))), (3, a32 (crcBits d s)), (6, x6), (7, aI n)] H Q →
    GoL env Try.f9 0 hd_sum_Of_7 [(17, aI k), (3, a32 s), (6, x6), (7, aI n), (8, aI i)] H Q := by
  intro d
  induction d with
  | zero =>
    intro k s hk h
    refine vc_sum_Of_7 _ _ _ _ _ _ _ fun g => ?_
    obtain rfl : k = 8 := by omega
    simp [VC_sum_Of_7]
    exact h
  | succ d ih =>
    intro k s hk h
    refine vc_sum_Of_7 _ _ _ _ _ _ _ fun g => ?_
    have hk8 : (k : Int) < 8 := by omega
    simp [VC_sum_Of_7, hk8]
    refine br_dec (fun hb => ?_) (fun hb => ?_)
    · simp [IntWalk.i64_in (k + 1) (by omega)]
      refine ih (k + 1) _ (by omega) ?_
      have : crcBits (d + 1) s = crcBits d (s <<< 1 ^^^ 25578747) := by simp [crcBits, crcBit, hb]
      rwa [this] at h
    · simp [IntWalk.i64_in (k + 1) (by omega)]
      refine ih (k + 1) _ (by omega) ?_
      have : crcBits (d + 1) s = crcBits d (s <<< 1) := by simp only [crcBits, crcBit, if_neg hb]
      rwa [this] at h

theorem of_outer {x6 : AV} {H : Heap} {Q : AV → Heap → Prop} {l : List UInt8} (hx : Sl 1 (by8 l) x6) (hl : l.length < 9000000000000000000) : ∀ (d k : Nat) (s : UInt32), k + d = l.length →
    Q (a32 (crcFrom s (l.drop k))) H →
    GoL env Try.f9 0 hd_sum_Of_3 [(8, aI k), (3, a32 s), (6, x6), (7, aI l.length)] H Q := by
  intro d
  induction d with
  | zero =>
    intro k s hk h
    refine vc_sum_Of_3 _ _ _ _ _ _ fun g => ?_
    obtain rfl : k = l.length := by omega
    simp [VC_sum_Of_3]
    simpa [crcFrom] using h
  | succ d ih =>
    intro k s hk h
    refine vc_sum_Of_3 _ _ _ _ _ _ fun g => ?_
    have hk2 : k < l.length := by omega
    rcases hx with ⟨rfl, he⟩ | ⟨c, rfl, _⟩
    · have := congrArg List.length he; simp at this; subst this; simp at hk2
    simp [VC_sum_Of_3, hk2]
    refine of_inner 8 0 _ rfl ?_
    rw [IntWalk.i64_in (k + 1) (by omega)]
    refine ih (k + 1) _ (by omega) ?_
    rw [List.drop_eq_getElem_cons hk2] at h
    exact h

theorem sum_Of {x : AV} {l : List UInt8} (hx : Sl 1 (by8 l) x) (hl : l.length < 9000000000000000000) : limf env 9 [x] = some (a32 (crc l)) := by
  refine limf_of (fn := Try.f9) (c := bd_sum_Of) rfl (by kernel_rfl) (by kernel_rfl) (by kernel_rfl) (by kernel_rfl) ?_
  refine vc_sum_Of _ _ _ fun g => ?_
  have hlen : lenAV x = some l.length := by rw [hx.len]; simp
  simp [VC_sum_Of, hlen]
  refine of_outer hx hl l.length 0 _ (by simp) ?_
  simp [handed, env, envOf, depth_eq, crc]
end Go.Proofs.Ytfkpmldmmdkgoaa
