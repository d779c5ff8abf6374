/-
  May a user open at a label: what the functions answer. No statement of a seat is proved here.
-/
import Derived.Test.YtgooemdlilfkmaaPolCheck
set_option linter.unusedVariables false
set_option linter.unusedSimpArgs false
set_option maxRecDepth 100000
namespace Go.Proofs.Ytgooemdlilfkmaa
open Go.Ab

def askedE (us : List Clear) (qs : List Quota) (gr : Int) (a : UInt8) : Int := if lcheck a > bad (mayB us qs gr) then lcheck a else bad (mayB us qs gr)
def opensB (us : List Clear) (user : Int) (a : UInt8) (b : UInt32) : Bool :=
  if h : 0 ≤ user ∧ user < us.length then us[user.toNat].ok && (decide (a ≤ us[user.toNat].lv) && decide (b &&& ~~~us[user.toNat].cats = 0)) else false

section
variable {xu xq : AV} {us : List Clear} {qs : List Quota} {gr : Int} (hu : Sl 3 (encCs us) xu) (hq : Sl 5 (encQs qs) xq) (hql : qs.length < 9000000000000000000) (hul : us.length < 9000000000000000000)
include hu hq hql hul

theorem policy_May (user : Int) (a : UInt8) (b : UInt32) : limf env 15 [.agg [xu, xq, aI gr], aI user, .agg [a8 a, a32 b]] = some (.tup [aB (decide (askedE us qs gr a = 0) && opensB us user a b), aI (askedE us qs gr a)]) := by
  refine limf_of (fn := Try.f15) (c := bd_policy_May) rfl (by kernel_rfl) (by kernel_rfl) (by kernel_rfl) (by kernel_rfl) ?_
  refine vc_policy_May _ _ _ _ _ fun g => ?_
  simp [VC_policy_May, hu.cells, hq.cells]
  refine doW_call (xs := [.agg [xu, xq, aI gr], .agg [a8 a, a32 b]]) (y := aI (askedE us qs gr a)) rfl (by simp [depth_eq, hu.view, hq.view]) (policy_asked hu hq hql hul a b) rfl ?_
  by_cases he : askedE us qs gr a = 0
  · by_cases h1 : user < 0
    · have : ¬ (0 ≤ user ∧ user < us.length) := by omega
      simp [he, h1, opensB, this]
      refine handed0 rfl ?_
      simp [depth_eq]
    · by_cases h2 : (us.length : Int) ≤ user
      · have : ¬ (0 ≤ user ∧ user < us.length) := by omega
        simp [he, h1, h2, opensB, this, hu.len]
        refine handed0 rfl ?_
        simp [depth_eq]
      · have h0 : 0 ≤ user ∧ user < us.length := by omega
        obtain ⟨n, rfl⟩ := Int.eq_ofNat_of_zero_le h0.1
        have hn : n < us.length := by omega
        have hlen := hu.len
        obtain ⟨c, rfl, _⟩ := hu.isl (i := n) (by simpa using hn)
        simp [he, h1, h2, opensB, h0, hlen, hn, read_C hn]
        cases hok : us[n].ok
        · simp [hok]
          refine handed0 rfl ?_
          simp [depth_eq, he, hn]
        · simp [hok]
          refine handed0 rfl ?_
          simp [depth_eq, he, hn]
  · simp [he]
    refine handed0 rfl ?_
    simp [depth_eq]
end

theorem ref_Great {xu xq : AV} {us : List Clear} {qs : List Quota} (gr : Int) (hu : Sl 3 (encCs us) xu) (hq : Sl 5 (encQs qs) xq) : limf env 18 [.agg [xu, xq, aI gr]] = some (aB (decide (100 < (us.length : Int)) || decide (100 < (qs.length : Int)))) := by
  refine limf_of (fn := Try.f18) (c := bd_blindstampref06_Great) rfl (by kernel_rfl) (by kernel_rfl) (by kernel_rfl) (by kernel_rfl) ?_
  refine vc_blindstampref06_Great _ _ _ fun g => ?_
  simp [VC_blindstampref06_Great, hu.cells, hq.cells, hu.len]
  by_cases h : (100 : Int) < us.length
  · simp [h]
    refine handed0 rfl ?_
    simp [depth_eq]
  · simp [h, hq.len]
    refine handed0 rfl ?_
    simp [depth_eq]

end Go.Proofs.Ytgooemdlilfkmaa
