/-
  Grants applied: what these functions answer. No statement of a seat is proved here.
-/
import Derived.Test.YtgooemdlilfkmaaPolTwin
import Derived.Test.YtgooemdlilfkmaaGrFns
set_option linter.unusedVariables false
set_option linter.unusedSimpArgs false
set_option linter.unusedSectionVars false
set_option linter.unnecessarySimpa false
set_option maxRecDepth 100000
namespace Go.Proofs.Ytgooemdlilfkmaa
open Go.Ab
attribute [local simp] depth_eq callRes_V callG_data callG_frz callG_own keep appRes_G appFine_n appFine_s appG_n appG_s roomB appRes_I islFine_some islG_ne List.take_of_length_le

def ifcT (P : Program) (t : TypeId) : Bool := match P.underlying t with
  | some (.interface _) => false
  | some _ => true
  | none => false
theorem qIface_ok {P : Program} {t : TypeId} (h : ifcT P t = true) (x : AV) : qIface P t (some x) = some (.ifc t x, []) := by
  unfold ifcT at h
  unfold qIface
  cases hu : P.underlying t with
  | none => rw [hu] at h; cases h
  | some d => rw [hu] at h; cases d <;> first | rfl | cases h
theorem qAssert_ok {P : Program} {t want : TypeId} (h : ifcT P want = true) (y : AV) (ok : Bool) : qAssert P (some (.ifc t y)) want ok = (if t = want then some ((if ok then .tup [y, .v (.bool true)] else y), []) else if ok then (tzero P want).map fun z => (.tup [z, .v (.bool false)], []) else none) := by
  unfold ifcT at h
  unfold qAssert
  cases hu : P.underlying want with
  | none => rw [hu] at h; cases h
  | some d => rw [hu] at h; cases d <;> first | rfl | cases h
@[simp] theorem import_ifc (r : Ref) (n : Nat) (t : TypeId) (x : AV) (bs : List Blk) : importA r n (.ifc t x) bs = (.ifc t x, bs) := by cases n <;> rfl
@[simp] theorem ifcT_33 : ifcT env.P 33 = true := by kernel_rfl
@[simp] theorem ifcT_27 : ifcT env.P 27 = true := by kernel_rfl
attribute [local simp] qIface_ok qAssert_ok

section
variable {xu xq : AV} {us : List Clear} {qs : List Quota} {gr : Int} (hu : Sl 3 (encCs us) xu) (hq : Sl 5 (encQs qs) xq) (hql : qs.length * 32 ≤ 140737488355328) (hul : us.length * 12 ≤ 140737488355328)
include hu hq hql hul

theorem s_gapply (user : Int) (v : UInt8) (c : UInt32) (ok : Bool) (h0 : 0 ≤ user) (h1 : user < us.length) (hg : gr ≠ 0) : ∃ yq, Sl 5 (encQs qs) yq ∧
    limf env 66 [.agg [xu, xq, aI gr], .agg [aI user, a8 v, a32 c, aB ok]] = some (.ifc 33 (.agg [.isl 3 (encCs (us.set user.toNat ⟨v, c, ok⟩)) none, yq, aI (IntKind.i64.wrap (gr - 1))])) := by
  have hT := s_Twin (gr := gr) hu hq hql hul
  obtain ⟨cu, rfl, _⟩ := hu.islN (by intro e; have := congrArg List.length e; simp at this; subst this; simp at h1; omega)
  have hne : encCs us ≠ [] := by intro e; have := congrArg List.length e; simp at this; subst this; simp at h1; omega
  rw [cloneA_ne 3 cu hne] at hT
  have oq := cloneA_out hq
  generalize cloneA xq = yq at *
  have hw : writeAt (encCs us) user.toNat 0 [a8 v, a32 c, aB ok] = some (encCs (us.set user.toNat ⟨v, c, ok⟩)) := by
    have hlt : user.toNat < us.length := by omega
    simp [writeAt_map, List.getElem?_eq_getElem hlt, Clear.enc, List.map_set]
  have hlen : (encCs us).length = us.length := by simp
  have h1' : ¬ (us.length : Int) ≤ user := by omega
  rcases oq with ⟨rfl, h2⟩ | rfl | ⟨rfl, h2⟩
  · refine ⟨aNil, .inl ⟨rfl, h2⟩, ?_⟩
    refine limf_of (fn := Try.f66) (c := bd_grant_apply) rfl (by kernel_rfl) (by kernel_rfl) (by kernel_rfl) (by kernel_rfl) ?_; refine vc_grant_apply _ _ _ _ fun g => ?_
    simp [new_ne, ne_new, new_ne1, ne_new1, gen_put', *, VC_grant_apply, hq.r, callG_data]
  · refine ⟨.isl 5 (encQs qs) none, Sl.mk _ _, ?_⟩
    refine limf_of (fn := Try.f66) (c := bd_grant_apply) rfl (by kernel_rfl) (by kernel_rfl) (by kernel_rfl) (by kernel_rfl) ?_; refine vc_grant_apply _ _ _ _ fun g => ?_
    simp [new_ne, ne_new, new_ne1, ne_new1, gen_put', *, VC_grant_apply, hq.r, callG_data]
  · refine ⟨.isl 5 [] (some 0), .inr ⟨some 0, by rw [h2], by rw [h2]; simp⟩, ?_⟩
    refine limf_of (fn := Try.f66) (c := bd_grant_apply) rfl (by kernel_rfl) (by kernel_rfl) (by kernel_rfl) (by kernel_rfl) ?_; refine vc_grant_apply _ _ _ _ fun g => ?_
    simp [new_ne, ne_new, new_ne1, ne_new1, gen_put', *, VC_grant_apply, hq.r, callG_data]
theorem s_gapply2 (user : Int) (v : UInt8) (c : UInt32) (ok : Bool) (h1 : (us.length : Int) ≤ user) : limf env 66 [.agg [xu, xq, aI gr], .agg [aI user, a8 v, a32 c, aB ok]] = some (.ifc 27 (aI 2)) := by
  refine limf_of (fn := Try.f66) (c := bd_grant_apply) rfl (by kernel_rfl) (by kernel_rfl) (by kernel_rfl) (by kernel_rfl) ?_; refine vc_grant_apply _ _ _ _ fun g => ?_
  have hlen : (encCs us).length = us.length := by simp
  simp [new_ne, ne_new, new_ne1, ne_new1, gen_put', *, VC_grant_apply, hu.r, hq.r]
theorem s_gapply9 (user : Int) (v : UInt8) (c : UInt32) (ok : Bool) (h1 : ¬ (us.length : Int) ≤ user) (hg : gr = 0) : limf env 66 [.agg [xu, xq, aI gr], .agg [aI user, a8 v, a32 c, aB ok]] = some (.ifc 27 (aI 9)) := by
  subst hg
  refine limf_of (fn := Try.f66) (c := bd_grant_apply) rfl (by kernel_rfl) (by kernel_rfl) (by kernel_rfl) (by kernel_rfl) ?_; refine vc_grant_apply _ _ _ _ fun g => ?_
  have hlen : (encCs us).length = us.length := by simp
  simp [new_ne, ne_new, new_ne1, ne_new1, gen_put', *, VC_grant_apply, hu.r, hq.r]
end
/-- The error of a grant that is applied. -/
def applyE (us : List Clear) (qs : List Quota) (gr : Int) (user : Int) (v : UInt8) (c : UInt32) (ok : Bool) : Int :=
  if mayB us qs gr && mayG user v c ok then (if (us.length : Int) ≤ user then 2 else if gr = 0 then 9 else 0) else 8
section
variable {xu xq : AV} {us : List Clear} {qs : List Quota} {gr : Int} (hu : Sl 3 (encCs us) xu) (hq : Sl 5 (encQs qs) xq) (hql : qs.length * 32 ≤ 140737488355328) (hul : us.length * 12 ≤ 140737488355328)
include hu hq hql hul
theorem s_GApplyE (user : Int) (v : UInt8) (c : UInt32) (ok : Bool) (h : applyE us qs gr user v c ok ≠ 0) : limf env 34 [.agg [xu, xq, aI gr], .agg [aI user, a8 v, a32 c, aB ok]] = some (.tup [.agg [aNil, aNil, aI 0], aI (applyE us qs gr user v c ok)]) := by
  have hC := s_Check (gr := gr) hu hq (by omega) (by omega)
  have hG := s_GCheck user v c ok
  refine limf_of (fn := Try.f34) (c := bd_grant_Apply) rfl (by kernel_rfl) (by kernel_rfl) (by kernel_rfl) (by kernel_rfl) ?_; refine vc_grant_Apply _ _ _ _ fun g => ?_
  unfold applyE at h ⊢
  cases hm : mayB us qs gr with
  | false =>
    cases hg : mayG user v c ok <;> simp [new_ne, ne_new, new_ne1, ne_new1, gen_put', *, VC_grant_Apply, hu.r, hq.r, bad]
  | true =>
    cases hg : mayG user v c ok with
    | false => simp [new_ne, ne_new, new_ne1, ne_new1, gen_put', *, VC_grant_Apply, hu.r, hq.r, bad]
    | true =>
      rw [hm, hg] at h
      simp only [Bool.and_self, if_true] at h ⊢
      by_cases h1 : (us.length : Int) ≤ user
      · have hA := s_gapply2 (gr := gr) hu hq hql hul user v c ok h1
        simp [new_ne, ne_new, new_ne1, ne_new1, gen_put', *, VC_grant_Apply, hu.r, hq.r, bad]
      · have h0 : gr = 0 := Decidable.by_contra fun e => h (by rw [if_neg h1, if_neg e])
        have hA := s_gapply9 (gr := gr) hu hq hql hul user v c ok h1 h0
        subst h0
        simp [new_ne, ne_new, new_ne1, ne_new1, gen_put', *, VC_grant_Apply, hu.r, hq.r, bad]
theorem s_GApply (user : Int) (v : UInt8) (c : UInt32) (ok : Bool) (h : applyE us qs gr user v c ok = 0) : ∃ yq, Sl 5 (encQs qs) yq ∧
    limf env 34 [.agg [xu, xq, aI gr], .agg [aI user, a8 v, a32 c, aB ok]] = some (.tup [.agg [.isl 3 (encCs (us.set user.toNat ⟨v, c, ok⟩)) none, yq, aI (IntKind.i64.wrap (gr - 1))], aI 0]) := by
  have hC := s_Check (gr := gr) hu hq (by omega) (by omega)
  have hG := s_GCheck user v c ok
  unfold applyE at h
  split at h
  · rename_i hm
    rw [Bool.and_eq_true] at hm
    obtain ⟨hm, hg⟩ := hm
    split at h
    · cases h
    · rename_i h1
      split at h
      · cases h
      · rename_i h2
        have hg' := hg
        simp only [mayG, Bool.and_eq_true, decide_eq_true_eq] at hg'
        obtain ⟨yq, hyq, hA⟩ := s_gapply (gr := gr) hu hq hql hul user v c ok hg'.1.1 (by omega) h2
        refine ⟨yq, hyq, ?_⟩
        clear hg' h
        refine limf_of (fn := Try.f34) (c := bd_grant_Apply) rfl (by kernel_rfl) (by kernel_rfl) (by kernel_rfl) (by kernel_rfl) ?_; refine vc_grant_Apply _ _ _ _ fun g => ?_
        rw [hm] at hC
        rw [hg] at hG
        clear hm hg
        generalize us.set user.toNat ⟨v, c, ok⟩ = us' at *
        simp [new_ne, ne_new, new_ne1, ne_new1, gen_put', *, VC_grant_Apply, hu.r, hq.r, hyq.r, bad]
  · cases h
end
end Go.Proofs.Ytgooemdlilfkmaa
