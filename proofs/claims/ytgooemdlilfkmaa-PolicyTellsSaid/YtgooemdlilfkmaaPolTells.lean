/-
  'Rows.PolicyTellsSaid': the law's run. No conditions.
-/
import Derived.Test.YtgooemdlilfkmaaPolTwin
import Derived.Test.YtgooemdlilfkmaaPgVl
set_option linter.unusedVariables false
set_option linter.unusedSimpArgs false
set_option linter.unusedSectionVars false
set_option linter.unnecessarySimpa false
set_option maxRecDepth 100000
namespace Go.Proofs.Ytgooemdlilfkmaa
open Go.Ab
attribute [local simp] depth_eq callRes_V keep appRes_G appFine_n appFine_s appG_n appG_s roomB

section
variable {xu xq ou oq vu vq tu tq : AV} {us : List Clear} {qs : List Quota} {gr : Int} (hu : Sl 3 (encCs us) xu) (hq : Sl 5 (encQs qs) xq) (hql : qs.length < 1000) (hul : us.length < 1000)
variable {r22 r4 r9 ru rq : Ref} (h1 : ru ≠ r22) (h2 : ru ≠ r4) (h3 : ru ≠ r9) (h4 : rq ≠ r22) (h5 : rq ≠ r4) (h6 : rq ≠ r9) (h7 : ou.at? ≠ some ru) (h8 : oq.at? ≠ some ru) (h9 : ou.at? ≠ some rq) (h10 : oq.at? ≠ some rq) (h11 : rq ≠ ru)
include hu hq hql hul

structure TInv (H : Heap) (r22 r4 r9 : Ref) (tu tq xu xq ou oq vu vq : AV) (us : List Clear) (qs : List Quota) (gr : Int) : Prop where
  t : H.get r22 = some ⟨3, [.agg [tu, tq, aI gr]], false, false⟩
  p : H.get r4 = some ⟨3, [.agg [xu, xq, aI gr]], false, false⟩
  o : H.get r9 = some ⟨3, [.agg [ou, oq, aI gr]], false, false⟩
  u : SeenS 3 (encCs us) H ou vu
  q : SeenS 5 (encQs qs) H oq vq
omit hu hq hql hul in
theorem TInv.put {H : Heap} (h : TInv H r22 r4 r9 tu tq xu xq ou oq vu vq us qs gr) {r : Ref} (e1 : r ≠ r22) (e2 : r ≠ r4) (e3 : r ≠ r9) (e4 : ou.at? ≠ some r) (e5 : oq.at? ≠ some r) (b : Option Blk) : TInv (H.put r b) r22 r4 r9 tu tq xu xq ou oq vu vq us qs gr where
  t := by rw [Heap.get_put, if_neg e1.symm]; exact h.t
  p := by rw [Heap.get_put, if_neg e2.symm]; exact h.p
  o := by rw [Heap.get_put, if_neg e3.symm]; exact h.o
  u := h.u.put e4 b
  q := h.q.put e5 b

include h4 h5 h6 h9 h10
theorem tells17 {one : Bool} {Q : AV → Heap → Prop} : ∀ (d k : Nat) (i : Int) (q2 : List Quota) (H : Heap), k + d = q2.length → qs.length = q2.length → i = k → TInv H r22 r4 r9 tu tq xu xq ou oq vu vq us qs gr → Mine 5 (encQs q2) H tq rq →
    (∀ y H', y = aB one → Q y H') →
    GoL env Try.f6 0 hd_blindstamplaw06_PolicyTells_17 [(25, aI i), (22, .ptr r22 0 0), (4, .ptr r4 0 0), (9, .ptr r9 0 0), (23, aB one)] H Q := by
  intro d
  induction d with
  | zero =>
    rintro k i q2 H hk hl rfl hT hM hQ
    refine vc_blindstamplaw06_PolicyTells_17 _ _ _ _ _ _ _ fun g => ?_
    have hS := s_RSame (gr := gr) (gr' := gr) hT.u.sl hT.q.sl hu hq (by omega) (by omega)
    have hk' : ¬ (k : Int) < q2.length := by omega
    simp [new_ne, ne_new, *, VC_blindstamplaw06_PolicyTells_17, hT.t, hT.p, hT.o, hM.len, hM.cells, hT.u.r, hT.q.r, hu.r, hq.r]
    repeat' ((first | refine br_of (fun h => ?_) (fun h => ?_) | refine gQ_oft (fun h => ?_) (fun h => ?_) | refine gQ_off (fun h => ?_) (fun h => ?_) | refine gW_oft (fun h => ?_) (fun h => ?_) | refine gW_off (fun h => ?_) (fun h => ?_)) <;> (try simp only [decide_eq_true_eq, decide_eq_false_iff_not, Bool.not_eq_true', Bool.not_eq_false', Bool.and_eq_true, Bool.or_eq_true] at h) <;> (try simp [new_ne, ne_new, *, hT.t, hT.p, hT.o, hT.u.r, hT.q.r, hu.r, hq.r]))
  | succ d ih =>
    rintro k i q2 H hk hl rfl hT hM hQ
    have hlt : k < q2.length := by omega
    obtain ⟨c, rfl, hr⟩ := hM.osl (k := k) (by simpa using hlt)
    refine vc_blindstamplaw06_PolicyTells_17 _ _ _ _ _ _ _ fun g => ?_
    have e := IntWalk.i64_in ((k : Int) + 1) (by omega)
    have hg : q2[k]? = some q2[k] := List.getElem?_eq_getElem hlt
    have hw : writeAt (encQs q2) k 3 [aI (-7)] = some (encQs (q2.set k { q2[k] with ops := -7 })) := by
      simp [writeAt_map, hg, Quota.enc, List.map_set]
    simp [new_ne, ne_new, *, VC_blindstamplaw06_PolicyTells_17, hT.t, hT.p, hT.o, hr]
    refine ih (k + 1) _ (q2.set k { q2[k] with ops := -7 }) _ (by simp; omega) (by simp [hl]) (by simp) (hT.put h4 h5 h6 h9 h10 _) (.inr ⟨c, by simp, by simp [List.map_set]⟩) hQ

include h1 h2 h3 h7 h8 h11
theorem tells13 {one : Bool} {Q : AV → Heap → Prop} {q2 : List Quota} (hl2 : qs.length = q2.length) : ∀ (d k : Nat) (i : Int) (u2 : List Clear) (H : Heap), k + d = u2.length → us.length = u2.length → i = k → TInv H r22 r4 r9 tu tq xu xq ou oq vu vq us qs gr → Mine 3 (encCs u2) H tu ru → Mine 5 (encQs q2) H tq rq →
    (∀ y H', y = aB one → Q y H') →
    GoL env Try.f6 0 hd_blindstamplaw06_PolicyTells_13 [(24, aI i), (22, .ptr r22 0 0), (4, .ptr r4 0 0), (9, .ptr r9 0 0), (23, aB one)] H Q := by
  intro d
  induction d with
  | zero =>
    rintro k i u2 H hk hl rfl hT hM hM2 hQ
    refine vc_blindstamplaw06_PolicyTells_13 _ _ _ _ _ _ _ fun g => ?_
    have hk' : ¬ (k : Int) < u2.length := by omega
    simp [new_ne, ne_new, *, VC_blindstamplaw06_PolicyTells_13, hT.t, hM.len]
    exact tells17 (gr := gr) hu hq hql hul h4 h5 h6 h9 h10 q2.length 0 _ q2 H (by omega) hl2 rfl hT hM2 hQ
  | succ d ih =>
    rintro k i u2 H hk hl rfl hT hM hM2 hQ
    have hlt : k < u2.length := by omega
    obtain ⟨c, rfl, hr⟩ := hM.osl (k := k) (by simpa using hlt)
    refine vc_blindstamplaw06_PolicyTells_13 _ _ _ _ _ _ _ fun g => ?_
    have e := IntWalk.i64_in ((k : Int) + 1) (by omega)
    have hg : u2[k]? = some u2[k] := List.getElem?_eq_getElem hlt
    have hw : writeAt (encCs u2) k 2 [aB (!u2[k].ok)] = some (encCs (u2.set k { u2[k] with ok := !u2[k].ok })) := by
      simp [writeAt_map, hg, Clear.enc, List.map_set]
    have hM2' : Mine 5 (encQs q2) (H.put ru (some ⟨3, encCs (u2.set k { u2[k] with ok := !u2[k].ok }), true, false⟩)) tq rq := by
      rcases hM2 with hM2 | ⟨c2, h, hr2⟩
      · exact .inl hM2
      · exact .inr ⟨c2, h, by rw [Heap.get_put, if_neg h11]; exact hr2⟩
    simp [new_ne, ne_new, *, VC_blindstamplaw06_PolicyTells_13, hT.t, hT.p, hT.o, hr, Clear.enc]
    refine ih (k + 1) _ (u2.set k { u2[k] with ok := !u2[k].ok }) _ (by simp; omega) (by simp [hl]) (by simp) (hT.put h1 h2 h3 h7 h8 _) (.inr ⟨c, by simp, by simp [List.map_set, Clear.enc]⟩) ?_ hQ
    simpa [List.map_set, Clear.enc] using hM2'
end

theorem Quota.enc_mk (a : UInt8) (b : UInt32) (x y z : Int) : (Quota.mk a b x y z).enc = [a8 a, a32 b, aI x, aI y, aI z] := rfl

theorem tells_law {xu xq yu yq : AV} {us us' : List Clear} {qs qs' : List Quota} {gr gr' : Int} (hu : Sl 3 (encCs us) xu) (hq : Sl 5 (encQs qs) xq) (hu' : Sl 3 (encCs us') yu) (hq' : Sl 5 (encQs qs') yq) (user : Int) (a : UInt8) (b : UInt32) :
    limf env 6 [.agg [xu, xq, aI gr], .agg [yu, yq, aI gr'], aI user, .agg [a8 a, a32 b]] = some (aB true) := by
  refine limf_of (fn := Try.f6) (c := bd_blindstamplaw06_PolicyTells) rfl (by kernel_rfl) (by kernel_rfl) (by kernel_rfl) (by kernel_rfl) ?_; refine vc_blindstamplaw06_PolicyTells _ _ _ _ _ _ fun g => ?_
  have G1 := s_Great gr hu hq
  have G2 := s_Great gr' hu' hq'
  by_cases g1 : (100 : Int) < us.length
  · simp [new_ne, ne_new, *, VC_blindstamplaw06_PolicyTells, hu.r, hq.r, hu'.r, hq'.r]
  by_cases g2 : (100 : Int) < qs.length
  · simp [new_ne, ne_new, *, VC_blindstamplaw06_PolicyTells, hu.r, hq.r, hu'.r, hq'.r]
  by_cases g3 : (100 : Int) < us'.length
  · simp [new_ne, ne_new, *, VC_blindstamplaw06_PolicyTells, hu.r, hq.r, hu'.r, hq'.r]
  by_cases g4 : (100 : Int) < qs'.length
  · simp [new_ne, ne_new, *, VC_blindstamplaw06_PolicyTells, hu.r, hq.r, hu'.r, hq'.r]
  have l1 : us.length < 4611686018427387904 := by omega
  have l2 : qs.length < 4611686018427387904 := by omega
  have RT := s_RTwin (gr := gr) hu hq (by omega) (by omega)
  have R1 := s_RBlocks (gr := gr) hu hq l2 l1
  have R2 := s_RMay3 (gr := gr) hu hq l2 l1 user a b
  have R3 := s_RQuota (gr := gr) hu hq l2 l1 a b
  have R4 := s_RCheck (gr := gr) hu hq l2 l1
  have R5 := s_RSame (gr := gr) (gr' := gr') hu hq hu' hq' l2 l1
  by_cases e1 : us = []
  · by_cases e2 : qs = []
    · subst e1
      subst e2
      have su : Sl 3 (encCs ([] : List Clear)) aNil := by simp
      have sq : Sl 5 (encQs ([] : List Quota)) aNil := by simp
      have T := s_Twin (gr := gr) su sq (by first | omega | (simp; done) | (simp; omega)) (by first | omega | (simp; done) | (simp; omega))
      have P1 := s_Blocks (gr := gr) su sq (by first | omega | (simp; done) | (simp; omega)) (by first | omega | (simp; done) | (simp; omega))
      have P2 := s_May (gr := gr) su sq (by first | omega | (simp; done) | (simp; omega)) (by first | omega | (simp; done) | (simp; omega)) user a b
      have P3 := s_Quota (gr := gr) su sq (by first | omega | (simp; done) | (simp; omega)) (by first | omega | (simp; done) | (simp; omega)) a b
      have P4 := s_Check (gr := gr) su sq (by first | omega | (simp; done) | (simp; omega)) (by first | omega | (simp; done) | (simp; omega))
      have P5 := s_Same (gr := gr) (gr' := gr') su sq hu' hq' (by first | omega | (simp; done) | (simp; omega)) (by first | omega | (simp; done) | (simp; omega))
      have P6 := s_Same (gr := gr) (gr' := gr) su sq hu hq (by first | omega | (simp; done) | (simp; omega)) (by first | omega | (simp; done) | (simp; omega))
      have P7 := s_RSame (gr := gr) (gr' := gr) su sq hu hq (by first | omega | (simp; done) | (simp; omega)) (by first | omega | (simp; done) | (simp; omega))
      generalize quotaE ([] : List Clear) ([] : List Quota) gr a b = qv at *
      obtain ⟨v1, v2, v3, v4, v5⟩ := qv
      generalize mayB ([] : List Clear) ([] : List Quota) gr = mm at *
      generalize askedE ([] : List Clear) ([] : List Quota) gr a = ae at *
      generalize opensB ([] : List Clear) user a b = ob at *
      simp [new_ne, ne_new, *, VC_blindstamplaw06_PolicyTells, hu.r, hq.r, hu'.r, hq'.r, callG_data, callG_own, callG_frz, Quota.enc_mk, eqA, eqFs]
      exact tells13 (gr := gr) (ou := aNil) (oq := aNil) (tu := aNil) (tq := aNil) (vu := aNil) (vq := aNil) (ru := ⟨9, 71, 0, 0⟩) (rq := ⟨0, 71, 0, 0⟩) (r22 := ⟨0, 22, 0, 0⟩) (r4 := ⟨0, 4, 0, 0⟩) (r9 := ⟨0, 9, 0, 0⟩) (q2 := ([] : List Quota)) hu hq (by first | omega | (simp; done) | (simp; omega)) (by first | omega | (simp; done) | (simp; omega)) (by simp) (by simp) (by simp) (by simp) (by simp) (by simp) (by simp) (by simp) (by simp) (by simp) (by simp) rfl _ 0 _ ([] : List Clear) _ (by simp; rfl) rfl rfl ⟨by simp, by simp, by simp, (.inl ⟨rfl, su⟩), (.inl ⟨rfl, sq⟩)⟩ (.inl ⟨rfl, rfl⟩) (.inl ⟨rfl, rfl⟩) (fun y H' e => by simp [e])
    · subst e1
      have n2 : encQs qs ≠ [] := by simpa using e2
      have su : Sl 3 (encCs ([] : List Clear)) aNil := by simp
      have sq := Sl.mk 5 (encQs qs)
      have T := s_Twin (gr := gr) su sq (by first | omega | (simp; done) | (simp; omega)) (by first | omega | (simp; done) | (simp; omega))
      have P1 := s_Blocks (gr := gr) su sq (by first | omega | (simp; done) | (simp; omega)) (by first | omega | (simp; done) | (simp; omega))
      have P2 := s_May (gr := gr) su sq (by first | omega | (simp; done) | (simp; omega)) (by first | omega | (simp; done) | (simp; omega)) user a b
      have P3 := s_Quota (gr := gr) su sq (by first | omega | (simp; done) | (simp; omega)) (by first | omega | (simp; done) | (simp; omega)) a b
      have P4 := s_Check (gr := gr) su sq (by first | omega | (simp; done) | (simp; omega)) (by first | omega | (simp; done) | (simp; omega))
      have P5 := s_Same (gr := gr) (gr' := gr') su sq hu' hq' (by first | omega | (simp; done) | (simp; omega)) (by first | omega | (simp; done) | (simp; omega))
      have P6 := s_Same (gr := gr) (gr' := gr) su sq hu hq (by first | omega | (simp; done) | (simp; omega)) (by first | omega | (simp; done) | (simp; omega))
      have P7 := s_RSame (gr := gr) (gr' := gr) su sq hu hq (by first | omega | (simp; done) | (simp; omega)) (by first | omega | (simp; done) | (simp; omega))
      rw [outA_ne 5 n2] at RT
      rw [cloneA_ne 5 none n2] at T
      generalize quotaE ([] : List Clear) qs gr a b = qv at *
      obtain ⟨v1, v2, v3, v4, v5⟩ := qv
      generalize mayB ([] : List Clear) qs gr = mm at *
      generalize askedE ([] : List Clear) qs gr a = ae at *
      generalize opensB ([] : List Clear) user a b = ob at *
      simp [new_ne, ne_new, *, VC_blindstamplaw06_PolicyTells, hu.r, hq.r, hu'.r, hq'.r, callG_data, callG_own, callG_frz, Quota.enc_mk, eqA, eqFs]
      exact tells13 (gr := gr) (ou := aNil) (oq := .osl ⟨0, 33, 0, 0⟩ 0 qs.length none) (tu := aNil) (tq := .osl ⟨0, 71, 0, 0⟩ 0 qs.length none) (vu := aNil) (vq := .isl 5 (encQs qs) none) (ru := ⟨9, 71, 0, 0⟩) (rq := ⟨0, 71, 0, 0⟩) (r22 := ⟨0, 22, 0, 0⟩) (r4 := ⟨0, 4, 0, 0⟩) (r9 := ⟨0, 9, 0, 0⟩) (q2 := qs) hu hq (by first | omega | (simp; done) | (simp; omega)) (by first | omega | (simp; done) | (simp; omega)) (by simp) (by simp) (by simp) (by simp) (by simp) (by simp) (by simp) (by simp) (by simp) (by simp) (by simp) rfl _ 0 _ ([] : List Clear) _ (by simp; rfl) rfl rfl ⟨by simp, by simp, by simp, (.inl ⟨rfl, su⟩), (.inr ⟨⟨0, 33, 0, 0⟩, none, true, by simp, by simp, rfl, by simp⟩)⟩ (.inl ⟨rfl, rfl⟩) (.inr ⟨none, by simp, by simp⟩) (fun y H' e => by simp [e])
  · by_cases e2 : qs = []
    · have n1 : encCs us ≠ [] := by simpa using e1
      subst e2
      have su := Sl.mk 3 (encCs us)
      have sq : Sl 5 (encQs ([] : List Quota)) aNil := by simp
      have T := s_Twin (gr := gr) su sq (by first | omega | (simp; done) | (simp; omega)) (by first | omega | (simp; done) | (simp; omega))
      have P1 := s_Blocks (gr := gr) su sq (by first | omega | (simp; done) | (simp; omega)) (by first | omega | (simp; done) | (simp; omega))
      have P2 := s_May (gr := gr) su sq (by first | omega | (simp; done) | (simp; omega)) (by first | omega | (simp; done) | (simp; omega)) user a b
      have P3 := s_Quota (gr := gr) su sq (by first | omega | (simp; done) | (simp; omega)) (by first | omega | (simp; done) | (simp; omega)) a b
      have P4 := s_Check (gr := gr) su sq (by first | omega | (simp; done) | (simp; omega)) (by first | omega | (simp; done) | (simp; omega))
      have P5 := s_Same (gr := gr) (gr' := gr') su sq hu' hq' (by first | omega | (simp; done) | (simp; omega)) (by first | omega | (simp; done) | (simp; omega))
      have P6 := s_Same (gr := gr) (gr' := gr) su sq hu hq (by first | omega | (simp; done) | (simp; omega)) (by first | omega | (simp; done) | (simp; omega))
      have P7 := s_RSame (gr := gr) (gr' := gr) su sq hu hq (by first | omega | (simp; done) | (simp; omega)) (by first | omega | (simp; done) | (simp; omega))
      rw [outA_ne 3 n1] at RT
      rw [cloneA_ne 3 none n1] at T
      generalize quotaE us ([] : List Quota) gr a b = qv at *
      obtain ⟨v1, v2, v3, v4, v5⟩ := qv
      generalize mayB us ([] : List Quota) gr = mm at *
      generalize askedE us ([] : List Quota) gr a = ae at *
      generalize opensB us user a b = ob at *
      simp [new_ne, ne_new, *, VC_blindstamplaw06_PolicyTells, hu.r, hq.r, hu'.r, hq'.r, callG_data, callG_own, callG_frz, Quota.enc_mk, eqA, eqFs]
      exact tells13 (gr := gr) (ou := .osl ⟨0, 33, 0, 0⟩ 0 us.length none) (oq := aNil) (tu := .osl ⟨0, 71, 0, 0⟩ 0 us.length none) (tq := aNil) (vu := .isl 3 (encCs us) none) (vq := aNil) (ru := ⟨0, 71, 0, 0⟩) (rq := ⟨0, 71, 0, 1⟩) (r22 := ⟨0, 22, 0, 0⟩) (r4 := ⟨0, 4, 0, 0⟩) (r9 := ⟨0, 9, 0, 0⟩) (q2 := ([] : List Quota)) hu hq (by first | omega | (simp; done) | (simp; omega)) (by first | omega | (simp; done) | (simp; omega)) (by simp) (by simp) (by simp) (by simp) (by simp) (by simp) (by simp) (by simp) (by simp) (by simp) (by simp) rfl _ 0 _ us _ (by simp; rfl) rfl rfl ⟨by simp, by simp, by simp, (.inr ⟨⟨0, 33, 0, 0⟩, none, true, by simp, by simp, rfl, by simp⟩), (.inl ⟨rfl, sq⟩)⟩ (.inr ⟨none, by simp, by simp⟩) (.inl ⟨rfl, rfl⟩) (fun y H' e => by simp [e])
    · have n1 : encCs us ≠ [] := by simpa using e1
      have n2 : encQs qs ≠ [] := by simpa using e2
      have su := Sl.mk 3 (encCs us)
      have sq := Sl.mk 5 (encQs qs)
      have T := s_Twin (gr := gr) su sq (by first | omega | (simp; done) | (simp; omega)) (by first | omega | (simp; done) | (simp; omega))
      have P1 := s_Blocks (gr := gr) su sq (by first | omega | (simp; done) | (simp; omega)) (by first | omega | (simp; done) | (simp; omega))
      have P2 := s_May (gr := gr) su sq (by first | omega | (simp; done) | (simp; omega)) (by first | omega | (simp; done) | (simp; omega)) user a b
      have P3 := s_Quota (gr := gr) su sq (by first | omega | (simp; done) | (simp; omega)) (by first | omega | (simp; done) | (simp; omega)) a b
      have P4 := s_Check (gr := gr) su sq (by first | omega | (simp; done) | (simp; omega)) (by first | omega | (simp; done) | (simp; omega))
      have P5 := s_Same (gr := gr) (gr' := gr') su sq hu' hq' (by first | omega | (simp; done) | (simp; omega)) (by first | omega | (simp; done) | (simp; omega))
      have P6 := s_Same (gr := gr) (gr' := gr) su sq hu hq (by first | omega | (simp; done) | (simp; omega)) (by first | omega | (simp; done) | (simp; omega))
      have P7 := s_RSame (gr := gr) (gr' := gr) su sq hu hq (by first | omega | (simp; done) | (simp; omega)) (by first | omega | (simp; done) | (simp; omega))
      rw [outA_ne 3 n1] at RT
      rw [cloneA_ne 3 none n1] at T
      rw [outA_ne 5 n2] at RT
      rw [cloneA_ne 5 none n2] at T
      generalize quotaE us qs gr a b = qv at *
      obtain ⟨v1, v2, v3, v4, v5⟩ := qv
      generalize mayB us qs gr = mm at *
      generalize askedE us qs gr a = ae at *
      generalize opensB us user a b = ob at *
      simp [new_ne, ne_new, *, VC_blindstamplaw06_PolicyTells, hu.r, hq.r, hu'.r, hq'.r, callG_data, callG_own, callG_frz, Quota.enc_mk, eqA, eqFs]
      exact tells13 (gr := gr) (ou := .osl ⟨0, 33, 0, 0⟩ 0 us.length none) (oq := .osl ⟨0, 33, 0, 1⟩ 0 qs.length none) (tu := .osl ⟨0, 71, 0, 0⟩ 0 us.length none) (tq := .osl ⟨0, 71, 0, 1⟩ 0 qs.length none) (vu := .isl 3 (encCs us) none) (vq := .isl 5 (encQs qs) none) (ru := ⟨0, 71, 0, 0⟩) (rq := ⟨0, 71, 0, 1⟩) (r22 := ⟨0, 22, 0, 0⟩) (r4 := ⟨0, 4, 0, 0⟩) (r9 := ⟨0, 9, 0, 0⟩) (q2 := qs) hu hq (by first | omega | (simp; done) | (simp; omega)) (by first | omega | (simp; done) | (simp; omega)) (by simp) (by simp) (by simp) (by simp) (by simp) (by simp) (by simp) (by simp) (by simp) (by simp) (by simp) rfl _ 0 _ us _ (by simp; rfl) rfl rfl ⟨by simp, by simp, by simp, (.inr ⟨⟨0, 33, 0, 0⟩, none, true, by simp, by simp, rfl, by simp⟩), (.inr ⟨⟨0, 33, 0, 1⟩, none, true, by simp, by simp, rfl, by simp⟩)⟩ (.inr ⟨none, by simp, by simp⟩) (.inr ⟨none, by simp, by simp⟩) (fun y H' e => by simp [e])

end Go.Proofs.Ytgooemdlilfkmaa
