/-
  The laws of grant's bytes: their runs. No statement of a seat is proved here.
-/
import Derived.Test.YtgooemdlilfkmaaGrFns
import Derived.Test.YtgooemdlilfkmaaPgVl7
set_option linter.unusedVariables false
set_option linter.unusedSimpArgs false
set_option linter.unusedSectionVars false
set_option linter.unnecessarySimpa false
set_option maxRecDepth 100000
namespace Go.Proofs.Ytgooemdlilfkmaa
open Go.Ab
attribute [local simp] depth_eq callRes_V callG_data callG_frz callG_own keep appRes_G appFine_n appFine_s appG_n appG_s roomB appRes_I islFine_some islG_ne List.take_of_length_le sB_lit

theorem writes_law (user : Int) (v : UInt8) (c : UInt32) (ok : Bool) {x : AV} {b : List UInt8} (hx : Sl 1 (by8 b) x) : limf env 7 [.agg [aI user, a8 v, a32 c, aB ok], x] = some (aB true) := by
  refine limf_of (fn := Try.f7) (c := bd_blindstamplaw07_GrantWrites) rfl (by kernel_rfl) (by kernel_rfl) (by kernel_rfl) (by kernel_rfl) ?_; refine vc_blindstamplaw07_GrantWrites _ _ _ _ fun g => ?_
  by_cases g1 : (1000 : Int) < b.length
  · simp [new_ne, ne_new, new_ne1, ne_new1, gen_put', *, VC_blindstamplaw07_GrantWrites, hx.r]
  have hm : ∃ (bs : List UInt8) (i : Int), (if mayG user v c ok then AV.tup [.isl 1 (by8 (gBytes user v c ok)) none, aI 0] else .tup [aNil, aI 8]) = .tup [outI 1 (by8 bs), aI i] := by
    cases mayG user v c ok
    · exact ⟨[], 8, by simp [outI]⟩
    · exact ⟨gBytes user v c ok, 0, by simp [outI, gBytes, by8]⟩
  obtain ⟨bs, i, hm⟩ := hm
  have p1 := s_GPut user v c ok
  have p2 := s_RGPut user v c ok
  rw [hm] at p1 p2
  have so := outI_sl 1 (by8 bs)
  generalize outI 1 (by8 bs) = xo at *
  by_cases hb : b = []
  · subst hb
    have q1 := s_GGetN (x := .isl 1 [] none) (l := []) (Sl.mk _ _) (by simp) (by simp)
    have q2 := s_RGGetN hx (by simp) (by simp)
    simp [new_ne, ne_new, new_ne1, ne_new1, gen_put', *, VC_blindstamplaw07_GrantWrites, hx.r, hx.elsOf, so.r, so.elsOf, so.bsl, hx.bsl, eqA, eqFs]
  by_cases h7 : b.length = 7
  · obtain ⟨b0, b1, b2, b3, b4, b5, b6, rfl⟩ : ∃ b0 b1 b2 b3 b4 b5 b6, b = [b0, b1, b2, b3, b4, b5, b6] := by
      match b, h7 with
      | [b0, b1, b2, b3, b4, b5, b6], _ => exact ⟨b0, b1, b2, b3, b4, b5, b6, rfl⟩
    have q1 := s_GGet (c := none) (b0 := b0) (b1 := b1) (b2 := b2) (b3 := b3) (b4 := b4) (b5 := b5) (b6 := b6) (by simp)
    obtain ⟨c', rfl, hc⟩ := hx.islN (by simp)
    have q2 := s_RGGet (c := c') (b0 := b0) (b1 := b1) (b2 := b2) (b3 := b3) (b4 := b4) (b5 := b5) (b6 := b6) hc
    have hg : ∃ (i : Int) (a : UInt8) (d : UInt32) (o : Bool) (j : Int), gotG b0 b1 b2 b3 b4 b5 b6 = .tup [.agg [aI i, a8 a, a32 d, aB o], aI j] := by
      unfold gotG
      split
      · exact ⟨_, _, _, _, _, rfl⟩
      · exact ⟨_, _, _, _, _, rfl⟩
    obtain ⟨i', a', d', o', j', hg⟩ := hg
    rw [hg] at q1 q2
    simp [new_ne, ne_new, new_ne1, ne_new1, gen_put', *, VC_blindstamplaw07_GrantWrites, hx.r, hx.elsOf, so.r, so.elsOf, so.bsl, hx.bsl, eqA, eqFs, by8]
  · have q1 := s_GGetN (x := .isl 1 (by8 b) none) (l := b) (Sl.mk _ _) h7 (by omega)
    have q2 := s_RGGetN hx h7 (by omega)
    have r1 : b.length ≤ 140737488355328 := by omega
    have r2 : b.length + 1 ≤ 140737488355328 := by omega
    have r3 : (b.length : Int) ≤ b.length + 1 := by omega
    have r4 : b.length + 1 ≤ 9223372036854775807 := by omega
    simp [new_ne, ne_new, new_ne1, ne_new1, gen_put', *, VC_blindstamplaw07_GrantWrites, hx.r, hx.elsOf, so.r, so.elsOf, so.bsl, hx.bsl, eqA, eqFs]
end Go.Proofs.Ytgooemdlilfkmaa
