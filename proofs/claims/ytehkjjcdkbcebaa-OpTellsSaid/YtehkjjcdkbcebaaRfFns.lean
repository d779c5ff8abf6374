/-
  The document's answers on bytes of ids and operations. No statement of a seat is proved here.
-/
import Derived.Test.YtehkjjcdkbcebaaRfMay
set_option linter.unusedVariables false
set_option linter.unusedSimpArgs false
set_option linter.unnecessarySimpa false
set_option maxRecDepth 100000
namespace Go.Proofs.Ytehkjjcdkbcebaa
open Go.Ab
attribute [local simp] depth_eq callRes_V callG_data callG_frz callG_own keep thr appRes_G appFine_n appFine_s appG_n appG_s roomB appRes_I islFine_some islG_ne List.take_of_length_le sB_lit

theorem rem256 (t : TypeId) (xo yo : Operand) {n : Int} (h : 0 ≤ n) : qBin env.P .rem t xo yo (some (.v (.int .i64 n))) (some (.v (.int .i64 256))) = some (.v (.int .i64 (n % 256)), []) := by
  rw [qBin_rem env.P t xo yo .i64 _ _ (by decide), Int.tmod_eq_emod_of_nonneg h]
theorem quoLit (t : TypeId) (xo yo : Operand) {n : Int} (k : Int) (hk : 1 < k) (h : 0 ≤ n) (h2 : n < 9223372036854775808) : qBin env.P .quo t xo yo (some (.v (.int .i64 n))) (some (.v (.int .i64 k))) = some (.v (.int .i64 (n / k)), []) := by
  rw [qBin_quo env.P t xo yo .i64 _ _ (by omega), Int.tdiv_eq_ediv_of_nonneg h, IntWalk.i64_in]
  have h3 : 0 ≤ n / k := Int.ediv_nonneg h (by omega)
  have h4 : n / k ≤ n := Int.ediv_le_self _ h
  constructor <;> omega
@[simp] theorem s_wide4 (n : Int) (h0 : 0 ≤ n) (h1 : n < 9223372036854775808) : limf env 134 [aI n, aI 4] = some (.isl 1 (by8 (be 4 n)) none) := by
  refine limf_of (fn := Try.f134) (c := bd_q5_wide) rfl (by kernel_rfl) (by kernel_rfl) (by kernel_rfl) (by kernel_rfl) ?_; refine vc_q5_wide _ _ _ _ fun g => ?_
  have r0 := fun t xo yo => rem256 t xo yo (n := n) (by omega)
  have q0 := fun t xo yo => quoLit t xo yo (n := n) 256 (by decide) (by omega) (by omega)
  have e2 : n / 256 / 256 = n / 65536 := by omega
  have r1 := fun t xo yo => rem256 t xo yo (n := (n / 256)) (by omega)
  have q1 := fun t xo yo => quoLit t xo yo (n := (n / 256)) 256 (by decide) (by omega) (by omega)
  rw [e2] at q1
  have e3 : n / 65536 / 256 = n / 16777216 := by omega
  have r2 := fun t xo yo => rem256 t xo yo (n := (n / 65536)) (by omega)
  have q2 := fun t xo yo => quoLit t xo yo (n := (n / 65536)) 256 (by decide) (by omega) (by omega)
  rw [e3] at q2
  have e4 : n / 16777216 / 256 = n / 4294967296 := by omega
  have r3 := fun t xo yo => rem256 t xo yo (n := (n / 16777216)) (by omega)
  have q3 := fun t xo yo => quoLit t xo yo (n := (n / 16777216)) 256 (by decide) (by omega) (by omega)
  rw [e4] at q3
  simp [new_ne, ne_new, new_ne1, ne_new1, gen_put', *, VC_q5_wide]
  refine vc_q5_wide_3 _ _ _ _ _ _ fun g => ?_
  simp [new_ne, ne_new, new_ne1, ne_new1, gen_put', *, VC_q5_wide_3, u8_mod]
  refine vc_q5_wide_3 _ _ _ _ _ _ fun g => ?_
  simp [new_ne, ne_new, new_ne1, ne_new1, gen_put', *, VC_q5_wide_3, u8_mod]
  refine vc_q5_wide_3 _ _ _ _ _ _ fun g => ?_
  simp [new_ne, ne_new, new_ne1, ne_new1, gen_put', *, VC_q5_wide_3, u8_mod]
  refine vc_q5_wide_3 _ _ _ _ _ _ fun g => ?_
  simp [new_ne, ne_new, new_ne1, ne_new1, gen_put', *, VC_q5_wide_3, u8_mod]
  refine vc_q5_wide_3 _ _ _ _ _ _ fun g => ?_
  simp [new_ne, ne_new, new_ne1, ne_new1, gen_put', *, VC_q5_wide_3, u8_mod, be_4, by8]
@[simp] theorem s_wide7 (n : Int) (h0 : 0 ≤ n) (h1 : n < 9223372036854775808) : limf env 134 [aI n, aI 7] = some (.isl 1 (by8 (be 7 n)) none) := by
  refine limf_of (fn := Try.f134) (c := bd_q5_wide) rfl (by kernel_rfl) (by kernel_rfl) (by kernel_rfl) (by kernel_rfl) ?_; refine vc_q5_wide _ _ _ _ fun g => ?_
  have r0 := fun t xo yo => rem256 t xo yo (n := n) (by omega)
  have q0 := fun t xo yo => quoLit t xo yo (n := n) 256 (by decide) (by omega) (by omega)
  have e2 : n / 256 / 256 = n / 65536 := by omega
  have r1 := fun t xo yo => rem256 t xo yo (n := (n / 256)) (by omega)
  have q1 := fun t xo yo => quoLit t xo yo (n := (n / 256)) 256 (by decide) (by omega) (by omega)
  rw [e2] at q1
  have e3 : n / 65536 / 256 = n / 16777216 := by omega
  have r2 := fun t xo yo => rem256 t xo yo (n := (n / 65536)) (by omega)
  have q2 := fun t xo yo => quoLit t xo yo (n := (n / 65536)) 256 (by decide) (by omega) (by omega)
  rw [e3] at q2
  have e4 : n / 16777216 / 256 = n / 4294967296 := by omega
  have r3 := fun t xo yo => rem256 t xo yo (n := (n / 16777216)) (by omega)
  have q3 := fun t xo yo => quoLit t xo yo (n := (n / 16777216)) 256 (by decide) (by omega) (by omega)
  rw [e4] at q3
  have e5 : n / 4294967296 / 256 = n / 1099511627776 := by omega
  have r4 := fun t xo yo => rem256 t xo yo (n := (n / 4294967296)) (by omega)
  have q4 := fun t xo yo => quoLit t xo yo (n := (n / 4294967296)) 256 (by decide) (by omega) (by omega)
  rw [e5] at q4
  have e6 : n / 1099511627776 / 256 = n / 281474976710656 := by omega
  have r5 := fun t xo yo => rem256 t xo yo (n := (n / 1099511627776)) (by omega)
  have q5 := fun t xo yo => quoLit t xo yo (n := (n / 1099511627776)) 256 (by decide) (by omega) (by omega)
  rw [e6] at q5
  have e7 : n / 281474976710656 / 256 = n / 72057594037927936 := by omega
  have r6 := fun t xo yo => rem256 t xo yo (n := (n / 281474976710656)) (by omega)
  have q6 := fun t xo yo => quoLit t xo yo (n := (n / 281474976710656)) 256 (by decide) (by omega) (by omega)
  rw [e7] at q6
  simp [new_ne, ne_new, new_ne1, ne_new1, gen_put', *, VC_q5_wide]
  refine vc_q5_wide_3 _ _ _ _ _ _ fun g => ?_
  simp [new_ne, ne_new, new_ne1, ne_new1, gen_put', *, VC_q5_wide_3, u8_mod]
  refine vc_q5_wide_3 _ _ _ _ _ _ fun g => ?_
  simp [new_ne, ne_new, new_ne1, ne_new1, gen_put', *, VC_q5_wide_3, u8_mod]
  refine vc_q5_wide_3 _ _ _ _ _ _ fun g => ?_
  simp [new_ne, ne_new, new_ne1, ne_new1, gen_put', *, VC_q5_wide_3, u8_mod]
  refine vc_q5_wide_3 _ _ _ _ _ _ fun g => ?_
  simp [new_ne, ne_new, new_ne1, ne_new1, gen_put', *, VC_q5_wide_3, u8_mod]
  refine vc_q5_wide_3 _ _ _ _ _ _ fun g => ?_
  simp [new_ne, ne_new, new_ne1, ne_new1, gen_put', *, VC_q5_wide_3, u8_mod]
  refine vc_q5_wide_3 _ _ _ _ _ _ fun g => ?_
  simp [new_ne, ne_new, new_ne1, ne_new1, gen_put', *, VC_q5_wide_3, u8_mod]
  refine vc_q5_wide_3 _ _ _ _ _ _ fun g => ?_
  simp [new_ne, ne_new, new_ne1, ne_new1, gen_put', *, VC_q5_wide_3, u8_mod]
  refine vc_q5_wide_3 _ _ _ _ _ _ fun g => ?_
  simp [new_ne, ne_new, new_ne1, ne_new1, gen_put', *, VC_q5_wide_3, u8_mod, be_7, by8]
@[simp] theorem s_R5Named (a : UInt8) (b : UInt32) (n : UInt8) : limf env 107 [.agg [a8 a, a32 b, a8 n]] = some (.fsl 1 (by8 (hBytes ⟨a, b, n⟩)) none) := by
  refine limf_of (fn := Try.f107) (c := bd_q5_Named) rfl (by kernel_rfl) (by kernel_rfl) (by kernel_rfl) (by kernel_rfl) ?_; refine vc_q5_Named _ _ _ fun g => ?_
  have hb := b.toNat_lt
  have hw := s_wide4 (b.toNat : Int) (by omega) (by omega)
  simp [new_ne, ne_new, new_ne1, ne_new1, gen_put', *, VC_q5_Named, hBytes, by8]
theorem s_R5Bytes (a : UInt8) (b : UInt32) (n : UInt8) (k : Int) (h0 : 0 ≤ k) (h1 : k < 9223372036854775808) : limf env 108 [.agg [a8 a, a32 b, a8 n, aI k]] = some (.isl 1 (by8 (iBytes ⟨⟨a, b, n⟩, k⟩)) none) := by
  refine limf_of (fn := Try.f108) (c := bd_q5_Bytes) rfl (by kernel_rfl) (by kernel_rfl) (by kernel_rfl) (by kernel_rfl) ?_; refine vc_q5_Bytes _ _ _ fun g => ?_
  have hw := s_wide7 k h0 h1
  simp [new_ne, ne_new, new_ne1, ne_new1, gen_put', *, VC_q5_Bytes, iBytes, by8]
end Go.Proofs.Ytehkjjcdkbcebaa
