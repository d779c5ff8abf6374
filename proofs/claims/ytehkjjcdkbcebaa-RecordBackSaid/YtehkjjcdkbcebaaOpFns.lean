/-
  Operations: whether they may be. No statement of a seat is proved here.
-/
import Derived.Test.YtehkjjcdkbcebaaRunesFns
import Derived.Test.YtehkjjcdkbcebaaRbVc2
import Derived.Test.YtehkjjcdkbcebaaOpMath
import Derived.Test.YtehkjjcdkbcebaaAbsCond
set_option linter.unusedVariables false
set_option linter.unusedSimpArgs false
set_option linter.unusedSectionVars false
set_option linter.unnecessarySimpa false
set_option maxRecDepth 100000
namespace Go.Proofs.Ytehkjjcdkbcebaa
open Go.Ab
attribute [local simp] depth_eq callRes_V callG_frz callG_own keep thr appRes_G appFine_n appFine_s appG_n appG_s roomB appRes_I islFine_some islG_ne List.take_of_length_le
def partsV : AV := .agg [.v .nilFunc, .v .nilFunc, .fn (.func 92) [] [.iptr 1 [.fn (.func 90) [] []] 0 0], .fn (.func 93) [] [],
  .fn (.func 94) [] [.iptr 1 [.fn (.func 90) [] []] 0 0, .iptr 1 [.fn (.func 89) [] []] 0 0], .fn (.func 95) [] [], .fn (.func 96) [] [.iptr 1 [.fn (.func 89) [] []] 0 0], .fn (.func 98) [] []]
theorem s_parts : limf env 61 [] = some partsV := limf_run_of (n := 2000) (by kernel_rfl)
@[simp] theorem s_Least : limf env 91 [] = some (.agg [a8 0, a32 0]) := by
  refine limf_of (fn := Try.f91) (c := bd_label_Least) rfl (by kernel_rfl) (by kernel_rfl) (by kernel_rfl) (by kernel_rfl) ?_; refine vc_label_Least _ _ fun g => ?_
  simp [new_ne, ne_new, new_ne1, ne_new1, gen_put', *, VC_label_Least]
section
variable (a_1 : UInt8) (a_2 : UInt8) (a_3 : UInt32) (a_4 : UInt8) (a_5 : Int) (a_6 : UInt8) (a_7 : UInt32) (a_8 : UInt8) (a_9 : Int) (a_10 : Int) (a_11 : UInt8) (a_12 : UInt32) (a_13 : UInt8) (a_14 : Int) (a_15 : UInt8) (a_16 : UInt32) {x : AV} {l : List Int} (hx : Sl 1 (rows l) x) (hl : l.length < 2000000)
include hx hl
theorem s_bare : limf env 89 [.agg [a8 a_1, a8 a_2, a32 a_3, a8 a_4, aI a_5, a8 a_6, a32 a_7, a8 a_8, aI a_9, aI a_10, a8 a_11, a32 a_12, a8 a_13, aI a_14, a8 a_15, a32 a_16, x]] = some (aB (bareB (⟨a_1, ⟨a_2, a_3, a_4⟩, a_5, ⟨⟨⟨a_6, a_7, a_8⟩, a_9⟩, a_10⟩, ⟨⟨a_11, a_12, a_13⟩, a_14⟩, ⟨a_15, a_16⟩, l⟩ : Opn))) := by
  refine limf_of (fn := Try.f89) (c := bd_op_partsF1) rfl (by kernel_rfl) (by kernel_rfl) (by kernel_rfl) (by kernel_rfl) ?_; refine vc_op_partsF1 _ _ _ fun g => ?_
  unfold bareB
  cases hz : zeroA (⟨⟨a_11, a_12, a_13⟩, a_14⟩ : Idd) with
  | true =>
    unfold zeroA at hz
    simp [new_ne, ne_new, new_ne1, ne_new1, gen_put', *, VC_op_partsF1, hx.r, eqA, eqFs]
  | false =>
    unfold zeroA at hz
    simp [new_ne, ne_new, new_ne1, ne_new1, gen_put', *, VC_op_partsF1, hx.r, eqA, eqFs]
theorem s_least : limf env 90 [.agg [a8 a_1, a8 a_2, a32 a_3, a8 a_4, aI a_5, a8 a_6, a32 a_7, a8 a_8, aI a_9, aI a_10, a8 a_11, a32 a_12, a8 a_13, aI a_14, a8 a_15, a32 a_16, x]] = some (aB (zeroL (⟨a_15, a_16⟩ : Lab))) := by
  refine limf_of (fn := Try.f90) (c := bd_op_partsF2) rfl (by kernel_rfl) (by kernel_rfl) (by kernel_rfl) (by kernel_rfl) ?_; refine vc_op_partsF2 _ _ _ fun g => ?_
  simp [new_ne, ne_new, new_ne1, ne_new1, gen_put', *, VC_op_partsF2, hx.r, eqA, eqFs, zeroL]
theorem s_delete : limf env 94 [.agg [a8 a_1, a8 a_2, a32 a_3, a8 a_4, aI a_5, a8 a_6, a32 a_7, a8 a_8, aI a_9, aI a_10, a8 a_11, a32 a_12, a8 a_13, aI a_14, a8 a_15, a32 a_16, x], .iptr 1 [.fn (.func 90) [] []] 0 0, .iptr 1 [.fn (.func 89) [] []] 0 0] = some (aB (delB (⟨a_1, ⟨a_2, a_3, a_4⟩, a_5, ⟨⟨⟨a_6, a_7, a_8⟩, a_9⟩, a_10⟩, ⟨⟨a_11, a_12, a_13⟩, a_14⟩, ⟨a_15, a_16⟩, l⟩ : Opn))) := by
  refine limf_of (fn := Try.f94) (c := bd_op_partsF5) rfl (by kernel_rfl) (by kernel_rfl) (by kernel_rfl) (by kernel_rfl) ?_; refine vc_op_partsF5 _ _ _ _ _ fun g => ?_
  have h1 := s_bare a_1 a_2 a_3 a_4 a_5 a_6 a_7 a_8 a_9 a_10 a_11 a_12 a_13 a_14 a_15 a_16 hx hl
  have h2 := s_least a_1 a_2 a_3 a_4 a_5 a_6 a_7 a_8 a_9 a_10 a_11 a_12 a_13 a_14 a_15 a_16 hx hl
  unfold delB
  cases hz : zeroL (⟨a_15, a_16⟩ : Lab) <;> simp [new_ne, ne_new, new_ne1, ne_new1, gen_put', *, VC_op_partsF5, hx.r]
theorem s_raise : limf env 96 [.agg [a8 a_1, a8 a_2, a32 a_3, a8 a_4, aI a_5, a8 a_6, a32 a_7, a8 a_8, aI a_9, aI a_10, a8 a_11, a32 a_12, a8 a_13, aI a_14, a8 a_15, a32 a_16, x], .iptr 1 [.fn (.func 89) [] []] 0 0] = some (aB (raiB (⟨a_1, ⟨a_2, a_3, a_4⟩, a_5, ⟨⟨⟨a_6, a_7, a_8⟩, a_9⟩, a_10⟩, ⟨⟨a_11, a_12, a_13⟩, a_14⟩, ⟨a_15, a_16⟩, l⟩ : Opn))) := by
  refine limf_of (fn := Try.f96) (c := bd_op_partsF7) rfl (by kernel_rfl) (by kernel_rfl) (by kernel_rfl) (by kernel_rfl) ?_; refine vc_op_partsF7 _ _ _ _ fun g => ?_
  have h1 := s_bare a_1 a_2 a_3 a_4 a_5 a_6 a_7 a_8 a_9 a_10 a_11 a_12 a_13 a_14 a_15 a_16 hx hl
  unfold raiB
  cases hz : bareB (⟨a_1, ⟨a_2, a_3, a_4⟩, a_5, ⟨⟨⟨a_6, a_7, a_8⟩, a_9⟩, a_10⟩, ⟨⟨a_11, a_12, a_13⟩, a_14⟩, ⟨a_15, a_16⟩, l⟩ : Opn) <;> simp [new_ne, ne_new, new_ne1, ne_new1, gen_put', *, VC_op_partsF7, hx.r]
theorem s_insert : limf env 92 [.agg [a8 a_1, a8 a_2, a32 a_3, a8 a_4, aI a_5, a8 a_6, a32 a_7, a8 a_8, aI a_9, aI a_10, a8 a_11, a32 a_12, a8 a_13, aI a_14, a8 a_15, a32 a_16, x], .iptr 1 [.fn (.func 90) [] []] 0 0] = some (aB (insB (⟨a_1, ⟨a_2, a_3, a_4⟩, a_5, ⟨⟨⟨a_6, a_7, a_8⟩, a_9⟩, a_10⟩, ⟨⟨a_11, a_12, a_13⟩, a_14⟩, ⟨a_15, a_16⟩, l⟩ : Opn))) := by
  refine limf_of (fn := Try.f92) (c := bd_op_partsF3) rfl (by kernel_rfl) (by kernel_rfl) (by kernel_rfl) (by kernel_rfl) ?_; refine vc_op_partsF3 _ _ _ _ fun g => ?_
  have h2 := s_least a_1 a_2 a_3 a_4 a_5 a_6 a_7 a_8 a_9 a_10 a_11 a_12 a_13 a_14 a_15 a_16 hx hl
  have h3 := s_RuCheck hx (by omega)
  have h4 := rowE_zero l
  unfold insB
  cases hz : zeroL (⟨a_15, a_16⟩ : Lab) with
  | false =>
    cases hA : zeroA (⟨⟨a_11, a_12, a_13⟩, a_14⟩ : Idd) with
    | false =>
      unfold zeroA at hA
      simp [new_ne, ne_new, new_ne1, ne_new1, gen_put', *, VC_op_partsF3, hx.r, eqA, eqFs]
    | true =>
      unfold zeroA at hA
      simp [new_ne, ne_new, new_ne1, ne_new1, gen_put', *, VC_op_partsF3, hx.r, eqA, eqFs]
  | true =>
    have key : ∀ b : Bool, (zeroA (⟨⟨a_11, a_12, a_13⟩, a_14⟩ : Idd) || idB (⟨⟨a_11, a_12, a_13⟩, a_14⟩ : Idd)) = b → True := fun _ _ => trivial
    cases hS : sameH ⟨a_6, a_7, a_8⟩ ⟨a_2, a_3, a_4⟩ with
    | false =>
      unfold sameH at hS
      cases hA : zeroA (⟨⟨a_11, a_12, a_13⟩, a_14⟩ : Idd) with
      | false =>
        unfold zeroA at hA
        cases hI : idB (⟨⟨a_11, a_12, a_13⟩, a_14⟩ : Idd) <;> simp [new_ne, ne_new, new_ne1, ne_new1, gen_put', *, VC_op_partsF3, hx.r, eqA, eqFs]
      | true =>
        unfold zeroA at hA
        simp [new_ne, ne_new, new_ne1, ne_new1, gen_put', *, VC_op_partsF3, hx.r, eqA, eqFs]
    | true =>
      unfold sameH at hS
      by_cases hL : (l.length : Int) = a_10
      · cases hA : zeroA (⟨⟨a_11, a_12, a_13⟩, a_14⟩ : Idd) with
        | false =>
          unfold zeroA at hA
          cases hI : idB (⟨⟨a_11, a_12, a_13⟩, a_14⟩ : Idd) <;> simp [new_ne, ne_new, new_ne1, ne_new1, gen_put', *, VC_op_partsF3, hx.r, eqA, eqFs]
        | true =>
          unfold zeroA at hA
          simp [new_ne, ne_new, new_ne1, ne_new1, gen_put', *, VC_op_partsF3, hx.r, eqA, eqFs]
      · cases hA : zeroA (⟨⟨a_11, a_12, a_13⟩, a_14⟩ : Idd) with
        | false =>
          unfold zeroA at hA
          cases hI : idB (⟨⟨a_11, a_12, a_13⟩, a_14⟩ : Idd) <;> simp [new_ne, ne_new, new_ne1, ne_new1, gen_put', *, VC_op_partsF3, hx.r, eqA, eqFs]
        | true =>
          unfold zeroA at hA
          simp [new_ne, ne_new, new_ne1, ne_new1, gen_put', *, VC_op_partsF3, hx.r, eqA, eqFs]
theorem s_OpCheck : limf env 21 [.agg [a8 a_1, a8 a_2, a32 a_3, a8 a_4, aI a_5, a8 a_6, a32 a_7, a8 a_8, aI a_9, aI a_10, a8 a_11, a32 a_12, a8 a_13, aI a_14, a8 a_15, a32 a_16, x]] = some (aI (bad (opB (⟨a_1, ⟨a_2, a_3, a_4⟩, a_5, ⟨⟨⟨a_6, a_7, a_8⟩, a_9⟩, a_10⟩, ⟨⟨a_11, a_12, a_13⟩, a_14⟩, ⟨a_15, a_16⟩, l⟩ : Opn)))) := by
  refine limf_of (fn := Try.f21) (c := bd_op_Check) rfl (by kernel_rfl) (by kernel_rfl) (by kernel_rfl) (by kernel_rfl) ?_; refine vc_op_Check _ _ _ fun g => ?_
  have h1 := s_insert a_1 a_2 a_3 a_4 a_5 a_6 a_7 a_8 a_9 a_10 a_11 a_12 a_13 a_14 a_15 a_16 hx hl
  have h2 := s_delete a_1 a_2 a_3 a_4 a_5 a_6 a_7 a_8 a_9 a_10 a_11 a_12 a_13 a_14 a_15 a_16 hx hl
  have h3 := s_raise a_1 a_2 a_3 a_4 a_5 a_6 a_7 a_8 a_9 a_10 a_11 a_12 a_13 a_14 a_15 a_16 hx hl
  have h4 := s_parts
  unfold opB mayB
  by_cases k0 : a_1 = 0
  · subst k0
    simp [new_ne, ne_new, new_ne1, ne_new1, gen_put', *, VC_op_Check, hx.r]
  by_cases k4 : 4 ≤ a_1
  · have n1 : ¬ a_1 = 1 := by rintro rfl; exact absurd k4 (by decide)
    have n2 : ¬ a_1 = 2 := by rintro rfl; exact absurd k4 (by decide)
    have n3 : ¬ a_1 = 3 := by rintro rfl; exact absurd k4 (by decide)
    simp [new_ne, ne_new, new_ne1, ne_new1, gen_put', *, VC_op_Check, hx.r]
  cases c1 : handB ⟨a_2, a_3, a_4⟩ with
  | false => simp [new_ne, ne_new, new_ne1, ne_new1, gen_put', *, VC_op_Check, hx.r]
  | true =>
  rcases Int.lt_or_le a_5 1 with c2' | c2
  · have c2 : ¬ 1 ≤ a_5 := by omega
    simp [new_ne, ne_new, new_ne1, ne_new1, gen_put', *, VC_op_Check, hx.r]
  have c2' : ¬ a_5 < 1 := by omega
  rcases Int.lt_or_le a_5 16777216 with c3 | c3'
  rotate_left
  · have c3 : ¬ a_5 < 16777216 := by omega
    simp [new_ne, ne_new, new_ne1, ne_new1, gen_put', *, VC_op_Check, hx.r]
  have c3' : ¬ 16777216 ≤ a_5 := by omega
  cases c4 : spanB ⟨⟨⟨a_6, a_7, a_8⟩, a_9⟩, a_10⟩ with
  | false => simp [new_ne, ne_new, new_ne1, ne_new1, gen_put', *, VC_op_Check, hx.r]
  | true =>
  have hk : a_1 = 1 ∨ a_1 = 2 ∨ a_1 = 3 := by
    have e : a_1.toNat < 4 := by have := UInt8.not_le.1 k4; exact this
    have e0 : a_1.toNat ≠ 0 := fun h => k0 (UInt8.toNat_inj.1 h)
    rcases (show a_1.toNat = 1 ∨ a_1.toNat = 2 ∨ a_1.toNat = 3 by omega) with h | h | h
    · exact .inl (UInt8.toNat_inj.1 h)
    · exact .inr (.inl (UInt8.toNat_inj.1 h))
    · exact .inr (.inr (UInt8.toNat_inj.1 h))
  rcases hk with rfl | rfl | rfl
  · cases c5 : insB (⟨1, ⟨a_2, a_3, a_4⟩, a_5, ⟨⟨⟨a_6, a_7, a_8⟩, a_9⟩, a_10⟩, ⟨⟨a_11, a_12, a_13⟩, a_14⟩, ⟨a_15, a_16⟩, l⟩ : Opn) <;> simp [new_ne, ne_new, new_ne1, ne_new1, gen_put', *, VC_op_Check, hx.r, partsV, qIndex_a8, partAV_r]
  · cases c5 : delB (⟨2, ⟨a_2, a_3, a_4⟩, a_5, ⟨⟨⟨a_6, a_7, a_8⟩, a_9⟩, a_10⟩, ⟨⟨a_11, a_12, a_13⟩, a_14⟩, ⟨a_15, a_16⟩, l⟩ : Opn) <;> simp [new_ne, ne_new, new_ne1, ne_new1, gen_put', *, VC_op_Check, hx.r, partsV, qIndex_a8, partAV_r]
  · cases c5 : raiB (⟨3, ⟨a_2, a_3, a_4⟩, a_5, ⟨⟨⟨a_6, a_7, a_8⟩, a_9⟩, a_10⟩, ⟨⟨a_11, a_12, a_13⟩, a_14⟩, ⟨a_15, a_16⟩, l⟩ : Opn) <;> simp [new_ne, ne_new, new_ne1, ne_new1, gen_put', *, VC_op_Check, hx.r, partsV, qIndex_a8, partAV_r]
end
end Go.Proofs.Ytehkjjcdkbcebaa
