/-
  What op.Put answers. No statement of a seat is proved here.
-/
import Derived.Test.YtehkjjcdkbcebaaOpRead
set_option linter.unusedVariables false
set_option linter.unusedSimpArgs false
set_option linter.unusedSectionVars false
set_option linter.unnecessarySimpa false
set_option maxRecDepth 100000
namespace Go.Proofs.Ytehkjjcdkbcebaa
open Go.Ab
attribute [local simp] depth_eq callRes_V callG_frz callG_own keep thr appRes_G appFine_n appFine_s appG_n appG_s roomB appRes_I islFine_some islG_ne List.take_of_length_le
theorem sizeK_le {o : Opn} (h : opB o = true) : 24 ≤ sizeK o ∧ sizeK o ≤ 293 := by
  have hp := opB_parts h
  unfold sizeK
  split
  · omega
  · split <;> omega
def putA (o : Opn) : AV := if opB o then .tup [.isl 1 (by8 (opBytes o)) none, aI 0] else .tup [aNil, aI 8]
theorem s_OpPut (a_1 : UInt8) (a_2 : UInt8) (a_3 : UInt32) (a_4 : UInt8) (a_5 : Int) (a_6 : UInt8) (a_7 : UInt32) (a_8 : UInt8) (a_9 : Int) (a_10 : Int) (a_11 : UInt8) (a_12 : UInt32) (a_13 : UInt8) (a_14 : Int) (a_15 : UInt8) (a_16 : UInt32) {x : AV} {l : List Int} (hx : Sl 1 (rows l) x) (hl : l.length < 2000000) : limf env 14 [.agg [a8 a_1, a8 a_2, a32 a_3, a8 a_4, aI a_5, a8 a_6, a32 a_7, a8 a_8, aI a_9, aI a_10, a8 a_11, a32 a_12, a8 a_13, aI a_14, a8 a_15, a32 a_16, x]] = some (putA (⟨a_1, ⟨a_2, a_3, a_4⟩, a_5, ⟨⟨⟨a_6, a_7, a_8⟩, a_9⟩, a_10⟩, ⟨⟨a_11, a_12, a_13⟩, a_14⟩, ⟨a_15, a_16⟩, l⟩ : Opn)) := by
  unfold putA
  cases ho : opB (⟨a_1, ⟨a_2, a_3, a_4⟩, a_5, ⟨⟨⟨a_6, a_7, a_8⟩, a_9⟩, a_10⟩, ⟨⟨a_11, a_12, a_13⟩, a_14⟩, ⟨a_15, a_16⟩, l⟩ : Opn) with
  | false => rw [s_OpPutN a_1 a_2 a_3 a_4 a_5 a_6 a_7 a_8 a_9 a_10 a_11 a_12 a_13 a_14 a_15 a_16 hx hl ho]; rfl
  | true =>
    have hp := opB_parts ho
    rw [if_pos rfl]
    unfold opBytes
    rcases hp.2.2.2.2.2 with ⟨hk, _⟩ | ⟨hk, _⟩ | ⟨hk, _⟩
    · rw [s_OpPut1 a_1 a_2 a_3 a_4 a_5 a_6 a_7 a_8 a_9 a_10 a_11 a_12 a_13 a_14 a_15 a_16 hx hl ho hk, if_pos hk]
    · simp only at hk
      rw [s_OpPut2 a_1 a_2 a_3 a_4 a_5 a_6 a_7 a_8 a_9 a_10 a_11 a_12 a_13 a_14 a_15 a_16 hx hl ho hk, if_neg (by simp [hk]), if_neg (by simp [hk]), List.append_nil]
    · simp only at hk
      rw [s_OpPut3 a_1 a_2 a_3 a_4 a_5 a_6 a_7 a_8 a_9 a_10 a_11 a_12 a_13 a_14 a_15 a_16 hx hl ho hk, if_neg (by simp [hk]), if_pos hk]
end Go.Proofs.Ytehkjjcdkbcebaa
