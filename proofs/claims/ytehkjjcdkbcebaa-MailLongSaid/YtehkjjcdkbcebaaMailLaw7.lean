/-
  Mail there and back: the law's own run. No statement of a seat is proved here.
-/
import Derived.Test.YtehkjjcdkbcebaaMailGreat
import Derived.Test.YtehkjjcdkbcebaaMlVl7
set_option linter.unusedVariables false
set_option linter.unusedSimpArgs false
set_option linter.unusedSectionVars false
set_option linter.unnecessarySimpa false
set_option maxRecDepth 100000
namespace Go.Proofs.Ytehkjjcdkbcebaa
open Go.Ab
attribute [local simp] depth_eq callRes_V callG_frz callG_own keep thr appRes_G appFine_n appFine_s appG_n appG_s roomB appRes_I islFine_some islG_ne List.take_of_length_le
theorem get_put {b : List UInt8} {m : Mai} {ol : List (Opn × AV)} (h : getM b = some (m, ol)) : putOk m ol = true ∧ b = m.kind :: (kindW m.kind.toNat m ol).1 ∧ goodO ol ∧ ol.length ≤ 3 := by
  obtain ⟨h1, h2, h3, h4, h5, h6, h7, h8⟩ := getM_ok h
  refine ⟨?_, h6, h1, h2⟩
  have e1 : (kindAt m.kind.toNat).isSome = true := by
    cases hk : kindAt m.kind.toNat with
    | none => exact absurd hk h3
    | some _ => rfl
  have e2 : manyB m ol = true := by
    by_cases c8 : m.kind = 8
    · simp [manyB, c8]
    · by_cases c2 : m.kind = 2
      · have := h4 (by rw [c2]; rfl)
        simp [manyB, c2, this]
      · have := h5 (fun h => c2 (UInt8.toNat_inj.1 h)) (fun h => c8 (UInt8.toNat_inj.1 h))
        simp [manyB, c2, this]
  have e3 : backB m ol (getM (m.kind :: (kindW m.kind.toNat m ol).1)) = true := by
    rw [← h6, h]
    simp only [backB, sameM_refl, sameOs_of, Bool.and_self]
  simp only [putOk, e1, e2, e3, h7, h8, Bool.not_false, Bool.and_self]
theorem opsW_len : ∀ {l : List (Opn × AV)}, (opsW l).1.length ≤ 293 * l.length
  | [] => Nat.le_refl _
  | p :: l => by
    have ih := @opsW_len l
    unfold opsW
    split
    · rename_i h
      have h1 := opBytes_len h
      have h2 := sizeK_le h
      simp only [List.length_append, List.length_cons]
      omega
    · simp
theorem kindW_len {n : Nat} {m : Mai} {l : List (Opn × AV)} (h : (kindW n m l).2 = false) : (kindW n m l).1.length ≤ 20 + 293 * l.length := by
  have := @opsW_len l
  unfold kindW
  split <;> simp <;> omega
end Go.Proofs.Ytehkjjcdkbcebaa
