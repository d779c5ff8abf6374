/-
  An operation's bytes, there and back. No statement of a seat is proved here.
-/
import Derived.Test.YtehkjjcdkbcebaaOpRead
set_option linter.unusedVariables false
set_option linter.unusedSimpArgs false
set_option linter.unusedSectionVars false
set_option linter.unnecessarySimpa false
set_option maxRecDepth 100000
namespace Go.Proofs.Ytehkjjcdkbcebaa
open Go.Ab
theorem raw_bytes {o : Opn} (h : opB o = true) (b : List UInt8) : rawO (opBytes o ++ b) = o ∧ sizeR (opBytes o ++ b) = sizeK o ∧ getOk (opBytes o ++ b) = true := by
  have hp := opB_parts h
  have hlen := opBytes_len h
  obtain ⟨k, hd, sr, ⟨f, m⟩, a, to, l⟩ := o
  simp only at hp
  obtain ⟨hs0, hs1, ⟨hf0, hf1⟩, hm0, hm1, hk⟩ := hp
  have em : ((u8 m).toNat : Int) = m := by rw [u8_int]; omega
  have em' : (u8 m).toNat = m.toNat := by omega
  have hsplit : opBytes ⟨k, hd, sr, ⟨f, m⟩, a, to, l⟩ ++ b = k :: (hBytes hd ++ (be 3 sr ++ (iBytes f ++ (u8 m :: ((if k = 1 then afterB a ++ rBytes l else if k = 3 then to.lv :: be 4 to.cats.toNat else []) ++ b))))) := by
    simp [opBytes, commonB]
  obtain ⟨e1, e2⟩ := raw_part k (hBytes hd) (be 3 sr) (iBytes f) (u8 m) ((if k = 1 then afterB a ++ rBytes l else if k = 3 then to.lv :: be 4 to.cats.toNat else []) ++ b) (by simp) (by simp) (by simp)
  have hr : rawO (opBytes ⟨k, hd, sr, ⟨f, m⟩, a, to, l⟩ ++ b) = ⟨k, hd, sr, ⟨f, m⟩, a, to, l⟩ := by
    rw [hsplit, e1]
    unfold partO
    rw [hanOf_hBytes, val_be (by omega) (by omega), iddOf_iBytes (by omega) (by omega), em, em']
    rcases hk with ⟨rfl, rfl, ha, hl, hrow⟩ | ⟨rfl, rfl, rfl, rfl⟩ | ⟨rfl, rfl, rfl, _⟩
    · have hl2 : (rBytes l).length = 4 * m.toNat := by rw [rBytes_len]; omega
      simp only [if_true]
      rw [List.append_assoc, List.take_left' (afterB_len a), List.drop_left' (afterB_len a), List.take_left' hl2, words_rBytes _ (rowB_E hrow).2.2]
      have : iddOf (afterB a) = a := by
        unfold afterB
        rcases ha with rfl | ha
        · rfl
        · split
          · rename_i hz; rw [(zeroA_iff _).1 hz]; rfl
          · exact iddOf_iBytes (by omega) (by omega)
      rw [this]
      rfl
    · rfl
    · obtain ⟨t, c⟩ := to
      have e3 : ((t :: be 4 (c.toNat : Int)) ++ b).drop 1 = be 4 (c.toNat : Int) ++ b := rfl
      have e4 : ((t :: be 4 (c.toNat : Int)) ++ b).headD 0 = t := rfl
      simp only [show ¬ (3 : UInt8) = 1 by decide, if_false, if_true]
      rw [e3, e4, List.take_left' (be_len _ _), u32_of_val]
  have hz : sizeR (opBytes ⟨k, hd, sr, ⟨f, m⟩, a, to, l⟩ ++ b) = sizeK ⟨k, hd, sr, ⟨f, m⟩, a, to, l⟩ := by
    rw [hsplit, e2]
    unfold sizeO sizeK
    rw [em']
  refine ⟨hr, hz, ?_⟩
  simp only [getOk, Bool.and_eq_true, decide_eq_true_eq]
  rw [hr, hz, List.length_append, hlen]
  exact ⟨by unfold sizeK; split <;> first | omega | (split <;> omega), by omega, h⟩
end Go.Proofs.Ytehkjjcdkbcebaa
