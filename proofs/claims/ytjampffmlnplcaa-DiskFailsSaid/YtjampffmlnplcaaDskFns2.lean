/-
  Disks read and written: what the functions answer. No statement of a seat is proved here.
-/
import Derived.Test.YtjampffmlnplcaaDskIns
set_option linter.unusedVariables false
set_option linter.unusedSimpArgs false
set_option linter.unusedSectionVars false
set_option linter.unnecessarySimpa false
set_option maxRecDepth 100000
namespace Go.Proofs.Ytjampffmlnplcaa
open Go.Ab
attribute [local simp] depth_eq callRes_V callG_frz keep thr appRes_G appFine_s appG_n appG_s roomB List.take_of_length_le
theorem asc_lt : ∀ (l : List Sec) (a : Int), ascS a l = true → ∀ s ∈ l, a < s.pos := by
  intro l
  induction l with
  | nil => intro a h s hs; cases hs
  | cons p l ih =>
    intro a h s hs
    simp [ascS] at h
    rcases List.mem_cons.1 hs with rfl | hs
    · exact h.1.1.1
    · have := ih _ h.2 s hs; have := h.1.1.1; omega
theorem nth_le (l : List Sec) (q : Int) : nth l q ≤ l.length := by
  unfold nth
  exact (List.takeWhile_sublist _).length_le
theorem nth_spec (q : Int) : ∀ (l : List Sec) (a : Int), ascS a l = true → ∀ k (h : k < l.length), (l[k].pos < q ↔ k < nth l q) := by
  intro l
  induction l with
  | nil => intro a h k hk; exact absurd hk (by simp)
  | cons p l ih =>
    intro a h k hk
    have ha := asc_lt l p.pos (by simp [ascS] at h; exact h.2)
    have hs : ascS p.pos l = true := by simp [ascS] at h; exact h.2
    unfold nth
    by_cases hp : p.pos < q
    · rw [List.takeWhile_cons_of_pos (by simpa using hp), List.length_cons]
      cases k with
      | zero => simp [hp]
      | succ k =>
        have hk' : k < l.length := by simpa using hk
        have := ih p.pos hs k hk'
        unfold nth at this
        simp only [List.getElem_cons_succ]
        rw [this]
        omega
    · rw [List.takeWhile_cons_of_neg (by simpa using hp)]
      cases k with
      | zero => simp [hp]
      | succ k =>
        have hk' : k < l.length := by simpa using hk
        have := ha l[k] (List.getElem_mem _)
        simp only [List.getElem_cons_succ, List.length_nil]
        omega
theorem dOk_asc {l : List Sec} {st lf : Int} {dd : Bool} (h : dOk l st lf dd = true) : ascS (-1) l = true := by
  unfold dOk at h
  simp at h
  exact h.1
section
variable {l : List Sec} {x : AV} {st lf : Int} {dd : Bool} (hx : Sl 2 (encS l) x) (hok : ∀ s ∈ l, SecOk s) (hl : l.length < 1000000)
include hx hok hl
end
end Go.Proofs.Ytjampffmlnplcaa
