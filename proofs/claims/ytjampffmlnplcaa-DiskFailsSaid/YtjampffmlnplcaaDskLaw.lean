/-
  What was written last is read. No statement of a seat is proved here.
-/
import Derived.Test.YtjampffmlnplcaaDskRef
import Derived.Test.YtjampffmlnplcaaRdVl12
set_option linter.unusedVariables false
set_option linter.unusedSimpArgs false
set_option linter.unusedSectionVars false
set_option linter.unnecessarySimpa false
set_option maxRecDepth 100000
namespace Go.Proofs.Ytjampffmlnplcaa
open Go.Ab
attribute [local simp] depth_eq callRes_V callG_frz keep thr appRes_G appFine_s appG_n appG_s roomB List.take_of_length_le
def wrR (q : Int) (b : List UInt8) : List Sec → List Sec
  | [] => [newS q b]
  | p :: l => if p.pos < q then twS p :: wrR q b l else if p.pos = q then newS q b :: twL l else newS q b :: twS p :: twL l
theorem nth_cons (p : Sec) (l : List Sec) (q : Int) : nth (p :: l) q = if p.pos < q then nth l q + 1 else 0 := by
  unfold nth
  by_cases h : p.pos < q
  · rw [List.takeWhile_cons_of_pos (p := fun s : Sec => decide (s.pos < q)) (decide_eq_true h), if_pos h, List.length_cons]
  · rw [List.takeWhile_cons_of_neg (p := fun s : Sec => decide (s.pos < q)) (by rw [decide_eq_true_eq]; exact h), if_neg h]; rfl
theorem wrL_eq (l : List Sec) (q : Int) (b : List UInt8) : wrL l q b = wrR q b l := by
  induction l with
  | nil => rfl
  | cons p l ih =>
    unfold wrL wrR
    rw [nth_cons]
    by_cases h : p.pos < q
    · rw [if_pos h, if_pos h, ← ih]
      unfold wrL
      have e : hasAt (p :: l) q (nth l q + 1) = hasAt l q (nth l q) := rfl
      rw [e]
      split <;> rfl
    · rw [if_neg h, if_neg h]
      by_cases e : p.pos = q
      · simp [hasAt, e, twL]
      · simp [hasAt, e, twL]
theorem asc_wr (q : Int) (b : List UInt8) (hq : q < 6146) (hb : b.length = 128) : ∀ (l : List Sec) (a : Int), a < q → ascS a l = true → ascS a (wrR q b l) = true := by
  intro l
  induction l with
  | nil => intro a ha _; simp [wrR, ascS, newS, hb]; omega
  | cons p l ih =>
    intro a ha h
    have h' := h
    simp [ascS] at h
    have u1 := h.1.1.1
    have u2 := h.1.1.2
    have u3 := h.1.2
    unfold wrR
    by_cases h1 : p.pos < q
    · rw [if_pos h1]
      have := ih p.pos h1 h.2
      simp [ascS, twS, this, u3]
      exact ⟨decide_eq_false (by omega), by omega⟩
    · rw [if_neg h1]
      by_cases e : p.pos = q
      · rw [if_pos e]
        have h3 : ascS q (twL l) = true := by rw [tw_asc, ← e]; exact h.2
        simp [ascS, newS, hb, h3]
        exact ⟨decide_eq_false (by omega), by omega⟩
      · rw [if_neg e]
        have h3 : ascS p.pos (twL l) = true := by rw [tw_asc]; exact h.2
        simp [ascS, newS, twS, hb, h3, u3]
        exact ⟨⟨decide_eq_false (by omega), by omega⟩, decide_eq_false (by omega), by omega⟩
theorem wr_ok (q : Int) (b : List UInt8) : ∀ (l : List Sec), ∀ s ∈ wrR q b l, SecOk s := by
  have hn : SecOk (newS q b) := Sl.mk _ _
  intro l
  induction l with
  | nil => intro s hs; simp [wrR] at hs; subst hs; exact hn
  | cons p l ih =>
    intro s hs
    unfold wrR at hs
    split at hs
    · rcases List.mem_cons.1 hs with rfl | hs
      · exact Sl.mk _ _
      · exact ih s hs
    · split at hs
      · rcases List.mem_cons.1 hs with rfl | hs
        · exact hn
        · exact twL_ok l s hs
      · rcases List.mem_cons.1 hs with rfl | hs
        · exact hn
        · exact twL_ok (p :: l) s hs
theorem wr_len (q : Int) (b : List UInt8) : ∀ (l : List Sec), (wrR q b l).length ≤ l.length + 1 := by
  intro l
  induction l with
  | nil => simp [wrR]
  | cons p l ih => unfold wrR; split <;> (try split) <;> simp <;> omega
theorem key_tw (l : List Sec) : keyS (twL l) = keyS l := by simp [keyS, twL, twS]
theorem s_alive : limf env 59 [] = some (aB true) := limf_spec rfl
theorem vw_sl {l : List Sec} {x : AV} (hx : Sl 2 (encS l) x) : Sl 2 (encS (twL l)) (vw (twA x l)) := by
  rcases twA_out hx with ⟨h, e⟩ | h | ⟨h, e⟩
  · rw [h, e]; exact .inl ⟨rfl, rfl⟩
  · rw [h]; exact Sl.mk _ _
  · rw [h, e]; exact .inr ⟨some 0, rfl, by simp⟩
section
variable {l : List Sec} {x : AV} {st lf : Int} {dd : Bool} (hx : Sl 2 (encS l) x) (hok : ∀ s ∈ l, SecOk s)
include hx hok
end
end Go.Proofs.Ytjampffmlnplcaa
