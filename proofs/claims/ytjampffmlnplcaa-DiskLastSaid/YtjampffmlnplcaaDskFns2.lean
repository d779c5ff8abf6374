/-
  Disks read and written: what the functions answer. No statement of a seat is proved here.
-/
import Derived.Test.YtjampffmlnplcaaDskIns
set_option linter.unusedVariables false
set_option linter.unusedSimpArgs false
set_option linter.unusedSectionVars false
set_option linter.unnecessarySimpa false
set_option maxRecDepth 100000
namespace Go.Proofs.Ytjampffmlnplcaa
open Go.Ab
attribute [local simp] depth_eq callRes_V callG_frz keep thr appRes_G appFine_s appG_n appG_s roomB List.take_of_length_le
theorem asc_lt : ∀ (l : List Sec) (a : Int), ascS a l = true → ∀ s ∈ l, a < s.pos := by
  intro l
  induction l with
  | nil => intro a h s hs; cases hs
  | cons p l ih =>
    intro a h s hs
    simp [ascS] at h
    rcases List.mem_cons.1 hs with rfl | hs
    · exact h.1.1.1
    · have := ih _ h.2 s hs; have := h.1.1.1; omega
theorem nth_le (l : List Sec) (q : Int) : nth l q ≤ l.length := by
  unfold nth
  exact (List.takeWhile_sublist _).length_le
theorem nth_spec (q : Int) : ∀ (l : List Sec) (a : Int), ascS a l = true → ∀ k (h : k < l.length), (l[k].pos < q ↔ k < nth l q) := by
  intro l
  induction l with
  | nil => intro a h k hk; exact absurd hk (by simp)
  | cons p l ih =>
    intro a h k hk
    have ha := asc_lt l p.pos (by simp [ascS] at h; exact h.2)
    have hs : ascS p.pos l = true := by simp [ascS] at h; exact h.2
    unfold nth
    by_cases hp : p.pos < q
    · rw [List.takeWhile_cons_of_pos (by simpa using hp), List.length_cons]
      cases k with
      | zero => simp [hp]
      | succ k =>
        have hk' : k < l.length := by simpa using hk
        have := ih p.pos hs k hk'
        unfold nth at this
        simp only [List.getElem_cons_succ]
        rw [this]
        omega
    · rw [List.takeWhile_cons_of_neg (by simpa using hp)]
      cases k with
      | zero => simp [hp]
      | succ k =>
        have hk' : k < l.length := by simpa using hk
        have := ha l[k] (List.getElem_mem _)
        simp only [List.getElem_cons_succ, List.length_nil]
        omega
theorem dOk_asc {l : List Sec} {st lf : Int} {dd : Bool} (h : dOk l st lf dd = true) : ascS (-1) l = true := by
  unfold dOk at h
  simp at h
  exact h.1
def rdB (l : List Sec) (q : Int) : List UInt8 := if hasAt l q (nth l q) then ((l[nth l q]?).map (·.bs)).getD [] else List.replicate 128 0
section
variable {l : List Sec} {x : AV} {st lf : Int} {dd : Bool} (hx : Sl 2 (encS l) x) (hok : ∀ s ∈ l, SecOk s) (hl : l.length < 1000000)
include hx hok hl
theorem s_Read {q : Int} : limf env 58 [dsk x st lf dd, aI q] = some (
    if dOk l st lf dd then (if 0 ≤ q ∧ q < 6146 then .tup [.isl 1 (by8 (rdB l q)) none, aI 0] else .tup [aNil, aI 2]) else .tup [aNil, aI 8]) := by
  refine limf_of (fn := Try.f58) (c := bd_disk_Read) rfl (by kernel_rfl) (by kernel_rfl) (by kernel_rfl) (by kernel_rfl) ?_; refine vc_disk_Read _ _ _ _ fun g => ?_
  have hA := s_asked (st := st) (lf := lf) (dd := dd) hx hok (by omega) (q := q)
  cases hd : dOk l st lf dd
  · simp [hd] at hA
    simp only [dsk] at hA ⊢
    simp [new_ne, ne_new, new_ne1, ne_new1, gen_put', *, VC_disk_Read, hx.r]
  · simp [hd] at hA
    by_cases hq : 0 ≤ q ∧ q < 6146
    · rw [if_pos hq] at hA
      have hf := s_find (st := st) (lf := lf) (dd := dd) hx hok hl (nth_spec q l (-1) (dOk_asc hd)) (nth_le l q)
      cases hh : hasAt l q (nth l q)
      · obtain ⟨Z, hZ⟩ : ∃ Z : List UInt8, Z = List.replicate 128 0 := ⟨_, rfl⟩
        have hZl : Z.length = 128 := by rw [hZ]; rfl
        have e1 : rdB l q = Z := by unfold rdB; rw [hh, hZ]; rfl
        rw [hh] at hf
        simp only [dsk, e1] at hA hf ⊢
        rw [if_pos hq]
        have hmk := qMake_of (P := env.P) (t := 98) (z := 1) (by' := 1) (zz := a8 0) (r := ⟨0, 23, 0, 0⟩) (by kernel_rfl) (by kernel_rfl) (n := 128) (by decide) (by decide)
        rw [show List.replicate 128 (a8 0) = by8 Z from by rw [hZ]; rfl, show ((128 : Nat) : Int) = 128 from rfl] at hmk
        clear hZ
        simp [new_ne, ne_new, new_ne1, ne_new1, gen_put', *, VC_disk_Read, hx.r]
      · have hlt : nth l q < l.length := by
          unfold hasAt at hh
          cases h : l[nth l q]? with
          | none => rw [h] at hh; cases hh
          | some s => exact (List.getElem?_eq_some_iff.1 h).1
        obtain ⟨p, hp⟩ : ∃ p, p = l[nth l q] := ⟨_, rfl⟩
        have hpo := hok p (by rw [hp]; exact List.getElem_mem _)
        have e1 : rdB l q = p.bs := by simp [rdB, hh, hlt, hp]
        have ho := s_own hpo (asc_128 l (-1) (dOk_asc hd) p (by rw [hp]; exact List.getElem_mem _))
        have hpr := hpo.r
        rw [hh] at hf
        simp only [dsk, e1] at hA hf ⊢
        rw [if_pos hq]
        have hrd : readAt (encS l) (nth l q) 1 1 false = some p.av := by simp [encS, hlt, Sec.enc, hp]
        clear hok
        subst hp
        simp [new_ne, ne_new, new_ne1, ne_new1, gen_put', *, VC_disk_Read, hx.r, hx.idx]
    · rw [if_neg hq] at hA
      simp only [dsk] at hA ⊢
      rw [if_neg hq]
      simp [new_ne, ne_new, new_ne1, ne_new1, gen_put', *, VC_disk_Read, hx.r]
end
end Go.Proofs.Ytjampffmlnplcaa
