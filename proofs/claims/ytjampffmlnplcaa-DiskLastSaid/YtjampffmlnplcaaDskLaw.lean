/-
  What was written last is read. No statement of a seat is proved here.
-/
import Derived.Test.YtjampffmlnplcaaDskRef
import Derived.Test.YtjampffmlnplcaaRdVl12
set_option linter.unusedVariables false
set_option linter.unusedSimpArgs false
set_option linter.unusedSectionVars false
set_option linter.unnecessarySimpa false
set_option maxRecDepth 100000
namespace Go.Proofs.Ytjampffmlnplcaa
open Go.Ab
attribute [local simp] depth_eq callRes_V callG_frz keep thr appRes_G appFine_s appG_n appG_s roomB List.take_of_length_le
def zer : List UInt8 := List.replicate 128 0
def rdR : List Sec → Int → List UInt8
  | [], _ => zer
  | p :: l, q => if p.pos < q then rdR l q else if p.pos = q then p.bs else zer
def wrR (q : Int) (b : List UInt8) : List Sec → List Sec
  | [] => [newS q b]
  | p :: l => if p.pos < q then twS p :: wrR q b l else if p.pos = q then newS q b :: twL l else newS q b :: twS p :: twL l
theorem nth_cons (p : Sec) (l : List Sec) (q : Int) : nth (p :: l) q = if p.pos < q then nth l q + 1 else 0 := by
  unfold nth
  by_cases h : p.pos < q
  · rw [List.takeWhile_cons_of_pos (p := fun s : Sec => decide (s.pos < q)) (decide_eq_true h), if_pos h, List.length_cons]
  · rw [List.takeWhile_cons_of_neg (p := fun s : Sec => decide (s.pos < q)) (by rw [decide_eq_true_eq]; exact h), if_neg h]; rfl
theorem rdB_eq (l : List Sec) (q : Int) : rdB l q = rdR l q := by
  induction l with
  | nil => rfl
  | cons p l ih =>
    unfold rdB rdR
    rw [nth_cons]
    by_cases h : p.pos < q
    · rw [if_pos h, if_pos h, ← ih]; rfl
    · rw [if_neg h, if_neg h]
      by_cases e : p.pos = q
      · simp [hasAt, e]
      · simp [hasAt, e, zer]
theorem wrL_eq (l : List Sec) (q : Int) (b : List UInt8) : wrL l q b = wrR q b l := by
  induction l with
  | nil => rfl
  | cons p l ih =>
    unfold wrL wrR
    rw [nth_cons]
    by_cases h : p.pos < q
    · rw [if_pos h, if_pos h, ← ih]
      unfold wrL
      have e : hasAt (p :: l) q (nth l q + 1) = hasAt l q (nth l q) := rfl
      rw [e]
      split <;> rfl
    · rw [if_neg h, if_neg h]
      by_cases e : p.pos = q
      · simp [hasAt, e, twL]
      · simp [hasAt, e, twL]
theorem rd_tw (l : List Sec) (q : Int) : rdR (twL l) q = rdR l q := by
  induction l with
  | nil => rfl
  | cons p l ih =>
    show (if p.pos < q then rdR (twL l) q else if p.pos = q then p.bs else zer) = _
    rw [ih]; rfl
theorem rd_wr (q r : Int) (b : List UInt8) : ∀ l, rdR (wrR q b l) r = if r = q then b else rdR l r := by
  intro l
  induction l with
  | nil =>
    show (if q < r then zer else if q = r then b else zer) = _
    by_cases h : r = q
    · subst h; simp
    · have h' : ¬ q = r := fun e => h e.symm
      simp [h, h', rdR]
  | cons p l ih =>
    unfold wrR
    by_cases h : p.pos < q
    · rw [if_pos h]
      show (if p.pos < r then rdR (wrR q b l) r else if p.pos = r then p.bs else zer) = _
      rw [ih]
      simp only [rdR]
      grind
    · rw [if_neg h]
      by_cases e : p.pos = q
      · rw [if_pos e]
        show (if q < r then rdR (twL l) r else if q = r then b else zer) = _
        rw [rd_tw]
        simp only [rdR]
        grind
      · rw [if_neg e]
        show (if q < r then rdR (twL (p :: l)) r else if q = r then b else zer) = _
        rw [rd_tw]
        simp only [rdR]
        grind
theorem asc_wr (q : Int) (b : List UInt8) (hq : q < 6146) (hb : b.length = 128) : ∀ (l : List Sec) (a : Int), a < q → ascS a l = true → ascS a (wrR q b l) = true := by
  intro l
  induction l with
  | nil => intro a ha _; simp [wrR, ascS, newS, hb]; omega
  | cons p l ih =>
    intro a ha h
    have h' := h
    simp [ascS] at h
    have u1 := h.1.1.1
    have u2 := h.1.1.2
    have u3 := h.1.2
    unfold wrR
    by_cases h1 : p.pos < q
    · rw [if_pos h1]
      have := ih p.pos h1 h.2
      simp [ascS, twS, this, u3]
      exact ⟨decide_eq_false (by omega), by omega⟩
    · rw [if_neg h1]
      by_cases e : p.pos = q
      · rw [if_pos e]
        have h3 : ascS q (twL l) = true := by rw [tw_asc, ← e]; exact h.2
        simp [ascS, newS, hb, h3]
        exact ⟨decide_eq_false (by omega), by omega⟩
      · rw [if_neg e]
        have h3 : ascS p.pos (twL l) = true := by rw [tw_asc]; exact h.2
        simp [ascS, newS, twS, hb, h3, u3]
        exact ⟨⟨decide_eq_false (by omega), by omega⟩, decide_eq_false (by omega), by omega⟩
theorem wr_ok (q : Int) (b : List UInt8) : ∀ (l : List Sec), ∀ s ∈ wrR q b l, SecOk s := by
  have hn : SecOk (newS q b) := Sl.mk _ _
  intro l
  induction l with
  | nil => intro s hs; simp [wrR] at hs; subst hs; exact hn
  | cons p l ih =>
    intro s hs
    unfold wrR at hs
    split at hs
    · rcases List.mem_cons.1 hs with rfl | hs
      · exact Sl.mk _ _
      · exact ih s hs
    · split at hs
      · rcases List.mem_cons.1 hs with rfl | hs
        · exact hn
        · exact twL_ok l s hs
      · rcases List.mem_cons.1 hs with rfl | hs
        · exact hn
        · exact twL_ok (p :: l) s hs
theorem wr_len (q : Int) (b : List UInt8) : ∀ (l : List Sec), (wrR q b l).length ≤ l.length + 1 := by
  intro l
  induction l with
  | nil => simp [wrR]
  | cons p l ih => unfold wrR; split <;> (try split) <;> simp <;> omega
theorem key_tw (l : List Sec) : keyS (twL l) = keyS l := by simp [keyS, twL, twS]
theorem s_alive : limf env 59 [] = some (aB true) := limf_spec rfl
theorem vw_sl {l : List Sec} {x : AV} (hx : Sl 2 (encS l) x) : Sl 2 (encS (twL l)) (vw (twA x l)) := by
  rcases twA_out hx with ⟨h, e⟩ | h | ⟨h, e⟩
  · rw [h, e]; exact .inl ⟨rfl, rfl⟩
  · rw [h]; exact Sl.mk _ _
  · rw [h, e]; exact .inr ⟨some 0, rfl, by simp⟩
section
variable {l : List Sec} {x : AV} {st lf : Int} {dd : Bool} (hx : Sl 2 (encS l) x) (hok : ∀ s ∈ l, SecOk s)
include hx hok
theorem last_law (q r : Int) (v : UInt8) : limf env 12 [dsk x st lf dd, aI q, a8 v, aI r] = some (aB true) := by
  refine limf_of (fn := Try.f12) (c := bd_blindstamplaw12_DiskLast) rfl (by kernel_rfl) (by kernel_rfl) (by kernel_rfl) (by kernel_rfl) ?_; refine vc_blindstamplaw12_DiskLast _ _ _ _ _ _ fun g => ?_
  have hal := s_alive
  obtain ⟨t, hG, hGl⟩ := s_Great (st := st) (lf := lf) (dd := dd) hx hok
  cases t with
  | true =>
    simp only [dsk] at hG ⊢
    simp [new_ne, ne_new, new_ne1, ne_new1, gen_put', *, VC_blindstamplaw12_DiskLast, hx.r]
  | false =>
    have hl := hGl rfl
    clear hGl
    have hF := s_full v
    obtain ⟨b, hb⟩ : ∃ b : List UInt8, b = List.replicate 128 v := ⟨_, rfl⟩
    have hbl : b.length = 128 := by rw [hb]; simp
    rw [← hb] at hF
    clear hb
    have hR := s_Read (st := st) (lf := lf) (dd := dd) hx hok (by omega) (q := r)
    by_cases hbad : ¬ (dOk l st lf dd = true ∧ (0 ≤ q ∧ q < 6146) ∧ b.length = 128)
    · have hW := s_WriteBad (xb := .isl 1 (by8 b) none) hx hok (by omega) (Sl.mk _ _) hbad
      have he : (if dOk l st lf dd = true then (2 : Int) else 8) = 2 ∨ (if dOk l st lf dd = true then (2 : Int) else 8) = 8 := by split <;> simp
      clear hbad hok
      generalize (if dOk l st lf dd = true then (2 : Int) else 8) = e at *
      simp only [dsk, zeroD] at hG hW hR ⊢
      rcases he with rfl | rfl <;> simp [new_ne, ne_new, new_ne1, ne_new1, gen_put', *, VC_blindstamplaw12_DiskLast, hx.r]
    · rw [Classical.not_not] at hbad
      obtain ⟨hd, hq, _⟩ := hbad
      rw [if_pos hd, rdB_eq] at hR
      by_cases hdead : dd = true ∨ lf = 0
      · have hW := s_WriteDead (xb := .isl 1 (by8 b) none) hx hok (by omega) (Sl.mk _ _) hd hq hbl hdead
        have hy := vw_sl hx
        have hd' : dOk (twL l) st lf true = true := by
          unfold dOk headOk at hd ⊢
          rw [tw_asc]
          rcases hdead with rfl | rfl
          · exact hd
          · simp at hd ⊢
            exact ⟨hd.1, by omega⟩
        have hR2 := s_Read (st := st) (lf := lf) (dd := true) hy (twL_ok l) (by simp; omega) (q := r)
        rw [if_pos hd', rdB_eq, rd_tw] at hR2
        have hC := s_Check (st := st) (lf := lf) (dd := true) hy (twL_ok l) (by simp; omega)
        rw [if_pos hd'] at hC
        have hS := s_Same0 hy (twL_ok l) hx hok (by simp; omega)
        rw [key_tw, decide_eq_true rfl] at hS
        generalize vw (twA x l) = Y at *
        have hyr := hy.r
        generalize rdR l r = B at *
        clear hok hd hd' hq hy
        simp only [dsk] at hG hW hR hR2 hC hS ⊢
        by_cases hr : 0 ≤ r ∧ r < 6146
        · rw [if_pos hr] at hR hR2
          clear hr
          rcases hdead with rfl | rfl
          · simp [new_ne, ne_new, new_ne1, ne_new1, gen_put', *, VC_blindstamplaw12_DiskLast, hx.r]
          · cases dd <;> simp [new_ne, ne_new, new_ne1, ne_new1, gen_put', *, VC_blindstamplaw12_DiskLast, hx.r]
        · rw [if_neg hr] at hR hR2
          clear hr
          rcases hdead with rfl | rfl
          · simp [new_ne, ne_new, new_ne1, ne_new1, gen_put', *, VC_blindstamplaw12_DiskLast, hx.r]
          · cases dd <;> simp [new_ne, ne_new, new_ne1, ne_new1, gen_put', *, VC_blindstamplaw12_DiskLast, hx.r]
      · have hdd : dd = false := by cases dd with | false => rfl | true => exact absurd (.inl rfl) hdead
        subst hdd
        have hlf : ¬ lf = 0 := fun h => hdead (.inr h)
        have hW := s_WriteDo (xb := .isl 1 (by8 b) none) hx hok (by omega) (Sl.mk _ _) hd hq hbl hlf
        rw [wrL_eq] at hW
        have hwl := wr_len q b l
        have hwo := wr_ok q b l
        have hd' : dOk (wrR q b l) st (if lf > 0 then lf - 1 else lf) false = true := by
          have h1 := asc_wr q b hq.2 hbl l (-1) (by omega) (dOk_asc hd)
          unfold dOk headOk at hd ⊢
          rw [h1]
          simp at hd ⊢
          split <;> omega
        have hR2 := s_Read (st := st) (lf := if lf > 0 then lf - 1 else lf) (dd := false) (Sl.mk 2 (encS (wrR q b l))) hwo (by omega) (q := r)
        rw [if_pos hd', rdB_eq, rd_wr] at hR2
        have hC := s_Check (st := st) (lf := if lf > 0 then lf - 1 else lf) (dd := false) (Sl.mk 2 (encS (wrR q b l))) hwo (by omega)
        rw [if_pos hd'] at hC
        generalize (if lf > 0 then lf - 1 else lf) = lf' at *
        generalize encS (wrR q b l) = W at *
        generalize rdR l r = B at *
        clear hok hd hd' hwl hwo hdead
        simp only [dsk] at hG hW hR hR2 hC ⊢
        by_cases hrq : r = q
        · subst hrq
          rw [if_pos hq] at hR hR2
          simp only [if_true] at hR2
          clear hq
          simp [new_ne, ne_new, new_ne1, ne_new1, gen_put', *, VC_blindstamplaw12_DiskLast, hx.r]
        · rw [if_neg hrq] at hR2
          clear hq
          by_cases hr : 0 ≤ r ∧ r < 6146
          · rw [if_pos hr] at hR hR2
            clear hr
            simp [new_ne, ne_new, new_ne1, ne_new1, gen_put', *, VC_blindstamplaw12_DiskLast, hx.r]
          · rw [if_neg hr] at hR hR2
            clear hr
            simp [new_ne, ne_new, new_ne1, ne_new1, gen_put', *, VC_blindstamplaw12_DiskLast, hx.r]
end
end Go.Proofs.Ytjampffmlnplcaa
