/-
  The laws of runs, cut and joined: their runs. No statement of a seat is proved here.
-/
import Derived.Test.YtjampffmlnplcaaRunFns
import Derived.Test.YtjampffmlnplcaaRcVl4
import Derived.Test.YtjampffmlnplcaaRcVl3
import Derived.Test.YtjampffmlnplcaaAbsMono
set_option linter.unusedVariables false
set_option linter.unusedSimpArgs false
set_option linter.unusedSectionVars false
set_option linter.unnecessarySimpa false
set_option maxRecDepth 100000
namespace Go.Proofs.Ytjampffmlnplcaa
open Go.Ab
attribute [local simp] depth_eq callRes_V callG_data callG_frz callG_own keep thr appRes_G appFine_n appFine_s appG_n appG_s roomB appRes_I islFine_some islG_ne List.take_of_length_le sB_lit

theorem run_alive : limf env 15 [] = some (aB true) := limf_run_of (n := 40000) (by kernel_rfl)

theorem rowB_take {l : List Int} (h : rowB l = true) (n : Nat) : rowB (l.take n) = true := by
  simp only [rowB, Bool.and_eq_true, decide_eq_true_eq, List.all_eq_true] at h ⊢
  exact ⟨by rw [List.length_take]; omega, fun x hx => h.2 x (List.mem_of_mem_take hx)⟩
theorem rowB_drop {l : List Int} (h : rowB l = true) (n : Nat) : rowB (l.drop n) = true := by
  simp only [rowB, Bool.and_eq_true, decide_eq_true_eq, List.all_eq_true] at h ⊢
  exact ⟨by rw [List.length_drop]; omega, fun x hx => h.2 x (List.mem_of_mem_drop hx)⟩

theorem run_parts (a_1 : UInt8) (a_2 : UInt32) (a_3 : UInt8) (a_4 : Int) (a_5 : Int) (a_6 : UInt8) (a_7 : UInt32) (a_8 : UInt8) (a_9 : Int) {l : List Int} {n : Int} (h : runB (⟨⟨⟨⟨a_1, a_2, a_3⟩, a_4⟩, a_5⟩, ⟨⟨a_6, a_7, a_8⟩, a_9⟩, l⟩ : Rn) = true) (h1 : 1 ≤ n) (h2 : n < a_5) :
    runB ⟨⟨⟨⟨a_1, a_2, a_3⟩, a_4⟩, n⟩, ⟨⟨a_6, a_7, a_8⟩, a_9⟩, l.take n.toNat⟩ = true ∧ runB ⟨⟨⟨⟨a_1, a_2, a_3⟩, a_4 + n⟩, a_5 - n⟩, ⟨⟨a_1, a_2, a_3⟩, a_4 + (n - 1)⟩, l.drop n.toNat⟩ = true ∧
    joinE ⟨⟨⟨⟨a_1, a_2, a_3⟩, a_4⟩, n⟩, ⟨⟨a_6, a_7, a_8⟩, a_9⟩, l.take n.toNat⟩ ⟨⟨⟨⟨a_1, a_2, a_3⟩, a_4 + n⟩, a_5 - n⟩, ⟨⟨a_1, a_2, a_3⟩, a_4 + (n - 1)⟩, l.drop n.toNat⟩ = 0 := by
  have hs := h
  simp only [runB, spanB, idB, Bool.and_eq_true, Bool.or_eq_true, decide_eq_true_eq] at hs
  obtain ⟨⟨⟨hh, c1, c2⟩, c3, c4, c5⟩, ha, hl, hrow⟩ := hs
  have p1 : runB ⟨⟨⟨⟨a_1, a_2, a_3⟩, a_4⟩, n⟩, ⟨⟨a_6, a_7, a_8⟩, a_9⟩, l.take n.toNat⟩ = true := by
    simp only [runB, spanB, idB, Bool.and_eq_true, Bool.or_eq_true, decide_eq_true_eq]
    exact ⟨⟨⟨hh, c1, c2⟩, h1, by omega, by omega⟩, ha, by rw [List.length_take]; omega, rowB_take hrow _⟩
  have p2 : runB ⟨⟨⟨⟨a_1, a_2, a_3⟩, a_4 + n⟩, a_5 - n⟩, ⟨⟨a_1, a_2, a_3⟩, a_4 + (n - 1)⟩, l.drop n.toNat⟩ = true := by
    simp only [runB, spanB, idB, Bool.and_eq_true, Bool.or_eq_true, decide_eq_true_eq]
    exact ⟨⟨⟨hh, by omega, by omega⟩, by omega, by omega, by omega⟩, .inr ⟨⟨hh, by omega, by omega⟩, by omega⟩, by rw [List.length_drop]; omega, rowB_drop hrow _⟩
  refine ⟨p1, p2, ?_⟩
  unfold joinE
  rw [p1, p2]
  have hj : joinB ⟨⟨⟨⟨a_1, a_2, a_3⟩, a_4⟩, n⟩, ⟨⟨a_6, a_7, a_8⟩, a_9⟩, l.take n.toNat⟩ ⟨⟨⟨⟨a_1, a_2, a_3⟩, a_4 + n⟩, a_5 - n⟩, ⟨⟨a_1, a_2, a_3⟩, a_4 + (n - 1)⟩, l.drop n.toNat⟩ = true := by
    unfold joinB joinR nextI
    simp only [List.take_append_drop, decide_true, Bool.and_true]
    rw [show n + (a_5 - n) = a_5 by omega]
    exact h
  rw [hj]
  rfl

theorem cut_law (a_1 : UInt8) (a_2 : UInt32) (a_3 : UInt8) (a_4 : Int) (a_5 : Int) (a_6 : UInt8) (a_7 : UInt32) (a_8 : UInt8) (a_9 : Int) (n k : Int) {x : AV} {l : List Int} (hx : Sl 1 (rows l) x) (hk0 : -9223372036854775808 ≤ k) (hk1 : k ≤ 9223372036854775807) : limf env 4 [.agg [a8 a_1, a32 a_2, a8 a_3, aI a_4, aI a_5, a8 a_6, a32 a_7, a8 a_8, aI a_9, x], aI n, aI k] = some (aB true) := by
  refine limf_of (fn := Try.f4) (c := bd_blindstamplaw16_RunCut) rfl (by kernel_rfl) (by kernel_rfl) (by kernel_rfl) (by kernel_rfl) ?_; refine vc_blindstamplaw16_RunCut _ _ _ _ _ fun g => ?_
  have al := run_alive
  by_cases g1 : (1000 : Int) < l.length
  · simp [new_ne, ne_new, new_ne1, ne_new1, gen_put', *, VC_blindstamplaw16_RunCut, hx.r]
  have cut := s_RunCut a_1 a_2 a_3 a_4 a_5 a_6 a_7 a_8 a_9 n hx (by omega)
  by_cases hc : rcutE (⟨⟨⟨⟨a_1, a_2, a_3⟩, a_4⟩, a_5⟩, ⟨⟨a_6, a_7, a_8⟩, a_9⟩, l⟩ : Rn) n = 0
  · rw [if_pos hc] at cut
    have hb : runB (⟨⟨⟨⟨a_1, a_2, a_3⟩, a_4⟩, a_5⟩, ⟨⟨a_6, a_7, a_8⟩, a_9⟩, l⟩ : Rn) = true := by
      cases hb : runB (⟨⟨⟨⟨a_1, a_2, a_3⟩, a_4⟩, a_5⟩, ⟨⟨a_6, a_7, a_8⟩, a_9⟩, l⟩ : Rn) with
      | true => rfl
      | false => simp [rcutE, hb] at hc
    have hn : 1 ≤ n ∧ n < a_5 := by
      unfold rcutE at hc
      rw [if_pos hb] at hc
      simp only at hc
      split at hc
      · omega
      · omega
    obtain ⟨b1, b2, bj⟩ := run_parts a_1 a_2 a_3 a_4 a_5 a_6 a_7 a_8 a_9 hb hn.1 hn.2
    have hr := runB_n hb
    simp only at hr
    have hsn := spanB_n hr.1
    simp only at hsn
    have lt : ((l.take n.toNat).length : Int) = n := by rw [List.length_take]; omega
    have ld : ((l.drop n.toNat).length : Int) = a_5 - n := by rw [List.length_drop]; omega
    have s1 : Sl 1 (rows (l.take n.toNat)) (.isl 1 (rows (l.take n.toNat)) none) := Sl.mk _ _
    have s2 : Sl 1 (rows (l.drop n.toNat)) (.isl 1 (rows (l.drop n.toNat)) none) := Sl.mk _ _
    have j := s_RunJoin a_1 a_2 a_3 a_4 n a_6 a_7 a_8 a_9 a_1 a_2 a_3 (a_4 + n) (a_5 - n) a_1 a_2 a_3 (a_4 + (n - 1)) s1 s2 (by omega) (by omega)
    rw [if_pos bj, List.take_append_drop, show n + (a_5 - n) = a_5 by omega] at j
    have sm := s_RunSame a_1 a_2 a_3 a_4 a_5 a_6 a_7 a_8 a_9 a_1 a_2 a_3 a_4 a_5 a_6 a_7 a_8 a_9 (x := .isl 1 (rows l) none) (Sl.mk _ _) hx (by omega)
    have c1 := s_RunCheck a_1 a_2 a_3 a_4 n a_6 a_7 a_8 a_9 s1 (by omega)
    have c2 := s_RunCheck a_1 a_2 a_3 (a_4 + n) (a_5 - n) a_1 a_2 a_3 (a_4 + (n - 1)) s2 (by omega)
    have nt : rows (l.take n.toNat) ≠ [] := rows_ne (by omega)
    have nd : rows (l.drop n.toNat) ≠ [] := rows_ne (by omega)
    by_cases hk : 0 ≤ k ∧ k < a_5
    · have at1 := s_RunAt a_1 a_2 a_3 a_4 a_5 a_6 a_7 a_8 a_9 k hx (by omega) hb hk.1 hk.2
      have ev : ∃ v, l[k.toNat]? = some v := ⟨_, List.getElem?_eq_getElem (show k.toNat < l.length by omega)⟩
      obtain ⟨v, ev⟩ := ev
      rw [ev, Option.getD_some] at at1
      by_cases hkn : k < n
      · have at2 := s_RunAt a_1 a_2 a_3 a_4 n a_6 a_7 a_8 a_9 k s1 (by omega) b1 hk.1 hkn
        rw [List.getElem?_take, if_pos (show k.toNat < n.toNat by omega), ev, Option.getD_some] at at2
        clear lt ld hr hc hn hk
        by_cases hz : k = 0
        · rw [if_pos hz] at at1 at2
          subst hz
          simp [new_ne, ne_new, new_ne1, ne_new1, gen_put', *, VC_blindstamplaw16_RunCut, hx.r, eqA, eqFs, aR]
        · rw [if_neg hz] at at1 at2
          simp [new_ne, ne_new, new_ne1, ne_new1, gen_put', *, VC_blindstamplaw16_RunCut, hx.r, eqA, eqFs, aR]
      · have at2 := s_RunAt a_1 a_2 a_3 (a_4 + n) (a_5 - n) a_1 a_2 a_3 (a_4 + (n - 1)) (k - n) s2 (by omega) b2 (by omega) (by omega)
        rw [List.getElem?_drop, show n.toNat + (k - n).toNat = k.toNat by omega, ev, Option.getD_some, show a_4 + n + (k - n) = a_4 + k by omega] at at2
        rw [if_neg (show ¬ k = 0 by omega)] at at1
        have w := IntWalk.i64_in (k - n) (by omega)
        have hb2 : (if k - n = 0 then AV.agg [a8 a_1, a32 a_2, a8 a_3, aI (a_4 + (n - 1))] else AV.agg [a8 a_1, a32 a_2, a8 a_3, aI (a_4 + n + (k - n - 1))]) = AV.agg [a8 a_1, a32 a_2, a8 a_3, aI (a_4 + (k - 1))] := by
          split
          · rw [show a_4 + (n - 1) = a_4 + (k - 1) by omega]
          · rw [show a_4 + n + (k - n - 1) = a_4 + (k - 1) by omega]
        rw [hb2] at at2
        clear lt ld hr hc hn hk hb2
        simp [new_ne, ne_new, new_ne1, ne_new1, gen_put', *, VC_blindstamplaw16_RunCut, hx.r, eqA, eqFs, aR]
    · have at1 := s_RunAtE a_1 a_2 a_3 a_4 a_5 a_6 a_7 a_8 a_9 k hx (by omega) (fun h => hk h.2)
      rw [if_pos hb] at at1
      clear lt ld hr hc hn
      by_cases hk0 : k < 0
      · simp [new_ne, ne_new, new_ne1, ne_new1, gen_put', *, VC_blindstamplaw16_RunCut, hx.r, eqA, eqFs, aR]
      · have hk2 : a_5 ≤ k := by omega
        simp [new_ne, ne_new, new_ne1, ne_new1, gen_put', *, VC_blindstamplaw16_RunCut, hx.r, eqA, eqFs, aR]
  · rw [if_neg hc] at cut
    generalize rcutE (⟨⟨⟨⟨a_1, a_2, a_3⟩, a_4⟩, a_5⟩, ⟨⟨a_6, a_7, a_8⟩, a_9⟩, l⟩ : Rn) n = e at *
    simp [new_ne, ne_new, new_ne1, ne_new1, gen_put', *, VC_blindstamplaw16_RunCut, hx.r]


theorem join_law (a_1 : UInt8) (a_2 : UInt32) (a_3 : UInt8) (a_4 : Int) (a_5 : Int) (a_6 : UInt8) (a_7 : UInt32) (a_8 : UInt8) (a_9 : Int) (b_1 : UInt8) (b_2 : UInt32) (b_3 : UInt8) (b_4 : Int) (b_5 : Int) (b_6 : UInt8) (b_7 : UInt32) (b_8 : UInt8) (b_9 : Int) {x y : AV} {l m : List Int} (hx : Sl 1 (rows l) x) (hy : Sl 1 (rows m) y) : limf env 3 [.agg [a8 a_1, a32 a_2, a8 a_3, aI a_4, aI a_5, a8 a_6, a32 a_7, a8 a_8, aI a_9, x], .agg [a8 b_1, a32 b_2, a8 b_3, aI b_4, aI b_5, a8 b_6, a32 b_7, a8 b_8, aI b_9, y]] = some (aB true) := by
  refine limf_of (fn := Try.f3) (c := bd_blindstamplaw16_RunJoin) rfl (by kernel_rfl) (by kernel_rfl) (by kernel_rfl) (by kernel_rfl) ?_; refine vc_blindstamplaw16_RunJoin _ _ _ _ fun g => ?_
  have al := run_alive
  by_cases g1 : (1000 : Int) < l.length
  · simp [new_ne, ne_new, new_ne1, ne_new1, gen_put', *, VC_blindstamplaw16_RunJoin, hx.r, hy.r]
  by_cases g2 : (1000 : Int) < m.length
  · simp [new_ne, ne_new, new_ne1, ne_new1, gen_put', *, VC_blindstamplaw16_RunJoin, hx.r, hy.r]
  have j := s_RunJoin a_1 a_2 a_3 a_4 a_5 a_6 a_7 a_8 a_9 b_1 b_2 b_3 b_4 b_5 b_6 b_7 b_8 b_9 hx hy (by omega) (by omega)
  by_cases hj : joinE (⟨⟨⟨⟨a_1, a_2, a_3⟩, a_4⟩, a_5⟩, ⟨⟨a_6, a_7, a_8⟩, a_9⟩, l⟩ : Rn) (⟨⟨⟨⟨b_1, b_2, b_3⟩, b_4⟩, b_5⟩, ⟨⟨b_6, b_7, b_8⟩, b_9⟩, m⟩ : Rn) = 0
  · rw [if_pos hj] at j
    have hb : runB (⟨⟨⟨⟨a_1, a_2, a_3⟩, a_4⟩, a_5⟩, ⟨⟨a_6, a_7, a_8⟩, a_9⟩, l⟩ : Rn) = true ∧ runB (⟨⟨⟨⟨b_1, b_2, b_3⟩, b_4⟩, b_5⟩, ⟨⟨b_6, b_7, b_8⟩, b_9⟩, m⟩ : Rn) = true ∧ joinB (⟨⟨⟨⟨a_1, a_2, a_3⟩, a_4⟩, a_5⟩, ⟨⟨a_6, a_7, a_8⟩, a_9⟩, l⟩ : Rn) (⟨⟨⟨⟨b_1, b_2, b_3⟩, b_4⟩, b_5⟩, ⟨⟨b_6, b_7, b_8⟩, b_9⟩, m⟩ : Rn) = true := by
      unfold joinE at hj
      cases h1 : runB (⟨⟨⟨⟨a_1, a_2, a_3⟩, a_4⟩, a_5⟩, ⟨⟨a_6, a_7, a_8⟩, a_9⟩, l⟩ : Rn) <;> cases h2 : runB (⟨⟨⟨⟨b_1, b_2, b_3⟩, b_4⟩, b_5⟩, ⟨⟨b_6, b_7, b_8⟩, b_9⟩, m⟩ : Rn) <;> cases h3 : joinB (⟨⟨⟨⟨a_1, a_2, a_3⟩, a_4⟩, a_5⟩, ⟨⟨a_6, a_7, a_8⟩, a_9⟩, l⟩ : Rn) (⟨⟨⟨⟨b_1, b_2, b_3⟩, b_4⟩, b_5⟩, ⟨⟨b_6, b_7, b_8⟩, b_9⟩, m⟩ : Rn) <;> simp [h1, h2, h3] at hj ⊢
    obtain ⟨h1, h2, h3⟩ := hb
    have ra := runB_n h1
    have rb := runB_n h2
    simp only at ra rb
    have na := spanB_n ra.1
    have nb := spanB_n rb.1
    simp only at na nb
    unfold joinB at h3
    rw [Bool.and_eq_true, Bool.and_eq_true] at h3
    obtain ⟨h3, h4, h5⟩ := h3
    have k4 := of_decide_eq_true h4
    have k5 := of_decide_eq_true h5
    clear h4 h5
    simp only [nextI, Idd.mk.injEq, Han.mk.injEq] at k4 k5
    obtain ⟨⟨e1, e2, e3⟩, rfl⟩ := k4
    obtain ⟨⟨e4, e5, e6⟩, rfl⟩ := k5
    replace e1 := e1.symm
    replace e2 := e2.symm
    replace e3 := e3.symm
    replace e4 := e4.symm
    replace e5 := e5.symm
    replace e6 := e6.symm
    subst e1 e2 e3 e4 e5 e6
    have sj : Sl 1 (rows (l ++ m)) (.isl 1 (rows (l ++ m)) none) := Sl.mk _ _
    have c := s_RunCut a_1 a_2 a_3 a_4 (a_5 + b_5) a_6 a_7 a_8 a_9 a_5 sj (by simp; omega)
    have t1 : (l ++ m).take a_5.toNat = l := by
      rw [show a_5.toNat = l.length by omega, List.take_left']
      rfl
    have t2 : (l ++ m).drop a_5.toNat = m := by
      rw [show a_5.toNat = l.length by omega, List.drop_left']
      rfl
    have ce : rcutE ⟨⟨⟨⟨a_1, a_2, a_3⟩, a_4⟩, a_5 + b_5⟩, ⟨⟨a_6, a_7, a_8⟩, a_9⟩, l ++ m⟩ a_5 = 0 := by
      unfold rcutE
      rw [if_pos (show runB ⟨⟨⟨⟨a_1, a_2, a_3⟩, a_4⟩, a_5 + b_5⟩, ⟨⟨a_6, a_7, a_8⟩, a_9⟩, l ++ m⟩ = true from h3), if_neg]
      simp only
      omega
    rw [t1, t2, show a_5 + b_5 - a_5 = b_5 by omega, if_pos ce] at c
    have q1 := s_RunSame a_1 a_2 a_3 a_4 a_5 a_6 a_7 a_8 a_9 a_1 a_2 a_3 a_4 a_5 a_6 a_7 a_8 a_9 (x := .isl 1 (rows l) none) (Sl.mk _ _) hx (by omega)
    have q2 := s_RunSame a_1 a_2 a_3 (a_4 + a_5) b_5 a_1 a_2 a_3 (a_4 + (a_5 - 1)) a_1 a_2 a_3 (a_4 + a_5) b_5 a_1 a_2 a_3 (a_4 + (a_5 - 1)) (x := .isl 1 (rows m) none) (Sl.mk _ _) hy (by omega)
    have n1 : rows l ≠ [] := rows_ne (by omega)
    have n2 : rows m ≠ [] := rows_ne (by omega)
    clear ra rb na nb t1 t2
    simp [new_ne, ne_new, new_ne1, ne_new1, gen_put', *, VC_blindstamplaw16_RunJoin, hx.r, hy.r, eqA, eqFs]
  · rw [if_neg hj] at j
    generalize joinE (⟨⟨⟨⟨a_1, a_2, a_3⟩, a_4⟩, a_5⟩, ⟨⟨a_6, a_7, a_8⟩, a_9⟩, l⟩ : Rn) (⟨⟨⟨⟨b_1, b_2, b_3⟩, b_4⟩, b_5⟩, ⟨⟨b_6, b_7, b_8⟩, b_9⟩, m⟩ : Rn) = e at *
    simp [new_ne, ne_new, new_ne1, ne_new1, gen_put', *, VC_blindstamplaw16_RunJoin, hx.r, hy.r]
end Go.Proofs.Ytjampffmlnplcaa
