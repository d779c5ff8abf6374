/-
  The document's answers on ids, runes and operations. No statement of a seat is proved here.
-/
import Derived.Test.YtehkjjcdkbcebaaOpPutA
import Derived.Test.YtehkjjcdkbcebaaOnVc4
set_option linter.unusedVariables false
set_option linter.unusedSimpArgs false
set_option linter.unnecessarySimpa false
set_option maxRecDepth 100000
namespace Go.Proofs.Ytehkjjcdkbcebaa
open Go.Ab
attribute [local simp] depth_eq callRes_V callG_data callG_frz callG_own keep thr appRes_G appFine_n appFine_s appG_n appG_s roomB appRes_I islFine_some islG_ne List.take_of_length_le sB_lit

@[simp] theorem s_R1May (a : UInt8) (b : UInt32) : limf env 106 [.agg [a8 a, a32 b]] = some (aB (decide (a ≤ 15))) := by
  refine limf_of (fn := Try.f106) (c := bd_q1_May) rfl (by kernel_rfl) (by kernel_rfl) (by kernel_rfl) (by kernel_rfl) ?_; refine vc_q1_May _ _ _ fun g => ?_
  simp [new_ne, ne_new, new_ne1, ne_new1, gen_put', *, VC_q1_May]
@[simp] theorem s_RMayHandle (a : UInt8) (b : UInt32) (n : UInt8) : limf env 101 [.agg [a8 a, a32 b, a8 n]] = some (aB (handB ⟨a, b, n⟩)) := by
  refine limf_of (fn := Try.f101) (c := bd_q5_MayHandle) rfl (by kernel_rfl) (by kernel_rfl) (by kernel_rfl) (by kernel_rfl) ?_; refine vc_q5_MayHandle _ _ _ fun g => ?_
  simp [new_ne, ne_new, new_ne1, ne_new1, gen_put', *, VC_q5_MayHandle, handB]
  repeat' ((first | refine br_of (fun h => ?_) (fun h => ?_) | refine gQ_oft (fun h => ?_) (fun h => ?_) | refine gQ_off (fun h => ?_) (fun h => ?_) | refine gW_oft (fun h => ?_) (fun h => ?_) | refine gW_off (fun h => ?_) (fun h => ?_)) <;> (try simp only [decide_eq_true_eq, decide_eq_false_iff_not, Bool.not_eq_true', Bool.not_eq_false', Bool.and_eq_true, Bool.or_eq_true] at h) <;> (try simp [new_ne, ne_new, new_ne1, ne_new1, gen_put', *]))
@[simp] theorem s_R5May (a : UInt8) (b : UInt32) (n : UInt8) (k : Int) : limf env 104 [.agg [a8 a, a32 b, a8 n, aI k]] = some (aB (idB ⟨⟨a, b, n⟩, k⟩)) := by
  refine limf_of (fn := Try.f104) (c := bd_q5_May) rfl (by kernel_rfl) (by kernel_rfl) (by kernel_rfl) (by kernel_rfl) ?_; refine vc_q5_May _ _ _ fun g => ?_
  simp [new_ne, ne_new, new_ne1, ne_new1, gen_put', *, VC_q5_May, idB]
  repeat' ((first | refine br_of (fun h => ?_) (fun h => ?_) | refine gQ_oft (fun h => ?_) (fun h => ?_) | refine gQ_off (fun h => ?_) (fun h => ?_) | refine gW_oft (fun h => ?_) (fun h => ?_) | refine gW_off (fun h => ?_) (fun h => ?_)) <;> (try simp only [decide_eq_true_eq, decide_eq_false_iff_not, Bool.not_eq_true', Bool.not_eq_false', Bool.and_eq_true, Bool.or_eq_true] at h) <;> (try simp [new_ne, ne_new, new_ne1, ne_new1, gen_put', *]))
@[simp] theorem s_RMaySpan (a : UInt8) (b : UInt32) (n : UInt8) (k m : Int) : limf env 102 [.agg [a8 a, a32 b, a8 n, aI k, aI m]] = some (aB (spanB ⟨⟨⟨a, b, n⟩, k⟩, m⟩)) := by
  refine limf_of (fn := Try.f102) (c := bd_q5_MaySpan) rfl (by kernel_rfl) (by kernel_rfl) (by kernel_rfl) (by kernel_rfl) ?_; refine vc_q5_MaySpan _ _ _ fun g => ?_
  cases hb : idB ⟨⟨a, b, n⟩, k⟩ with
  | false => simp [new_ne, ne_new, new_ne1, ne_new1, gen_put', *, VC_q5_MaySpan, spanB]
  | true =>
    have hn := idB_n hb
    simp only at hn
    by_cases h1 : 1 ≤ m
    · by_cases h2 : m ≤ 64
      · have w1 := IntWalk.i64_in (1099511627777 - m) (by omega)
        have e : decide (k + m - 1 ≤ 1099511627776) = decide (k ≤ 1099511627777 - m) := by
          by_cases h : k ≤ 1099511627777 - m
          · rw [decide_eq_true h, decide_eq_true (by omega)]
          · rw [decide_eq_false h, decide_eq_false (by omega)]
        simp [new_ne, ne_new, new_ne1, ne_new1, gen_put', *, VC_q5_MaySpan, spanB]
      · simp [new_ne, ne_new, new_ne1, ne_new1, gen_put', *, VC_q5_MaySpan, spanB]
    · simp [new_ne, ne_new, new_ne1, ne_new1, gen_put', *, VC_q5_MaySpan, spanB]
@[simp] theorem s_R9zero (a : UInt8) (b : UInt32) (n : UInt8) (k : Int) : limf env 103 [.agg [a8 a, a32 b, a8 n, aI k]] = some (aB (zeroA ⟨⟨a, b, n⟩, k⟩)) := by
  refine limf_of (fn := Try.f103) (c := bd_q9_zero) rfl (by kernel_rfl) (by kernel_rfl) (by kernel_rfl) (by kernel_rfl) ?_; refine vc_q9_zero _ _ _ fun g => ?_
  simp [new_ne, ne_new, new_ne1, ne_new1, gen_put', *, VC_q9_zero, eqA, eqFs, zeroA]
@[simp] theorem s_R4Is (n : Int) : limf env 110 [aI n] = some (aB (validB n)) := by
  refine limf_of (fn := Try.f110) (c := bd_q4_Is) rfl (by kernel_rfl) (by kernel_rfl) (by kernel_rfl) (by kernel_rfl) ?_; refine vc_q4_Is _ _ _ fun g => ?_
  have e : validB n = (decide (0 ≤ n) && (decide (n ≤ 1114111) && (decide (n < 55296) || decide (57343 < n)))) := by
    unfold validB
    rw [Bool.eq_iff_iff]
    simp only [Bool.or_eq_true, Bool.and_eq_true, decide_eq_true_eq]
    omega
  rw [e]
  simp [new_ne, ne_new, new_ne1, ne_new1, gen_put', *, VC_q4_Is]
  repeat' ((first | refine br_of (fun h => ?_) (fun h => ?_) | refine gQ_oft (fun h => ?_) (fun h => ?_) | refine gQ_off (fun h => ?_) (fun h => ?_) | refine gW_oft (fun h => ?_) (fun h => ?_) | refine gW_off (fun h => ?_) (fun h => ?_)) <;> (try simp only [decide_eq_true_eq, decide_eq_false_iff_not, Bool.not_eq_true', Bool.not_eq_false', Bool.and_eq_true, Bool.or_eq_true] at h) <;> (try simp [new_ne, ne_new, new_ne1, ne_new1, gen_put', *]))
theorem r4check_loop {l : List Int} {x0 : AV} (hx : Sl 1 (rows l) x0) (hl : l.length < 4611686018427387904) (hR : ∀ a ∈ l, -2147483648 ≤ a ∧ a ≤ 2147483647) {Q : AV → Heap → Prop} {H : Heap} :
    ∀ (s : List Int) (k : Nat) (i : Int), l.drop k = s → k ≤ l.length → i = k → (∀ y, y = aI (bad (s.all runeB)) → Q y H) →
    GoL env Try.f105 0 hd_q4_Check_4 [(3, aI i), (0, x0)] H Q := by
  intro s
  induction s with
  | nil =>
    rintro k i hs hk rfl hQ
    obtain rfl := drop_nil hs hk
    refine vc_q4_Check_4 _ _ _ _ fun g => ?_
    simp [new_ne, ne_new, new_ne1, ne_new1, gen_put', *, VC_q4_Check_4, hx.r]
    all_goals exact hQ _ rfl
  | cons a s ih =>
    rintro k i hs hk rfl hQ
    obtain ⟨hlt, hg, hs', hg'⟩ := drop_cons hs
    have ha := hR a (by rw [← hg]; exact List.getElem_mem _)
    refine vc_q4_Check_4 _ _ _ _ fun g => ?_
    have e3 := IntWalk.i64_in ((k : Int) + 1) (by omega)
    have e4 := IntWalk.i64_in a (by omega)
    have hrb : runeB a = (decide (a = -1) || validB a) := by simp [runeB, validB, Bool.or_assoc]
    by_cases h1 : a = -1
    · subst h1
      have hQ' : ∀ y, y = aI (bad (s.all runeB)) → Q y H := fun y e => hQ y (by rw [e]; simp [runeB])
      clear hQ
      simp [new_ne, ne_new, new_ne1, ne_new1, gen_put', *, VC_q4_Check_4, hx.r, hx.idx, aR]
      exact ih (k + 1) _ hs' (by omega) (by simp) hQ'
    · cases hv : validB a with
      | true =>
        have hQ' : ∀ y, y = aI (bad (s.all runeB)) → Q y H := fun y e => hQ y (by rw [e]; simp [hrb, hv])
        clear hQ hrb
        simp [new_ne, ne_new, new_ne1, ne_new1, gen_put', *, VC_q4_Check_4, hx.r, hx.idx, aR]
        exact ih (k + 1) _ hs' (by omega) (by simp) hQ'
      | false =>
        have hQ' : ∀ y, y = aI 8 → Q y H := fun y e => hQ y (by rw [e]; simp [hrb, hv, h1])
        clear hQ hrb
        simp [new_ne, ne_new, new_ne1, ne_new1, gen_put', *, VC_q4_Check_4, hx.r, hx.idx, aR]
        all_goals exact hQ' _ rfl
theorem s_R4Check {l : List Int} {x : AV} (hx : Sl 1 (rows l) x) (hl : l.length < 4611686018427387904) (hR : ∀ a ∈ l, -2147483648 ≤ a ∧ a ≤ 2147483647) : limf env 105 [x] = some (aI (rowE l)) := by
  refine limf_of (fn := Try.f105) (c := bd_q4_Check) rfl (by kernel_rfl) (by kernel_rfl) (by kernel_rfl) (by kernel_rfl) ?_; refine vc_q4_Check _ _ _ fun g => ?_
  by_cases h64 : 64 < l.length
  · have : (64 : Int) < l.length := by omega
    simp [new_ne, ne_new, new_ne1, ne_new1, gen_put', *, VC_q4_Check, rowE, hx.r]
  · have : ¬ (64 : Int) < l.length := by omega
    have e : rowE l = bad (l.all runeB) := by unfold rowE bad; rw [if_neg h64]
    simp [new_ne, ne_new, new_ne1, ne_new1, gen_put', *, VC_q4_Check, hx.r]
    exact r4check_loop hx hl hR l 0 _ rfl (by omega) rfl (fun y e => by simp [e])
theorem s_R9May (a_1 : UInt8) (a_2 : UInt8) (a_3 : UInt32) (a_4 : UInt8) (a_5 : Int) (a_6 : UInt8) (a_7 : UInt32) (a_8 : UInt8) (a_9 : Int) (a_10 : Int) (a_11 : UInt8) (a_12 : UInt32) (a_13 : UInt8) (a_14 : Int) (a_15 : UInt8) (a_16 : UInt32) {x : AV} {l : List Int} (hx : Sl 1 (rows l) x) (hl : l.length < 2000000) (hR : ∀ a ∈ l, -2147483648 ≤ a ∧ a ≤ 2147483647) : limf env 65 [.agg [a8 a_1, a8 a_2, a32 a_3, a8 a_4, aI a_5, a8 a_6, a32 a_7, a8 a_8, aI a_9, aI a_10, a8 a_11, a32 a_12, a8 a_13, aI a_14, a8 a_15, a32 a_16, x]] = some (aB (opB (⟨a_1, ⟨a_2, a_3, a_4⟩, a_5, ⟨⟨⟨a_6, a_7, a_8⟩, a_9⟩, a_10⟩, ⟨⟨a_11, a_12, a_13⟩, a_14⟩, ⟨a_15, a_16⟩, l⟩ : Opn))) := by
  refine limf_of (fn := Try.f65) (c := bd_q9_May) rfl (by kernel_rfl) (by kernel_rfl) (by kernel_rfl) (by kernel_rfl) ?_; refine vc_q9_May _ _ _ fun g => ?_
  have h3 := s_R4Check hx (by omega) hR
  have h4 := rowE_zero l
  unfold opB
  cases c1 : handB ⟨a_2, a_3, a_4⟩ with
  | false => simp [new_ne, ne_new, new_ne1, ne_new1, gen_put', *, VC_q9_May, hx.r]
  | true =>
  rcases Int.lt_or_le a_5 1 with c2' | c2
  · have c2 : ¬ 1 ≤ a_5 := by omega
    simp [new_ne, ne_new, new_ne1, ne_new1, gen_put', *, VC_q9_May, hx.r]
  have c2' : ¬ a_5 < 1 := by omega
  rcases Int.lt_or_le a_5 16777216 with c3 | c3'
  rotate_left
  · have c3 : ¬ a_5 < 16777216 := by omega
    simp [new_ne, ne_new, new_ne1, ne_new1, gen_put', *, VC_q9_May, hx.r]
  have c3' : ¬ 16777216 ≤ a_5 := by omega
  cases c4 : spanB ⟨⟨⟨a_6, a_7, a_8⟩, a_9⟩, a_10⟩ with
  | false => simp [new_ne, ne_new, new_ne1, ne_new1, gen_put', *, VC_q9_May, hx.r]
  | true =>
  by_cases k1 : a_1 = 1
  · subst k1
    unfold mayB
    simp only [insB, if_true]
    cases hz : zeroL (⟨a_15, a_16⟩ : Lab) with
    | false =>
      unfold zeroL at hz
      simp [new_ne, ne_new, new_ne1, ne_new1, gen_put', *, VC_q9_May, hx.r, eqA, eqFs]
    | true =>
      unfold zeroL at hz
      cases hS : sameH ⟨a_6, a_7, a_8⟩ ⟨a_2, a_3, a_4⟩ with
      | false =>
        unfold sameH at hS
        cases hA : zeroA (⟨⟨a_11, a_12, a_13⟩, a_14⟩ : Idd) with
        | false => cases hI : idB (⟨⟨a_11, a_12, a_13⟩, a_14⟩ : Idd) <;> simp [new_ne, ne_new, new_ne1, ne_new1, gen_put', *, VC_q9_May, hx.r, eqA, eqFs]
        | true => simp [new_ne, ne_new, new_ne1, ne_new1, gen_put', *, VC_q9_May, hx.r, eqA, eqFs]
      | true =>
        unfold sameH at hS
        by_cases hL : (l.length : Int) = a_10
        · cases hA : zeroA (⟨⟨a_11, a_12, a_13⟩, a_14⟩ : Idd) with
          | false => cases hI : idB (⟨⟨a_11, a_12, a_13⟩, a_14⟩ : Idd) <;> simp [new_ne, ne_new, new_ne1, ne_new1, gen_put', *, VC_q9_May, hx.r, eqA, eqFs]
          | true => simp [new_ne, ne_new, new_ne1, ne_new1, gen_put', *, VC_q9_May, hx.r, eqA, eqFs]
        · cases hA : zeroA (⟨⟨a_11, a_12, a_13⟩, a_14⟩ : Idd) with
          | false => cases hI : idB (⟨⟨a_11, a_12, a_13⟩, a_14⟩ : Idd) <;> simp [new_ne, ne_new, new_ne1, ne_new1, gen_put', *, VC_q9_May, hx.r, eqA, eqFs]
          | true => simp [new_ne, ne_new, new_ne1, ne_new1, gen_put', *, VC_q9_May, hx.r, eqA, eqFs]
  · by_cases hb : bareB (⟨a_1, ⟨a_2, a_3, a_4⟩, a_5, ⟨⟨⟨a_6, a_7, a_8⟩, a_9⟩, a_10⟩, ⟨⟨a_11, a_12, a_13⟩, a_14⟩, ⟨a_15, a_16⟩, l⟩ : Opn) = true
    · have hb2 := hb
      simp only [bareB, Bool.and_eq_true, decide_eq_true_eq] at hb2
      obtain ⟨hA, hl0⟩ := hb2
      subst hl0
      unfold mayB
      by_cases k2 : a_1 = 2
      · subst k2
        simp only [delB, if_true]
        cases hz : zeroL (⟨a_15, a_16⟩ : Lab) with
        | false =>
          unfold zeroL at hz
          simp [new_ne, ne_new, new_ne1, ne_new1, gen_put', *, VC_q9_May, hx.r, eqA, eqFs]
        | true =>
          unfold zeroL at hz
          simp [new_ne, ne_new, new_ne1, ne_new1, gen_put', *, VC_q9_May, hx.r, eqA, eqFs]
      · by_cases k3 : a_1 = 3
        · subst k3
          simp only [raiB, if_true]
          simp [new_ne, ne_new, new_ne1, ne_new1, gen_put', *, VC_q9_May, hx.r, eqA, eqFs]
        · simp [new_ne, ne_new, new_ne1, ne_new1, gen_put', *, VC_q9_May, hx.r, eqA, eqFs]
    · have hm : mayB (⟨a_1, ⟨a_2, a_3, a_4⟩, a_5, ⟨⟨⟨a_6, a_7, a_8⟩, a_9⟩, a_10⟩, ⟨⟨a_11, a_12, a_13⟩, a_14⟩, ⟨a_15, a_16⟩, l⟩ : Opn) = false := by
        have hb' : bareB (⟨a_1, ⟨a_2, a_3, a_4⟩, a_5, ⟨⟨⟨a_6, a_7, a_8⟩, a_9⟩, a_10⟩, ⟨⟨a_11, a_12, a_13⟩, a_14⟩, ⟨a_15, a_16⟩, l⟩ : Opn) = false := by simpa using hb
        unfold mayB delB raiB
        rw [hb']
        simp [k1]
      simp only [bareB, Bool.and_eq_true, decide_eq_true_eq, not_and] at hb
      cases hA : zeroA (⟨⟨a_11, a_12, a_13⟩, a_14⟩ : Idd) with
      | false =>
        clear hb
        simp [new_ne, ne_new, new_ne1, ne_new1, gen_put', *, VC_q9_May, hx.r, eqA, eqFs]
      | true =>
        have hl0 : 0 < l.length := List.length_pos_iff.2 (hb hA)
        have hl1 : ¬ l = [] := hb hA
        clear hb
        simp [new_ne, ne_new, new_ne1, ne_new1, gen_put', *, VC_q9_May, hx.r, eqA, eqFs]
end Go.Proofs.Ytehkjjcdkbcebaa
