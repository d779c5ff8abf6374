/-
  How many bytes an operation has: the law's own run. No statement of a seat is proved here.
-/
import Derived.Test.YtehkjjcdkbcebaaOpLaw3
import Derived.Test.YtehkjjcdkbcebaaOmVl4
set_option linter.unusedVariables false
set_option linter.unusedSimpArgs false
set_option linter.unusedSectionVars false
set_option linter.unnecessarySimpa false
set_option maxRecDepth 100000
namespace Go.Proofs.Ytehkjjcdkbcebaa
open Go.Ab
attribute [local simp] depth_eq callRes_V callG_data callG_frz callG_own keep thr appRes_G appFine_n appFine_s appG_n appG_s roomB appRes_I islFine_some islG_ne List.take_of_length_le sB_lit

theorem s_OpSize {k : UInt8} {m : Int} (hk : k = 1 ∨ k = 2 ∨ k = 3) (h1 : 1 ≤ m) (h64 : m ≤ 64) : limf env 17 [a8 k, aI m] = some (aI (if k = 1 then 37 + 4 * m else if k = 3 then 29 else 24)) := by
  refine limf_of (fn := Try.f17) (c := bd_op_Size) rfl (by kernel_rfl) (by kernel_rfl) (by kernel_rfl) (by kernel_rfl) ?_; refine vc_op_Size _ _ _ _ fun g => ?_
  have h4 := s_parts
  have g1 : ¬ m < 1 := by omega
  have g2 : ¬ 64 < m := by omega
  have f4 : limf env 93 [aI m] = some (aI (13 + 4 * m)) := by
    refine limf_of (fn := Try.f93) (c := bd_op_partsF4) rfl (by kernel_rfl) (by kernel_rfl) (by kernel_rfl) (by kernel_rfl) ?_; refine vc_op_partsF4 _ _ _ fun g => ?_
    have w1 := IntWalk.i64_in (4 * m) (by omega)
    have w2 := IntWalk.i64_in (13 + 4 * m) (by omega)
    simp [new_ne, ne_new, new_ne1, ne_new1, gen_put', *, VC_op_partsF4]
  have f6 : limf env 95 [aI m] = some (aI 0) := by
    refine limf_of (fn := Try.f95) (c := bd_op_partsF6) rfl (by kernel_rfl) (by kernel_rfl) (by kernel_rfl) (by kernel_rfl) ?_; refine vc_op_partsF6 _ _ _ fun g => ?_
    simp [new_ne, ne_new, new_ne1, ne_new1, gen_put', *, VC_op_partsF6]
  have f8 : limf env 98 [aI m] = some (aI 5) := by
    refine limf_of (fn := Try.f98) (c := bd_op_partsF8) rfl (by kernel_rfl) (by kernel_rfl) (by kernel_rfl) (by kernel_rfl) ?_; refine vc_op_partsF8 _ _ _ fun g => ?_
    simp [new_ne, ne_new, new_ne1, ne_new1, gen_put', *, VC_op_partsF8]
  have w3 := IntWalk.i64_in (37 + 4 * m) (by omega)
  have e3 : 24 + (13 + 4 * m) = 37 + 4 * m := by omega
  rcases hk with rfl | rfl | rfl
  · simp [new_ne, ne_new, new_ne1, ne_new1, gen_put', *, VC_op_Size, partsV, qIndex_a8, partAV_r]
  · simp [new_ne, ne_new, new_ne1, ne_new1, gen_put', *, VC_op_Size, partsV, qIndex_a8, partAV_r]
  · simp [new_ne, ne_new, new_ne1, ne_new1, gen_put', *, VC_op_Size, partsV, qIndex_a8, partAV_r]
theorem long_law (a_1 : UInt8) (a_2 : UInt8) (a_3 : UInt32) (a_4 : UInt8) (a_5 : Int) (a_6 : UInt8) (a_7 : UInt32) (a_8 : UInt8) (a_9 : Int) (a_10 : Int) (a_11 : UInt8) (a_12 : UInt32) (a_13 : UInt8) (a_14 : Int) (a_15 : UInt8) (a_16 : UInt32) {x y : AV} {l m : List Int} (k : Int) (hx : Sl 1 (rows l) x) (hy : Sl 1 (rows m) y) : limf env 4 [.agg [a8 a_1, a8 a_2, a32 a_3, a8 a_4, aI a_5, a8 a_6, a32 a_7, a8 a_8, aI a_9, aI a_10, a8 a_11, a32 a_12, a8 a_13, aI a_14, a8 a_15, a32 a_16, x], y, aI k] = some (aB true) := by
  refine limf_of (fn := Try.f4) (c := bd_blindstamplaw09_OpLong) rfl (by kernel_rfl) (by kernel_rfl) (by kernel_rfl) (by kernel_rfl) ?_; refine vc_blindstamplaw09_OpLong _ _ _ _ _ fun g => ?_
  have al := op_alive
  by_cases g1 : (1000 : Int) < l.length
  · simp [new_ne, ne_new, new_ne1, ne_new1, gen_put', *, VC_blindstamplaw09_OpLong, hx.r]
  by_cases g2 : (m.length : Int) < l.length
  · simp [new_ne, ne_new, new_ne1, ne_new1, gen_put', *, VC_blindstamplaw09_OpLong, hx.r, hy.r]
  have hput := s_OpPut a_1 a_2 a_3 a_4 a_5 a_6 a_7 a_8 a_9 a_10 a_11 a_12 a_13 a_14 a_15 a_16 hx (by omega)
  cases ho : opB (⟨a_1, ⟨a_2, a_3, a_4⟩, a_5, ⟨⟨⟨a_6, a_7, a_8⟩, a_9⟩, a_10⟩, ⟨⟨a_11, a_12, a_13⟩, a_14⟩, ⟨a_15, a_16⟩, l⟩ : Opn) with
  | false =>
    rw [putA, ho, if_neg (by decide)] at hput
    simp [new_ne, ne_new, new_ne1, ne_new1, gen_put', *, VC_blindstamplaw09_OpLong, hx.r, hy.r]
  | true =>
    rw [putA, ho, if_pos rfl] at hput
    have hlen := opBytes_len ho
    have hp := opB_parts ho
    have hsk := sizeK_le ho
    have hs := s_OpSize (k := a_1) (m := a_10) (by rcases hp.2.2.2.2.2 with ⟨h, _⟩ | ⟨h, _⟩ | ⟨h, _⟩ <;> simp only at h <;> simp [h]) hp.2.2.2.1 hp.2.2.2.2.1
    have hsz : (if a_1 = 1 then 37 + 4 * a_10 else if a_1 = 3 then 29 else 24) = ((sizeK (⟨a_1, ⟨a_2, a_3, a_4⟩, a_5, ⟨⟨⟨a_6, a_7, a_8⟩, a_9⟩, a_10⟩, ⟨⟨a_11, a_12, a_13⟩, a_14⟩, ⟨a_15, a_16⟩, l⟩ : Opn) : Nat) : Int) := by
      have h1 := hp.2.2.2.1
      simp only at h1
      show _ = (((if a_1 = 1 then 37 + 4 * a_10.toNat else if a_1 = 3 then 29 else 24) : Nat) : Int)
      split
      · omega
      · split <;> rfl
    rw [hsz] at hs
    have hlX : (by8 (opBytes (⟨a_1, ⟨a_2, a_3, a_4⟩, a_5, ⟨⟨⟨a_6, a_7, a_8⟩, a_9⟩, a_10⟩, ⟨⟨a_11, a_12, a_13⟩, a_14⟩, ⟨a_15, a_16⟩, l⟩ : Opn))).length = sizeK (⟨a_1, ⟨a_2, a_3, a_4⟩, a_5, ⟨⟨⟨a_6, a_7, a_8⟩, a_9⟩, a_10⟩, ⟨⟨a_11, a_12, a_13⟩, a_14⟩, ⟨a_15, a_16⟩, l⟩ : Opn) := by simpa using hlen
    have hsh : ∀ j : Nat, j < sizeK (⟨a_1, ⟨a_2, a_3, a_4⟩, a_5, ⟨⟨⟨a_6, a_7, a_8⟩, a_9⟩, a_10⟩, ⟨⟨a_11, a_12, a_13⟩, a_14⟩, ⟨a_15, a_16⟩, l⟩ : Opn) → limf env 15 [.isl 1 ((by8 (opBytes (⟨a_1, ⟨a_2, a_3, a_4⟩, a_5, ⟨⟨⟨a_6, a_7, a_8⟩, a_9⟩, a_10⟩, ⟨⟨a_11, a_12, a_13⟩, a_14⟩, ⟨a_15, a_16⟩, l⟩ : Opn))).take j) none] = some getZ := by
      intro j hj
      have h1 := raw_short ho (k := j) (by omega)
      have e : (by8 (opBytes (⟨a_1, ⟨a_2, a_3, a_4⟩, a_5, ⟨⟨⟨a_6, a_7, a_8⟩, a_9⟩, a_10⟩, ⟨⟨a_11, a_12, a_13⟩, a_14⟩, ⟨a_15, a_16⟩, l⟩ : Opn))).take j = by8 ((opBytes (⟨a_1, ⟨a_2, a_3, a_4⟩, a_5, ⟨⟨⟨a_6, a_7, a_8⟩, a_9⟩, a_10⟩, ⟨⟨a_11, a_12, a_13⟩, a_14⟩, ⟨a_15, a_16⟩, l⟩ : Opn)).take j) := by simp [by8]
      rw [e, s_OpGet (l := (opBytes (⟨a_1, ⟨a_2, a_3, a_4⟩, a_5, ⟨⟨⟨a_6, a_7, a_8⟩, a_9⟩, a_10⟩, ⟨⟨a_11, a_12, a_13⟩, a_14⟩, ⟨a_15, a_16⟩, l⟩ : Opn)).take j) (Sl.mk _ _) (by simp; omega), getAns, h1]
      rfl
    have hll : (m.take l.length).length = l.length := by simp; omega
    have hput2 : ∀ x2, Sl 1 (rows (m.take l.length)) x2 → ∃ z n, limf env 14 [.agg [a8 a_1, a8 a_2, a32 a_3, a8 a_4, aI a_5, a8 a_6, a32 a_7, a8 a_8, aI a_9, aI a_10, a8 a_11, a32 a_12, a8 a_13, aI a_14, a8 a_15, a32 a_16, x2]] = some (.tup [z, aI n]) ∧ (z = aNil ∧ n = 8 ∨ n = 0 ∧ ∃ X2, z = .isl 1 X2 none ∧ X2.length = sizeK (⟨a_1, ⟨a_2, a_3, a_4⟩, a_5, ⟨⟨⟨a_6, a_7, a_8⟩, a_9⟩, a_10⟩, ⟨⟨a_11, a_12, a_13⟩, a_14⟩, ⟨a_15, a_16⟩, l⟩ : Opn)) := by
      intro x2 h2
      have h3 := s_OpPut a_1 a_2 a_3 a_4 a_5 a_6 a_7 a_8 a_9 a_10 a_11 a_12 a_13 a_14 a_15 a_16 h2 (by omega)
      unfold putA at h3
      cases ho2 : opB (⟨a_1, ⟨a_2, a_3, a_4⟩, a_5, ⟨⟨⟨a_6, a_7, a_8⟩, a_9⟩, a_10⟩, ⟨⟨a_11, a_12, a_13⟩, a_14⟩, ⟨a_15, a_16⟩, m.take l.length⟩ : Opn) with
      | false => rw [ho2, if_neg (by decide)] at h3; exact ⟨_, _, h3, .inl ⟨rfl, rfl⟩⟩
      | true =>
        rw [ho2, if_pos rfl] at h3
        exact ⟨_, _, h3, .inr ⟨rfl, _, rfl, by rw [by8_len, opBytes_len ho2]; rfl⟩⟩
    generalize sizeK (⟨a_1, ⟨a_2, a_3, a_4⟩, a_5, ⟨⟨⟨a_6, a_7, a_8⟩, a_9⟩, a_10⟩, ⟨⟨a_11, a_12, a_13⟩, a_14⟩, ⟨a_15, a_16⟩, l⟩ : Opn) = sk at *
    generalize by8 (opBytes (⟨a_1, ⟨a_2, a_3, a_4⟩, a_5, ⟨⟨⟨a_6, a_7, a_8⟩, a_9⟩, a_10⟩, ⟨⟨a_11, a_12, a_13⟩, a_14⟩, ⟨a_15, a_16⟩, l⟩ : Opn)) = X at *
    have f1 : sk ≤ 140737488355328 := by omega
    clear hsz hp hlen ho
    have hyt := fun g => slice_to (P := env.P) (t := 31) (z := 1) (by kernel_rfl) g hy (n := (l.length : Int)) (by omega) (by simp; omega)
    unfold getZ at hsh
    by_cases hk : 0 ≤ k ∧ k < sk
    · obtain ⟨j, rfl⟩ : ∃ j : Nat, k = j := ⟨k.toNat, by omega⟩
      have hj : j < sk := by omega
      have hget := hsh j hj
      have f2 : (j : Int) ≤ sk := by omega
      clear hk hsh
      simp [new_ne, ne_new, new_ne1, ne_new1, gen_put', *, VC_blindstamplaw09_OpLong, hx.r, hy.r]
      obtain ⟨y2, hy2, hyS⟩ := hyt _
      refine doQ_of hy2 ?_
      have hyS' : Sl 1 (rows (m.take l.length)) y2 := by simpa using hyS
      have hel := hyS'.elsOf
      have f5 : (m.take l.length).length ≤ 17592186044416 ∧ (m.take l.length).length * 4 ≤ 140737488355328 := by omega
      obtain ⟨f5, f6⟩ := f5
      clear hy2 hyS hyS' hyt hy hll
      generalize m.take l.length = m2 at *
      by_cases hm2 : m2 = []
      · subst hm2
        obtain ⟨z, n, hp2, hz⟩ := hput2 aNil (.inl ⟨rfl, rfl⟩)
        clear hput2
        rcases hz with ⟨rfl, rfl⟩ | ⟨rfl, X2, rfl, hX2⟩ <;> simp [new_ne, ne_new, new_ne1, ne_new1, gen_put', *]
      · obtain ⟨z, n, hp2, hz⟩ := hput2 (.isl 1 (rows m2) none) (Sl.mk _ _)
        clear hput2
        rcases hz with ⟨rfl, rfl⟩ | ⟨rfl, X2, rfl, hX2⟩ <;> simp [new_ne, ne_new, new_ne1, ne_new1, gen_put', *]
    · have f3 : (decide (0 ≤ k) && decide (k < sk)) = false := by simp; omega
      have hg := hx.r
      have hgy := hy.r
      clear f3 hsh
      rcases Int.lt_or_le k 0 with c0 | c0
      · have c1 : ¬ 0 ≤ k := by omega
        clear hk c0
        simp [new_ne, ne_new, new_ne1, ne_new1, gen_put', *, VC_blindstamplaw09_OpLong]
        obtain ⟨y2, hy2, hyS⟩ := hyt _
        refine doQ_of hy2 ?_
        have hyS' : Sl 1 (rows (m.take l.length)) y2 := by simpa using hyS
        have hel := hyS'.elsOf
        have f5 : (m.take l.length).length ≤ 17592186044416 ∧ (m.take l.length).length * 4 ≤ 140737488355328 := by omega
        obtain ⟨f5, f6⟩ := f5
        clear hy2 hyS hyS' hyt hy hll
        generalize m.take l.length = m2 at *
        by_cases hm2 : m2 = []
        · subst hm2
          obtain ⟨z, n, hp2, hz⟩ := hput2 aNil (.inl ⟨rfl, rfl⟩)
          clear hput2
          rcases hz with ⟨rfl, rfl⟩ | ⟨rfl, X2, rfl, hX2⟩ <;> simp [new_ne, ne_new, new_ne1, ne_new1, gen_put', *]
        · obtain ⟨z, n, hp2, hz⟩ := hput2 (.isl 1 (rows m2) none) (Sl.mk _ _)
          clear hput2
          rcases hz with ⟨rfl, rfl⟩ | ⟨rfl, X2, rfl, hX2⟩ <;> simp [new_ne, ne_new, new_ne1, ne_new1, gen_put', *]
      · have c2 : ¬ k < sk := fun h => hk ⟨c0, h⟩
        clear hk
        simp [new_ne, ne_new, new_ne1, ne_new1, gen_put', *, VC_blindstamplaw09_OpLong]
        obtain ⟨y2, hy2, hyS⟩ := hyt _
        refine doQ_of hy2 ?_
        have hyS' : Sl 1 (rows (m.take l.length)) y2 := by simpa using hyS
        have hel := hyS'.elsOf
        have f5 : (m.take l.length).length ≤ 17592186044416 ∧ (m.take l.length).length * 4 ≤ 140737488355328 := by omega
        obtain ⟨f5, f6⟩ := f5
        clear hy2 hyS hyS' hyt hy hll
        generalize m.take l.length = m2 at *
        by_cases hm2 : m2 = []
        · subst hm2
          obtain ⟨z, n, hp2, hz⟩ := hput2 aNil (.inl ⟨rfl, rfl⟩)
          clear hput2
          rcases hz with ⟨rfl, rfl⟩ | ⟨rfl, X2, rfl, hX2⟩ <;> simp [new_ne, ne_new, new_ne1, ne_new1, gen_put', *]
        · obtain ⟨z, n, hp2, hz⟩ := hput2 (.isl 1 (rows m2) none) (Sl.mk _ _)
          clear hput2
          rcases hz with ⟨rfl, rfl⟩ | ⟨rfl, X2, rfl, hX2⟩ <;> simp [new_ne, ne_new, new_ne1, ne_new1, gen_put', *]
end Go.Proofs.Ytehkjjcdkbcebaa
