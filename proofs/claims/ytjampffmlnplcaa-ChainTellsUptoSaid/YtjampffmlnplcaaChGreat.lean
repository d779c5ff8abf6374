/-
  How great lists are; what is in a chain. No statement of a seat is proved here.
-/
import Derived.Test.YtjampffmlnplcaaChFns2
set_option linter.unusedVariables false
set_option linter.unusedSimpArgs false
set_option linter.unusedSectionVars false
set_option linter.unnecessarySimpa false
set_option maxRecDepth 100000
namespace Go.Proofs.Ytjampffmlnplcaa
open Go.Ab
attribute [local simp] depth_eq callRes_V callG_data callG_frz callG_own keep thr appRes_G appFine_n appFine_s appG_n appG_s roomB appRes_I islFine_some islG_ne List.take_of_length_le sB_lit

theorem limfQ_of {E : Env} {f : FuncId} {fn : Func} {c : Code} {args : List AV} {R : AV → Prop} (hsp : E.spec f args = none) (hal : E.allowed f = true) (hf : E.P.funcs[f]? = some fn) (hc : fn.body = some c) (hl : Nat.ble args.length fn.ntmps = true)
    (h : GoL E fn 0 [.code c] (argsL 0 args) [] fun x H => ∃ y, handed E f x H y ∧ R y) : ∃ y, limf E f args = some y ∧ R y := by
  obtain ⟨x, H, ⟨y, hQ, hR⟩, n, hn⟩ := h.h (fun _ => AV.undef) args fun i => (ofL_args args i).symm
  refine ⟨y, limf_eq.2 ⟨n, fun m hm => ?_⟩, hR⟩
  obtain ⟨st, h1, h2, h3⟩ := hn m hm
  subst h3
  unfold pureCall
  rw [hsp]
  unfold callIn
  simp only [hal, if_true, hf, hc, if_pos (Nat.le_of_ble_eq_true hl), h1, h2, Option.map_some]
  unfold handed at hQ
  split
  · rename_i h1
    rw [if_pos h1] at hQ
    rw [if_pos hQ.1]
    exact hQ.2
  · rename_i h1
    rw [if_neg h1] at hQ
    exact hQ

/-- What is known of lists that are not great. -/
def smallO (l : List (Opn × AV)) (m : Int) : Prop := (l.length : Int) ≤ m ∧ (l.length ≤ 300 → ∀ p ∈ l, p.1.l.length ≤ 300)
theorem great_loop {l : List (Opn × AV)} {x0 : AV} (hx : Sl 17 (encOs l) x0) (hall : ∀ p ∈ l, Sl 1 (rows p.1.l) p.2) {m : Int} {Q : AV → Heap → Prop} {H : Heap} :
    ∀ (s : List (Opn × AV)) (k : Nat) (i n : Int), l.drop k = s → k ≤ l.length → i = k → k ≤ 300 → 0 ≤ n → n ≤ 1000 * k → (∀ p ∈ l.take k, (p.1.l.length : Int) ≤ n ∨ 1000 ≤ n) →
    (∀ y, (∃ b : Bool, y = aB b ∧ (b = false → smallO l m)) → Q y H) →
    GoL env Try.f36 0 hd_blindstampref18_Great_3 [(6, aI i), (0, x0), (5, aI n), (1, aI m)] H Q := by
  intro s
  have fin : ∀ (k : Nat) (n : Int), k ≤ l.length → (k = l.length ∨ 300 ≤ k) → (∀ p ∈ l.take k, (p.1.l.length : Int) ≤ n ∨ 1000 ≤ n) → ∀ b : Bool, b = (decide (m < l.length) || decide (300 < n)) → b = false → smallO l m := by
    intro k n hk hk2 hn b hb hf
    rw [hb, Bool.or_eq_false_iff, decide_eq_false_iff_not, decide_eq_false_iff_not] at hf
    refine ⟨by omega, fun h3 p hp => ?_⟩
    have hkl : l.take k = l := by
      rcases hk2 with h | h
      · rw [h, List.take_length]
      · exact List.take_of_length_le (by omega)
    have := hn p (by rw [hkl]; exact hp)
    omega
  induction s with
  | nil =>
    rintro k i n hs hk rfl h3 h0 h1 hn hQ
    obtain rfl := drop_nil hs hk
    have hfin := fin _ n hk (.inl rfl) hn
    clear fin hn
    refine vc_blindstampref18_Great_3 _ _ _ _ _ _ fun g => ?_
    by_cases hm : m < l.length
    · simp [new_ne, ne_new, new_ne1, ne_new1, gen_put', *, VC_blindstampref18_Great_3, hx.r]
      all_goals exact hQ _ ⟨true, rfl, by simp⟩
    · simp [new_ne, ne_new, new_ne1, ne_new1, gen_put', *, VC_blindstampref18_Great_3, hx.r]
      all_goals exact hQ _ ⟨_, rfl, hfin _ (by simp [hm])⟩
  | cons p s ih =>
    rintro k i n hs hk rfl h3 h0 h1 hn hQ
    obtain ⟨hlt, hg, hs', hg'⟩ := drop_cons hs
    have hpx := hall p (by rw [← hg]; exact List.getElem_mem _)
    have htk : l.take (k + 1) = l.take k ++ [p] := by rw [List.take_succ_eq_append_getElem hlt, hg]
    obtain ⟨⟨a_1, ⟨a_2, a_3, a_4⟩, a_5, ⟨⟨⟨a_6, a_7, a_8⟩, a_9⟩, a_10⟩, ⟨⟨a_11, a_12, a_13⟩, a_14⟩, ⟨a_15, a_16⟩, al⟩, x⟩ := p
    simp only at hpx
    refine vc_blindstampref18_Great_3 _ _ _ _ _ _ fun g => ?_
    have e3 := IntWalk.i64_in ((k : Int) + 1) (by omega)
    by_cases h300 : (k : Int) < 300
    · obtain ⟨v, hv, v0, v1, v2⟩ : ∃ v : Int, (if (if 1000 < (al.length : Int) then 1000 else (al.length : Int)) > (if 100 < (if 0 > a_10 then 0 else a_10) then 100 else (if 0 > a_10 then 0 else a_10)) then (if 1000 < (al.length : Int) then 1000 else (al.length : Int)) else (if 100 < (if 0 > a_10 then 0 else a_10) then 100 else (if 0 > a_10 then 0 else a_10))) = v ∧ 0 ≤ v ∧ v ≤ 1000 ∧ ((al.length : Int) ≤ v ∨ 1000 ≤ v) :=
        ⟨_, rfl, by split <;> (try split) <;> (try split) <;> omega, by split <;> (try split) <;> (try split) <;> omega, by split <;> (try split) <;> (try split) <;> omega⟩
      have e4 := IntWalk.i64_in (n + v) (by omega)
      simp only [gt_iff_lt] at hv
      have hn' : ∀ p ∈ l.take (k + 1), (p.1.l.length : Int) ≤ n + v ∨ 1000 ≤ n + v := by
        intro p hp
        rw [htk, List.mem_append, List.mem_singleton] at hp
        rcases hp with hp | rfl
        · have := hn p hp; omega
        · simp only; omega
      clear fin hn htk
      simp [new_ne, ne_new, new_ne1, ne_new1, gen_put', *, VC_blindstampref18_Great_3, hx.r, hx.idx, encOs, encO, hpx.r]
      exact ih (k + 1) _ _ hs' (by omega) (by simp) (by omega) (by omega) (by omega) hn' hQ
    · have hfin := fin _ n hk (.inr (by omega)) hn
      clear fin hn htk
      by_cases hm : m < l.length
      · simp [new_ne, ne_new, new_ne1, ne_new1, gen_put', *, VC_blindstampref18_Great_3, hx.r]
        all_goals exact hQ _ ⟨true, rfl, by simp⟩
      · simp [new_ne, ne_new, new_ne1, ne_new1, gen_put', *, VC_blindstampref18_Great_3, hx.r]
        all_goals exact hQ _ ⟨_, rfl, hfin _ (by simp [hm])⟩
theorem s_Great {l : List (Opn × AV)} {x0 : AV} (hx : Sl 17 (encOs l) x0) (hall : ∀ p ∈ l, Sl 1 (rows p.1.l) p.2) (m : Int) : ∃ b : Bool, limf env 36 [x0, aI m] = some (aB b) ∧ (b = false → smallO l m) := by
  have h : ∃ y, limf env 36 [x0, aI m] = some y ∧ ∃ b : Bool, y = aB b ∧ (b = false → smallO l m) := by
    refine limfQ_of (fn := Try.f36) (c := bd_blindstampref18_Great) rfl (by kernel_rfl) (by kernel_rfl) (by kernel_rfl) (by kernel_rfl) ?_
    refine vc_blindstampref18_Great _ _ _ _ fun g => ?_
    simp [new_ne, ne_new, new_ne1, ne_new1, gen_put', *, VC_blindstampref18_Great]
    exact great_loop hx hall l 0 _ _ rfl (by omega) rfl (by omega) (by omega) (by omega) (by simp) (fun y ⟨b, e, h⟩ => by
      subst e
      cases b
      · simp [h rfl]
      · simp)
  obtain ⟨y, h1, b, rfl, h2⟩ := h
  exact ⟨b, h1, h2⟩

/- ## What raises an element -/
theorem mem_madeF (t : Lab) (i : Idd) (v : Lab) (s : List Opn) : ∀ out : List Lab, t ∈ madeF out s i v ↔ t ∈ out ∨ ∃ o ∈ s, raises o i v = true ∧ o.to = t := by
  induction s with
  | nil => intro out; simp [madeF]
  | cons o s ih =>
    intro out
    show t ∈ madeF (if raises o i v then addL out o.to else out) s i v ↔ _
    rw [ih]
    have hadd : t ∈ (if raises o i v then addL out o.to else out) ↔ t ∈ out ∨ (raises o i v = true ∧ o.to = t) := by
      by_cases hr : raises o i v = true
      · rw [if_pos hr]
        unfold addL
        split
        · rename_i hm
          constructor
          · exact .inl
          · rintro (h | ⟨_, rfl⟩)
            · exact h
            · exact hm
        · simp only [List.mem_append, List.mem_singleton, hr, true_and, eq_comm]
      · rw [if_neg hr]; simp [hr]
    rw [hadd]
    constructor
    · rintro ((h | h) | ⟨o', ho', h⟩)
      · exact .inl h
      · exact .inr ⟨o, List.mem_cons_self .., h⟩
      · exact .inr ⟨o', List.mem_cons_of_mem _ ho', h⟩
    · rintro (h | ⟨o', ho', h⟩)
      · exact .inl (.inl h)
      · rcases List.mem_cons.1 ho' with rfl | ho'
        · exact .inl (.inr h)
        · exact .inr ⟨o', ho', h⟩
theorem mem_madeL (t : Lab) (i : Idd) (v : Lab) (s : List Opn) : t ∈ madeL s i v ↔ t = ofI i ∨ ∃ o ∈ s, raises o i v = true ∧ o.to = t := by
  unfold madeL; rw [mem_madeF]; simp
/- ## Two lists of labels -/
theorem sameL_loop {x0 x1 : AV} {Q : AV → Heap → Prop} {l m : List Lab} (hx : Sl 2 (labs l) x0) (hy : Sl 2 (labs m) x1) (hl : l.length < 4611686018427387904) (hlm : m.length = l.length) : ∀ (s t : List Lab) (k : Nat) (i : Int) (H : Heap), l.drop k = s → m.drop k = t → k ≤ l.length → i = k →
    (∀ y H', y = aB (decide (s = t)) → Q y H') →
    GoL env Try.f46 0 hd_blindstampref18_SameLabels_4 [(5, aI i), (1, x1), (0, x0)] H Q := by
  intro s
  induction s with
  | nil =>
    rintro t k i H hs ht hk rfl hQ
    obtain rfl := drop_nil hs hk
    rw [← hlm, List.drop_length] at ht
    subst ht
    refine vc_blindstampref18_SameLabels_4 _ _ _ _ _ fun g => ?_
    simp [new_ne, ne_new, new_ne1, ne_new1, gen_put', *, VC_blindstampref18_SameLabels_4, hx.len]
    all_goals exact hQ _ _ rfl
  | cons b s ih =>
    rintro t k i H hs ht hk rfl hQ
    obtain ⟨hlt, hg, hs', hg'⟩ := drop_cons hs
    cases t with
    | nil => have := congrArg List.length ht; simp at this; omega
    | cons c t =>
    obtain ⟨hlt2, hg2, ht', hg2'⟩ := drop_cons ht
    obtain ⟨b1, b2⟩ := b
    obtain ⟨c1, c2⟩ := c
    refine vc_blindstampref18_SameLabels_4 _ _ _ _ _ fun g => ?_
    have e3 := IntWalk.i64_in ((k : Int) + 1) (by omega)
    have hT : ((⟨b1, b2⟩ : Lab) = ⟨c1, c2⟩) = ((decide (b1 = c1) && decide (b2 = c2)) = true) := by simp
    cases hA : (decide (b1 = c1) && decide (b2 = c2)) with
    | true =>
      rw [hA] at hT
      have e : (⟨b1, b2⟩ : Lab) = ⟨c1, c2⟩ := by rw [hT]
      clear hT
      have hQ' : ∀ y H', y = aB (decide (s = t)) → Q y H' := fun y H' ey => hQ y H' (by rw [ey, e]; simp)
      clear hQ e
      simp [new_ne, ne_new, new_ne1, ne_new1, gen_put', *, VC_blindstampref18_SameLabels_4, hx.idx, hy.idx, hx.len, labs, eqA, eqFs]
      exact ih t (k + 1) _ _ hs' ht' (by omega) (by simp) hQ'
    | false =>
      rw [hA] at hT
      have e : ¬ (⟨b1, b2⟩ : Lab) = ⟨c1, c2⟩ := by rw [hT]; simp
      clear hT
      have hQ' : ∀ y H', y = aB false → Q y H' := fun y H' ey => hQ y H' (by rw [ey, decide_eq_false (fun h => e (List.cons.inj h).1)])
      clear hQ e
      simp [new_ne, ne_new, new_ne1, ne_new1, gen_put', *, VC_blindstampref18_SameLabels_4, hx.idx, hy.idx, hx.len, labs, eqA, eqFs]
      all_goals exact hQ' _ _ rfl
theorem s_SameL {x y : AV} {l m : List Lab} (hx : Sl 2 (labs l) x) (hy : Sl 2 (labs m) y) (hl : l.length < 4611686018427387904) : limf env 46 [x, y] = some (aB (decide (l = m))) := by
  refine limf_of (fn := Try.f46) (c := bd_blindstampref18_SameLabels) rfl (by kernel_rfl) (by kernel_rfl) (by kernel_rfl) (by kernel_rfl) ?_; refine vc_blindstampref18_SameLabels _ _ _ _ fun g => ?_
  have h1 := hx.len
  have h2 := hy.len
  by_cases h : m.length = l.length
  · have h' : (m.length : Int) = l.length := by omega
    simp [new_ne, ne_new, new_ne1, ne_new1, gen_put', *, VC_blindstampref18_SameLabels]
    exact sameL_loop hx hy hl h l m 0 0 _ rfl rfl (by omega) rfl (fun y H' e => by simp [e])
  · have h' : ¬ (m.length : Int) = l.length := by omega
    have h'' : ¬ (l.length : Int) = m.length := by omega
    have hne : l ≠ m := fun e => h (by rw [e])
    simp [new_ne, ne_new, new_ne1, ne_new1, gen_put', *, VC_blindstampref18_SameLabels]

end Go.Proofs.Ytjampffmlnplcaa
