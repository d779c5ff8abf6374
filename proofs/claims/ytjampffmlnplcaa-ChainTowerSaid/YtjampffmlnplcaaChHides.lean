/-
  The law of what is hidden: its run. No statement of a seat is proved here.
-/
import Derived.Test.YtjampffmlnplcaaChFns2
import Derived.Test.YtjampffmlnplcaaRcVl7
set_option linter.unusedVariables false
set_option linter.unusedSimpArgs false
set_option linter.unusedSectionVars false
set_option linter.unnecessarySimpa false
set_option maxRecDepth 100000
namespace Go.Proofs.Ytjampffmlnplcaa
open Go.Ab
attribute [local simp] depth_eq callRes_V callG_data callG_frz callG_own keep thr appRes_G appFine_n appFine_s appG_n appG_s roomB appRes_I islFine_some islG_ne List.take_of_length_le sB_lit

theorem chain_alive : limf env 35 [] = some (aB true) := limf_run_of (n := 60000) (by kernel_rfl)

/-- An answer of which something is known. -/
theorem limfQ_of {E : Env} {f : FuncId} {fn : Func} {c : Code} {args : List AV} {R : AV → Prop} (hsp : E.spec f args = none) (hal : E.allowed f = true) (hf : E.P.funcs[f]? = some fn) (hc : fn.body = some c) (hl : Nat.ble args.length fn.ntmps = true)
    (h : GoL E fn 0 [.code c] (argsL 0 args) [] fun x H => ∃ y, handed E f x H y ∧ R y) : ∃ y, limf E f args = some y ∧ R y := by
  obtain ⟨x, H, ⟨y, hQ, hR⟩, n, hn⟩ := h.h (fun _ => AV.undef) args fun i => (ofL_args args i).symm
  refine ⟨y, limf_eq.2 ⟨n, fun m hm => ?_⟩, hR⟩
  obtain ⟨st, h1, h2, h3⟩ := hn m hm
  subst h3
  unfold pureCall
  rw [hsp]
  unfold callIn
  simp only [hal, if_true, hf, hc, if_pos (Nat.le_of_ble_eq_true hl), h1, h2, Option.map_some]
  unfold handed at hQ
  split
  · rename_i h1
    rw [if_pos h1] at hQ
    rw [if_pos hQ.1]
    exact hQ.2
  · rename_i h1
    rw [if_neg h1] at hQ
    exact hQ

/-- What is known of lists that are not great. -/
def smallO (l : List (Opn × AV)) (m : Int) : Prop := (l.length : Int) ≤ m ∧ (l.length ≤ 300 → ∀ p ∈ l, p.1.l.length ≤ 300)
theorem great_loop {l : List (Opn × AV)} {x0 : AV} (hx : Sl 17 (encOs l) x0) (hall : ∀ p ∈ l, Sl 1 (rows p.1.l) p.2) {m : Int} {Q : AV → Heap → Prop} {H : Heap} :
    ∀ (s : List (Opn × AV)) (k : Nat) (i n : Int), l.drop k = s → k ≤ l.length → i = k → k ≤ 300 → 0 ≤ n → n ≤ 1000 * k → (∀ p ∈ l.take k, (p.1.l.length : Int) ≤ n ∨ 1000 ≤ n) →
    (∀ y, (∃ b : Bool, y = aB b ∧ (b = false → smallO l m)) → Q y H) →
    GoL env Try.f36 0 hd_blindstampref18_Great_3 [(6, aI i), (0, x0), (5, aI n), (1, aI m)] H Q := by
  intro s
  have fin : ∀ (k : Nat) (n : Int), k ≤ l.length → (k = l.length ∨ 300 ≤ k) → (∀ p ∈ l.take k, (p.1.l.length : Int) ≤ n ∨ 1000 ≤ n) → ∀ b : Bool, b = (decide (m < l.length) || decide (300 < n)) → b = false → smallO l m := by
    intro k n hk hk2 hn b hb hf
    rw [hb, Bool.or_eq_false_iff, decide_eq_false_iff_not, decide_eq_false_iff_not] at hf
    refine ⟨by omega, fun h3 p hp => ?_⟩
    have hkl : l.take k = l := by
      rcases hk2 with h | h
      · rw [h, List.take_length]
      · exact List.take_of_length_le (by omega)
    have := hn p (by rw [hkl]; exact hp)
    omega
  induction s with
  | nil =>
    rintro k i n hs hk rfl h3 h0 h1 hn hQ
    obtain rfl := drop_nil hs hk
    have hfin := fin _ n hk (.inl rfl) hn
    clear fin hn
    refine vc_blindstampref18_Great_3 _ _ _ _ _ _ fun g => ?_
    by_cases hm : m < l.length
    · simp [new_ne, ne_new, new_ne1, ne_new1, gen_put', *, VC_blindstampref18_Great_3, hx.r]
      all_goals exact hQ _ ⟨true, rfl, by simp⟩
    · simp [new_ne, ne_new, new_ne1, ne_new1, gen_put', *, VC_blindstampref18_Great_3, hx.r]
      all_goals exact hQ _ ⟨_, rfl, hfin _ (by simp [hm])⟩
  | cons p s ih =>
    rintro k i n hs hk rfl h3 h0 h1 hn hQ
    obtain ⟨hlt, hg, hs', hg'⟩ := drop_cons hs
    have hpx := hall p (by rw [← hg]; exact List.getElem_mem _)
    have htk : l.take (k + 1) = l.take k ++ [p] := by rw [List.take_succ_eq_append_getElem hlt, hg]
    obtain ⟨⟨a_1, ⟨a_2, a_3, a_4⟩, a_5, ⟨⟨⟨a_6, a_7, a_8⟩, a_9⟩, a_10⟩, ⟨⟨a_11, a_12, a_13⟩, a_14⟩, ⟨a_15, a_16⟩, al⟩, x⟩ := p
    simp only at hpx
    refine vc_blindstampref18_Great_3 _ _ _ _ _ _ fun g => ?_
    have e3 := IntWalk.i64_in ((k : Int) + 1) (by omega)
    by_cases h300 : (k : Int) < 300
    · obtain ⟨v, hv, v0, v1, v2⟩ : ∃ v : Int, (if (if 1000 < (al.length : Int) then 1000 else (al.length : Int)) > (if 100 < (if 0 > a_10 then 0 else a_10) then 100 else (if 0 > a_10 then 0 else a_10)) then (if 1000 < (al.length : Int) then 1000 else (al.length : Int)) else (if 100 < (if 0 > a_10 then 0 else a_10) then 100 else (if 0 > a_10 then 0 else a_10))) = v ∧ 0 ≤ v ∧ v ≤ 1000 ∧ ((al.length : Int) ≤ v ∨ 1000 ≤ v) :=
        ⟨_, rfl, by split <;> (try split) <;> (try split) <;> omega, by split <;> (try split) <;> (try split) <;> omega, by split <;> (try split) <;> (try split) <;> omega⟩
      have e4 := IntWalk.i64_in (n + v) (by omega)
      simp only [gt_iff_lt] at hv
      have hn' : ∀ p ∈ l.take (k + 1), (p.1.l.length : Int) ≤ n + v ∨ 1000 ≤ n + v := by
        intro p hp
        rw [htk, List.mem_append, List.mem_singleton] at hp
        rcases hp with hp | rfl
        · have := hn p hp; omega
        · simp only; omega
      clear fin hn htk
      simp [new_ne, ne_new, new_ne1, ne_new1, gen_put', *, VC_blindstampref18_Great_3, hx.r, hx.idx, encOs, encO, hpx.r]
      exact ih (k + 1) _ _ hs' (by omega) (by simp) (by omega) (by omega) (by omega) hn' hQ
    · have hfin := fin _ n hk (.inr (by omega)) hn
      clear fin hn htk
      by_cases hm : m < l.length
      · simp [new_ne, ne_new, new_ne1, ne_new1, gen_put', *, VC_blindstampref18_Great_3, hx.r]
        all_goals exact hQ _ ⟨true, rfl, by simp⟩
      · simp [new_ne, ne_new, new_ne1, ne_new1, gen_put', *, VC_blindstampref18_Great_3, hx.r]
        all_goals exact hQ _ ⟨_, rfl, hfin _ (by simp [hm])⟩
theorem s_Great {l : List (Opn × AV)} {x0 : AV} (hx : Sl 17 (encOs l) x0) (hall : ∀ p ∈ l, Sl 1 (rows p.1.l) p.2) (m : Int) : ∃ b : Bool, limf env 36 [x0, aI m] = some (aB b) ∧ (b = false → smallO l m) := by
  have h : ∃ y, limf env 36 [x0, aI m] = some y ∧ ∃ b : Bool, y = aB b ∧ (b = false → smallO l m) := by
    refine limfQ_of (fn := Try.f36) (c := bd_blindstampref18_Great) rfl (by kernel_rfl) (by kernel_rfl) (by kernel_rfl) (by kernel_rfl) ?_
    refine vc_blindstampref18_Great _ _ _ _ fun g => ?_
    simp [new_ne, ne_new, new_ne1, ne_new1, gen_put', *, VC_blindstampref18_Great]
    exact great_loop hx hall l 0 _ _ rfl (by omega) rfl (by omega) (by omega) (by omega) (by simp) (fun y ⟨b, e, h⟩ => by
      subst e
      cases b
      · simp [h rfl]
      · simp)
  obtain ⟨y, h1, b, rfl, h2⟩ := h
  exact ⟨b, h1, h2⟩

/- ## What raises an element -/
theorem mem_madeF (t : Lab) (i : Idd) (v : Lab) (s : List Opn) : ∀ out : List Lab, t ∈ madeF out s i v ↔ t ∈ out ∨ ∃ o ∈ s, raises o i v = true ∧ o.to = t := by
  induction s with
  | nil => intro out; simp [madeF]
  | cons o s ih =>
    intro out
    show t ∈ madeF (if raises o i v then addL out o.to else out) s i v ↔ _
    rw [ih]
    have hadd : t ∈ (if raises o i v then addL out o.to else out) ↔ t ∈ out ∨ (raises o i v = true ∧ o.to = t) := by
      by_cases hr : raises o i v = true
      · rw [if_pos hr]
        unfold addL
        split
        · rename_i hm
          constructor
          · exact .inl
          · rintro (h | ⟨_, rfl⟩)
            · exact h
            · exact hm
        · simp only [List.mem_append, List.mem_singleton, hr, true_and, eq_comm]
      · rw [if_neg hr]; simp [hr]
    rw [hadd]
    constructor
    · rintro ((h | h) | ⟨o', ho', h⟩)
      · exact .inl h
      · exact .inr ⟨o, List.mem_cons_self .., h⟩
      · exact .inr ⟨o', List.mem_cons_of_mem _ ho', h⟩
    · rintro (h | ⟨o', ho', h⟩)
      · exact .inl (.inl h)
      · rcases List.mem_cons.1 ho' with rfl | ho'
        · exact .inl (.inr h)
        · exact .inr ⟨o', ho', h⟩
theorem mem_madeL (t : Lab) (i : Idd) (v : Lab) (s : List Opn) : t ∈ madeL s i v ↔ t = ofI i ∨ ∃ o ∈ s, raises o i v = true ∧ o.to = t := by
  unfold madeL; rw [mem_madeF]; simp
theorem right_at {A B : List Opn} {o : Opn} (h : rightL [] (A ++ o :: B) = true) : opB o = true ∧ fitsL A o = true := by
  rw [rightL_app] at h
  simp only [rightL, List.nil_append, Bool.and_eq_true] at h
  exact h.2.1
/-- Who raises an element is in its chain. -/
theorem raiser {A B : List Opn} {o : Opn} {i : Idd} (h : rightL [] (A ++ o :: B) = true) (h3 : o.kind = 3) (hh : hasB o.s i = true) : byL o ∈ madeL A i (byL o) ∧ leqL (byL o) o.to = true := by
  obtain ⟨_, hf⟩ := right_at h
  unfold fitsL at hf
  rw [if_pos h3, Bool.and_eq_true, List.all_eq_true] at hf
  refine ⟨?_, hf.1⟩
  simp only [hasB, Bool.and_eq_true, decide_eq_true_eq] at hh
  obtain ⟨hs, e1, e2, e3⟩ := hh
  have := hf.2 (i.n - o.s.f.n).toNat (by rw [List.mem_range]; omega)
  rw [show o.s.f.n + ((i.n - o.s.f.n).toNat : Int) = i.n by omega, e1] at this
  exact of_decide_eq_true this
theorem seen_all {L : List Opn} {i : Idd} {v : Lab} (hr : rightL [] L = true) (hs : shownB L i v = true) : ∀ (n : Nat) (A B : List Opn) (o : Opn), A.length = n → L = A ++ o :: B → o.kind = 3 → hasB o.s i = true → leqL (byL o) v = true := by
  intro n
  induction n using Nat.strongRecOn with
  | ind n ih =>
    intro A B o hn hL h3 hh
    obtain ⟨hm, _⟩ := raiser (by rw [← hL]; exact hr) h3 hh
    unfold shownB at hs
    rw [List.all_eq_true] at hs
    rcases (mem_madeL _ _ _ _).1 hm with h | ⟨o', ho', hr', hto⟩
    · rw [h]
      exact hs _ ((mem_madeL _ _ _ _).2 (.inl rfl))
    · obtain ⟨A1, A2, hA⟩ := List.append_of_mem ho'
      have hlen : A1.length < n := by rw [← hn, hA]; simp
      simp only [raises, Bool.and_eq_true, decide_eq_true_eq] at hr'
      have hv := ih A1.length hlen A1 (A2 ++ o :: B) o' rfl (by rw [hL, hA]; simp) hr'.1 hr'.2.1
      rw [← hto]
      refine hs _ ((mem_madeL _ _ _ _).2 (.inr ⟨o', ?_, ?_, rfl⟩))
      · rw [hL]; exact List.mem_append_left _ ho'
      · simp only [raises, Bool.and_eq_true, decide_eq_true_eq]
        exact ⟨hr'.1, hr'.2.1, hv⟩
/-- What the law goes through. -/
def hidesF (is : Bool) (v : Lab) (i : Idd) : List Opn → Bool → Bool
  | [], all => decide (is = all)
  | o :: s, all => if o.kind = 3 ∧ hasB o.s i = true then (if is = true ∧ leqL (byL o) v = false then false else hidesF is v i s (all && leqL o.to v)) else hidesF is v i s all
theorem hidesF_all {is : Bool} {v : Lab} {i : Idd} (s : List Opn) : ∀ all : Bool, (is = true → ∀ o ∈ s, o.kind = 3 → hasB o.s i = true → leqL (byL o) v = true) →
    hidesF is v i s all = decide (is = (all && s.all fun o => !(decide (o.kind = 3) && hasB o.s i) || leqL o.to v)) := by
  induction s with
  | nil => intro all _; simp [hidesF]
  | cons o s ih =>
    intro all h
    unfold hidesF
    have h' : is = true → ∀ o ∈ s, o.kind = 3 → hasB o.s i = true → leqL (byL o) v = true := fun hi o ho => h hi o (List.mem_cons_of_mem _ ho)
    by_cases hk : o.kind = 3 ∧ hasB o.s i = true
    · rw [if_pos hk, if_neg (by rintro ⟨h1, h2⟩; rw [h h1 o (List.mem_cons_self ..) hk.1 hk.2] at h2; cases h2), ih _ h']
      simp [hk.1, hk.2, Bool.and_assoc]
    · rw [if_neg hk, ih _ h']
      have : (decide (o.kind = 3) && hasB o.s i) = false := by
        rw [Bool.and_eq_false_iff]
        by_cases h1 : o.kind = 3
        · exact .inr (by cases hb : hasB o.s i with | false => rfl | true => exact (hk ⟨h1, hb⟩).elim)
        · exact .inl (by simp [h1])
      rw [List.all_cons, this]
      simp
theorem hides_true {L : List Opn} {i : Idd} {v : Lab} (hr : rightL [] L = true) : hidesF (shownB L i v) v i L (leqL (ofI i) v) = true := by
  have hA : shownB L i v = true → ∀ o ∈ L, o.kind = 3 → hasB o.s i = true → leqL (byL o) v = true := by
    intro hs o ho h3 hh
    obtain ⟨A, B, hL⟩ := List.append_of_mem ho
    exact seen_all hr hs A.length A B o rfl hL h3 hh
  rw [hidesF_all L _ hA, decide_eq_true_eq]
  cases hs : shownB L i v with
  | true =>
    have hsa := hs
    unfold shownB at hsa
    rw [List.all_eq_true] at hsa
    symm
    rw [Bool.and_eq_true, List.all_eq_true]
    refine ⟨hsa _ ((mem_madeL _ _ _ _).2 (.inl rfl)), fun o ho => ?_⟩
    by_cases hk : o.kind = 3 ∧ hasB o.s i = true
    · have := hsa o.to ((mem_madeL _ _ _ _).2 (.inr ⟨o, ho, by simp [raises, hk.1, hk.2, hA hs o ho hk.1 hk.2], rfl⟩))
      simp [this]
    · have : (decide (o.kind = 3) && hasB o.s i) = false := by
        cases hb : (decide (o.kind = 3) && hasB o.s i) with
        | false => rfl
        | true => simp at hb; exact (hk hb).elim
      simp [this]
  | false =>
    symm
    cases hb : (leqL (ofI i) v && L.all fun o => !(decide (o.kind = 3) && hasB o.s i) || leqL o.to v) with
    | false => rfl
    | true =>
      exfalso
      rw [Bool.and_eq_true, List.all_eq_true] at hb
      have : shownB L i v = true := by
        unfold shownB
        rw [List.all_eq_true]
        intro t ht
        rcases (mem_madeL _ _ _ _).1 ht with rfl | ⟨o, ho, hr', rfl⟩
        · exact hb.1
        · have h1 := hb.2 o ho
          simp only [raises, Bool.and_eq_true, decide_eq_true_eq] at hr'
          simpa [hr'.1, hr'.2.1] using h1
      rw [this] at hs
      cases hs

theorem hides_loop {l : List (Opn × AV)} {x0 : AV} (hx : Sl 17 (encOs l) x0) (hall : ∀ p ∈ l, okO p) (hl : l.length < 100000) (b_1 : UInt8) (b_2 : UInt32) (b_3 : UInt8) (b_4 : Int) (hb0 : -4611686018427387904 < b_4) (hb1 : b_4 < 4611686018427387904) (v1 : UInt8) (v2 : UInt32) (is : Bool) {r4 r5 : Ref} {Q : AV → Heap → Prop} {H : Heap}
    (hB4 : H.get r4 = some ⟨4, [.agg [a8 b_1, a32 b_2, a8 b_3, aI b_4]], false, false⟩) (hB5 : H.get r5 = some ⟨2, [.agg [a8 v1, a32 v2]], false, false⟩) :
    ∀ (s : List (Opn × AV)) (k : Nat) (i : Int) (all : Bool), l.drop k = s → k ≤ l.length → i = k → (∀ y, y = aB (hidesF is ⟨v1, v2⟩ (⟨⟨b_1, b_2, b_3⟩, b_4⟩ : Idd) (opsOf s) all) → Q y H) →
    GoL env Try.f7 0 hd_blindstamplaw18_ChainHides_9 [(11, aI i), (5, .ptr r5 0 0), (0, x0), (10, aB all), (8, aB is), (4, .ptr r4 0 0), (7, aB true)] H Q := by
  intro s
  induction s with
  | nil =>
    rintro k i all hs hk rfl hQ
    obtain rfl := drop_nil hs hk
    refine vc_blindstamplaw18_ChainHides_9 _ _ _ _ _ _ _ _ _ fun g => ?_
    simp [new_ne, ne_new, new_ne1, ne_new1, gen_put', *, VC_blindstamplaw18_ChainHides_9, hx.r]
    all_goals exact hQ _ (by cases is <;> cases all <;> simp [hidesF, opsOf])
  | cons p s ih =>
    rintro k i all hs hk rfl hQ
    obtain ⟨hlt, hg, hs', hg'⟩ := drop_cons hs
    have hp := hall p (by rw [← hg]; exact List.getElem_mem _)
    obtain ⟨⟨a_1, ⟨a_2, a_3, a_4⟩, a_5, ⟨⟨⟨a_6, a_7, a_8⟩, a_9⟩, a_10⟩, ⟨⟨a_11, a_12, a_13⟩, a_14⟩, ⟨a_15, a_16⟩, al⟩, x⟩ := p
    obtain ⟨hpx, hpl⟩ := hp
    simp only at hpx hpl
    refine vc_blindstamplaw18_ChainHides_9 _ _ _ _ _ _ _ _ _ fun g => ?_
    have e3 := IntWalk.i64_in ((k : Int) + 1) (by omega)
    have hh := s_Has a_6 a_7 a_8 a_9 a_10 b_1 b_2 b_3 b_4 hb0 hb1
    have hF : hidesF is ⟨v1, v2⟩ (⟨⟨b_1, b_2, b_3⟩, b_4⟩ : Idd) (opsOf (((⟨a_1, ⟨a_2, a_3, a_4⟩, a_5, ⟨⟨⟨a_6, a_7, a_8⟩, a_9⟩, a_10⟩, ⟨⟨a_11, a_12, a_13⟩, a_14⟩, ⟨a_15, a_16⟩, al⟩ : Opn), x) :: s)) all = if a_1 = 3 ∧ hasB ⟨⟨⟨a_6, a_7, a_8⟩, a_9⟩, a_10⟩ (⟨⟨b_1, b_2, b_3⟩, b_4⟩ : Idd) = true then (if is = true ∧ leqL ⟨a_2, a_3⟩ ⟨v1, v2⟩ = false then false else hidesF is ⟨v1, v2⟩ (⟨⟨b_1, b_2, b_3⟩, b_4⟩ : Idd) (opsOf s) (all && leqL ⟨a_15, a_16⟩ ⟨v1, v2⟩)) else hidesF is ⟨v1, v2⟩ (⟨⟨b_1, b_2, b_3⟩, b_4⟩ : Idd) (opsOf s) all := rfl
    rw [hF] at hQ
    clear hF
    have hkl : (k : Int) < l.length := by omega
    by_cases h3 : a_1 = 3
    · subst h3
      cases hb : hasB ⟨⟨⟨a_6, a_7, a_8⟩, a_9⟩, a_10⟩ (⟨⟨b_1, b_2, b_3⟩, b_4⟩ : Idd) with
      | false =>
        rw [if_neg (by rw [hb]; simp)] at hQ
        simp [new_ne, ne_new, new_ne1, ne_new1, gen_put', *, VC_blindstamplaw18_ChainHides_9, hx.r, hx.idx, encOs, encO, hpx.r]
        exact ih (k + 1) _ _ hs' (by omega) (by simp) hQ
      | true =>
        rw [if_pos ⟨rfl, hb⟩] at hQ
        cases is with
        | true =>
          cases hq : leqL ⟨a_2, a_3⟩ ⟨v1, v2⟩ with
          | false =>
            rw [if_pos ⟨rfl, hq⟩] at hQ
            simp [new_ne, ne_new, new_ne1, ne_new1, gen_put', *, VC_blindstamplaw18_ChainHides_9, hx.r, hx.idx, encOs, encO, hpx.r]
            all_goals exact hQ _ rfl
          | true =>
            rw [if_neg (by rw [hq]; simp)] at hQ
            cases all
            · simp [new_ne, ne_new, new_ne1, ne_new1, gen_put', *, VC_blindstamplaw18_ChainHides_9, hx.r, hx.idx, encOs, encO, hpx.r]
              exact ih (k + 1) _ _ hs' (by omega) (by simp) hQ
            · simp [new_ne, ne_new, new_ne1, ne_new1, gen_put', *, VC_blindstamplaw18_ChainHides_9, hx.r, hx.idx, encOs, encO, hpx.r]
              exact ih (k + 1) _ _ hs' (by omega) (by simp) hQ
        | false =>
          rw [if_neg (by simp)] at hQ
          cases all
          · simp [new_ne, ne_new, new_ne1, ne_new1, gen_put', *, VC_blindstamplaw18_ChainHides_9, hx.r, hx.idx, encOs, encO, hpx.r]
            exact ih (k + 1) _ _ hs' (by omega) (by simp) hQ
          · simp [new_ne, ne_new, new_ne1, ne_new1, gen_put', *, VC_blindstamplaw18_ChainHides_9, hx.r, hx.idx, encOs, encO, hpx.r]
            exact ih (k + 1) _ _ hs' (by omega) (by simp) hQ
    · rw [if_neg (fun h => h3 h.1)] at hQ
      cases hb : hasB ⟨⟨⟨a_6, a_7, a_8⟩, a_9⟩, a_10⟩ (⟨⟨b_1, b_2, b_3⟩, b_4⟩ : Idd) <;> simp [new_ne, ne_new, new_ne1, ne_new1, gen_put', *, VC_blindstamplaw18_ChainHides_9, hx.r, hx.idx, encOs, encO, hpx.r]
      all_goals exact ih (k + 1) _ _ hs' (by omega) (by simp) hQ

theorem checkE_right {L : List Opn} (h : checkE L = 0) : rightL [] L = true := by
  unfold checkE at h
  split at h
  · cases h
  · split at h
    · assumption
    · cases h
theorem hides_law {l : List (Opn × AV)} {x0 : AV} (hx : Sl 17 (encOs l) x0) (hall : ∀ p ∈ l, Sl 1 (rows p.1.l) p.2) (b_1 : UInt8) (b_2 : UInt32) (b_3 : UInt8) (b_4 : Int) (v1 : UInt8) (v2 : UInt32) : limf env 7 [x0, .agg [a8 b_1, a32 b_2, a8 b_3, aI b_4], .agg [a8 v1, a32 v2]] = some (aB true) := by
  refine limf_of (fn := Try.f7) (c := bd_blindstamplaw18_ChainHides) rfl (by kernel_rfl) (by kernel_rfl) (by kernel_rfl) (by kernel_rfl) ?_; refine vc_blindstamplaw18_ChainHides _ _ _ _ _ fun g => ?_
  have al := chain_alive
  obtain ⟨gb, hgr, hsm⟩ := s_Great hx hall 40
  cases gb with
  | true => simp [new_ne, ne_new, new_ne1, ne_new1, gen_put', *, VC_blindstamplaw18_ChainHides, hx.r]
  | false =>
    obtain ⟨h40, h300⟩ := hsm rfl
    have hok : ∀ p ∈ l, okO p := fun p hp => ⟨hall p hp, by have := h300 (by omega) p hp; omega⟩
    have hsh := s_Shown hx hok (by omega) b_1 b_2 b_3 b_4 v1 v2
    by_cases ha : askedE (opsOf l) (⟨⟨b_1, b_2, b_3⟩, b_4⟩ : Idd) ⟨v1, v2⟩ = 0
    · rw [if_pos ha] at hsh
      obtain ⟨hc, hid, hv⟩ := askedE_id ha
      have hn := idB_n hid
      simp only at hn
      have ht := hides_true (i := (⟨⟨b_1, b_2, b_3⟩, b_4⟩ : Idd)) (v := ⟨v1, v2⟩) (checkE_right hc)
      clear hsm h300 ha hid hv hc
      simp [new_ne, ne_new, new_ne1, ne_new1, gen_put', *, VC_blindstamplaw18_ChainHides, hx.r]
      exact hides_loop hx hok (by omega) b_1 b_2 b_3 b_4 (by omega) (by omega) v1 v2 _ (by simp) (by simp) l 0 _ _ rfl (by omega) rfl (fun y e => by rw [e]; simp; exact ht)
    · rw [if_neg ha] at hsh
      clear hsm h300
      simp [new_ne, ne_new, new_ne1, ne_new1, gen_put', *, VC_blindstamplaw18_ChainHides, hx.r]
end Go.Proofs.Ytjampffmlnplcaa
