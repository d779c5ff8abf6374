/-
  The law of towers: its run. No statement of a seat is proved here.
-/
import Derived.Test.YtjampffmlnplcaaChHides
import Derived.Test.YtjampffmlnplcaaRcVl10
set_option linter.unusedVariables false
set_option linter.unusedSimpArgs false
set_option linter.unusedSectionVars false
set_option linter.unnecessarySimpa false
set_option maxRecDepth 100000
namespace Go.Proofs.Ytjampffmlnplcaa
open Go.Ab
attribute [local simp] depth_eq callRes_V callG_data callG_frz callG_own keep thr appRes_G appFine_n appFine_s appG_n appG_s roomB appRes_I islFine_some islG_ne List.take_of_length_le sB_lit

theorem sameL_loop {x0 x1 : AV} {Q : AV → Heap → Prop} {l m : List Lab} (hx : Sl 2 (labs l) x0) (hy : Sl 2 (labs m) x1) (hl : l.length < 4611686018427387904) (hlm : m.length = l.length) : ∀ (s t : List Lab) (k : Nat) (i : Int) (H : Heap), l.drop k = s → m.drop k = t → k ≤ l.length → i = k →
    (∀ y H', y = aB (decide (s = t)) → Q y H') →
    GoL env Try.f46 0 hd_blindstampref18_SameLabels_4 [(5, aI i), (1, x1), (0, x0)] H Q := by
  intro s
  induction s with
  | nil =>
    rintro t k i H hs ht hk rfl hQ
    obtain rfl := drop_nil hs hk
    rw [← hlm, List.drop_length] at ht
    subst ht
    refine vc_blindstampref18_SameLabels_4 _ _ _ _ _ fun g => ?_
    simp [new_ne, ne_new, new_ne1, ne_new1, gen_put', *, VC_blindstampref18_SameLabels_4, hx.len]
    all_goals exact hQ _ _ rfl
  | cons b s ih =>
    rintro t k i H hs ht hk rfl hQ
    obtain ⟨hlt, hg, hs', hg'⟩ := drop_cons hs
    cases t with
    | nil => have := congrArg List.length ht; simp at this; omega
    | cons c t =>
    obtain ⟨hlt2, hg2, ht', hg2'⟩ := drop_cons ht
    obtain ⟨b1, b2⟩ := b
    obtain ⟨c1, c2⟩ := c
    refine vc_blindstampref18_SameLabels_4 _ _ _ _ _ fun g => ?_
    have e3 := IntWalk.i64_in ((k : Int) + 1) (by omega)
    have hT : ((⟨b1, b2⟩ : Lab) = ⟨c1, c2⟩) = ((decide (b1 = c1) && decide (b2 = c2)) = true) := by simp
    cases hA : (decide (b1 = c1) && decide (b2 = c2)) with
    | true =>
      rw [hA] at hT
      have e : (⟨b1, b2⟩ : Lab) = ⟨c1, c2⟩ := by rw [hT]
      clear hT
      have hQ' : ∀ y H', y = aB (decide (s = t)) → Q y H' := fun y H' ey => hQ y H' (by rw [ey, e]; simp)
      clear hQ e
      simp [new_ne, ne_new, new_ne1, ne_new1, gen_put', *, VC_blindstampref18_SameLabels_4, hx.idx, hy.idx, hx.len, labs, eqA, eqFs]
      exact ih t (k + 1) _ _ hs' ht' (by omega) (by simp) hQ'
    | false =>
      rw [hA] at hT
      have e : ¬ (⟨b1, b2⟩ : Lab) = ⟨c1, c2⟩ := by rw [hT]; simp
      clear hT
      have hQ' : ∀ y H', y = aB false → Q y H' := fun y H' ey => hQ y H' (by rw [ey, decide_eq_false (fun h => e (List.cons.inj h).1)])
      clear hQ e
      simp [new_ne, ne_new, new_ne1, ne_new1, gen_put', *, VC_blindstampref18_SameLabels_4, hx.idx, hy.idx, hx.len, labs, eqA, eqFs]
      all_goals exact hQ' _ _ rfl
theorem s_SameL {x y : AV} {l m : List Lab} (hx : Sl 2 (labs l) x) (hy : Sl 2 (labs m) y) (hl : l.length < 4611686018427387904) : limf env 46 [x, y] = some (aB (decide (l = m))) := by
  refine limf_of (fn := Try.f46) (c := bd_blindstampref18_SameLabels) rfl (by kernel_rfl) (by kernel_rfl) (by kernel_rfl) (by kernel_rfl) ?_; refine vc_blindstampref18_SameLabels _ _ _ _ fun g => ?_
  have h1 := hx.len
  have h2 := hy.len
  by_cases h : m.length = l.length
  · have h' : (m.length : Int) = l.length := by omega
    simp [new_ne, ne_new, new_ne1, ne_new1, gen_put', *, VC_blindstampref18_SameLabels]
    exact sameL_loop hx hy hl h l m 0 0 _ rfl rfl (by omega) rfl (fun y H' e => by simp [e])
  · have h' : ¬ (m.length : Int) = l.length := by omega
    have h'' : ¬ (l.length : Int) = m.length := by omega
    have hne : l ≠ m := fun e => h (by rw [e])
    simp [new_ne, ne_new, new_ne1, ne_new1, gen_put', *, VC_blindstampref18_SameLabels]

/- ## Towers -/
theorem and_not_zero {a b : UInt32} : a &&& ~~~b = 0 ↔ ∀ i, a.toBitVec.getLsbD i = true → b.toBitVec.getLsbD i = true := by
  rw [← UInt32.toBitVec_inj]
  constructor
  · intro h i hi
    have := congrArg (fun z => BitVec.getLsbD z i) h
    simp only [UInt32.toBitVec_and, UInt32.toBitVec_not, BitVec.getLsbD_and, BitVec.getLsbD_not, UInt32.toBitVec_ofNat] at this
    have hlt : i < 32 := by
      rcases Nat.lt_or_ge i 32 with h | h
      · exact h
      · rw [BitVec.getLsbD_of_ge _ _ h] at hi; cases hi
    simp [hi, hlt] at this
    exact this
  · intro h
    apply BitVec.eq_of_getLsbD_eq
    intro i hi
    simp only [UInt32.toBitVec_and, UInt32.toBitVec_not, BitVec.getLsbD_and, BitVec.getLsbD_not]
    have := h i
    cases hc : a.toBitVec.getLsbD i with
    | false => simp
    | true => simp [this hc]
theorem leqL_trans {a b c : Lab} (h1 : leqL a b = true) (h2 : leqL b c = true) : leqL a c = true := by
  simp only [leqL, Bool.and_eq_true, decide_eq_true_eq] at h1 h2 ⊢
  exact ⟨UInt8.le_trans h1.1 h2.1, and_not_zero.2 fun i hi => and_not_zero.1 h2.2 i (and_not_zero.1 h1.2 i hi)⟩
theorem shown_up {L : List Opn} {i : Idd} {v u : Lab} (hr : rightL [] L = true) (hs : shownB L i v = true) (hv : leqL v u = true) : shownB L i u = true := by
  have hA : ∀ o ∈ L, o.kind = 3 → hasB o.s i = true → leqL (byL o) v = true := by
    intro o ho h3 hh
    obtain ⟨A, B, hL⟩ := List.append_of_mem ho
    exact seen_all hr hs A.length A B o rfl hL h3 hh
  unfold shownB at hs ⊢
  rw [List.all_eq_true] at hs ⊢
  intro t ht
  rcases (mem_madeL _ _ _ _).1 ht with rfl | ⟨o, ho, hr', rfl⟩
  · exact leqL_trans (hs _ ((mem_madeL _ _ _ _).2 (.inl rfl))) hv
  · simp only [raises, Bool.and_eq_true, decide_eq_true_eq] at hr'
    refine leqL_trans (hs _ ((mem_madeL _ _ _ _).2 (.inr ⟨o, ho, ?_, rfl⟩))) hv
    simp [raises, hr'.1, hr'.2.1, hA o ho hr'.1 hr'.2.1]
theorem shown_less {L : List Opn} {o : Opn} {i : Idd} {v : Lab} (hs : shownB (L ++ [o]) i v = true) : shownB L i v = true := by
  unfold shownB at hs ⊢
  rw [List.all_eq_true] at hs ⊢
  intro t ht
  refine hs t ((mem_madeL _ _ _ _).2 ?_)
  rcases (mem_madeL _ _ _ _).1 ht with h | ⟨o', ho', h⟩
  · exact .inl h
  · exact .inr ⟨o', List.mem_append_left _ ho', h⟩
theorem made_more {L : List Opn} {o : Opn} {i : Idd} {v : Lab} (h : leqL (byL o) v = false) : madeL (L ++ [o]) i v = madeL L i v := by
  unfold madeL madeF
  rw [List.foldl_append]
  simp [raises, h]
theorem check_more {L : List Opn} {o : Opn} (h : checkE L = 0) (ho : opB o = true) (hl : L.length + 1 ≤ 2048) : checkE (L ++ [o]) = if fitsL L o then 0 else 8 := by
  have hr := checkE_right h
  unfold checkE
  rw [if_neg (by simp; omega), rightL_app, hr]
  simp [rightL, ho]

set_option maxHeartbeats 2000000 in
theorem tower_law {l : List (Opn × AV)} {x0 : AV} (hx : Sl 17 (encOs l) x0) (hall : ∀ p ∈ l, Sl 1 (rows p.1.l) p.2) (a_1 : UInt8) (a_2 : UInt8) (a_3 : UInt32) (a_4 : UInt8) (a_5 : Int) (a_6 : UInt8) (a_7 : UInt32) (a_8 : UInt8) (a_9 : Int) (a_10 : Int) (a_11 : UInt8) (a_12 : UInt32) (a_13 : UInt8) (a_14 : Int) (a_15 : UInt8) (a_16 : UInt32) {x : AV} {al : List Int} (hax : Sl 1 (rows al) x) (b_1 : UInt8) (b_2 : UInt32) (b_3 : UInt8) (b_4 : Int) (v1 : UInt8) (v2 : UInt32) (u1 : UInt8) (u2 : UInt32) :
    limf env 10 [x0, .agg [a8 a_1, a8 a_2, a32 a_3, a8 a_4, aI a_5, a8 a_6, a32 a_7, a8 a_8, aI a_9, aI a_10, a8 a_11, a32 a_12, a8 a_13, aI a_14, a8 a_15, a32 a_16, x], .agg [a8 b_1, a32 b_2, a8 b_3, aI b_4], .agg [a8 v1, a32 v2], .agg [a8 u1, a32 u2]] = some (aB true) := by
  refine limf_of (fn := Try.f10) (c := bd_blindstamplaw18_ChainTower) rfl (by kernel_rfl) (by kernel_rfl) (by kernel_rfl) (by kernel_rfl) ?_; refine vc_blindstamplaw18_ChainTower _ _ _ _ _ _ _ fun g => ?_
  have alv := chain_alive
  obtain ⟨gb, hgr, hsm⟩ := s_Great hx hall 40
  cases gb with
  | true => simp [new_ne, ne_new, new_ne1, ne_new1, gen_put', *, VC_blindstamplaw18_ChainTower, hx.r, hax.r]
  | false =>
    obtain ⟨h40, h300⟩ := hsm rfl
    have hok : ∀ p ∈ l, okO p := fun p hp => ⟨hall p hp, by have := h300 (by omega) p hp; omega⟩
    clear hsm h300
    by_cases hr3 : (300 : Int) < al.length
    · simp [new_ne, ne_new, new_ne1, ne_new1, gen_put', *, VC_blindstamplaw18_ChainTower, hx.r, hax.r]
    have hal : al.length < 1000000 := by omega
    have s1 := s_Shown hx hok (by omega) b_1 b_2 b_3 b_4 v1 v2
    have s2 := s_Shown hx hok (by omega) b_1 b_2 b_3 b_4 u1 u2
    have s3 := s_ChFits hx hok (by omega) a_1 a_2 a_3 a_4 a_5 a_6 a_7 a_8 a_9 a_10 a_11 a_12 a_13 a_14 a_15 a_16 hax hal
    by_cases e1 : askedE (opsOf l) (⟨⟨b_1, b_2, b_3⟩, b_4⟩ : Idd) ⟨v1, v2⟩ = 0
    rotate_left
    · rw [if_neg e1] at s1
      by_cases e2 : askedE (opsOf l) (⟨⟨b_1, b_2, b_3⟩, b_4⟩ : Idd) ⟨u1, u2⟩ = 0
      · rw [if_pos e2] at s2
        by_cases e3 : checkE (opsOf l) = 0
        · rw [if_pos e3] at s3
          cases ho : opB (⟨a_1, ⟨a_2, a_3, a_4⟩, a_5, ⟨⟨⟨a_6, a_7, a_8⟩, a_9⟩, a_10⟩, ⟨⟨a_11, a_12, a_13⟩, a_14⟩, ⟨a_15, a_16⟩, al⟩ : Opn) <;> simp [new_ne, ne_new, new_ne1, ne_new1, gen_put', *, VC_blindstamplaw18_ChainTower, hx.r, hax.r]
        · rw [if_neg e3] at s3
          simp [new_ne, ne_new, new_ne1, ne_new1, gen_put', *, VC_blindstamplaw18_ChainTower, hx.r, hax.r]
      · rw [if_neg e2] at s2
        by_cases e3 : checkE (opsOf l) = 0
        · rw [if_pos e3] at s3
          cases ho : opB (⟨a_1, ⟨a_2, a_3, a_4⟩, a_5, ⟨⟨⟨a_6, a_7, a_8⟩, a_9⟩, a_10⟩, ⟨⟨a_11, a_12, a_13⟩, a_14⟩, ⟨a_15, a_16⟩, al⟩ : Opn) <;> simp [new_ne, ne_new, new_ne1, ne_new1, gen_put', *, VC_blindstamplaw18_ChainTower, hx.r, hax.r]
        · rw [if_neg e3] at s3
          simp [new_ne, ne_new, new_ne1, ne_new1, gen_put', *, VC_blindstamplaw18_ChainTower, hx.r, hax.r]
    obtain ⟨hc, hid, hv⟩ := askedE_id e1
    rw [if_pos e1] at s1
    rw [if_pos hc] at s3
    by_cases e2 : askedE (opsOf l) (⟨⟨b_1, b_2, b_3⟩, b_4⟩ : Idd) ⟨u1, u2⟩ = 0
    rotate_left
    · rw [if_neg e2] at s2
      cases ho : opB (⟨a_1, ⟨a_2, a_3, a_4⟩, a_5, ⟨⟨⟨a_6, a_7, a_8⟩, a_9⟩, a_10⟩, ⟨⟨a_11, a_12, a_13⟩, a_14⟩, ⟨a_15, a_16⟩, al⟩ : Opn) <;> simp [new_ne, ne_new, new_ne1, ne_new1, gen_put', *, VC_blindstamplaw18_ChainTower, hx.r, hax.r]
    rw [if_pos e2] at s2
    cases ho : opB (⟨a_1, ⟨a_2, a_3, a_4⟩, a_5, ⟨⟨⟨a_6, a_7, a_8⟩, a_9⟩, a_10⟩, ⟨⟨a_11, a_12, a_13⟩, a_14⟩, ⟨a_15, a_16⟩, al⟩ : Opn) with
    | false =>
      rw [ho] at s3
      simp [new_ne, ne_new, new_ne1, ne_new1, gen_put', *, VC_blindstamplaw18_ChainTower, hx.r, hax.r]
    | true =>
    rw [ho, if_pos rfl] at s3
    have hright := checkE_right hc
    have hlo : (opsOf l).length = l.length := List.length_map _
    have sm := s_made hx hok (by omega) b_1 b_2 b_3 b_4 (by have := idB_n hid; simp only at this; omega) (by have := idB_n hid; simp only at this; omega) v1 v2
    have s5 := s_Chain hx hok (by omega) b_1 b_2 b_3 b_4 v1 v2
    rw [if_pos e1] at s5
    have hok' : ∀ p ∈ l ++ [((⟨a_1, ⟨a_2, a_3, a_4⟩, a_5, ⟨⟨⟨a_6, a_7, a_8⟩, a_9⟩, a_10⟩, ⟨⟨a_11, a_12, a_13⟩, a_14⟩, ⟨a_15, a_16⟩, al⟩ : Opn), x)], okO p := by
      intro p hp
      rcases List.mem_append.1 hp with hp | hp
      · exact hok p hp
      · rw [List.mem_singleton] at hp
        subst hp
        exact ⟨hax, hal⟩
    have hlen' : (l ++ [((⟨a_1, ⟨a_2, a_3, a_4⟩, a_5, ⟨⟨⟨a_6, a_7, a_8⟩, a_9⟩, a_10⟩, ⟨⟨a_11, a_12, a_13⟩, a_14⟩, ⟨a_15, a_16⟩, al⟩ : Opn), x)]).length < 100000 := by rw [List.length_append]; simp; omega
    have hop : opsOf (l ++ [((⟨a_1, ⟨a_2, a_3, a_4⟩, a_5, ⟨⟨⟨a_6, a_7, a_8⟩, a_9⟩, a_10⟩, ⟨⟨a_11, a_12, a_13⟩, a_14⟩, ⟨a_15, a_16⟩, al⟩ : Opn), x)]) = opsOf l ++ [(⟨a_1, ⟨a_2, a_3, a_4⟩, a_5, ⟨⟨⟨a_6, a_7, a_8⟩, a_9⟩, a_10⟩, ⟨⟨a_11, a_12, a_13⟩, a_14⟩, ⟨a_15, a_16⟩, al⟩ : Opn)] := by simp [opsOf]
    have hck := check_more (o := (⟨a_1, ⟨a_2, a_3, a_4⟩, a_5, ⟨⟨⟨a_6, a_7, a_8⟩, a_9⟩, a_10⟩, ⟨⟨a_11, a_12, a_13⟩, a_14⟩, ⟨a_15, a_16⟩, al⟩ : Opn)) hc ho (by omega)
    have hxm : Sl 17 (encOs (l ++ [((⟨a_1, ⟨a_2, a_3, a_4⟩, a_5, ⟨⟨⟨a_6, a_7, a_8⟩, a_9⟩, a_10⟩, ⟨⟨a_11, a_12, a_13⟩, a_14⟩, ⟨a_15, a_16⟩, al⟩ : Opn), x)])) (.isl 17 (encOs (l ++ [((⟨a_1, ⟨a_2, a_3, a_4⟩, a_5, ⟨⟨⟨a_6, a_7, a_8⟩, a_9⟩, a_10⟩, ⟨⟨a_11, a_12, a_13⟩, a_14⟩, ⟨a_15, a_16⟩, al⟩ : Opn), x)])) none) := Sl.mk _ _
    have s4 := s_Shown hxm hok' hlen' b_1 b_2 b_3 b_4 v1 v2
    have s6 := s_Chain hxm hok' hlen' b_1 b_2 b_3 b_4 v1 v2
    have hem : encOs (l ++ [((⟨a_1, ⟨a_2, a_3, a_4⟩, a_5, ⟨⟨⟨a_6, a_7, a_8⟩, a_9⟩, a_10⟩, ⟨⟨a_11, a_12, a_13⟩, a_14⟩, ⟨a_15, a_16⟩, al⟩ : Opn), x)]) = encOs l ++ [.agg [a8 a_1, a8 a_2, a32 a_3, a8 a_4, aI a_5, a8 a_6, a32 a_7, a8 a_8, aI a_9, aI a_10, a8 a_11, a32 a_12, a8 a_13, aI a_14, a8 a_15, a32 a_16, x]] := by simp [encOs, encO]
    rw [hem, hop] at s4 s6
    have ml := madeL_len (opsOf l) (⟨⟨b_1, b_2, b_3⟩, b_4⟩ : Idd) ⟨v1, v2⟩
    have sS := s_SameL (capM_sl (madeL (opsOf l) (⟨⟨b_1, b_2, b_3⟩, b_4⟩ : Idd) ⟨v1, v2⟩)) (capM_sl (madeL (opsOf l) (⟨⟨b_1, b_2, b_3⟩, b_4⟩ : Idd) ⟨v1, v2⟩)) (by omega)
    have hcv : (idB (⟨⟨b_1, b_2, b_3⟩, b_4⟩ : Idd) && decide (v1 ≤ 15)) = true := by rw [hid]; simpa using hv
    have hask : askedE (opsOf l ++ [(⟨a_1, ⟨a_2, a_3, a_4⟩, a_5, ⟨⟨⟨a_6, a_7, a_8⟩, a_9⟩, a_10⟩, ⟨⟨a_11, a_12, a_13⟩, a_14⟩, ⟨a_15, a_16⟩, al⟩ : Opn)]) (⟨⟨b_1, b_2, b_3⟩, b_4⟩ : Idd) ⟨v1, v2⟩ = if fitsL (opsOf l) (⟨a_1, ⟨a_2, a_3, a_4⟩, a_5, ⟨⟨⟨a_6, a_7, a_8⟩, a_9⟩, a_10⟩, ⟨⟨a_11, a_12, a_13⟩, a_14⟩, ⟨a_15, a_16⟩, al⟩ : Opn) then 0 else 8 := by
      unfold askedE
      rw [hck]
      cases fitsL (opsOf l) (⟨a_1, ⟨a_2, a_3, a_4⟩, a_5, ⟨⟨⟨a_6, a_7, a_8⟩, a_9⟩, a_10⟩, ⟨⟨a_11, a_12, a_13⟩, a_14⟩, ⟨a_15, a_16⟩, al⟩ : Opn)
      · rfl
      · simp only [if_true]
        rw [if_pos hcv]
    have hup := fun hs hq => shown_up (i := (⟨⟨b_1, b_2, b_3⟩, b_4⟩ : Idd)) (v := ⟨v1, v2⟩) (u := ⟨u1, u2⟩) hright hs hq
    have hless := fun hs => shown_less (L := opsOf l) (o := (⟨a_1, ⟨a_2, a_3, a_4⟩, a_5, ⟨⟨⟨a_6, a_7, a_8⟩, a_9⟩, a_10⟩, ⟨⟨a_11, a_12, a_13⟩, a_14⟩, ⟨a_15, a_16⟩, al⟩ : Opn)) (i := (⟨⟨b_1, b_2, b_3⟩, b_4⟩ : Idd)) (v := ⟨v1, v2⟩) hs
    have hmore := fun hq => made_more (L := opsOf l) (o := (⟨a_1, ⟨a_2, a_3, a_4⟩, a_5, ⟨⟨⟨a_6, a_7, a_8⟩, a_9⟩, a_10⟩, ⟨⟨a_11, a_12, a_13⟩, a_14⟩, ⟨a_15, a_16⟩, al⟩ : Opn)) (i := (⟨⟨b_1, b_2, b_3⟩, b_4⟩ : Idd)) (v := ⟨v1, v2⟩) hq
    have hsame : leqL ⟨a_2, a_3⟩ ⟨v1, v2⟩ = false → shownB (opsOf l ++ [(⟨a_1, ⟨a_2, a_3, a_4⟩, a_5, ⟨⟨⟨a_6, a_7, a_8⟩, a_9⟩, a_10⟩, ⟨⟨a_11, a_12, a_13⟩, a_14⟩, ⟨a_15, a_16⟩, al⟩ : Opn)]) (⟨⟨b_1, b_2, b_3⟩, b_4⟩ : Idd) ⟨v1, v2⟩ = shownB (opsOf l) (⟨⟨b_1, b_2, b_3⟩, b_4⟩ : Idd) ⟨v1, v2⟩ := fun hq => by unfold shownB; rw [hmore hq]
    rw [hask] at s4 s6
    clear hask hcv hck hop hem hxm hok' hlen' sm hright hlo ml hid hv hc e1 e2 ho hall hok
    have r1 : (l.length + 1) * 112 ≤ 140737488355328 := by omega
    have r4 : l.length ≤ 1256584717458 := by omega
    have r5 : l.length * 112 ≤ 140737488355328 := by omega
    have r2 : l.length + 1 ≤ 1256584717458 := by omega
    generalize hAe : shownB (opsOf l) (⟨⟨b_1, b_2, b_3⟩, b_4⟩ : Idd) ⟨v1, v2⟩ = A at *
    generalize hBe : shownB (opsOf l) (⟨⟨b_1, b_2, b_3⟩, b_4⟩ : Idd) ⟨u1, u2⟩ = B at *
    generalize hFe : fitsL (opsOf l) (⟨a_1, ⟨a_2, a_3, a_4⟩, a_5, ⟨⟨⟨a_6, a_7, a_8⟩, a_9⟩, a_10⟩, ⟨⟨a_11, a_12, a_13⟩, a_14⟩, ⟨a_15, a_16⟩, al⟩ : Opn) = F at *
    generalize hCe : shownB (opsOf l ++ [(⟨a_1, ⟨a_2, a_3, a_4⟩, a_5, ⟨⟨⟨a_6, a_7, a_8⟩, a_9⟩, a_10⟩, ⟨⟨a_11, a_12, a_13⟩, a_14⟩, ⟨a_15, a_16⟩, al⟩ : Opn)]) (⟨⟨b_1, b_2, b_3⟩, b_4⟩ : Idd) ⟨v1, v2⟩ = C at *
    generalize hMe : madeL (opsOf l) (⟨⟨b_1, b_2, b_3⟩, b_4⟩ : Idd) ⟨v1, v2⟩ = M at *
    generalize hNe : madeL (opsOf l ++ [(⟨a_1, ⟨a_2, a_3, a_4⟩, a_5, ⟨⟨⟨a_6, a_7, a_8⟩, a_9⟩, a_10⟩, ⟨⟨a_11, a_12, a_13⟩, a_14⟩, ⟨a_15, a_16⟩, al⟩ : Opn)]) (⟨⟨b_1, b_2, b_3⟩, b_4⟩ : Idd) ⟨v1, v2⟩ = N at *
    clear hAe hBe hFe hCe hMe hNe
    generalize hVe : leqL ⟨v1, v2⟩ ⟨u1, u2⟩ = V at *
    generalize hWe : leqL ⟨a_2, a_3⟩ ⟨v1, v2⟩ = W at *
    have q1 : A = true → V = true → B = true := hup
    have q2 : C = true → A = true := hless
    have q3 : W = false → N = M := fun h => hmore (by unfold byL; rw [hWe]; exact h)
    have q4 : W = false → C = A := hsame
    clear hup hless hmore hsame
    by_cases hl0 : l = []
    · subst hl0
      have hz : encOs ([] : List (Opn × AV)) = [] := rfl
      rw [hz, List.nil_append] at s4 s6
      cases A with
      | false =>
        have hC : C = false := by cases C with | false => rfl | true => exact absurd (q2 rfl) (by decide)
        clear q1 q2
        subst hC
        cases F with
        | false => simp [new_ne, ne_new, new_ne1, ne_new1, gen_put', *, VC_blindstamplaw18_ChainTower, hx.r, hx.elsOf, hax.r]
        | true =>
          cases W with
          | false =>
            obtain rfl := q3 rfl
            clear q3 q4
            simp [new_ne, ne_new, new_ne1, ne_new1, gen_put', *, VC_blindstamplaw18_ChainTower, hx.r, hx.elsOf, hax.r]
          | true =>
            clear q3 q4
            simp [new_ne, ne_new, new_ne1, ne_new1, gen_put', *, VC_blindstamplaw18_ChainTower, hx.r, hx.elsOf, hax.r]
      | true =>
        have hVB : V = true → B = true := fun h => q1 rfl h
        clear q1 q2
        cases V with
        | false =>
          clear hVB
          cases F with
          | false => simp [new_ne, ne_new, new_ne1, ne_new1, gen_put', *, VC_blindstamplaw18_ChainTower, hx.r, hx.elsOf, hax.r]
          | true =>
            cases W with
            | false =>
              obtain rfl := q3 rfl
              have hC := q4 rfl
              clear q3 q4
              subst hC
              simp [new_ne, ne_new, new_ne1, ne_new1, gen_put', *, VC_blindstamplaw18_ChainTower, hx.r, hx.elsOf, hax.r]
            | true =>
              clear q3 q4
              cases C <;> simp [new_ne, ne_new, new_ne1, ne_new1, gen_put', *, VC_blindstamplaw18_ChainTower, hx.r, hx.elsOf, hax.r]
        | true =>
          obtain rfl := hVB rfl
          clear hVB
          cases F with
          | false => simp [new_ne, ne_new, new_ne1, ne_new1, gen_put', *, VC_blindstamplaw18_ChainTower, hx.r, hx.elsOf, hax.r]
          | true =>
            cases W with
            | false =>
              obtain rfl := q3 rfl
              have hC := q4 rfl
              clear q3 q4
              subst hC
              simp [new_ne, ne_new, new_ne1, ne_new1, gen_put', *, VC_blindstamplaw18_ChainTower, hx.r, hx.elsOf, hax.r]
            | true =>
              clear q3 q4
              cases C <;> simp [new_ne, ne_new, new_ne1, ne_new1, gen_put', *, VC_blindstamplaw18_ChainTower, hx.r, hx.elsOf, hax.r]
    · have hne : encOs l ≠ [] := by intro e; have := congrArg List.length e; simp at this; exact hl0 this
      cases A with
      | false =>
        have hC : C = false := by cases C with | false => rfl | true => exact absurd (q2 rfl) (by decide)
        clear q1 q2
        subst hC
        cases F with
        | false => simp [new_ne, ne_new, new_ne1, ne_new1, gen_put', *, VC_blindstamplaw18_ChainTower, hx.r, hx.elsOf, hax.r]
        | true =>
          cases W with
          | false =>
            obtain rfl := q3 rfl
            clear q3 q4
            simp [new_ne, ne_new, new_ne1, ne_new1, gen_put', *, VC_blindstamplaw18_ChainTower, hx.r, hx.elsOf, hax.r]
          | true =>
            clear q3 q4
            simp [new_ne, ne_new, new_ne1, ne_new1, gen_put', *, VC_blindstamplaw18_ChainTower, hx.r, hx.elsOf, hax.r]
      | true =>
        have hVB : V = true → B = true := fun h => q1 rfl h
        clear q1 q2
        cases V with
        | false =>
          clear hVB
          cases F with
          | false => simp [new_ne, ne_new, new_ne1, ne_new1, gen_put', *, VC_blindstamplaw18_ChainTower, hx.r, hx.elsOf, hax.r]
          | true =>
            cases W with
            | false =>
              obtain rfl := q3 rfl
              have hC := q4 rfl
              clear q3 q4
              subst hC
              simp [new_ne, ne_new, new_ne1, ne_new1, gen_put', *, VC_blindstamplaw18_ChainTower, hx.r, hx.elsOf, hax.r]
            | true =>
              clear q3 q4
              cases C <;> simp [new_ne, ne_new, new_ne1, ne_new1, gen_put', *, VC_blindstamplaw18_ChainTower, hx.r, hx.elsOf, hax.r]
        | true =>
          obtain rfl := hVB rfl
          clear hVB
          cases F with
          | false => simp [new_ne, ne_new, new_ne1, ne_new1, gen_put', *, VC_blindstamplaw18_ChainTower, hx.r, hx.elsOf, hax.r]
          | true =>
            cases W with
            | false =>
              obtain rfl := q3 rfl
              have hC := q4 rfl
              clear q3 q4
              subst hC
              simp [new_ne, ne_new, new_ne1, ne_new1, gen_put', *, VC_blindstamplaw18_ChainTower, hx.r, hx.elsOf, hax.r]
            | true =>
              clear q3 q4
              cases C <;> simp [new_ne, ne_new, new_ne1, ne_new1, gen_put', *, VC_blindstamplaw18_ChainTower, hx.r, hx.elsOf, hax.r]
end Go.Proofs.Ytjampffmlnplcaa
