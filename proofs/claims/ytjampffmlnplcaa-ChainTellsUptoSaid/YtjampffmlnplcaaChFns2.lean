/-
  Chains: lists checked, what is shown. No statement of a seat is proved here.
-/
import Derived.Test.YtjampffmlnplcaaChFns
set_option linter.unusedVariables false
set_option linter.unusedSimpArgs false
set_option linter.unusedSectionVars false
set_option linter.unnecessarySimpa false
set_option maxRecDepth 100000
namespace Go.Proofs.Ytjampffmlnplcaa
open Go.Ab
attribute [local simp] depth_eq callRes_V callG_data callG_frz callG_own keep thr appRes_G appFine_n appFine_s appG_n appG_s roomB appRes_I islFine_some islG_ne List.take_of_length_le sB_lit

/- ## Is anything not at or below? -/
theorem s_above (v1 : UInt8) (v2 : UInt32) (a : UInt8) (b : UInt32) : limf env 89 [.agg [a8 a, a32 b], .iptr 2 [.agg [a8 v1, a32 v2]] 0 0] = some (aB (!leqL ⟨a, b⟩ ⟨v1, v2⟩)) := by
  refine limf_of (fn := Try.f89) (c := bd_chain_ShownF1) rfl (by kernel_rfl) (by kernel_rfl) (by kernel_rfl) (by kernel_rfl) ?_; refine vc_chain_ShownF1 _ _ _ _ fun g => ?_
  simp [new_ne, ne_new, new_ne1, ne_new1, gen_put', *, VC_chain_ShownF1]
def idxAbove (v : Lab) : List Lab → Nat → Int
  | [], _ => -1
  | a :: l, k => if leqL a v then idxAbove v l (k + 1) else k
theorem idxAbove_iff (v : Lab) (l : List Lab) : ∀ k : Nat, (0 ≤ idxAbove v l k ↔ (l.all fun t => leqL t v) = false) := by
  induction l with
  | nil => intro k; simp [idxAbove]
  | cons a l ih =>
    intro k
    unfold idxAbove
    cases h : leqL a v with
    | true => rw [if_pos rfl, ih, List.all_cons, h, Bool.true_and]
    | false => simp [h]
theorem above_loop {x0 : AV} {Q : AV → Heap → Prop} {l : List Lab} (hx : Sl 2 (labs l) x0) (hl : l.length < 4611686018427387904) (v1 : UInt8) (v2 : UInt32) {H : Heap} :
    ∀ (s : List Lab) (k : Nat) (i : Int), l.drop k = s → k ≤ l.length → i = k → (∀ y, y = aI (idxAbove ⟨v1, v2⟩ s k) → Q y H) →
    GoL env Try.f126 0 hd_slices_IndexFunc___blindstamp_api_Label_blindstamp_api_Label__2 [(8, aI i), (0, x0), (1, .fn (.func 89) [] [.iptr 2 [.agg [a8 v1, a32 v2]] 0 0]), (7, aI l.length)] H Q := by
  intro s
  induction s with
  | nil =>
    rintro k i hs hk rfl hQ
    obtain rfl := drop_nil hs hk
    refine vc_slices_IndexFunc___blindstamp_api_Label_blindstamp_api_Label__2 _ _ _ _ _ _ fun g => ?_
    simp [new_ne, ne_new, new_ne1, ne_new1, gen_put', *, VC_slices_IndexFunc___blindstamp_api_Label_blindstamp_api_Label__2]
    all_goals exact hQ _ rfl
  | cons t s ih =>
    rintro k i hs hk rfl hQ
    obtain ⟨t1, t2⟩ := t
    obtain ⟨hlt, hg, hs', hg'⟩ := drop_cons hs
    refine vc_slices_IndexFunc___blindstamp_api_Label_blindstamp_api_Label__2 _ _ _ _ _ _ fun g => ?_
    have e3 := IntWalk.i64_in ((k : Int) + 1) (by omega)
    have ha := s_above v1 v2 t1 t2
    cases hA : leqL ⟨t1, t2⟩ ⟨v1, v2⟩ with
    | true =>
      have e : idxAbove ⟨v1, v2⟩ (⟨t1, t2⟩ :: s) k = idxAbove ⟨v1, v2⟩ s (k + 1) := by rw [idxAbove, if_pos hA]
      simp [new_ne, ne_new, new_ne1, ne_new1, gen_put', *, VC_slices_IndexFunc___blindstamp_api_Label_blindstamp_api_Label__2, hx.idx, labs]
      exact ih (k + 1) _ hs' (by omega) (by simp) (fun y ey => hQ y (by rw [ey, e]))
    | false =>
      have e : idxAbove ⟨v1, v2⟩ (⟨t1, t2⟩ :: s) k = k := by rw [idxAbove, if_neg (by rw [hA]; decide)]
      simp [new_ne, ne_new, new_ne1, ne_new1, gen_put', *, VC_slices_IndexFunc___blindstamp_api_Label_blindstamp_api_Label__2, hx.idx, labs]
      all_goals exact hQ _ (by simp [e])
section
variable {x : AV} {l : List Lab} (hx : Sl 2 (labs l) x) (hl : l.length < 4611686018427387904)
include hx hl
theorem s_IndexAbove (v1 : UInt8) (v2 : UInt32) : limf env 126 [x, .fn (.func 89) [] [.iptr 2 [.agg [a8 v1, a32 v2]] 0 0]] = some (aI (idxAbove ⟨v1, v2⟩ l 0)) := by
  refine limf_of (fn := Try.f126) (c := bd_slices_IndexFunc___blindstamp_api_Label_blindstamp_api_Label_) rfl (by kernel_rfl) (by kernel_rfl) (by kernel_rfl) (by kernel_rfl) ?_; refine vc_slices_IndexFunc___blindstamp_api_Label_blindstamp_api_Label_ _ _ _ _ fun g => ?_
  have h := hx.len
  simp [new_ne, ne_new, new_ne1, ne_new1, gen_put', *, VC_slices_IndexFunc___blindstamp_api_Label_blindstamp_api_Label_]
  exact above_loop hx hl v1 v2 l 0 _ rfl (by omega) rfl (fun y e => by simp [e])
theorem s_HasAbove (v1 : UInt8) (v2 : UInt32) : limf env 90 [x, .fn (.func 89) [] [.iptr 2 [.agg [a8 v1, a32 v2]] 0 0]] = some (aB (!l.all fun t => leqL t ⟨v1, v2⟩)) := by
  refine limf_of (fn := Try.f90) (c := bd_slices_ContainsFunc___blindstamp_api_Label_blindstamp_api_Label_) rfl (by kernel_rfl) (by kernel_rfl) (by kernel_rfl) (by kernel_rfl) ?_; refine vc_slices_ContainsFunc___blindstamp_api_Label_blindstamp_api_Label_ _ _ _ _ fun g => ?_
  have h := s_IndexAbove hx hl v1 v2
  have e : decide (0 ≤ idxAbove ⟨v1, v2⟩ l 0) = !l.all fun t => leqL t ⟨v1, v2⟩ := by
    have := idxAbove_iff ⟨v1, v2⟩ l 0
    cases h : (l.all fun t => leqL t ⟨v1, v2⟩) <;> simp [h] at this ⊢ <;> omega
  simp [new_ne, ne_new, new_ne1, ne_new1, gen_put', *, VC_slices_ContainsFunc___blindstamp_api_Label_blindstamp_api_Label_, hx.r]
end

/- ## Does an operation raise rightly? -/
theorem capM_sl (out : List Lab) : Sl 2 (labs out) (.isl 2 (labs out) (capM out)) := by
  refine .inr ⟨_, rfl, ?_⟩
  unfold capM
  split
  · rename_i h; simp [h]
  · simp
/-- From one element of a span on. -/
def fitsFrom (l : List Opn) (o : Opn) : Nat → Nat → Bool
  | 0, _ => true
  | n + 1, k => decide (byL o ∈ madeL l ⟨o.s.f.h, o.s.f.n + (k : Int)⟩ (byL o)) && fitsFrom l o n (k + 1)
theorem madeL_len (l : List Opn) (i : Idd) (v : Lab) : (madeL l i v).length ≤ 1 + l.length := madeF_len l i v [ofI i]

theorem fits_loop {l : List (Opn × AV)} {x0 : AV} (hx : Sl 17 (encOs l) x0) (hall : ∀ p ∈ l, okO p) (hl : l.length < 100000) (a_1 : UInt8) (a_2 : UInt8) (a_3 : UInt32) (a_4 : UInt8) (a_5 : Int) (a_6 : UInt8) (a_7 : UInt32) (a_8 : UInt8) (a_9 : Int) (a_10 : Int) (a_11 : UInt8) (a_12 : UInt32) (a_13 : UInt8) (a_14 : Int) (a_15 : UInt8) (a_16 : UInt32) {al : List Int} {x : AV} (hax : Sl 1 (rows al) x) (hs : spanB ⟨⟨⟨a_6, a_7, a_8⟩, a_9⟩, a_10⟩ = true) {Q : AV → Heap → Prop} {r3 : Ref} :
    ∀ (n k : Nat) (i : Int) (right : Bool) (H : Heap), (k : Int) + n = a_10 → i = k → Fr H → H.get r3 = some ⟨17, [.agg [a8 a_1, a8 a_2, a32 a_3, a8 a_4, aI a_5, a8 a_6, a32 a_7, a8 a_8, aI a_9, aI a_10, a8 a_11, a32 a_12, a8 a_13, aI a_14, a8 a_15, a32 a_16, x]], false, false⟩ → (k = 0 ∨ right = true) →
    (∀ y H', y = aB (right && fitsFrom (opsOf l) (⟨a_1, ⟨a_2, a_3, a_4⟩, a_5, ⟨⟨⟨a_6, a_7, a_8⟩, a_9⟩, a_10⟩, ⟨⟨a_11, a_12, a_13⟩, a_14⟩, ⟨a_15, a_16⟩, al⟩ : Opn) n k) → Q y H') →
    GoL env Try.f93 0 hd_chain_fits_5 [(21, aI i), (3, .ptr r3 0 0), (0, x0), (5, aB right), (20, aI a_10)] H Q := by
  have hn := spanB_n hs
  simp only at hn
  intro n
  induction n with
  | zero =>
    rintro k i right H hk rfl hF hB hr hQ
    refine vc_chain_fits_5 _ _ _ _ _ _ _ fun g => ?_
    have hk' : ¬ (k : Int) < a_10 := by omega
    simp [new_ne, ne_new, new_ne1, ne_new1, gen_put', *, VC_chain_fits_5]
    all_goals exact hQ _ _ (by simp [fitsFrom])
  | succ n ih =>
    rintro k i right H hk rfl hF hB hr hQ
    refine vc_chain_fits_5 _ _ _ _ _ _ _ fun g => ?_
    have hk' : (k : Int) < a_10 := by omega
    have e3 := IntWalk.i64_in ((k : Int) + 1) (by omega)
    have eA : atE ⟨⟨⟨a_6, a_7, a_8⟩, a_9⟩, a_10⟩ (k : Int) = 0 := by
      unfold atE
      rw [if_pos hs, if_neg]
      simp only
      omega
    have h1 := s_made hx hall hl a_6 a_7 a_8 (a_9 + k) (by omega) (by omega) a_2 a_3
    have ml := madeL_len (opsOf l) ⟨⟨a_6, a_7, a_8⟩, a_9 + k⟩ ⟨a_2, a_3⟩
    have h2 := s_ContainsL (capM_sl (madeL (opsOf l) ⟨⟨a_6, a_7, a_8⟩, a_9 + k⟩ ⟨a_2, a_3⟩)) (by rw [show (opsOf l).length = l.length from List.length_map _] at ml; omega) a_2 a_3
    have hf : fitsFrom (opsOf l) (⟨a_1, ⟨a_2, a_3, a_4⟩, a_5, ⟨⟨⟨a_6, a_7, a_8⟩, a_9⟩, a_10⟩, ⟨⟨a_11, a_12, a_13⟩, a_14⟩, ⟨a_15, a_16⟩, al⟩ : Opn) (n + 1) k = (decide ((⟨a_2, a_3⟩ : Lab) ∈ madeL (opsOf l) ⟨⟨a_6, a_7, a_8⟩, a_9 + k⟩ ⟨a_2, a_3⟩) && fitsFrom (opsOf l) (⟨a_1, ⟨a_2, a_3, a_4⟩, a_5, ⟨⟨⟨a_6, a_7, a_8⟩, a_9⟩, a_10⟩, ⟨⟨a_11, a_12, a_13⟩, a_14⟩, ⟨a_15, a_16⟩, al⟩ : Opn) n (k + 1)) := rfl
    rw [hf] at hQ
    clear hf hn
    cases right with
    | false =>
      simp [new_ne, ne_new, new_ne1, ne_new1, gen_put', *, VC_chain_fits_5, hx.r, hax.r]
      all_goals exact hQ _ _ (by simp)
    | true =>
      by_cases hm : (⟨a_2, a_3⟩ : Lab) ∈ madeL (opsOf l) ⟨⟨a_6, a_7, a_8⟩, a_9 + k⟩ ⟨a_2, a_3⟩
      · simp [new_ne, ne_new, new_ne1, ne_new1, gen_put', *, VC_chain_fits_5, hx.r, hax.r]
        exact ih (k + 1) _ true _ (by omega) (by simp) (by simp (maxDischargeDepth := 12) [Fr_cons, Fr_consK, Fr.nil, Fr_put, new_ne, ne_new, new_ne1, ne_new1, get_new, get_new1, gen_put', *]) (by simp (maxDischargeDepth := 12) [Fr_cons, Fr_consK, Fr.nil, Fr_put, new_ne, ne_new, new_ne1, ne_new1, get_new, get_new1, gen_put', *]) (.inr rfl) (fun y H' e => hQ y H' (by rw [e]; simp [hm]))
      · simp [new_ne, ne_new, new_ne1, ne_new1, gen_put', *, VC_chain_fits_5, hx.r, hax.r]
        all_goals exact hQ _ _ (by simp [hm])
theorem fitsL_eq (l : List Opn) (o : Opn) (h3 : o.kind = 3) : fitsL l o = (leqL (byL o) o.to && fitsFrom l o o.s.many.toNat 0) := by
  unfold fitsL
  rw [if_pos h3]
  congr 1
  have key : ∀ n k, fitsFrom l o n k = (List.range n).all (fun j => decide (byL o ∈ madeL l ⟨o.s.f.h, o.s.f.n + ((k + j : Nat) : Int)⟩ (byL o))) := by
    intro n
    induction n with
    | zero => intro k; rfl
    | succ n ih =>
      intro k
      rw [fitsFrom, ih, List.range_succ_eq_map, List.all_cons, List.all_map]
      congr 1
      congr 1
      funext j
      simp only [Function.comp, Nat.succ_eq_add_one]
      rw [show k + 1 + j = k + (j + 1) by omega]
  rw [key]
  simp
theorem s_fits {l : List (Opn × AV)} {x0 : AV} (hx : Sl 17 (encOs l) x0) (hall : ∀ p ∈ l, okO p) (hl : l.length < 100000) (a_1 : UInt8) (a_2 : UInt8) (a_3 : UInt32) (a_4 : UInt8) (a_5 : Int) (a_6 : UInt8) (a_7 : UInt32) (a_8 : UInt8) (a_9 : Int) (a_10 : Int) (a_11 : UInt8) (a_12 : UInt32) (a_13 : UInt8) (a_14 : Int) (a_15 : UInt8) (a_16 : UInt32) {al : List Int} {x : AV} (hax : Sl 1 (rows al) x) (hs : spanB ⟨⟨⟨a_6, a_7, a_8⟩, a_9⟩, a_10⟩ = true) :
    limf env 93 [x0, .agg [a8 a_1, a8 a_2, a32 a_3, a8 a_4, aI a_5, a8 a_6, a32 a_7, a8 a_8, aI a_9, aI a_10, a8 a_11, a32 a_12, a8 a_13, aI a_14, a8 a_15, a32 a_16, x]] = some (aB (fitsL (opsOf l) (⟨a_1, ⟨a_2, a_3, a_4⟩, a_5, ⟨⟨⟨a_6, a_7, a_8⟩, a_9⟩, a_10⟩, ⟨⟨a_11, a_12, a_13⟩, a_14⟩, ⟨a_15, a_16⟩, al⟩ : Opn))) := by
  refine limf_of (fn := Try.f93) (c := bd_chain_fits) rfl (by kernel_rfl) (by kernel_rfl) (by kernel_rfl) (by kernel_rfl) ?_; refine vc_chain_fits _ _ _ _ fun g => ?_
  by_cases h3 : a_1 = 3
  · subst h3
    rw [fitsL_eq _ _ rfl]
    have hn := spanB_n hs
    simp only at hn
    simp [new_ne, ne_new, new_ne1, ne_new1, gen_put', *, VC_chain_fits, hx.r, hax.r]
    exact fits_loop hx hall hl 3 a_2 a_3 a_4 a_5 a_6 a_7 a_8 a_9 a_10 a_11 a_12 a_13 a_14 a_15 a_16 hax hs a_10.toNat 0 _ _ _ (by omega) rfl (by simp (maxDischargeDepth := 12) [Fr_cons, Fr_consK, Fr.nil, Fr_put, new_ne, ne_new, new_ne1, ne_new1, get_new, get_new1, gen_put', *]) (by simp) (.inl rfl) (fun y H' e => by rw [e]; simp [byL])
  · have e : fitsL (opsOf l) (⟨a_1, ⟨a_2, a_3, a_4⟩, a_5, ⟨⟨⟨a_6, a_7, a_8⟩, a_9⟩, a_10⟩, ⟨⟨a_11, a_12, a_13⟩, a_14⟩, ⟨a_15, a_16⟩, al⟩ : Opn) = true := by unfold fitsL; rw [if_neg h3]
    simp [new_ne, ne_new, new_ne1, ne_new1, gen_put', *, VC_chain_fits, hax.r]

/- ## Lists -/
theorem rightL_app (s t : List Opn) : ∀ l, rightL l (s ++ t) = (rightL l s && rightL (l ++ s) t) := by
  induction s with
  | nil => intro l; simp [rightL]
  | cons o s ih =>
    intro l
    show (opB o && fitsL l o && rightL (l ++ [o]) (s ++ t)) = (opB o && fitsL l o && rightL (l ++ [o]) s && rightL (l ++ o :: s) t)
    rw [ih, List.append_assoc, List.singleton_append]
    simp only [Bool.and_assoc]
theorem opB_span {o : Opn} (h : opB o = true) : spanB o.s = true := by
  simp only [opB, Bool.and_eq_true] at h
  exact h.2.2.2.1
theorem check_loop {l : List (Opn × AV)} {x0 : AV} (hx : Sl 17 (encOs l) x0) (hall : ∀ p ∈ l, okO p) (hl : l.length < 100000) {Q : AV → Heap → Prop} :
    ∀ (s : List (Opn × AV)) (k : Nat) (i : Int) (H : Heap), l.drop k = s → k ≤ l.length → i = k → Fr H →
    (∀ y H', y = aI (bad (rightL (opsOf (l.take k)) (opsOf s))) → Q y H') →
    GoL env Try.f47 0 hd_chain_Check_4 [(10, aI i), (0, x0), (8, x0), (9, aI l.length)] H Q := by
  intro s
  induction s with
  | nil =>
    rintro k i H hs hk rfl hF hQ
    obtain rfl := drop_nil hs hk
    refine vc_chain_Check_4 _ _ _ _ _ _ fun g => ?_
    simp [new_ne, ne_new, new_ne1, ne_new1, gen_put', *, VC_chain_Check_4]
    all_goals exact hQ _ _ rfl
  | cons p s ih =>
    rintro k i H hs hk rfl hF hQ
    obtain ⟨hlt, hg, hs', hg'⟩ := drop_cons hs
    have hp := hall p (by rw [← hg]; exact List.getElem_mem _)
    obtain ⟨⟨a_1, ⟨a_2, a_3, a_4⟩, a_5, ⟨⟨⟨a_6, a_7, a_8⟩, a_9⟩, a_10⟩, ⟨⟨a_11, a_12, a_13⟩, a_14⟩, ⟨a_15, a_16⟩, al⟩, x⟩ := p
    obtain ⟨hpx, hpl⟩ := hp
    simp only at hpx hpl
    refine vc_chain_Check_4 _ _ _ _ _ _ fun g => ?_
    have e3 := IntWalk.i64_in ((k : Int) + 1) (by omega)
    have hc := s_OpCheck a_1 a_2 a_3 a_4 a_5 a_6 a_7 a_8 a_9 a_10 a_11 a_12 a_13 a_14 a_15 a_16 hpx hpl
    have hst : Sl 17 (encOs (l.take k)) (.isl 17 (encOs (l.take k)) none) := Sl.mk _ _
    obtain ⟨c, rfl, hcap⟩ := hx.islN (by intro e; have := congrArg List.length e; simp at this; subst this; simp at hlt)
    have htk : l.take (k + 1) = l.take k ++ [((⟨a_1, ⟨a_2, a_3, a_4⟩, a_5, ⟨⟨⟨a_6, a_7, a_8⟩, a_9⟩, a_10⟩, ⟨⟨a_11, a_12, a_13⟩, a_14⟩, ⟨a_15, a_16⟩, al⟩ : Opn), x)] := by rw [List.take_succ_eq_append_getElem hlt, hg]
    have hr : rightL (opsOf (l.take k)) (opsOf (((⟨a_1, ⟨a_2, a_3, a_4⟩, a_5, ⟨⟨⟨a_6, a_7, a_8⟩, a_9⟩, a_10⟩, ⟨⟨a_11, a_12, a_13⟩, a_14⟩, ⟨a_15, a_16⟩, al⟩ : Opn), x) :: s)) = (opB (⟨a_1, ⟨a_2, a_3, a_4⟩, a_5, ⟨⟨⟨a_6, a_7, a_8⟩, a_9⟩, a_10⟩, ⟨⟨a_11, a_12, a_13⟩, a_14⟩, ⟨a_15, a_16⟩, al⟩ : Opn) && fitsL (opsOf (l.take k)) (⟨a_1, ⟨a_2, a_3, a_4⟩, a_5, ⟨⟨⟨a_6, a_7, a_8⟩, a_9⟩, a_10⟩, ⟨⟨a_11, a_12, a_13⟩, a_14⟩, ⟨a_15, a_16⟩, al⟩ : Opn) && rightL (opsOf (l.take (k + 1))) (opsOf s)) := by
      rw [htk]
      show (_ && rightL (opsOf (l.take k) ++ [_]) (opsOf s)) = _
      simp only [opsOf, List.map_append, List.map_cons, List.map_nil]
    rw [hr] at hQ
    have hlen : (l.take k).length < 100000 := by rw [List.length_take]; omega
    have htl : (encOs l).take k = encOs (l.take k) := by simp [encOs, List.map_take]
    have k1 : (k : Int) ≤ l.length := by omega
    have k2 : (0 : Int) ≤ k := by omega
    have hrd : readAt (encOs l) k 0 17 true = some (.agg [a8 a_1, a8 a_2, a32 a_3, a8 a_4, aI a_5, a8 a_6, a32 a_7, a8 a_8, aI a_9, aI a_10, a8 a_11, a32 a_12, a8 a_13, aI a_14, a8 a_15, a32 a_16, x]) := by simp [encOs, encO, hg']
    clear hr htk
    cases ho : opB (⟨a_1, ⟨a_2, a_3, a_4⟩, a_5, ⟨⟨⟨a_6, a_7, a_8⟩, a_9⟩, a_10⟩, ⟨⟨a_11, a_12, a_13⟩, a_14⟩, ⟨a_15, a_16⟩, al⟩ : Opn) with
    | false =>
      simp [new_ne, ne_new, new_ne1, ne_new1, gen_put', *, VC_chain_Check_4, hx.r, hx.idx, hpx.r]
      all_goals exact hQ _ _ (by simp [ho, bad])
    | true =>
      have hck : k ≤ c.getD k := by
        cases c with
        | none => exact Nat.le_refl _
        | some c => simp only [Option.getD_some, encOs_len] at hcap ⊢; omega
      have hf : ∀ c' : Option Nat, k ≤ c'.getD k → limf env 93 [.isl 17 (encOs (l.take k)) c', .agg [a8 a_1, a8 a_2, a32 a_3, a8 a_4, aI a_5, a8 a_6, a32 a_7, a8 a_8, aI a_9, aI a_10, a8 a_11, a32 a_12, a8 a_13, aI a_14, a8 a_15, a32 a_16, x]] = some (aB (fitsL (opsOf (l.take k)) (⟨a_1, ⟨a_2, a_3, a_4⟩, a_5, ⟨⟨⟨a_6, a_7, a_8⟩, a_9⟩, a_10⟩, ⟨⟨a_11, a_12, a_13⟩, a_14⟩, ⟨a_15, a_16⟩, al⟩ : Opn))) := by
        intro c' hc'
        have hkl : (encOs (l.take k)).length = k := by rw [encOs_len, List.length_take]; omega
        exact s_fits (.inr ⟨c', rfl, by rw [hkl]; exact hc'⟩) (fun p hp => hall p (List.mem_of_mem_take hp)) hlen a_1 a_2 a_3 a_4 a_5 a_6 a_7 a_8 a_9 a_10 a_11 a_12 a_13 a_14 a_15 a_16 hpx (opB_span ho)
      cases hq : fitsL (opsOf (l.take k)) (⟨a_1, ⟨a_2, a_3, a_4⟩, a_5, ⟨⟨⟨a_6, a_7, a_8⟩, a_9⟩, a_10⟩, ⟨⟨a_11, a_12, a_13⟩, a_14⟩, ⟨a_15, a_16⟩, al⟩ : Opn) with
      | false =>
        simp [new_ne, ne_new, new_ne1, ne_new1, gen_put', *, VC_chain_Check_4, hx.r, hx.idx, hpx.r]
        all_goals exact hQ _ _ (by simp [ho, hq, bad])
      | true =>
        simp [new_ne, ne_new, new_ne1, ne_new1, gen_put', *, VC_chain_Check_4, hx.r, hx.idx, hpx.r]
        exact ih (k + 1) _ _ hs' (by omega) (by simp) (by simp (maxDischargeDepth := 12) [Fr_cons, Fr_consK, Fr.nil, Fr_put, new_ne, ne_new, new_ne1, ne_new1, get_new, get_new1, gen_put', *]) (fun y H' e => hQ y H' (by rw [e]; simp [ho, hq]))

theorem askedE_id {ll : List Opn} {i : Idd} {v : Lab} (h : askedE ll i v = 0) : checkE ll = 0 ∧ idB i = true ∧ v.lv ≤ 15 := by
  unfold askedE at h
  split at h
  · rename_i h0
    split at h
    · rename_i h1
      simp at h1
      exact ⟨h0, h1⟩
    · cases h
  · rename_i h0
    exact absurd h h0

section
variable {l : List (Opn × AV)} {x0 : AV} (hx : Sl 17 (encOs l) x0) (hall : ∀ p ∈ l, okO p) (hl : l.length < 100000)
include hx hall hl
theorem s_ChCheck : limf env 47 [x0] = some (aI (checkE (opsOf l))) := by
  refine limf_of (fn := Try.f47) (c := bd_chain_Check) rfl (by kernel_rfl) (by kernel_rfl) (by kernel_rfl) (by kernel_rfl) ?_; refine vc_chain_Check _ _ _ fun g => ?_
  have hn := hx.len
  have ho : (opsOf l).length = l.length := List.length_map _
  by_cases h : 2048 < l.length
  · have h' : (2048 : Int) < l.length := by omega
    have e : checkE (opsOf l) = 4 := by unfold checkE; rw [if_pos (by rw [ho]; exact h)]
    simp [new_ne, ne_new, new_ne1, ne_new1, gen_put', *, VC_chain_Check, hx.r]
  · have h' : ¬ (2048 : Int) < l.length := by omega
    have e : checkE (opsOf l) = bad (rightL [] (opsOf l)) := by unfold checkE bad; rw [if_neg (by rw [ho]; exact h)]
    simp [new_ne, ne_new, new_ne1, ne_new1, gen_put', *, VC_chain_Check, hx.r]
    exact check_loop hx hall hl l 0 _ _ rfl (by omega) rfl Fr.nil (fun y H' ey => by rw [ey]; simp [opsOf])
theorem s_asked (b_1 : UInt8) (b_2 : UInt32) (b_3 : UInt8) (b_4 : Int) (v1 : UInt8) (v2 : UInt32) : limf env 88 [x0, .agg [a8 b_1, a32 b_2, a8 b_3, aI b_4], .agg [a8 v1, a32 v2]] = some (aI (askedE (opsOf l) (⟨⟨b_1, b_2, b_3⟩, b_4⟩ : Idd) ⟨v1, v2⟩)) := by
  refine limf_of (fn := Try.f88) (c := bd_chain_asked) rfl (by kernel_rfl) (by kernel_rfl) (by kernel_rfl) (by kernel_rfl) ?_; refine vc_chain_asked _ _ _ _ _ fun g => ?_
  have hc := s_ChCheck hx hall hl
  by_cases h : checkE (opsOf l) = 0
  · unfold askedE
    rw [if_pos h]
    cases hb : idB (⟨⟨b_1, b_2, b_3⟩, b_4⟩ : Idd) with
    | false => by_cases hv : v1 ≤ 15 <;> simp [new_ne, ne_new, new_ne1, ne_new1, gen_put', *, VC_chain_asked, hx.r]
    | true => by_cases hv : v1 ≤ 15 <;> simp [new_ne, ne_new, new_ne1, ne_new1, gen_put', *, VC_chain_asked, hx.r]
  · unfold askedE
    rw [if_neg h]
    simp [new_ne, ne_new, new_ne1, ne_new1, gen_put', *, VC_chain_asked, hx.r]
theorem s_Shown (b_1 : UInt8) (b_2 : UInt32) (b_3 : UInt8) (b_4 : Int) (v1 : UInt8) (v2 : UInt32) : limf env 37 [x0, .agg [a8 b_1, a32 b_2, a8 b_3, aI b_4], .agg [a8 v1, a32 v2]] =
    some (if askedE (opsOf l) (⟨⟨b_1, b_2, b_3⟩, b_4⟩ : Idd) ⟨v1, v2⟩ = 0 then .tup [aB (shownB (opsOf l) (⟨⟨b_1, b_2, b_3⟩, b_4⟩ : Idd) ⟨v1, v2⟩), aI 0] else .tup [aB false, aI (askedE (opsOf l) (⟨⟨b_1, b_2, b_3⟩, b_4⟩ : Idd) ⟨v1, v2⟩)]) := by
  refine limf_of (fn := Try.f37) (c := bd_chain_Shown) rfl (by kernel_rfl) (by kernel_rfl) (by kernel_rfl) (by kernel_rfl) ?_; refine vc_chain_Shown _ _ _ _ _ fun g => ?_
  have h1 := s_asked hx hall hl b_1 b_2 b_3 b_4 v1 v2
  by_cases h : askedE (opsOf l) (⟨⟨b_1, b_2, b_3⟩, b_4⟩ : Idd) ⟨v1, v2⟩ = 0
  · have hid := idB_n (askedE_id h).2.1
    simp only at hid
    have h2 := s_made hx hall hl b_1 b_2 b_3 b_4 (by omega) (by omega) v1 v2
    have ml := madeL_len (opsOf l) (⟨⟨b_1, b_2, b_3⟩, b_4⟩ : Idd) ⟨v1, v2⟩
    have h3 := s_HasAbove (capM_sl (madeL (opsOf l) (⟨⟨b_1, b_2, b_3⟩, b_4⟩ : Idd) ⟨v1, v2⟩)) (by rw [show (opsOf l).length = l.length from List.length_map _] at ml; omega) v1 v2
    have e : shownB (opsOf l) (⟨⟨b_1, b_2, b_3⟩, b_4⟩ : Idd) ⟨v1, v2⟩ = (madeL (opsOf l) (⟨⟨b_1, b_2, b_3⟩, b_4⟩ : Idd) ⟨v1, v2⟩).all fun t => leqL t ⟨v1, v2⟩ := rfl
    rw [if_pos h, e]
    clear e ml hid
    generalize ((madeL (opsOf l) (⟨⟨b_1, b_2, b_3⟩, b_4⟩ : Idd) ⟨v1, v2⟩).all fun t => leqL t ⟨v1, v2⟩) = z at *
    generalize madeL (opsOf l) (⟨⟨b_1, b_2, b_3⟩, b_4⟩ : Idd) ⟨v1, v2⟩ = m at *
    simp [new_ne, ne_new, new_ne1, ne_new1, gen_put', *, VC_chain_Shown, hx.r]
  · rw [if_neg h]
    simp [new_ne, ne_new, new_ne1, ne_new1, gen_put', *, VC_chain_Shown, hx.r]
theorem s_Chain (b_1 : UInt8) (b_2 : UInt32) (b_3 : UInt8) (b_4 : Int) (v1 : UInt8) (v2 : UInt32) : limf env 41 [x0, .agg [a8 b_1, a32 b_2, a8 b_3, aI b_4], .agg [a8 v1, a32 v2]] =
    some (if askedE (opsOf l) (⟨⟨b_1, b_2, b_3⟩, b_4⟩ : Idd) ⟨v1, v2⟩ = 0 then .tup [.isl 2 (labs (madeL (opsOf l) (⟨⟨b_1, b_2, b_3⟩, b_4⟩ : Idd) ⟨v1, v2⟩)) (capM (madeL (opsOf l) (⟨⟨b_1, b_2, b_3⟩, b_4⟩ : Idd) ⟨v1, v2⟩)), aI 0] else .tup [aNil, aI (askedE (opsOf l) (⟨⟨b_1, b_2, b_3⟩, b_4⟩ : Idd) ⟨v1, v2⟩)]) := by
  refine limf_of (fn := Try.f41) (c := bd_chain_Chain) rfl (by kernel_rfl) (by kernel_rfl) (by kernel_rfl) (by kernel_rfl) ?_; refine vc_chain_Chain _ _ _ _ _ fun g => ?_
  have h1 := s_asked hx hall hl b_1 b_2 b_3 b_4 v1 v2
  by_cases h : askedE (opsOf l) (⟨⟨b_1, b_2, b_3⟩, b_4⟩ : Idd) ⟨v1, v2⟩ = 0
  · have hid := idB_n (askedE_id h).2.1
    simp only at hid
    have h2 := s_made hx hall hl b_1 b_2 b_3 b_4 (by omega) (by omega) v1 v2
    rw [if_pos h]
    clear hid
    simp [new_ne, ne_new, new_ne1, ne_new1, gen_put', *, VC_chain_Chain, hx.r]
  · rw [if_neg h]
    simp [new_ne, ne_new, new_ne1, ne_new1, gen_put', *, VC_chain_Chain, hx.r]
theorem s_ChFits (a_1 : UInt8) (a_2 : UInt8) (a_3 : UInt32) (a_4 : UInt8) (a_5 : Int) (a_6 : UInt8) (a_7 : UInt32) (a_8 : UInt8) (a_9 : Int) (a_10 : Int) (a_11 : UInt8) (a_12 : UInt32) (a_13 : UInt8) (a_14 : Int) (a_15 : UInt8) (a_16 : UInt32) {al : List Int} {x : AV} (hax : Sl 1 (rows al) x) (hal : al.length < 2000000) : limf env 44 [x0, .agg [a8 a_1, a8 a_2, a32 a_3, a8 a_4, aI a_5, a8 a_6, a32 a_7, a8 a_8, aI a_9, aI a_10, a8 a_11, a32 a_12, a8 a_13, aI a_14, a8 a_15, a32 a_16, x]] =
    some (if checkE (opsOf l) = 0 then (if opB (⟨a_1, ⟨a_2, a_3, a_4⟩, a_5, ⟨⟨⟨a_6, a_7, a_8⟩, a_9⟩, a_10⟩, ⟨⟨a_11, a_12, a_13⟩, a_14⟩, ⟨a_15, a_16⟩, al⟩ : Opn) then .tup [aB (fitsL (opsOf l) (⟨a_1, ⟨a_2, a_3, a_4⟩, a_5, ⟨⟨⟨a_6, a_7, a_8⟩, a_9⟩, a_10⟩, ⟨⟨a_11, a_12, a_13⟩, a_14⟩, ⟨a_15, a_16⟩, al⟩ : Opn)), aI 0] else .tup [aB false, aI 8]) else .tup [aB false, aI (checkE (opsOf l))]) := by
  refine limf_of (fn := Try.f44) (c := bd_chain_Fits) rfl (by kernel_rfl) (by kernel_rfl) (by kernel_rfl) (by kernel_rfl) ?_; refine vc_chain_Fits _ _ _ _ fun g => ?_
  have h1 := s_ChCheck hx hall hl
  have h2 := s_OpCheck a_1 a_2 a_3 a_4 a_5 a_6 a_7 a_8 a_9 a_10 a_11 a_12 a_13 a_14 a_15 a_16 hax hal
  by_cases h : checkE (opsOf l) = 0
  · rw [if_pos h]
    cases ho : opB (⟨a_1, ⟨a_2, a_3, a_4⟩, a_5, ⟨⟨⟨a_6, a_7, a_8⟩, a_9⟩, a_10⟩, ⟨⟨a_11, a_12, a_13⟩, a_14⟩, ⟨a_15, a_16⟩, al⟩ : Opn) with
    | false => simp [new_ne, ne_new, new_ne1, ne_new1, gen_put', *, VC_chain_Fits, hx.r, hax.r]
    | true =>
      have h3 := s_fits hx hall hl a_1 a_2 a_3 a_4 a_5 a_6 a_7 a_8 a_9 a_10 a_11 a_12 a_13 a_14 a_15 a_16 hax (opB_span ho)
      simp [new_ne, ne_new, new_ne1, ne_new1, gen_put', *, VC_chain_Fits, hx.r, hax.r]
  · rw [if_neg h]
    simp [new_ne, ne_new, new_ne1, ne_new1, gen_put', *, VC_chain_Fits, hx.r, hax.r]
end
end Go.Proofs.Ytjampffmlnplcaa
