/-
  The document's answers on chains. No statement of a seat is proved here.
-/
import Derived.Test.YtjampffmlnplcaaChGreat
import Derived.Test.YtjampffmlnplcaaRefFns
set_option linter.unusedVariables false
set_option linter.unusedSimpArgs false
set_option linter.unusedSectionVars false
set_option linter.unnecessarySimpa false
set_option maxRecDepth 100000
namespace Go.Proofs.Ytjampffmlnplcaa
open Go.Ab
attribute [local simp] depth_eq callRes_V callG_data callG_frz callG_own keep thr appRes_G appFine_n appFine_s appG_n appG_s roomB appRes_I islFine_some islG_ne List.take_of_length_le sB_lit

/- ## Categories -/
def bitB (b : UInt32) (n : Nat) : Bool := decide ((b >>> UInt32.ofNat n) % 2 = 1)
theorem s_bit (a : UInt8) (b : UInt32) (n : Nat) (hn : n < 32) : limf env 153 [.agg [a8 a, a32 b], aI n] = some (aB (bitB b n)) := by
  refine limf_of (fn := Try.f153) (c := bd_blindstampref01_has) rfl (by kernel_rfl) (by kernel_rfl) (by kernel_rfl) (by kernel_rfl) ?_; refine vc_blindstampref01_has _ _ _ _ fun g => ?_
  have h1 : (n : Int) ≤ 4294967296 := by omega
  have h2 : (n : Int) < 32 := by omega
  simp [new_ne, ne_new, new_ne1, ne_new1, gen_put', *, VC_blindstampref01_has, bitB]
def leqFrom (b d : UInt32) : Nat → Nat → Bool
  | 0, _ => true
  | m + 1, n => !(bitB b n && !bitB d n) && leqFrom b d m (n + 1)
theorem rleq_loop {a c : UInt8} {b d : UInt32} {r1 r2 : Ref} {Q : AV → Heap → Prop} : ∀ (m n : Nat) (i : Int) (H : Heap), n + m = 32 → i = n → Fr H → H.get r1 = some ⟨2, [.agg [a8 a, a32 b]], false, false⟩ → H.get r2 = some ⟨2, [.agg [a8 c, a32 d]], false, false⟩ →
    (∀ y H', y = aB (leqFrom b d m n && decide (a ≤ c)) → Q y H') →
    GoL env Try.f131 0 hd_blindstampref01_Leq_2 [(5, aI i), (3, .ptr r2 0 0), (2, .ptr r1 0 0)] H Q := by
  intro m
  induction m with
  | zero =>
    rintro n i H hn rfl hF h1 h2 hQ
    obtain rfl : n = 32 := by omega
    refine vc_blindstampref01_Leq_2 _ _ _ _ _ fun g => ?_
    simp [new_ne, ne_new, new_ne1, ne_new1, gen_put', *, VC_blindstampref01_Leq_2]
    all_goals (first | exact hQ _ _ rfl | exact hQ _ _ (by simp [*, leqFrom]))
  | succ m ih =>
    rintro n i H hn rfl hF h1 h2 hQ
    have hlt : n < 32 := by omega
    have hlt' : (n : Int) < 32 := by omega
    have s1 := s_bit a b n hlt
    have s2 := s_bit c d n hlt
    refine vc_blindstampref01_Leq_2 _ _ _ _ _ fun g => ?_
    simp [new_ne, ne_new, new_ne1, ne_new1, gen_put', *, VC_blindstampref01_Leq_2]
    have e := IntWalk.i64_in ((n : Int) + 1) (by omega)
    have ihn := ih (n + 1) _ H (by omega) rfl hF h1 h2
    cases hb : bitB b n <;> cases hd : bitB d n
    · simp [*]; exact ihn fun y H' ey => hQ y H' (by simp [ey, leqFrom, hb, hd])
    · simp [*]; exact ihn fun y H' ey => hQ y H' (by simp [ey, leqFrom, hb, hd])
    · simp [*]; exact hQ _ _ (by simp [leqFrom, hb, hd])
    · simp [*]; exact ihn fun y H' ey => hQ y H' (by simp [ey, leqFrom, hb, hd])
theorem bitB_get (b : UInt32) (n : Nat) (hn : n < 32) : bitB b n = b.toBitVec.getLsbD n := by
  unfold bitB
  have h1 : ((b >>> UInt32.ofNat n) % 2 = 1) ↔ ((b >>> UInt32.ofNat n) % 2).toNat = 1 := by rw [← UInt32.toNat_inj]; rfl
  rw [Bool.eq_iff_iff, decide_eq_true_eq, h1, UInt32.toNat_mod, UInt32.toNat_shiftRight, UInt32.toNat_ofNat', BitVec.getLsbD, Nat.testBit_eq_decide_div_mod_eq, Nat.shiftRight_eq_div_pow, decide_eq_true_eq]
  have : n % 2 ^ 32 % 32 = n := by omega
  rw [this]
  rfl
theorem leqFrom_iff (b d : UInt32) : ∀ (m n : Nat), n + m = 32 → (leqFrom b d m n = true ↔ ∀ k, n ≤ k → k < 32 → (b.toBitVec &&& ~~~d.toBitVec).getLsbD k = false) := by
  intro m
  induction m with
  | zero => intro n hn; simp only [leqFrom, true_iff]; intro k h1 h2; omega
  | succ m ih =>
    intro n hn
    have hlt : n < 32 := by omega
    simp only [leqFrom, Bool.and_eq_true, ih (n + 1) (by omega), bitB_get _ _ hlt]
    constructor
    · rintro ⟨h1, h2⟩ k hk hk2
      by_cases e : k = n
      · subst e
        simp only [BitVec.getLsbD_and, BitVec.getLsbD_not, hk2, decide_true, Bool.true_and]
        revert h1
        cases b.toBitVec.getLsbD k <;> cases d.toBitVec.getLsbD k <;> simp
      · exact h2 k (by omega) hk2
    · intro h
      refine ⟨?_, fun k h1 h2 => h k (by omega) h2⟩
      have := h n (Nat.le_refl _) hlt
      simp only [BitVec.getLsbD_and, BitVec.getLsbD_not, hlt, decide_true, Bool.true_and] at this
      revert this
      cases b.toBitVec.getLsbD n <;> cases d.toBitVec.getLsbD n <;> simp
theorem leqFrom_all (b d : UInt32) : leqFrom b d 32 0 = decide (b &&& ~~~d = 0) := by
  rw [Bool.eq_iff_iff, leqFrom_iff b d 32 0 (by omega), decide_eq_true_eq]
  constructor
  · intro h
    apply UInt32.toBitVec_inj.1
    apply BitVec.eq_of_getLsbD_eq
    intro i hi
    simpa using h i (by omega) hi
  · intro h k _ _
    have := congrArg UInt32.toBitVec h
    simp only [UInt32.toBitVec_and, UInt32.toBitVec_not] at this
    rw [this]; simp
@[simp] theorem s_RLeq (a : UInt8) (b : UInt32) (c : UInt8) (d : UInt32) : limf env 131 [.agg [a8 a, a32 b], .agg [a8 c, a32 d]] = some (aB (leqL ⟨a, b⟩ ⟨c, d⟩)) := by
  refine limf_of (fn := Try.f131) (c := bd_blindstampref01_Leq) rfl (by kernel_rfl) (by kernel_rfl) (by kernel_rfl) (by kernel_rfl) ?_; refine vc_blindstampref01_Leq _ _ _ _ fun g => ?_
  simp [new_ne, ne_new, new_ne1, ne_new1, gen_put', *, VC_blindstampref01_Leq]
  exact rleq_loop (a := a) (b := b) (c := c) (d := d) 32 0 _ _ rfl rfl (by simp (maxDischargeDepth := 12) [Fr_cons, Fr_consK, Fr.nil, Fr_put, new_ne, ne_new, new_ne1, ne_new1, get_new, get_new1, gen_put', *]) (by simp (maxDischargeDepth := 12) [Fr_cons, Fr_consK, Fr.nil, Fr_put, new_ne, ne_new, new_ne1, ne_new1, get_new, get_new1, gen_put', *]) (by simp (maxDischargeDepth := 12) [Fr_cons, Fr_consK, Fr.nil, Fr_put, new_ne, ne_new, new_ne1, ne_new1, get_new, get_new1, gen_put', *]) fun y H' e => by simp [e, leqFrom_all, leqL, Bool.and_comm]

/- ## Spans, labels -/
theorem s_R18has (a_1 : UInt8) (a_2 : UInt32) (a_3 : UInt8) (a_4 : Int) (a_5 : Int) (b_1 : UInt8) (b_2 : UInt32) (b_3 : UInt8) (b_4 : Int) (hs : spanB (⟨⟨⟨a_1, a_2, a_3⟩, a_4⟩, a_5⟩ : Spn) = true) : limf env 152 [.agg [a8 a_1, a32 a_2, a8 a_3, aI a_4, aI a_5], .agg [a8 b_1, a32 b_2, a8 b_3, aI b_4]] = some (aB (hasB (⟨⟨⟨a_1, a_2, a_3⟩, a_4⟩, a_5⟩ : Spn) (⟨⟨b_1, b_2, b_3⟩, b_4⟩ : Idd))) := by
  refine limf_of (fn := Try.f152) (c := bd_blindstampref18_has) rfl (by kernel_rfl) (by kernel_rfl) (by kernel_rfl) (by kernel_rfl) ?_; refine vc_blindstampref18_has _ _ _ _ fun g => ?_
  have hn := spanB_n hs
  simp only at hn
  have w1 := IntWalk.i64_in (a_4 + a_5) (by omega)
  have hS : decide ((⟨a_1, a_2, a_3⟩ : Han) = ⟨b_1, b_2, b_3⟩) = (decide (a_1 = b_1) && decide (a_2 = b_2) && decide (a_3 = b_3)) := by
    simp [Bool.and_assoc]
  have e : hasB (⟨⟨⟨a_1, a_2, a_3⟩, a_4⟩, a_5⟩ : Spn) (⟨⟨b_1, b_2, b_3⟩, b_4⟩ : Idd) = ((decide (a_1 = b_1) && decide (a_2 = b_2) && decide (a_3 = b_3)) && (decide (a_4 ≤ b_4) && decide (b_4 < a_4 + a_5))) := by
    rw [← hS]; simp only [hasB, hs, Bool.true_and]
  rw [e]
  clear e hS hn
  cases hA : (decide (a_1 = b_1) && decide (a_2 = b_2) && decide (a_3 = b_3)) with
  | false => simp [new_ne, ne_new, new_ne1, ne_new1, gen_put', *, VC_blindstampref18_has, eqA, eqFs]
  | true =>
    by_cases c1 : a_4 ≤ b_4
    · simp [new_ne, ne_new, new_ne1, ne_new1, gen_put', *, VC_blindstampref18_has, eqA, eqFs]
    · simp [new_ne, ne_new, new_ne1, ne_new1, gen_put', *, VC_blindstampref18_has, eqA, eqFs]
theorem among_loop {x0 : AV} {Q : AV → Heap → Prop} {l : List Lab} (hx : Sl 2 (labs l) x0) (hl : l.length < 4611686018427387904) {a : UInt8} {b : UInt32} {r3 : Ref} {H : Heap} (hB : H.get r3 = some ⟨2, [.agg [a8 a, a32 b]], false, false⟩) :
    ∀ (s : List Lab) (k : Nat) (i : Int), l.drop k = s → k ≤ l.length → i = k → (∀ y, y = aB (decide ((⟨a, b⟩ : Lab) ∈ s)) → Q y H) →
    GoL env Try.f130 0 hd_blindstampref18_among_2 [(5, aI i), (3, .ptr r3 0 0), (0, x0)] H Q := by
  intro s
  induction s with
  | nil =>
    rintro k i hs hk rfl hQ
    obtain rfl := drop_nil hs hk
    refine vc_blindstampref18_among_2 _ _ _ _ _ fun g => ?_
    simp [new_ne, ne_new, new_ne1, ne_new1, gen_put', *, VC_blindstampref18_among_2, hx.len]
    all_goals exact hQ _ (by simp)
  | cons t s ih =>
    rintro k i hs hk rfl hQ
    obtain ⟨t1, t2⟩ := t
    obtain ⟨hlt, hg, hs', hg'⟩ := drop_cons hs
    refine vc_blindstampref18_among_2 _ _ _ _ _ fun g => ?_
    have e3 := IntWalk.i64_in ((k : Int) + 1) (by omega)
    have hT : ((⟨a, b⟩ : Lab) = ⟨t1, t2⟩) = ((decide (t1 = a) && decide (t2 = b)) = true) := by
      rw [eq_iff_iff]
      simp only [Lab.mk.injEq, Bool.and_eq_true, decide_eq_true_eq]
      exact ⟨fun h => ⟨h.1.symm, h.2.symm⟩, fun h => ⟨h.1.symm, h.2.symm⟩⟩
    cases hA : (decide (t1 = a) && decide (t2 = b)) with
    | true =>
      rw [hA] at hT
      have hQ' : ∀ y, y = aB true → Q y H := fun y e => hQ y (by rw [e, decide_eq_true (by rw [List.mem_cons]; exact .inl (by rw [hT]))])
      clear hT hQ
      simp [new_ne, ne_new, new_ne1, ne_new1, gen_put', *, VC_blindstampref18_among_2, hx.len, hx.idx, labs, eqA, eqFs]
      all_goals exact hQ' _ rfl
    | false =>
      rw [hA] at hT
      have hn : ¬ (⟨a, b⟩ : Lab) = ⟨t1, t2⟩ := by rw [hT]; simp
      have hQ' : ∀ y, y = aB (decide ((⟨a, b⟩ : Lab) ∈ s)) → Q y H := fun y e => hQ y (by rw [e]; exact congrArg aB (decide_eq_decide.2 ⟨List.mem_cons_of_mem _, fun h => (List.mem_cons.1 h).resolve_left hn⟩))
      clear hT hQ hn
      simp [new_ne, ne_new, new_ne1, ne_new1, gen_put', *, VC_blindstampref18_among_2, hx.len, hx.idx, labs, eqA, eqFs]
      exact ih (k + 1) _ hs' (by omega) (by simp) hQ'
theorem s_among {x : AV} {l : List Lab} (hx : Sl 2 (labs l) x) (hl : l.length < 4611686018427387904) (a : UInt8) (b : UInt32) : limf env 130 [x, .agg [a8 a, a32 b]] = some (aB (decide (⟨a, b⟩ ∈ l))) := by
  refine limf_of (fn := Try.f130) (c := bd_blindstampref18_among) rfl (by kernel_rfl) (by kernel_rfl) (by kernel_rfl) (by kernel_rfl) ?_; refine vc_blindstampref18_among _ _ _ _ fun g => ?_
  simp [new_ne, ne_new, new_ne1, ne_new1, gen_put', *, VC_blindstampref18_among, hx.r]
  exact among_loop hx hl (a := a) (b := b) (by simp) l 0 _ rfl (by omega) rfl (fun y e => by simp [e])

/- ## What raises an element -/
def raisedR (l : List Opn) (i : Idd) (v : Lab) : List Lab := (l.filter fun o => raises o i v).map (·.to)
theorem raisedR_cons (o : Opn) (l : List Opn) (i : Idd) (v : Lab) : raisedR (o :: l) i v = if raises o i v then o.to :: raisedR l i v else raisedR l i v := by
  unfold raisedR
  rw [List.filter_cons]
  split <;> simp_all
theorem madeF_raised (l : List Opn) (i : Idd) (v : Lab) : ∀ out, madeF out l i v = (raisedR l i v).foldl addL out := by
  induction l with
  | nil => intro out; rfl
  | cons o l ih =>
    intro out
    show madeF (if raises o i v then addL out o.to else out) l i v = _
    rw [ih, raisedR_cons]
    split <;> rfl
theorem raisedR_len (l : List Opn) (i : Idd) (v : Lab) : (raisedR l i v).length ≤ l.length := by
  unfold raisedR; rw [List.length_map]; exact List.length_filter_le _ _
theorem rraises_loop {l : List (Opn × AV)} {x0 : AV} (hx : Sl 17 (encOs l) x0) (hall : ∀ p ∈ l, okO p) (hsp : ∀ p ∈ l, spanB p.1.s = true) (hl : l.length < 100000) (b_1 : UInt8) (b_2 : UInt32) (b_3 : UInt8) (b_4 : Int) (v1 : UInt8) (v2 : UInt32) {r4 r5 : Ref} {Q : AV → Heap → Prop}
    (hn4 : r4.t = 4) (hn5 : r5.t = 5) :
    ∀ (s : List (Opn × AV)) (k : Nat) (i : Int) (acc : List Lab) (x7 : AV) (H : Heap), l.drop k = s → k ≤ l.length → i = k → acc.length ≤ k → Fr H → H.get r4 = some ⟨4, [.agg [a8 b_1, a32 b_2, a8 b_3, aI b_4]], false, false⟩ → H.get r5 = some ⟨2, [.agg [a8 v1, a32 v2]], false, false⟩ → OwnAt [47] 2 (labs acc) H x7 → (acc = [] → x7 = aNil) →
    (∀ y H', OwnAt [47] 2 (labs (acc ++ raisedR (opsOf s) (⟨⟨b_1, b_2, b_3⟩, b_4⟩ : Idd) ⟨v1, v2⟩)) H' y → (acc ++ raisedR (opsOf s) (⟨⟨b_1, b_2, b_3⟩, b_4⟩ : Idd) ⟨v1, v2⟩ = [] → y = aNil) → Q y H') →
    GoL env Try.f129 0 hd_blindstampref18_Raises_3 [(8, aI i), (0, x0), (7, x7), (5, .ptr r5 0 0), (4, .ptr r4 0 0)] H Q := by
  intro s
  induction s with
  | nil =>
    rintro k i acc x7 H hs hk rfl ha hF h4 h5 hO hN hQ
    obtain rfl := drop_nil hs hk
    refine vc_blindstampref18_Raises_3 _ _ _ _ _ _ _ fun g => ?_
    have hQ' := hQ x7 H (by simpa [opsOf, raisedR] using hO) (by simpa [opsOf, raisedR] using hN)
    clear hO hQ hN
    simp [new_ne, ne_new, new_ne1, ne_new1, gen_put', *, VC_blindstampref18_Raises_3, hx.r]
    all_goals exact hQ'
  | cons p s ih =>
    rintro k i acc x7 H hs hk rfl ha hF h4 h5 hO hN hQ
    obtain ⟨hlt, hg, hs', hg'⟩ := drop_cons hs
    have hp := hall p (by rw [← hg]; exact List.getElem_mem _)
    have hps := hsp p (by rw [← hg]; exact List.getElem_mem _)
    obtain ⟨⟨a_1, ⟨a_2, a_3, a_4⟩, a_5, ⟨⟨⟨a_6, a_7, a_8⟩, a_9⟩, a_10⟩, ⟨⟨a_11, a_12, a_13⟩, a_14⟩, ⟨a_15, a_16⟩, al⟩, x⟩ := p
    obtain ⟨hpx, hpl⟩ := hp
    simp only at hpx hpl hps
    have hh := s_R18has a_6 a_7 a_8 a_9 a_10 b_1 b_2 b_3 b_4 hps
    have e3 := IntWalk.i64_in ((k : Int) + 1) (by omega)
    have hcons : raisedR (opsOf (((⟨a_1, ⟨a_2, a_3, a_4⟩, a_5, ⟨⟨⟨a_6, a_7, a_8⟩, a_9⟩, a_10⟩, ⟨⟨a_11, a_12, a_13⟩, a_14⟩, ⟨a_15, a_16⟩, al⟩ : Opn), x) :: s)) (⟨⟨b_1, b_2, b_3⟩, b_4⟩ : Idd) ⟨v1, v2⟩ = if raises (⟨a_1, ⟨a_2, a_3, a_4⟩, a_5, ⟨⟨⟨a_6, a_7, a_8⟩, a_9⟩, a_10⟩, ⟨⟨a_11, a_12, a_13⟩, a_14⟩, ⟨a_15, a_16⟩, al⟩ : Opn) (⟨⟨b_1, b_2, b_3⟩, b_4⟩ : Idd) ⟨v1, v2⟩ then ⟨a_15, a_16⟩ :: raisedR (opsOf s) (⟨⟨b_1, b_2, b_3⟩, b_4⟩ : Idd) ⟨v1, v2⟩ else raisedR (opsOf s) (⟨⟨b_1, b_2, b_3⟩, b_4⟩ : Idd) ⟨v1, v2⟩ := raisedR_cons _ _ _ _
    rw [hcons] at hQ
    clear hcons
    refine vc_blindstampref18_Raises_3 _ _ _ _ _ _ _ fun g => ?_
    cases hr : raises (⟨a_1, ⟨a_2, a_3, a_4⟩, a_5, ⟨⟨⟨a_6, a_7, a_8⟩, a_9⟩, a_10⟩, ⟨⟨a_11, a_12, a_13⟩, a_14⟩, ⟨a_15, a_16⟩, al⟩ : Opn) (⟨⟨b_1, b_2, b_3⟩, b_4⟩ : Idd) ⟨v1, v2⟩ with
    | false =>
      rw [hr, if_neg (by decide)] at hQ
      by_cases h3 : a_1 = 3
      · subst h3
        cases hb : hasB ⟨⟨⟨a_6, a_7, a_8⟩, a_9⟩, a_10⟩ (⟨⟨b_1, b_2, b_3⟩, b_4⟩ : Idd) with
        | false =>
          clear hr
          simp [new_ne, ne_new, new_ne1, ne_new1, gen_put', *, VC_blindstampref18_Raises_3, hx.r, hx.idx, encOs, encO, hpx.r]
          exact ih (k + 1) _ acc x7 _ hs' (by omega) (by simp) (by omega) hF h4 h5 hO hN hQ
        | true =>
          have hq : leqL ⟨a_2, a_3⟩ ⟨v1, v2⟩ = false := by
            simp only [raises, hb, decide_true, Bool.true_and, byL] at hr; exact hr
          clear hr
          simp [new_ne, ne_new, new_ne1, ne_new1, gen_put', *, VC_blindstampref18_Raises_3, hx.r, hx.idx, encOs, encO, hpx.r]
          exact ih (k + 1) _ acc x7 _ hs' (by omega) (by simp) (by omega) hF h4 h5 hO hN hQ
      · clear hr
        simp [new_ne, ne_new, new_ne1, ne_new1, gen_put', *, VC_blindstampref18_Raises_3, hx.r, hx.idx, encOs, encO, hpx.r]
        exact ih (k + 1) _ acc x7 _ hs' (by omega) (by simp) (by omega) hF h4 h5 hO hN hQ
    | true =>
      rw [hr, if_pos rfl] at hQ
      simp only [raises, Bool.and_eq_true, decide_eq_true_eq, byL] at hr
      obtain ⟨h3, hb, hq⟩ := hr
      subst h3
      have hQ' : ∀ y H', OwnAt [47] 2 (labs ((acc ++ [⟨a_15, a_16⟩]) ++ raisedR (opsOf s) (⟨⟨b_1, b_2, b_3⟩, b_4⟩ : Idd) ⟨v1, v2⟩)) H' y → (((acc ++ [⟨a_15, a_16⟩]) ++ raisedR (opsOf s) (⟨⟨b_1, b_2, b_3⟩, b_4⟩ : Idd) ⟨v1, v2⟩) = [] → y = aNil) → Q y H' := fun y H' h hn => hQ y H' (by simpa using h) (fun e => by simp at e)
      clear hQ hN
      have hih := fun x7' H' => ih (k + 1) ((k : Int) + 1) (acc ++ [⟨a_15, a_16⟩]) x7' H' hs' (by omega) (by simp) (by simp; omega)
      clear ih
      have l4 : (H.get r4).isSome = true := by rw [h4]; rfl
      have l5 : (H.get r5).isSome = true := by rw [h5]; rfl
      rcases hO with ⟨rfl, hz⟩ | ⟨t, gg, ht, rfl, hrr⟩
      · have hz' : acc = [] := by simpa using hz
        subst hz'
        have hO0 : ∀ (x : AV) (H' : Heap), OwnAt [47] 2 (labs [⟨a_15, a_16⟩]) H' x → OwnAt [47] 2 (labs ([] ++ [⟨a_15, a_16⟩])) H' x := fun x H' h => h
        simp [new_ne, ne_new, new_ne1, ne_new1, gen_put', *, VC_blindstampref18_Raises_3, hx.r, hx.idx, encOs, encO, hpx.r]
        exact hih _ _ (by simp (maxDischargeDepth := 12) [Heap.get_put, Fr_cons, Fr_consK, Fr.nil, Fr_put, new_ne, ne_new, new_ne1, ne_new1, get_new, get_new1, gen_put', *]) (by simp (maxDischargeDepth := 12) [Heap.get_put, Fr_cons, Fr_consK, Fr.nil, Fr_put, new_ne, ne_new, new_ne1, ne_new1, get_new, get_new1, gen_put', *]) (by simp (maxDischargeDepth := 12) [Heap.get_put, Fr_cons, Fr_consK, Fr.nil, Fr_put, new_ne, ne_new, new_ne1, ne_new1, get_new, get_new1, gen_put', *]) (hO0 _ _ (by simp [labs])) (fun h => by simp at h) hQ'
      · rw [List.mem_singleton] at ht
        subst ht
        have l6 : (H.get ⟨0, 47, gg, 0⟩).isSome = true := by rw [hrr]; rfl
        have n4 : r4 ≠ ⟨0, 47, gg, 0⟩ := by rintro rfl; simp at hn4
        have n5 : r5 ≠ ⟨0, 47, gg, 0⟩ := by rintro rfl; simp at hn5
        have f1 : acc.length + 1 ≤ 17592186044416 := by omega
        have f2 : appFine 2 8 acc.length true none (some ⟨2, labs acc, true, false⟩) (some [.agg [a8 a_15, a32 a_16]]) := by
          simp; omega
        simp [new_ne, ne_new, new_ne1, ne_new1, gen_put', *, VC_blindstampref18_Raises_3, hx.r, hx.idx, encOs, encO, hpx.r]
        exact hih _ _ (by simp (maxDischargeDepth := 12) [Heap.get_put, Fr_cons, Fr_consK, Fr.nil, Fr_put, new_ne, ne_new, new_ne1, ne_new1, get_new, get_new1, gen_put', *]) (by simp (maxDischargeDepth := 12) [Heap.get_put, Fr_cons, Fr_consK, Fr.nil, Fr_put, new_ne, ne_new, new_ne1, ne_new1, get_new, get_new1, gen_put', *]) (by simp (maxDischargeDepth := 12) [Heap.get_put, Fr_cons, Fr_consK, Fr.nil, Fr_put, new_ne, ne_new, new_ne1, ne_new1, get_new, get_new1, gen_put', *]) (by simp [labs]) (fun h => by simp at h) hQ'
theorem s_RRaises {l : List (Opn × AV)} {x0 : AV} (hx : Sl 17 (encOs l) x0) (hall : ∀ p ∈ l, okO p) (hsp : ∀ p ∈ l, spanB p.1.s = true) (hl : l.length < 100000) (b_1 : UInt8) (b_2 : UInt32) (b_3 : UInt8) (b_4 : Int) (v1 : UInt8) (v2 : UInt32) :
    limf env 129 [x0, .agg [a8 b_1, a32 b_2, a8 b_3, aI b_4], .agg [a8 v1, a32 v2]] = some (outI 2 (labs (raisedR (opsOf l) (⟨⟨b_1, b_2, b_3⟩, b_4⟩ : Idd) ⟨v1, v2⟩))) := by
  refine limf_of (fn := Try.f129) (c := bd_blindstampref18_Raises) rfl (by kernel_rfl) (by kernel_rfl) (by kernel_rfl) (by kernel_rfl) ?_; refine vc_blindstampref18_Raises _ _ _ _ _ fun g => ?_
  simp [new_ne, ne_new, new_ne1, ne_new1, gen_put', *, VC_blindstampref18_Raises]
  refine rraises_loop hx hall hsp hl b_1 b_2 b_3 b_4 v1 v2 (by rfl) (by rfl) l 0 _ [] _ _ rfl (by omega) rfl (by simp) (by simp (maxDischargeDepth := 12) [Fr_cons, Fr_consK, Fr.nil, Fr_put, new_ne, ne_new, new_ne1, ne_new1, get_new, get_new1, gen_put', *]) (by simp) (by simp) (.inl ⟨rfl, rfl⟩) (fun _ => rfl) (fun y H' h hN => ?_)
  rw [List.nil_append] at h hN
  rcases h with ⟨rfl, hz⟩ | ⟨t, gg, ht, rfl, hrr⟩
  · rw [hz]; simp [outI]
  · have hne : labs (raisedR (opsOf l) (⟨⟨b_1, b_2, b_3⟩, b_4⟩ : Idd) ⟨v1, v2⟩) ≠ [] := by
      intro e
      rw [labs_nil_iff] at e
      cases hN e
    rw [outI_ne 2 hne]
    rw [labs_len] at *
    simp [hrr]

/- ## A chain -/
/-- The chain under way: its first row has room for one. -/
def ChAt (out : List Lab) (H : Heap) (x : AV) : Prop := ∃ r c, x = .osl r 0 out.length c ∧ H.get r = some ⟨2, labs out, true, false⟩ ∧ ((c = some 1 ∧ out.length = 1 ∧ ∃ g, r = ⟨0, 13, g, 0⟩) ∨ (c = none ∧ 1 < out.length ∧ ∃ g, r = ⟨0, 37, g, 0⟩))
theorem ChAt.keep {out : List Lab} {H H' : Heap} {x : AV} (h : ChAt out H x) (hk : ∀ r b, H.get r = some b → r.t ≠ 36 → H'.get r = some b) : ChAt out H' x := by
  obtain ⟨r, c, e, hr, hc⟩ := h
  refine ⟨r, c, e, hk r _ hr ?_, hc⟩
  rcases hc with ⟨_, _, g, rfl⟩ | ⟨_, _, g, rfl⟩ <;> simp
theorem rof_loop {all : List Lab} {x8 : AV} (hx : Sl 2 (labs all) x8) (hl : all.length < 100000) {Q : AV → Heap → Prop} :
    ∀ (s : List Lab) (k : Nat) (i : Int) (out : List Lab) (x7 : AV) (H : Heap), all.drop k = s → k ≤ all.length → i = k → out.length ≤ k + 1 → Fr H → ChAt out H x7 →
    (∀ y H', ChAt (s.foldl addL out) H' y → Q y H') →
    GoL env Try.f95 0 hd_blindstampref18_Of_4 [(9, aI i), (8, x8), (7, x7)] H Q := by
  intro s
  induction s with
  | nil =>
    rintro k i out x7 H hs hk rfl ho hF hC hQ
    obtain rfl := drop_nil hs hk
    refine vc_blindstampref18_Of_4 _ _ _ _ _ fun g => ?_
    have hQ' := hQ x7 H hC
    clear hC hQ
    simp [new_ne, ne_new, new_ne1, ne_new1, gen_put', *, VC_blindstampref18_Of_4, hx.len]
    all_goals exact hQ'
  | cons t s ih =>
    rintro k i out x7 H hs hk rfl ho hF hC hQ
    obtain ⟨t1, t2⟩ := t
    obtain ⟨hlt, hg, hs', hg'⟩ := drop_cons hs
    have e3 := IntWalk.i64_in ((k : Int) + 1) (by omega)
    have hih := fun out' x7' H' => ih (k + 1) ((k : Int) + 1) out' x7' H' hs' (by omega) (by simp)
    clear ih
    have hrd : readAt (labs all) k 0 2 true = some (.agg [a8 t1, a32 t2]) := by simp [labs, hg']
    rw [List.foldl_cons] at hQ
    have hol : (labs out).length = out.length := labs_len out
    have ha : ∀ c : Option Nat, out.length ≤ c.getD out.length → limf env 130 [.isl 2 (labs out) c, .agg [a8 t1, a32 t2]] = some (aB (decide ((⟨t1, t2⟩ : Lab) ∈ out))) := fun c hc => s_among (.inr ⟨c, rfl, by rw [hol]; exact hc⟩) (by omega) t1 t2
    obtain ⟨r, c, rfl, hr, hc⟩ := hC
    refine vc_blindstampref18_Of_4 _ _ _ _ _ fun g => ?_
    have f2 : out.length + 1 ≤ 17592186044416 := by omega
    by_cases hm : (⟨t1, t2⟩ : Lab) ∈ out
    · have hQ' : ∀ y H', ChAt (s.foldl addL out) H' y → Q y H' := fun y H' h => hQ y H' (by rw [addL, if_pos hm]; exact h)
      clear hQ
      have ha' : limf env 130 [.isl 2 (labs out) c, .agg [a8 t1, a32 t2]] = some (aB true) := by
        rw [ha c (by rcases hc with ⟨rfl, h, _⟩ | ⟨rfl, h, _⟩ <;> simp [h]), decide_eq_true hm]
      have hfin := fun H' h => hih out (.osl r 0 out.length c) H' (by omega) h
      clear ha hih hm
      have hC : ChAt out H (.osl r 0 out.length c) := ⟨r, c, rfl, hr, hc⟩
      simp [new_ne, ne_new, new_ne1, ne_new1, gen_put', *, VC_blindstampref18_Of_4, hx.r, hx.idx]
      exact hfin _ hF hC hQ'
    · have hQ' : ∀ y H', ChAt (s.foldl addL (out ++ [⟨t1, t2⟩])) H' y → Q y H' := fun y H' h => hQ y H' (by rw [addL, if_neg hm]; exact h)
      clear hQ
      have ha' : limf env 130 [.isl 2 (labs out) c, .agg [a8 t1, a32 t2]] = some (aB false) := by
        rw [ha c (by rcases hc with ⟨rfl, h, _⟩ | ⟨rfl, h, _⟩ <;> simp [h]), decide_eq_false hm]
      clear ha hm
      have lr : (H.get r).isSome = true := by rw [hr]; rfl
      have hfin := fun x7' H' => hih (out ++ [⟨t1, t2⟩]) x7' H' (by simp; omega)
      clear hih
      have hst : ∀ (g : Nat) (H' : Heap), H'.get ⟨0, 37, g, 0⟩ = some ⟨2, labs out ++ [.agg [a8 t1, a32 t2]], true, false⟩ → ChAt (out ++ [⟨t1, t2⟩]) H' (.osl ⟨0, 37, g, 0⟩ 0 (out.length + 1) none) := by
        intro g H' h
        refine ⟨_, _, by simp, by rw [h, labs_snoc], .inr ⟨rfl, ?_, g, rfl⟩⟩
        rcases hc with ⟨_, h, _⟩ | ⟨_, h, _⟩ <;> simp <;> omega
      rcases hc with ⟨rfl, h1, g0, rfl⟩ | ⟨rfl, h1, g0, rfl⟩
      · have f3 : 1 < out.length + 1 := by omega
        have hst' := hst (H.gen 0 37)
        clear hst
        have h1' : (labs out).length = 1 := by rw [hol, h1]
        rw [h1] at hst'
        simp [new_ne, ne_new, new_ne1, ne_new1, gen_put', *, VC_blindstampref18_Of_4, hx.r, hx.idx]
        exact hfin _ _ (by simp (maxDischargeDepth := 12) [Heap.get_put, Fr_cons, Fr_consK, Fr.nil, Fr_put, new_ne, ne_new, new_ne1, ne_new1, get_new, get_new1, gen_put', *]) (hst' _ (by simp)) hQ'
      · have f4 : appFine 2 8 out.length true none (some ⟨2, labs out, true, false⟩) (some [.agg [a8 t1, a32 t2]]) := by
          simp; omega
        have hst' := hst (H.gen 0 37)
        clear hst
        simp [new_ne, ne_new, new_ne1, ne_new1, gen_put', *, VC_blindstampref18_Of_4, hx.r, hx.idx]
        exact hfin _ _ (by simp (maxDischargeDepth := 12) [Heap.get_put, Fr_cons, Fr_consK, Fr.nil, Fr_put, new_ne, ne_new, new_ne1, ne_new1, get_new, get_new1, gen_put', *]) (hst' _ (by simp)) hQ'
theorem madeL_raised (l : List Opn) (i : Idd) (v : Lab) : (raisedR l i v).foldl addL [ofI i] = madeL l i v := (madeF_raised l i v _).symm
theorem s_ROf {l : List (Opn × AV)} {x0 : AV} (hx : Sl 17 (encOs l) x0) (hall : ∀ p ∈ l, okO p) (hsp : ∀ p ∈ l, spanB p.1.s = true) (hl : l.length < 100000) (b_1 : UInt8) (b_2 : UInt32) (b_3 : UInt8) (b_4 : Int) (v1 : UInt8) (v2 : UInt32) :
    limf env 95 [x0, .agg [a8 b_1, a32 b_2, a8 b_3, aI b_4], .agg [a8 v1, a32 v2]] = some (.isl 2 (labs (madeL (opsOf l) (⟨⟨b_1, b_2, b_3⟩, b_4⟩ : Idd) ⟨v1, v2⟩)) (capM (madeL (opsOf l) (⟨⟨b_1, b_2, b_3⟩, b_4⟩ : Idd) ⟨v1, v2⟩))) := by
  refine limf_of (fn := Try.f95) (c := bd_blindstampref18_Of) rfl (by kernel_rfl) (by kernel_rfl) (by kernel_rfl) (by kernel_rfl) ?_; refine vc_blindstampref18_Of _ _ _ _ _ fun g => ?_
  have h1 := s_RRaises hx hall hsp hl b_1 b_2 b_3 b_4 v1 v2
  have hlr := raisedR_len (opsOf l) (⟨⟨b_1, b_2, b_3⟩, b_4⟩ : Idd) ⟨v1, v2⟩
  rw [show (opsOf l).length = l.length from List.length_map _] at hlr
  have hsl := outI_sl 2 (labs (raisedR (opsOf l) (⟨⟨b_1, b_2, b_3⟩, b_4⟩ : Idd) ⟨v1, v2⟩))
  rw [← madeL_raised]
  have hloop := fun (x7 : AV) (H : Heap) (Q : AV → Heap → Prop) => rof_loop hsl (by omega) (Q := Q) (raisedR (opsOf l) (⟨⟨b_1, b_2, b_3⟩, b_4⟩ : Idd) ⟨v1, v2⟩) 0 0 [ofI (⟨⟨b_1, b_2, b_3⟩, b_4⟩ : Idd)] x7 H rfl (by omega) rfl (by simp)
  clear hsp hall
  have hst : ∀ H : Heap, H.get ⟨0, 13, 0, 0⟩ = some ⟨2, [.agg [a8 b_1, a32 b_2]], true, false⟩ → ChAt [ofI (⟨⟨b_1, b_2, b_3⟩, b_4⟩ : Idd)] H (.osl ⟨0, 13, 0, 0⟩ 0 1 (some 1)) := fun H h => ⟨_, _, rfl, h, .inl ⟨rfl, rfl, 0, rfl⟩⟩
  generalize raisedR (opsOf l) (⟨⟨b_1, b_2, b_3⟩, b_4⟩ : Idd) ⟨v1, v2⟩ = al at *
  generalize outI 2 (labs al) = xo at *
  have hfin : ∀ y H', ChAt (al.foldl addL [ofI (⟨⟨b_1, b_2, b_3⟩, b_4⟩ : Idd)]) H' y → view H'.get 8 y = some (.isl 2 (labs (al.foldl addL [ofI (⟨⟨b_1, b_2, b_3⟩, b_4⟩ : Idd)])) (capM (al.foldl addL [ofI (⟨⟨b_1, b_2, b_3⟩, b_4⟩ : Idd)]))) := by
    intro y H' h
    obtain ⟨r, c, rfl, hr, hc⟩ := h
    have e : c = capM (al.foldl addL [ofI (⟨⟨b_1, b_2, b_3⟩, b_4⟩ : Idd)]) := by
      rcases hc with ⟨rfl, h, _⟩ | ⟨rfl, h, _⟩
      · rw [capM, if_pos h]
      · rw [capM, if_neg (by omega)]
    rw [← e]
    simp [hr]
  generalize (al.foldl addL [ofI (⟨⟨b_1, b_2, b_3⟩, b_4⟩ : Idd)]) = fin at hloop hfin ⊢
  rcases hsl with ⟨rfl, hn⟩ | ⟨c, rfl, hc⟩
  · simp [new_ne, ne_new, new_ne1, ne_new1, gen_put', *, VC_blindstampref18_Of, hx.r]
    exact hloop _ _ _ (by simp (maxDischargeDepth := 12) [Heap.get_put, Fr_cons, Fr_consK, Fr.nil, Fr_put, new_ne, ne_new, new_ne1, ne_new1, get_new, get_new1, gen_put', *]) (hst _ (by simp)) hfin
  · simp [new_ne, ne_new, new_ne1, ne_new1, gen_put', *, VC_blindstampref18_Of, hx.r]
    exact hloop _ _ _ (by simp (maxDischargeDepth := 12) [Heap.get_put, Fr_cons, Fr_consK, Fr.nil, Fr_put, new_ne, ne_new, new_ne1, ne_new1, get_new, get_new1, gen_put', *]) (hst _ (by simp)) hfin

/- ## Raised rightly? -/
/-- The ids of a span, from one on. -/
def idsFrom (s : Spn) : Nat → Nat → List Idd
  | 0, _ => []
  | n + 1, k => ⟨s.f.h, s.f.n + (k : Int)⟩ :: idsFrom s n (k + 1)
def encI (i : Idd) : AV := .agg [a8 i.h.lv, a32 i.h.cats, a8 i.h.num, aI i.n]
def encIs (l : List Idd) : List AV := l.map encI
@[simp] theorem encIs_len (l : List Idd) : (encIs l).length = l.length := by simp [encIs]
theorem idsFrom_len (s : Spn) : ∀ n k, (idsFrom s n k).length = n := by
  intro n
  induction n with
  | zero => intro k; rfl
  | succ n ih => intro k; simp [idsFrom, ih]
theorem rall_loop (a_1 : UInt8) (a_2 : UInt32) (a_3 : UInt8) (a_4 : Int) (a_5 : Int) (h1 : -4611686018427387904 < a_4) (h2 : a_4 < 4611686018427387904) (h3 : a_5 < 100000) {r1 : Ref} (hn1 : r1.t = 1) {Q : AV → Heap → Prop} :
    ∀ (n k : Nat) (i : Int) (acc : List Idd) (x3 : AV) (H : Heap), (k : Int) + n = a_5 → i = k → acc.length = k → Fr H → H.get r1 = some ⟨5, [.agg [a8 a_1, a32 a_2, a8 a_3, aI a_4, aI a_5]], false, false⟩ → OwnAt [22] 4 (encIs acc) H x3 → (acc = [] → x3 = aNil) →
    (∀ y H', OwnAt [22] 4 (encIs (acc ++ idsFrom (⟨⟨⟨a_1, a_2, a_3⟩, a_4⟩, a_5⟩ : Spn) n k)) H' y → (acc ++ idsFrom (⟨⟨⟨a_1, a_2, a_3⟩, a_4⟩, a_5⟩ : Spn) n k = [] → y = aNil) → Q y H') →
    GoL env Try.f132 0 hd_blindstampref05_All_3 [(4, aI i), (1, .ptr r1 0 0), (3, x3)] H Q := by
  intro n
  induction n with
  | zero =>
    rintro k i acc x3 H hk rfl ha hF hB hO hN hQ
    refine vc_blindstampref05_All_3 _ _ _ _ _ fun g => ?_
    have hk' : ¬ (k : Int) < a_5 := by omega
    have hQ' := hQ x3 H (by simpa [idsFrom] using hO) (by simpa [idsFrom] using hN)
    clear hQ hO hN
    simp [new_ne, ne_new, new_ne1, ne_new1, gen_put', *, VC_blindstampref05_All_3]
    all_goals exact hQ'
  | succ n ih =>
    rintro k i acc x3 H hk rfl ha hF hB hO hN hQ
    refine vc_blindstampref05_All_3 _ _ _ _ _ fun g => ?_
    have hk' : (k : Int) < a_5 := by omega
    have e3 := IntWalk.i64_in ((k : Int) + 1) (by omega)
    have e4 := IntWalk.i64_in (a_4 + (k : Int)) (by omega)
    have hih := fun x3' H' => ih (k + 1) ((k : Int) + 1) (acc ++ [⟨⟨a_1, a_2, a_3⟩, a_4 + (k : Int)⟩]) x3' H' (by omega) (by simp) (by simp; omega)
    clear ih
    have hQ' : ∀ y H', OwnAt [22] 4 (encIs ((acc ++ [⟨⟨a_1, a_2, a_3⟩, a_4 + (k : Int)⟩]) ++ idsFrom (⟨⟨⟨a_1, a_2, a_3⟩, a_4⟩, a_5⟩ : Spn) n (k + 1))) H' y → (((acc ++ [⟨⟨a_1, a_2, a_3⟩, a_4 + (k : Int)⟩]) ++ idsFrom (⟨⟨⟨a_1, a_2, a_3⟩, a_4⟩, a_5⟩ : Spn) n (k + 1)) = [] → y = aNil) → Q y H' := fun y H' h hn => hQ y H' (by simpa [idsFrom] using h) (fun e => by simp [idsFrom] at e)
    clear hQ hN
    have hst : ∀ (g m : Nat) (H' : Heap), m = k + 1 → H'.get ⟨0, 22, g, 0⟩ = some ⟨4, encIs acc ++ [.agg [a8 a_1, a32 a_2, a8 a_3, aI (a_4 + (k : Int))]], true, false⟩ → OwnAt [22] 4 (encIs (acc ++ [⟨⟨a_1, a_2, a_3⟩, a_4 + (k : Int)⟩])) H' (.osl ⟨0, 22, g, 0⟩ 0 m none) := by
      intro g m H' hm h
      subst hm
      exact .inr ⟨22, g, by simp, by simp [ha], by rw [h]; simp [encIs, encI]⟩
    rcases hO with ⟨rfl, hz⟩ | ⟨t, gg, ht, rfl, hrr⟩
    · have hz' : acc = [] := by simpa [encIs] using hz
      subst hz'
      have hst' := hst (H.gen 0 22) 1
      clear hst
      simp [new_ne, ne_new, new_ne1, ne_new1, gen_put', *, VC_blindstampref05_All_3]
      exact hih _ _ (by simp (maxDischargeDepth := 12) [Heap.get_put, Fr_cons, Fr_consK, Fr.nil, Fr_put, new_ne, ne_new, new_ne1, ne_new1, get_new, get_new1, gen_put', *]) (by simp (maxDischargeDepth := 12) [Heap.get_put, Fr_cons, Fr_consK, Fr.nil, Fr_put, new_ne, ne_new, new_ne1, ne_new1, get_new, get_new1, gen_put', *]) (hst' _ (by simp at ha; omega) (by simp [encIs])) (fun e => by simp at e) hQ'
    · rw [List.mem_singleton] at ht
      subst ht
      have l6 : (H.get ⟨0, 22, gg, 0⟩).isSome = true := by rw [hrr]; rfl
      have l1 : (H.get r1).isSome = true := by rw [hB]; rfl
      have n1 : r1 ≠ ⟨0, 22, gg, 0⟩ := by rintro rfl; simp at hn1
      have f4 : appFine 4 24 acc.length true none (some ⟨4, encIs acc, true, false⟩) (some [.agg [a8 a_1, a32 a_2, a8 a_3, aI (a_4 + (k : Int))]]) := by
        simp; omega
      have hst' := hst (H.gen 0 22) (acc.length + 1)
      clear hst
      have hk1 : acc.length + 1 = k + 1 := by rw [ha]
      have hst'' := fun H' => hst' H' hk1
      clear ha hst' hk1
      simp [new_ne, ne_new, new_ne1, ne_new1, gen_put', *, VC_blindstampref05_All_3]
      exact hih _ _ (by simp (maxDischargeDepth := 12) [Heap.get_put, Fr_cons, Fr_consK, Fr.nil, Fr_put, new_ne, ne_new, new_ne1, ne_new1, get_new, get_new1, gen_put', *]) (by simp (maxDischargeDepth := 12) [Heap.get_put, Fr_cons, Fr_consK, Fr.nil, Fr_put, new_ne, ne_new, new_ne1, ne_new1, get_new, get_new1, gen_put', *]) (hst'' _ (by simp)) (fun e => by simp at e) hQ'
theorem s_RAll (a_1 : UInt8) (a_2 : UInt32) (a_3 : UInt8) (a_4 : Int) (a_5 : Int) (hs : spanB (⟨⟨⟨a_1, a_2, a_3⟩, a_4⟩, a_5⟩ : Spn) = true) : limf env 132 [.agg [a8 a_1, a32 a_2, a8 a_3, aI a_4, aI a_5]] = some (outI 4 (encIs (idsFrom (⟨⟨⟨a_1, a_2, a_3⟩, a_4⟩, a_5⟩ : Spn) a_5.toNat 0))) := by
  refine limf_of (fn := Try.f132) (c := bd_blindstampref05_All) rfl (by kernel_rfl) (by kernel_rfl) (by kernel_rfl) (by kernel_rfl) ?_; refine vc_blindstampref05_All _ _ _ fun g => ?_
  have hn := spanB_n hs
  simp only at hn
  simp [new_ne, ne_new, new_ne1, ne_new1, gen_put', *, VC_blindstampref05_All]
  refine rall_loop a_1 a_2 a_3 a_4 a_5 (by omega) (by omega) (by omega) (by rfl) a_5.toNat 0 _ [] _ _ (by omega) rfl rfl (by simp (maxDischargeDepth := 12) [Fr_cons, Fr_consK, Fr.nil, Fr_put, new_ne, ne_new, new_ne1, ne_new1, get_new, get_new1, gen_put', *]) (by simp) (.inl ⟨rfl, rfl⟩) (fun _ => rfl) (fun y H' h hN => ?_)
  rw [List.nil_append] at h hN
  rcases h with ⟨rfl, hz⟩ | ⟨t, gg, ht, rfl, hrr⟩
  · rw [hz]; simp [outI]
  · have hne : encIs (idsFrom (⟨⟨⟨a_1, a_2, a_3⟩, a_4⟩, a_5⟩ : Spn) a_5.toNat 0) ≠ [] := by
      intro e
      have : idsFrom (⟨⟨⟨a_1, a_2, a_3⟩, a_4⟩, a_5⟩ : Spn) a_5.toNat 0 = [] := by simpa [encIs] using e
      cases hN this
    rw [outI_ne 4 hne]
    rw [encIs_len] at *
    simp [hrr]

theorem idsFrom_all (l : List Opn) (o : Opn) : ∀ n k, ((idsFrom o.s n k).all fun i => decide (byL o ∈ madeL l i (byL o))) = fitsFrom l o n k := by
  intro n
  induction n with
  | zero => intro k; rfl
  | succ n ih => intro k; rw [idsFrom, List.all_cons, ih, fitsFrom]
theorem idsFrom_n (s : Spn) : ∀ (n k : Nat), ∀ i ∈ idsFrom s n k, i.h = s.f.h := by
  intro n
  induction n with
  | zero => intro k i h; simp [idsFrom] at h
  | succ n ih =>
    intro k i h
    rw [idsFrom, List.mem_cons] at h
    rcases h with rfl | h
    · rfl
    · exact ih _ i h
theorem rightly_loop {l : List (Opn × AV)} {x0 : AV} (hx : Sl 17 (encOs l) x0) (hall : ∀ p ∈ l, okO p) (hsp : ∀ p ∈ l, spanB p.1.s = true) (hl : l.length < 100000) (a_1 : UInt8) (a_2 : UInt8) (a_3 : UInt32) (a_4 : UInt8) (a_5 : Int) (a_6 : UInt8) (a_7 : UInt32) (a_8 : UInt8) (a_9 : Int) (a_10 : Int) (a_11 : UInt8) (a_12 : UInt32) (a_13 : UInt8) (a_14 : Int) (a_15 : UInt8) (a_16 : UInt32) {x : AV} {ids : List Idd} {x5 : AV} (hi : Sl 4 (encIs ids) x5) (hil : ids.length < 100000) {r3 : Ref} {H : Heap}
    (hB : H.get r3 = some ⟨17, [.agg [a8 a_1, a8 a_2, a32 a_3, a8 a_4, aI a_5, a8 a_6, a32 a_7, a8 a_8, aI a_9, aI a_10, a8 a_11, a32 a_12, a8 a_13, aI a_14, a8 a_15, a32 a_16, x]], false, false⟩) {Q : AV → Heap → Prop} :
    ∀ (s : List Idd) (k : Nat) (i : Int), ids.drop k = s → k ≤ ids.length → i = k →
    (∀ y, y = aB ((s.all fun i => decide ((⟨a_2, a_3⟩ : Lab) ∈ madeL (opsOf l) i ⟨a_2, a_3⟩)) && leqL ⟨a_2, a_3⟩ ⟨a_15, a_16⟩) → Q y H) →
    GoL env Try.f97 0 hd_blindstampref18_Rightly_5 [(6, aI i), (3, .ptr r3 0 0), (5, x5), (0, x0)] H Q := by
  intro s
  induction s with
  | nil =>
    rintro k i hs hk rfl hQ
    obtain rfl := drop_nil hs hk
    refine vc_blindstampref18_Rightly_5 _ _ _ _ _ _ fun g => ?_
    simp [new_ne, ne_new, new_ne1, ne_new1, gen_put', *, VC_blindstampref18_Rightly_5, hi.len]
    all_goals exact hQ _ (by simp)
  | cons t s ih =>
    rintro k i hs hk rfl hQ
    obtain ⟨⟨b_1, b_2, b_3⟩, b_4⟩ := t
    obtain ⟨hlt, hg, hs', hg'⟩ := drop_cons hs
    have e3 := IntWalk.i64_in ((k : Int) + 1) (by omega)
    have h1 := s_ROf hx hall hsp hl b_1 b_2 b_3 b_4 a_2 a_3
    have ml := madeL_len (opsOf l) (⟨⟨b_1, b_2, b_3⟩, b_4⟩ : Idd) ⟨a_2, a_3⟩
    rw [show (opsOf l).length = l.length from List.length_map _] at ml
    have h2 := s_among (capM_sl (madeL (opsOf l) (⟨⟨b_1, b_2, b_3⟩, b_4⟩ : Idd) ⟨a_2, a_3⟩)) (by omega) a_2 a_3
    have hrd : readAt (encIs ids) k 0 4 true = some (.agg [a8 b_1, a32 b_2, a8 b_3, aI b_4]) := by simp [encIs, encI, hg']
    rw [List.all_cons] at hQ
    have hih := ih (k + 1) _ hs' (by omega) rfl
    clear ih ml
    refine vc_blindstampref18_Rightly_5 _ _ _ _ _ _ fun g => ?_
    by_cases hm : (⟨a_2, a_3⟩ : Lab) ∈ madeL (opsOf l) (⟨⟨b_1, b_2, b_3⟩, b_4⟩ : Idd) ⟨a_2, a_3⟩
    · rw [decide_eq_true hm] at hQ h2
      rw [Bool.true_and] at hQ
      clear hm
      generalize madeL (opsOf l) (⟨⟨b_1, b_2, b_3⟩, b_4⟩ : Idd) ⟨a_2, a_3⟩ = ml at *
      have hfin := hih hQ
      clear hih hQ
      simp [new_ne, ne_new, new_ne1, ne_new1, gen_put', *, VC_blindstampref18_Rightly_5, hi.r, hi.idx, hx.r]
      exact hfin
    · rw [decide_eq_false hm] at hQ h2
      rw [Bool.false_and, Bool.false_and] at hQ
      clear hm hih
      generalize madeL (opsOf l) (⟨⟨b_1, b_2, b_3⟩, b_4⟩ : Idd) ⟨a_2, a_3⟩ = ml at *
      simp [new_ne, ne_new, new_ne1, ne_new1, gen_put', *, VC_blindstampref18_Rightly_5, hi.r, hi.idx, hx.r]
      all_goals exact hQ _ rfl
theorem s_Rightly {l : List (Opn × AV)} {x0 : AV} (hx : Sl 17 (encOs l) x0) (hall : ∀ p ∈ l, okO p) (hsp : ∀ p ∈ l, spanB p.1.s = true) (hl : l.length < 100000) (a_1 : UInt8) (a_2 : UInt8) (a_3 : UInt32) (a_4 : UInt8) (a_5 : Int) (a_6 : UInt8) (a_7 : UInt32) (a_8 : UInt8) (a_9 : Int) (a_10 : Int) (a_11 : UInt8) (a_12 : UInt32) (a_13 : UInt8) (a_14 : Int) (a_15 : UInt8) (a_16 : UInt32) {al : List Int} {x : AV} (hax : Sl 1 (rows al) x) (hs : spanB ⟨⟨⟨a_6, a_7, a_8⟩, a_9⟩, a_10⟩ = true) :
    limf env 97 [x0, .agg [a8 a_1, a8 a_2, a32 a_3, a8 a_4, aI a_5, a8 a_6, a32 a_7, a8 a_8, aI a_9, aI a_10, a8 a_11, a32 a_12, a8 a_13, aI a_14, a8 a_15, a32 a_16, x]] = some (aB (fitsL (opsOf l) (⟨a_1, ⟨a_2, a_3, a_4⟩, a_5, ⟨⟨⟨a_6, a_7, a_8⟩, a_9⟩, a_10⟩, ⟨⟨a_11, a_12, a_13⟩, a_14⟩, ⟨a_15, a_16⟩, al⟩ : Opn))) := by
  refine limf_of (fn := Try.f97) (c := bd_blindstampref18_Rightly) rfl (by kernel_rfl) (by kernel_rfl) (by kernel_rfl) (by kernel_rfl) ?_; refine vc_blindstampref18_Rightly _ _ _ _ fun g => ?_
  by_cases h3 : a_1 = 3
  · subst h3
    have h1 := s_RAll a_6 a_7 a_8 a_9 a_10 hs
    have hn := spanB_n hs
    simp only at hn
    have hlen := idsFrom_len ⟨⟨⟨a_6, a_7, a_8⟩, a_9⟩, a_10⟩ a_10.toNat 0
    have hsl := outI_sl 4 (encIs (idsFrom ⟨⟨⟨a_6, a_7, a_8⟩, a_9⟩, a_10⟩ a_10.toNat 0))
    have hf : fitsL (opsOf l) (⟨3, ⟨a_2, a_3, a_4⟩, a_5, ⟨⟨⟨a_6, a_7, a_8⟩, a_9⟩, a_10⟩, ⟨⟨a_11, a_12, a_13⟩, a_14⟩, ⟨a_15, a_16⟩, al⟩ : Opn) = (((idsFrom ⟨⟨⟨a_6, a_7, a_8⟩, a_9⟩, a_10⟩ a_10.toNat 0).all fun i => decide ((⟨a_2, a_3⟩ : Lab) ∈ madeL (opsOf l) i ⟨a_2, a_3⟩)) && leqL ⟨a_2, a_3⟩ ⟨a_15, a_16⟩) := by
      rw [fitsL_eq _ _ rfl, Bool.and_comm]
      congr 1
      exact (idsFrom_all (opsOf l) ⟨3, ⟨a_2, a_3, a_4⟩, a_5, ⟨⟨⟨a_6, a_7, a_8⟩, a_9⟩, a_10⟩, ⟨⟨a_11, a_12, a_13⟩, a_14⟩, ⟨a_15, a_16⟩, al⟩ a_10.toNat 0).symm
    rw [hf]
    have hil : (idsFrom ⟨⟨⟨a_6, a_7, a_8⟩, a_9⟩, a_10⟩ a_10.toNat 0).length < 100000 := by omega
    clear hf hlen hn
    generalize idsFrom ⟨⟨⟨a_6, a_7, a_8⟩, a_9⟩, a_10⟩ a_10.toNat 0 = ids at *
    generalize outI 4 (encIs ids) = xo at *
    have hloop := fun (r3 : Ref) (H : Heap) hB Q => rightly_loop hx hall hsp hl 3 a_2 a_3 a_4 a_5 a_6 a_7 a_8 a_9 a_10 a_11 a_12 a_13 a_14 a_15 a_16 (x := x) hsl hil (r3 := r3) (H := H) hB (Q := Q) ids 0 0 rfl (by omega) rfl
    clear hall hsp
    rcases hsl with ⟨rfl, hn⟩ | ⟨c, rfl, hc⟩
    · simp [new_ne, ne_new, new_ne1, ne_new1, gen_put', *, VC_blindstampref18_Rightly, hx.r, hax.r]
    · simp [new_ne, ne_new, new_ne1, ne_new1, gen_put', *, VC_blindstampref18_Rightly, hx.r, hax.r]
  · have e : fitsL (opsOf l) (⟨a_1, ⟨a_2, a_3, a_4⟩, a_5, ⟨⟨⟨a_6, a_7, a_8⟩, a_9⟩, a_10⟩, ⟨⟨a_11, a_12, a_13⟩, a_14⟩, ⟨a_15, a_16⟩, al⟩ : Opn) = true := by unfold fitsL; rw [if_neg h3]
    simp [new_ne, ne_new, new_ne1, ne_new1, gen_put', *, VC_blindstampref18_Rightly, hax.r]

/- ## Lists -/
def rangeR (l : List Int) : Prop := ∀ a ∈ l, -2147483648 ≤ a ∧ a ≤ 2147483647
theorem opsOf_take (l : List (Opn × AV)) (k : Nat) : opsOf (l.take k) = (opsOf l).take k := by simp [opsOf, List.map_take]
theorem right_loop {l : List (Opn × AV)} {x0 : AV} (hx : Sl 17 (encOs l) x0) (hall : ∀ p ∈ l, okO p) (hR : ∀ p ∈ l, rangeR p.1.l) (hl : l.length < 100000) {H : Heap} {Q : AV → Heap → Prop} :
    ∀ (s : List (Opn × AV)) (k : Nat) (i : Int), l.drop k = s → k ≤ l.length → i = k → (∀ p ∈ l.take k, spanB p.1.s = true) →
    (∀ y, y = aB (rightL (opsOf (l.take k)) (opsOf s)) → Q y H) →
    GoL env Try.f98 0 hd_blindstampref18_Right_2 [(3, aI i), (0, x0)] H Q := by
  intro s
  induction s with
  | nil =>
    rintro k i hs hk rfl hsp hQ
    obtain rfl := drop_nil hs hk
    refine vc_blindstampref18_Right_2 _ _ _ _ fun g => ?_
    simp [new_ne, ne_new, new_ne1, ne_new1, gen_put', *, VC_blindstampref18_Right_2, hx.len]
    all_goals exact hQ _ rfl
  | cons p s ih =>
    rintro k i hs hk rfl hsp hQ
    obtain ⟨hlt, hg, hs', hg'⟩ := drop_cons hs
    have hpm : p ∈ l := by rw [← hg]; exact List.getElem_mem _
    have hp := hall p hpm
    have hpr := hR p hpm
    obtain ⟨⟨a_1, ⟨a_2, a_3, a_4⟩, a_5, ⟨⟨⟨a_6, a_7, a_8⟩, a_9⟩, a_10⟩, ⟨⟨a_11, a_12, a_13⟩, a_14⟩, ⟨a_15, a_16⟩, al⟩, x⟩ := p
    obtain ⟨hpx, hpl⟩ := hp
    simp only at hpx hpl hpr
    have e3 := IntWalk.i64_in ((k : Int) + 1) (by omega)
    have hc := s_R9May a_1 a_2 a_3 a_4 a_5 a_6 a_7 a_8 a_9 a_10 a_11 a_12 a_13 a_14 a_15 a_16 hpx hpl hpr
    obtain ⟨c, rfl, hcap⟩ := hx.islN (by intro e; have := congrArg List.length e; simp at this; subst this; simp at hlt)
    have htk : l.take (k + 1) = l.take k ++ [((⟨a_1, ⟨a_2, a_3, a_4⟩, a_5, ⟨⟨⟨a_6, a_7, a_8⟩, a_9⟩, a_10⟩, ⟨⟨a_11, a_12, a_13⟩, a_14⟩, ⟨a_15, a_16⟩, al⟩ : Opn), x)] := by rw [List.take_succ_eq_append_getElem hlt, hg]
    have hr : rightL (opsOf (l.take k)) (opsOf (((⟨a_1, ⟨a_2, a_3, a_4⟩, a_5, ⟨⟨⟨a_6, a_7, a_8⟩, a_9⟩, a_10⟩, ⟨⟨a_11, a_12, a_13⟩, a_14⟩, ⟨a_15, a_16⟩, al⟩ : Opn), x) :: s)) = (opB (⟨a_1, ⟨a_2, a_3, a_4⟩, a_5, ⟨⟨⟨a_6, a_7, a_8⟩, a_9⟩, a_10⟩, ⟨⟨a_11, a_12, a_13⟩, a_14⟩, ⟨a_15, a_16⟩, al⟩ : Opn) && fitsL (opsOf (l.take k)) (⟨a_1, ⟨a_2, a_3, a_4⟩, a_5, ⟨⟨⟨a_6, a_7, a_8⟩, a_9⟩, a_10⟩, ⟨⟨a_11, a_12, a_13⟩, a_14⟩, ⟨a_15, a_16⟩, al⟩ : Opn) && rightL (opsOf (l.take (k + 1))) (opsOf s)) := by
      rw [htk]
      show (_ && rightL (opsOf (l.take k) ++ [_]) (opsOf s)) = _
      simp only [opsOf, List.map_append, List.map_cons, List.map_nil]
    rw [hr] at hQ
    have hlen : (l.take k).length < 100000 := by rw [List.length_take]; omega
    have htl : (encOs l).take k = encOs (l.take k) := by simp [encOs, List.map_take]
    have k1 : (k : Int) ≤ l.length := by omega
    have k2 : (0 : Int) ≤ k := by omega
    have hrd : readAt (encOs l) k 0 17 true = some (.agg [a8 a_1, a8 a_2, a32 a_3, a8 a_4, aI a_5, a8 a_6, a32 a_7, a8 a_8, aI a_9, aI a_10, a8 a_11, a32 a_12, a8 a_13, aI a_14, a8 a_15, a32 a_16, x]) := by simp [encOs, encO, hg']
    refine vc_blindstampref18_Right_2 _ _ _ _ fun g => ?_
    clear hr
    cases ho : opB (⟨a_1, ⟨a_2, a_3, a_4⟩, a_5, ⟨⟨⟨a_6, a_7, a_8⟩, a_9⟩, a_10⟩, ⟨⟨a_11, a_12, a_13⟩, a_14⟩, ⟨a_15, a_16⟩, al⟩ : Opn) with
    | false =>
      rw [ho] at hQ hc
      rw [Bool.false_and, Bool.false_and] at hQ
      clear ho htk hsp hall hR ih
      simp [new_ne, ne_new, new_ne1, ne_new1, gen_put', *, VC_blindstampref18_Right_2, hx.r, hx.idx, hpx.r]
      all_goals exact hQ _ rfl
    | true =>
      have hck : k ≤ c.getD k := by
        cases c with
        | none => exact Nat.le_refl _
        | some c => simp only [Option.getD_some, encOs_len] at hcap ⊢; omega
      have hf : ∀ c' : Option Nat, k ≤ c'.getD k → limf env 97 [.isl 17 (encOs (l.take k)) c', .agg [a8 a_1, a8 a_2, a32 a_3, a8 a_4, aI a_5, a8 a_6, a32 a_7, a8 a_8, aI a_9, aI a_10, a8 a_11, a32 a_12, a8 a_13, aI a_14, a8 a_15, a32 a_16, x]] = some (aB (fitsL (opsOf (l.take k)) (⟨a_1, ⟨a_2, a_3, a_4⟩, a_5, ⟨⟨⟨a_6, a_7, a_8⟩, a_9⟩, a_10⟩, ⟨⟨a_11, a_12, a_13⟩, a_14⟩, ⟨a_15, a_16⟩, al⟩ : Opn))) := by
        intro c' hc'
        have hkl : (encOs (l.take k)).length = k := by rw [encOs_len, List.length_take]; omega
        exact s_Rightly (.inr ⟨c', rfl, by rw [hkl]; exact hc'⟩) (fun p hp => hall p (List.mem_of_mem_take hp)) hsp hlen a_1 a_2 a_3 a_4 a_5 a_6 a_7 a_8 a_9 a_10 a_11 a_12 a_13 a_14 a_15 a_16 hpx (opB_span ho)
      have hsp' : ∀ p ∈ l.take (k + 1), spanB p.1.s = true := by
        intro p hp
        rw [htk, List.mem_append, List.mem_singleton] at hp
        rcases hp with hp | rfl
        · exact hsp p hp
        · exact opB_span ho
      have hih := ih (k + 1) _ hs' (by omega) rfl hsp'
      rw [ho] at hQ hc
      rw [Bool.true_and] at hQ
      clear ho htk hsp hsp' hall hR ih
      cases hq : fitsL (opsOf (l.take k)) (⟨a_1, ⟨a_2, a_3, a_4⟩, a_5, ⟨⟨⟨a_6, a_7, a_8⟩, a_9⟩, a_10⟩, ⟨⟨a_11, a_12, a_13⟩, a_14⟩, ⟨a_15, a_16⟩, al⟩ : Opn) with
      | false =>
        rw [hq] at hQ hf
        rw [Bool.false_and] at hQ
        clear hq hih
        simp [new_ne, ne_new, new_ne1, ne_new1, gen_put', *, VC_blindstampref18_Right_2, hx.r, hx.idx, hpx.r]
        all_goals exact hQ _ rfl
      | true =>
        rw [hq] at hQ hf
        rw [Bool.true_and] at hQ
        have hfin := hih hQ
        clear hq hih hQ
        simp [new_ne, ne_new, new_ne1, ne_new1, gen_put', *, VC_blindstampref18_Right_2, hx.r, hx.idx, hpx.r]
        exact hfin

section
variable {l : List (Opn × AV)} {x0 : AV} (hx : Sl 17 (encOs l) x0) (hall : ∀ p ∈ l, okO p) (hR : ∀ p ∈ l, rangeR p.1.l) (hl : l.length < 100000)
include hx hall hR hl
theorem s_Right : limf env 98 [x0] = some (aB (rightL [] (opsOf l))) := by
  refine limf_of (fn := Try.f98) (c := bd_blindstampref18_Right) rfl (by kernel_rfl) (by kernel_rfl) (by kernel_rfl) (by kernel_rfl) ?_; refine vc_blindstampref18_Right _ _ _ fun g => ?_
  simp only [VC_blindstampref18_Right]
  exact right_loop hx hall hR hl l 0 _ rfl (by omega) rfl (by simp) (fun y ey => by rw [ey]; simp [opsOf])
theorem s_R18Check : limf env 52 [x0] = some (aI (checkE (opsOf l))) := by
  refine limf_of (fn := Try.f52) (c := bd_blindstampref18_Check) rfl (by kernel_rfl) (by kernel_rfl) (by kernel_rfl) (by kernel_rfl) ?_; refine vc_blindstampref18_Check _ _ _ fun g => ?_
  have hn := hx.len
  have h1 := s_Right hx hall hR hl
  have ho : (opsOf l).length = l.length := List.length_map _
  by_cases h : 2048 < l.length
  · have h' : (2048 : Int) < l.length := by omega
    have e : checkE (opsOf l) = 4 := by unfold checkE; rw [if_pos (by rw [ho]; exact h)]
    simp [new_ne, ne_new, new_ne1, ne_new1, gen_put', *, VC_blindstampref18_Check, hx.r]
  · have h' : ¬ (2048 : Int) < l.length := by omega
    cases hr : rightL [] (opsOf l) with
    | true =>
      have e : checkE (opsOf l) = 0 := by unfold checkE; rw [if_neg (by rw [ho]; exact h), hr]; rfl
      clear ho
      simp [new_ne, ne_new, new_ne1, ne_new1, gen_put', *, VC_blindstampref18_Check, hx.r]
    | false =>
      have e : checkE (opsOf l) = 8 := by unfold checkE; rw [if_neg (by rw [ho]; exact h), hr]; rfl
      clear ho
      simp [new_ne, ne_new, new_ne1, ne_new1, gen_put', *, VC_blindstampref18_Check, hx.r]
theorem s_R18asked (b_1 : UInt8) (b_2 : UInt32) (b_3 : UInt8) (b_4 : Int) (v1 : UInt8) (v2 : UInt32) : limf env 94 [x0, .agg [a8 b_1, a32 b_2, a8 b_3, aI b_4], .agg [a8 v1, a32 v2]] = some (aI (askedE (opsOf l) (⟨⟨b_1, b_2, b_3⟩, b_4⟩ : Idd) ⟨v1, v2⟩)) := by
  refine limf_of (fn := Try.f94) (c := bd_blindstampref18_asked) rfl (by kernel_rfl) (by kernel_rfl) (by kernel_rfl) (by kernel_rfl) ?_; refine vc_blindstampref18_asked _ _ _ _ _ fun g => ?_
  have hc := s_R18Check hx hall hR hl
  by_cases h : checkE (opsOf l) = 0
  · unfold askedE
    rw [if_pos h]
    cases hb : idB (⟨⟨b_1, b_2, b_3⟩, b_4⟩ : Idd) with
    | false => by_cases hv : v1 ≤ 15 <;> simp [new_ne, ne_new, new_ne1, ne_new1, gen_put', *, VC_blindstampref18_asked, hx.r]
    | true => by_cases hv : v1 ≤ 15 <;> simp [new_ne, ne_new, new_ne1, ne_new1, gen_put', *, VC_blindstampref18_asked, hx.r]
  · unfold askedE
    rw [if_neg h]
    simp [new_ne, ne_new, new_ne1, ne_new1, gen_put', *, VC_blindstampref18_asked, hx.r]
end
theorem rightL_opB : ∀ (s l : List Opn), rightL l s = true → ∀ o ∈ s, opB o = true := by
  intro s
  induction s with
  | nil => intro l h o ho; simp at ho
  | cons t s ih =>
    intro l h o ho
    simp only [rightL, Bool.and_eq_true] at h
    rcases List.mem_cons.1 ho with rfl | ho
    · exact h.1.1
    · exact ih _ h.2 o ho
theorem right_spans {l : List (Opn × AV)} (h : checkE (opsOf l) = 0) : ∀ p ∈ l, spanB p.1.s = true := by
  intro p hp
  have hr : rightL [] (opsOf l) = true := by
    unfold checkE at h
    split at h
    · cases h
    · split at h
      · assumption
      · cases h
  exact opB_span (rightL_opB _ _ hr p.1 (List.mem_map_of_mem hp))
theorem ris_loop {all : List Lab} {x7 : AV} (hx : Sl 2 (labs all) x7) (hl : all.length < 4611686018427387904) (b_1 : UInt8) (b_2 : UInt32) (b_3 : UInt8) (b_4 : Int) (v1 : UInt8) (v2 : UInt32) {r4 r5 : Ref} {H : Heap} (h4 : H.get r4 = some ⟨4, [.agg [a8 b_1, a32 b_2, a8 b_3, aI b_4]], false, false⟩) (h5 : H.get r5 = some ⟨2, [.agg [a8 v1, a32 v2]], false, false⟩) {Q : AV → Heap → Prop} :
    ∀ (s : List Lab) (k : Nat) (i : Int), all.drop k = s → k ≤ all.length → i = k →
    (∀ y, y = aB ((s.all fun t => leqL t ⟨v1, v2⟩) && leqL ⟨b_1, b_2⟩ ⟨v1, v2⟩) → Q y H) →
    GoL env Try.f96 0 hd_blindstampref18_Is_3 [(8, aI i), (5, .ptr r5 0 0), (7, x7), (4, .ptr r4 0 0)] H Q := by
  intro s
  induction s with
  | nil =>
    rintro k i hs hk rfl hQ
    obtain rfl := drop_nil hs hk
    refine vc_blindstampref18_Is_3 _ _ _ _ _ _ fun g => ?_
    simp [new_ne, ne_new, new_ne1, ne_new1, gen_put', *, VC_blindstampref18_Is_3, hx.len]
    all_goals exact hQ _ (by simp)
  | cons t s ih =>
    rintro k i hs hk rfl hQ
    obtain ⟨t1, t2⟩ := t
    obtain ⟨hlt, hg, hs', hg'⟩ := drop_cons hs
    have e3 := IntWalk.i64_in ((k : Int) + 1) (by omega)
    have hrd : readAt (labs all) k 0 2 true = some (.agg [a8 t1, a32 t2]) := by simp [labs, hg']
    rw [List.all_cons] at hQ
    have hih := ih (k + 1) _ hs' (by omega) rfl
    have hb := s_RLeq t1 t2 v1 v2
    clear ih
    refine vc_blindstampref18_Is_3 _ _ _ _ _ _ fun g => ?_
    cases hm : leqL ⟨t1, t2⟩ ⟨v1, v2⟩ with
    | true =>
      rw [hm] at hQ hb
      rw [Bool.true_and] at hQ
      have hfin := hih hQ
      clear hih hQ hm
      simp [new_ne, ne_new, new_ne1, ne_new1, gen_put', *, VC_blindstampref18_Is_3, hx.r, hx.idx, -s_RLeq]
      exact hfin
    | false =>
      rw [hm] at hQ hb
      rw [Bool.false_and, Bool.false_and] at hQ
      clear hih hm
      simp [new_ne, ne_new, new_ne1, ne_new1, gen_put', *, VC_blindstampref18_Is_3, hx.r, hx.idx, -s_RLeq]
      all_goals exact hQ _ rfl
theorem shownB_raised (l : List Opn) (i : Idd) (v : Lab) : shownB l i v = (((raisedR l i v).all fun t => leqL t v) && leqL (ofI i) v) := by
  rw [Bool.eq_iff_iff]
  unfold shownB
  rw [Bool.and_eq_true, List.all_eq_true, List.all_eq_true]
  have hm : ∀ t, t ∈ raisedR l i v ↔ ∃ o ∈ l, raises o i v = true ∧ o.to = t := by
    intro t
    simp [raisedR, and_assoc]
  constructor
  · intro h
    refine ⟨fun t ht => ?_, h _ ((mem_madeL _ _ _ _).2 (.inl rfl))⟩
    obtain ⟨o, ho, hr, rfl⟩ := (hm t).1 ht
    exact h _ ((mem_madeL _ _ _ _).2 (.inr ⟨o, ho, hr, rfl⟩))
  · rintro ⟨h1, h2⟩ t ht
    rcases (mem_madeL _ _ _ _).1 ht with rfl | ⟨o, ho, hr, rfl⟩
    · exact h2
    · exact h1 _ ((hm _).2 ⟨o, ho, hr, rfl⟩)
theorem s_R18Is {l : List (Opn × AV)} {x0 : AV} (hx : Sl 17 (encOs l) x0) (hall : ∀ p ∈ l, okO p) (hsp : ∀ p ∈ l, spanB p.1.s = true) (hl : l.length < 100000) (b_1 : UInt8) (b_2 : UInt32) (b_3 : UInt8) (b_4 : Int) (v1 : UInt8) (v2 : UInt32) :
    limf env 96 [x0, .agg [a8 b_1, a32 b_2, a8 b_3, aI b_4], .agg [a8 v1, a32 v2]] = some (aB (shownB (opsOf l) (⟨⟨b_1, b_2, b_3⟩, b_4⟩ : Idd) ⟨v1, v2⟩)) := by
  refine limf_of (fn := Try.f96) (c := bd_blindstampref18_Is) rfl (by kernel_rfl) (by kernel_rfl) (by kernel_rfl) (by kernel_rfl) ?_; refine vc_blindstampref18_Is _ _ _ _ _ fun g => ?_
  have h1 := s_RRaises hx hall hsp hl b_1 b_2 b_3 b_4 v1 v2
  have hlr := raisedR_len (opsOf l) (⟨⟨b_1, b_2, b_3⟩, b_4⟩ : Idd) ⟨v1, v2⟩
  rw [show (opsOf l).length = l.length from List.length_map _] at hlr
  have hsl := outI_sl 2 (labs (raisedR (opsOf l) (⟨⟨b_1, b_2, b_3⟩, b_4⟩ : Idd) ⟨v1, v2⟩))
  rw [shownB_raised]
  generalize raisedR (opsOf l) (⟨⟨b_1, b_2, b_3⟩, b_4⟩ : Idd) ⟨v1, v2⟩ = al at *
  generalize outI 2 (labs al) = xo at *
  have hloop := fun (r4 r5 : Ref) (H : Heap) h4 h5 Q => ris_loop hsl (by omega) b_1 b_2 b_3 b_4 v1 v2 (r4 := r4) (r5 := r5) (H := H) h4 h5 (Q := Q) al 0 0 rfl (by omega) rfl
  clear hsp hall
  rcases hsl with ⟨rfl, hn⟩ | ⟨c, rfl, hc⟩
  · simp [new_ne, ne_new, new_ne1, ne_new1, gen_put', *, VC_blindstampref18_Is, hx.r]
    all_goals exact hloop _ _ _ (by simp) (by simp) _ (fun y e => by simp [e, ofI])
  · simp [new_ne, ne_new, new_ne1, ne_new1, gen_put', *, VC_blindstampref18_Is, hx.r]
    all_goals exact hloop _ _ _ (by simp) (by simp) _ (fun y e => by simp [e, ofI])
section
variable {l : List (Opn × AV)} {x0 : AV} (hx : Sl 17 (encOs l) x0) (hall : ∀ p ∈ l, okO p) (hR : ∀ p ∈ l, rangeR p.1.l) (hl : l.length < 100000)
include hx hall hR hl
theorem s_R18Shown (b_1 : UInt8) (b_2 : UInt32) (b_3 : UInt8) (b_4 : Int) (v1 : UInt8) (v2 : UInt32) : limf env 50 [x0, .agg [a8 b_1, a32 b_2, a8 b_3, aI b_4], .agg [a8 v1, a32 v2]] =
    some (if askedE (opsOf l) (⟨⟨b_1, b_2, b_3⟩, b_4⟩ : Idd) ⟨v1, v2⟩ = 0 then .tup [aB (shownB (opsOf l) (⟨⟨b_1, b_2, b_3⟩, b_4⟩ : Idd) ⟨v1, v2⟩), aI 0] else .tup [aB false, aI (askedE (opsOf l) (⟨⟨b_1, b_2, b_3⟩, b_4⟩ : Idd) ⟨v1, v2⟩)]) := by
  refine limf_of (fn := Try.f50) (c := bd_blindstampref18_Shown) rfl (by kernel_rfl) (by kernel_rfl) (by kernel_rfl) (by kernel_rfl) ?_; refine vc_blindstampref18_Shown _ _ _ _ _ fun g => ?_
  have h1 := s_R18asked hx hall hR hl b_1 b_2 b_3 b_4 v1 v2
  by_cases h : askedE (opsOf l) (⟨⟨b_1, b_2, b_3⟩, b_4⟩ : Idd) ⟨v1, v2⟩ = 0
  · have h2 := s_R18Is hx hall (right_spans (askedE_id h).1) hl b_1 b_2 b_3 b_4 v1 v2
    rw [if_pos h]
    simp [new_ne, ne_new, new_ne1, ne_new1, gen_put', *, VC_blindstampref18_Shown, hx.r]
  · rw [if_neg h]
    simp [new_ne, ne_new, new_ne1, ne_new1, gen_put', *, VC_blindstampref18_Shown, hx.r]
theorem s_R18Chain (b_1 : UInt8) (b_2 : UInt32) (b_3 : UInt8) (b_4 : Int) (v1 : UInt8) (v2 : UInt32) : limf env 49 [x0, .agg [a8 b_1, a32 b_2, a8 b_3, aI b_4], .agg [a8 v1, a32 v2]] =
    some (if askedE (opsOf l) (⟨⟨b_1, b_2, b_3⟩, b_4⟩ : Idd) ⟨v1, v2⟩ = 0 then .tup [.isl 2 (labs (madeL (opsOf l) (⟨⟨b_1, b_2, b_3⟩, b_4⟩ : Idd) ⟨v1, v2⟩)) (capM (madeL (opsOf l) (⟨⟨b_1, b_2, b_3⟩, b_4⟩ : Idd) ⟨v1, v2⟩)), aI 0] else .tup [aNil, aI (askedE (opsOf l) (⟨⟨b_1, b_2, b_3⟩, b_4⟩ : Idd) ⟨v1, v2⟩)]) := by
  refine limf_of (fn := Try.f49) (c := bd_blindstampref18_Chain) rfl (by kernel_rfl) (by kernel_rfl) (by kernel_rfl) (by kernel_rfl) ?_; refine vc_blindstampref18_Chain _ _ _ _ _ fun g => ?_
  have h1 := s_R18asked hx hall hR hl b_1 b_2 b_3 b_4 v1 v2
  by_cases h : askedE (opsOf l) (⟨⟨b_1, b_2, b_3⟩, b_4⟩ : Idd) ⟨v1, v2⟩ = 0
  · have h2 := s_ROf hx hall (right_spans (askedE_id h).1) hl b_1 b_2 b_3 b_4 v1 v2
    rw [if_pos h]
    simp [new_ne, ne_new, new_ne1, ne_new1, gen_put', *, VC_blindstampref18_Chain, hx.r]
  · rw [if_neg h]
    simp [new_ne, ne_new, new_ne1, ne_new1, gen_put', *, VC_blindstampref18_Chain, hx.r]
theorem s_R18Fits (a_1 : UInt8) (a_2 : UInt8) (a_3 : UInt32) (a_4 : UInt8) (a_5 : Int) (a_6 : UInt8) (a_7 : UInt32) (a_8 : UInt8) (a_9 : Int) (a_10 : Int) (a_11 : UInt8) (a_12 : UInt32) (a_13 : UInt8) (a_14 : Int) (a_15 : UInt8) (a_16 : UInt32) {al : List Int} {x : AV} (hax : Sl 1 (rows al) x) (hal : al.length < 2000000) (har : rangeR al) : limf env 51 [x0, .agg [a8 a_1, a8 a_2, a32 a_3, a8 a_4, aI a_5, a8 a_6, a32 a_7, a8 a_8, aI a_9, aI a_10, a8 a_11, a32 a_12, a8 a_13, aI a_14, a8 a_15, a32 a_16, x]] =
    some (if checkE (opsOf l) = 0 then (if opB (⟨a_1, ⟨a_2, a_3, a_4⟩, a_5, ⟨⟨⟨a_6, a_7, a_8⟩, a_9⟩, a_10⟩, ⟨⟨a_11, a_12, a_13⟩, a_14⟩, ⟨a_15, a_16⟩, al⟩ : Opn) then .tup [aB (fitsL (opsOf l) (⟨a_1, ⟨a_2, a_3, a_4⟩, a_5, ⟨⟨⟨a_6, a_7, a_8⟩, a_9⟩, a_10⟩, ⟨⟨a_11, a_12, a_13⟩, a_14⟩, ⟨a_15, a_16⟩, al⟩ : Opn)), aI 0] else .tup [aB false, aI 8]) else .tup [aB false, aI (checkE (opsOf l))]) := by
  refine limf_of (fn := Try.f51) (c := bd_blindstampref18_Fits) rfl (by kernel_rfl) (by kernel_rfl) (by kernel_rfl) (by kernel_rfl) ?_; refine vc_blindstampref18_Fits _ _ _ _ fun g => ?_
  have h1 := s_R18Check hx hall hR hl
  have h2 := s_R9May a_1 a_2 a_3 a_4 a_5 a_6 a_7 a_8 a_9 a_10 a_11 a_12 a_13 a_14 a_15 a_16 hax hal har
  by_cases h : checkE (opsOf l) = 0
  · rw [if_pos h]
    cases ho : opB (⟨a_1, ⟨a_2, a_3, a_4⟩, a_5, ⟨⟨⟨a_6, a_7, a_8⟩, a_9⟩, a_10⟩, ⟨⟨a_11, a_12, a_13⟩, a_14⟩, ⟨a_15, a_16⟩, al⟩ : Opn) with
    | false => simp [new_ne, ne_new, new_ne1, ne_new1, gen_put', *, VC_blindstampref18_Fits, hx.r, hax.r]
    | true =>
      have h3 := s_Rightly hx hall (right_spans h) hl a_1 a_2 a_3 a_4 a_5 a_6 a_7 a_8 a_9 a_10 a_11 a_12 a_13 a_14 a_15 a_16 hax (opB_span ho)
      simp [new_ne, ne_new, new_ne1, ne_new1, gen_put', *, VC_blindstampref18_Fits, hx.r, hax.r]
  · rw [if_neg h]
    simp [new_ne, ne_new, new_ne1, ne_new1, gen_put', *, VC_blindstampref18_Fits, hx.r, hax.r]
end
end Go.Proofs.Ytjampffmlnplcaa
