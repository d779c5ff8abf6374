/-
  The document's functions of policy, on: what they answer. No statement of a seat is proved here.
-/
import Derived.Test.YtgooemdlilfkmaaPolRef
set_option linter.unusedVariables false
set_option linter.unusedSimpArgs false
set_option linter.unusedSectionVars false
set_option linter.unnecessarySimpa false
set_option maxRecDepth 100000
namespace Go.Proofs.Ytgooemdlilfkmaa
open Go.Ab
attribute [local simp] depth_eq callRes_V keep

def addR (n : Int) (q : Quota) : Int := IntKind.i64.wrap (IntKind.i64.wrap (n + q.opens) + IntKind.i64.wrap (4 * q.ops))
def rsum (n : Int) (l : List Quota) : Int := l.foldl addR n
def addRC (n : Int) (q : Quota) : Int := IntKind.i64.wrap (n + q.cells)
def rcells (n : Int) (l : List Quota) : Int := l.foldl addRC n
theorem rcells_nil (n : Int) : rcells n [] = n := id rfl

section
variable {xu xq : AV} {us : List Clear} {qs : List Quota} {gr : Int} (hu : Sl 3 (encCs us) xu) (hq : Sl 5 (encQs qs) xq) (hql : qs.length < 4611686018427387904) (hul : us.length < 4611686018427387904)
include hu hq hql hul

theorem rsum_loop {r1 : Ref} {Q : AV → Heap → Prop} : ∀ (s : List Quota) (k : Nat) (i n : Int) (H : Heap), qs.drop k = s → k ≤ qs.length → i = k →
    Fr H → H.get r1 = some ⟨3, [.agg [xu, xq, aI gr]], false, false⟩ → (∀ y H', y = aI (rsum n s) → Q y H') →
    GoL env Try.f54 0 hd_blindstampref06_Sum_3 [(4, aI i), (1, .ptr r1 0 0), (3, aI n)] H Q := by
  intro s
  induction s with
  | nil =>
    rintro k i n H hs hk rfl hF hB hQ
    obtain rfl := drop_nil hs hk
    refine vc_blindstampref06_Sum_3 _ _ _ _ _ fun g => ?_
    simp [new_ne, ne_new, new_ne1, ne_new1, gen_put', *, VC_blindstampref06_Sum_3, hq.r]
    all_goals (first | exact hQ _ _ rfl | exact hQ _ _ (by simp [*]))
  | cons q s ih =>
    rintro k i n H hs hk rfl hF hB hQ
    obtain ⟨hlt, hg, hs', hg'⟩ := drop_cons hs
    refine vc_blindstampref06_Sum_3 _ _ _ _ _ fun g => ?_
    simp [new_ne, ne_new, new_ne1, ne_new1, gen_put', *, VC_blindstampref06_Sum_3, hq.r, hq.idx, Quota.enc, IntWalk.i64_in ((k : Int) + 1) (by omega)]
    exact ih (k + 1) _ _ _ hs' (by omega) (by simp) hF hB hQ

@[simp] theorem s_Sum : limf env 54 [.agg [xu, xq, aI gr]] = some (aI (rsum gr qs)) := by
  refine limf_of (fn := Try.f54) (c := bd_blindstampref06_Sum) rfl (by kernel_rfl) (by kernel_rfl) (by kernel_rfl) (by kernel_rfl) ?_; refine vc_blindstampref06_Sum _ _ _ fun g => ?_
  simp [new_ne, ne_new, new_ne1, ne_new1, gen_put', *, VC_blindstampref06_Sum, hu.r, hq.r]
  exact rsum_loop (gr := gr) hu hq hql hul qs 0 _ _ _ rfl (by omega) rfl (by simp (maxDischargeDepth := 12) [Fr_cons, Fr_consK, Fr.nil, Fr_put, new_ne, ne_new, new_ne1, ne_new1, get_new, get_new1, gen_put', *]) (by simp (maxDischargeDepth := 12) [Fr_cons, Fr_consK, Fr.nil, Fr_put, new_ne, ne_new, new_ne1, ne_new1, get_new, get_new1, gen_put', *]) fun y H' e => by simp [e]

theorem right15 {r1 : Ref} {Q : AV → Heap → Prop} : ∀ (s : List Quota) (k : Nat) (i n : Int) (H : Heap), qs.drop k = s → k ≤ qs.length → i = k →
    Fr H → H.get r1 = some ⟨3, [.agg [xu, xq, aI gr]], false, false⟩ → (∀ y H', y = aB (decide (rsum gr qs ≤ 2048) && decide (rcells n s ≤ 8192)) → Q y H') →
    GoL env Try.f53 0 hd_blindstampref06_Right_15 [(6, aI i), (1, .ptr r1 0 0), (5, aI n)] H Q := by
  intro s
  induction s with
  | nil =>
    rintro k i n H hs hk rfl hF hB hQ
    obtain rfl := drop_nil hs hk
    refine vc_blindstampref06_Right_15 _ _ _ _ _ fun g => ?_
    have := s_Sum (gr := gr) hu hq hql hul
    simp [new_ne, ne_new, new_ne1, ne_new1, gen_put', *, VC_blindstampref06_Right_15, hq.r, hu.r]
    repeat' ((first | refine br_of (fun h => ?_) (fun h => ?_) | refine gQ_oft (fun h => ?_) (fun h => ?_) | refine gQ_off (fun h => ?_) (fun h => ?_) | refine gW_oft (fun h => ?_) (fun h => ?_) | refine gW_off (fun h => ?_) (fun h => ?_)) <;> (try simp only [decide_eq_true_eq, decide_eq_false_iff_not, Bool.not_eq_true', Bool.not_eq_false', Bool.and_eq_true, Bool.or_eq_true] at h) <;> (try simp [new_ne, ne_new, new_ne1, ne_new1, gen_put', *, hq.r, hu.r]))
    all_goals (first | exact hQ _ _ rfl | exact hQ _ _ (by simp [*, rcells_nil]))
  | cons q s ih =>
    rintro k i n H hs hk rfl hF hB hQ
    obtain ⟨hlt, hg, hs', hg'⟩ := drop_cons hs
    refine vc_blindstampref06_Right_15 _ _ _ _ _ fun g => ?_
    simp [new_ne, ne_new, new_ne1, ne_new1, gen_put', *, VC_blindstampref06_Right_15, hq.r, hq.idx, Quota.enc, IntWalk.i64_in ((k : Int) + 1) (by omega)]
    exact ih (k + 1) _ _ _ hs' (by omega) (by simp) hF hB hQ

theorem right9 {r1 : Ref} {Q : AV → Heap → Prop} : ∀ (s : List Quota) (k : Nat) (i : Int) (H : Heap), qs.drop k = s → k ≤ qs.length → i = k →
    Fr H → H.get r1 = some ⟨3, [.agg [xu, xq, aI gr]], false, false⟩ → (∀ y H', y = aB (qRow (if k = 0 then none else qs[k - 1]?) s && (decide (rsum gr qs ≤ 2048) && decide (rcells 0 qs ≤ 8192))) → Q y H') →
    GoL env Try.f53 0 hd_blindstampref06_Right_9 [(4, aI i), (1, .ptr r1 0 0)] H Q := by
  intro s
  induction s with
  | nil =>
    rintro k i H hs hk rfl hF hB hQ
    obtain rfl := drop_nil hs hk
    refine vc_blindstampref06_Right_9 _ _ _ _ fun g => ?_
    simp [new_ne, ne_new, new_ne1, ne_new1, gen_put', *, VC_blindstampref06_Right_9, hq.r]
    exact right15 (gr := gr) hu hq hql hul qs 0 _ _ _ rfl (by omega) rfl hF hB fun y H' e => hQ _ _ (by simp [e, qRow])
  | cons q s ih =>
    rintro k i H hs hk rfl hF hB hQ
    obtain ⟨hlt, hg, hs', hg'⟩ := drop_cons hs
    have hi := ih (k + 1)
    refine vc_blindstampref06_Right_9 _ _ _ _ fun g => ?_
    cases k with
    | zero =>
      have e1 : IntKind.i64.wrap 1 = 1 := rfl
      simp [new_ne, ne_new, new_ne1, ne_new1, gen_put', *, VC_blindstampref06_Right_9, hq.r, hq.idx, Quota.enc]
      repeat' ((first | refine br_of (fun h => ?_) (fun h => ?_) | refine gQ_oft (fun h => ?_) (fun h => ?_) | refine gQ_off (fun h => ?_) (fun h => ?_) | refine gW_oft (fun h => ?_) (fun h => ?_) | refine gW_off (fun h => ?_) (fun h => ?_)) <;> (try simp only [decide_eq_true_eq, decide_eq_false_iff_not, Bool.not_eq_true', Bool.not_eq_false', Bool.and_eq_true, Bool.or_eq_true] at h) <;> (try simp [new_ne, ne_new, new_ne1, ne_new1, gen_put', *, hq.r, hq.idx]))
      · all_goals (first | exact hQ _ _ rfl | exact hQ _ _ (by simp [*, qRow]))
      · exact hi _ _ hs' (by omega) rfl hF hB fun y H' e => hQ y H' (by simpa [*, qRow] using e)
    | succ k =>
      have e1 : IntKind.i64.wrap ((k : Int) + 1 + 1) = (k : Int) + 1 + 1 := IntWalk.i64_in _ (by omega)
      have e2 : IntKind.i64.wrap (k : Int) = k := IntWalk.i64_in _ (by omega)
      have e4 : ¬ (k : Int) + 1 = 0 := by omega
      have e5 : k < qs.length := by omega
      have e6 : (k : Int) + 1 < qs.length := by omega
      have e7 : (0 : Int) ≤ k + 1 := by omega
      have e8 : (0 : Int) < (k : Int) + 1 := by omega
      have e9 : (k : Int) < qs.length := by omega
      have e10 : qs[k]? = some qs[k] := List.getElem?_eq_getElem e5
      simp [new_ne, ne_new, new_ne1, ne_new1, gen_put', *, VC_blindstampref06_Right_9, hq.r, hq.idx, Quota.enc]
      repeat' ((first | refine br_of (fun h => ?_) (fun h => ?_) | refine gQ_oft (fun h => ?_) (fun h => ?_) | refine gQ_off (fun h => ?_) (fun h => ?_) | refine gW_oft (fun h => ?_) (fun h => ?_) | refine gW_off (fun h => ?_) (fun h => ?_)) <;> (try simp only [decide_eq_true_eq, decide_eq_false_iff_not, Bool.not_eq_true', Bool.not_eq_false', Bool.and_eq_true, Bool.or_eq_true] at h) <;> (try simp [new_ne, ne_new, new_ne1, ne_new1, gen_put', *, hq.r, hq.idx, Quota.enc]))
      all_goals first
        | exact hQ _ _ (by simp [*, qRow, qBefore])
        | exact hi _ _ hs' (by omega) (by simp) hF hB fun y H' e => hQ y H' (by simpa [*, qRow, qBefore] using e)
        | skip

theorem right4 {r1 : Ref} {Q : AV → Heap → Prop} : ∀ (s : List Clear) (k : Nat) (i : Int) (H : Heap), us.drop k = s → k ≤ us.length → i = k →
    Fr H → H.get r1 = some ⟨3, [.agg [xu, xq, aI gr]], false, false⟩ → (∀ y H', y = aB (s.all (fun c => clearB c.lv c.cats c.ok) && (qRow none qs && (decide (rsum gr qs ≤ 2048) && decide (rcells 0 qs ≤ 8192)))) → Q y H') →
    GoL env Try.f53 0 hd_blindstampref06_Right_4 [(3, aI i), (1, .ptr r1 0 0)] H Q := by
  intro s
  induction s with
  | nil =>
    rintro k i H hs hk rfl hF hB hQ
    obtain rfl := drop_nil hs hk
    refine vc_blindstampref06_Right_4 _ _ _ _ fun g => ?_
    simp [new_ne, ne_new, new_ne1, ne_new1, gen_put', *, VC_blindstampref06_Right_4, hu.r]
    exact right9 (gr := gr) hu hq hql hul qs 0 _ _ rfl (by omega) rfl hF hB fun y H' e => hQ _ _ (by simp [e])
  | cons c s ih =>
    rintro k i H hs hk rfl hF hB hQ
    obtain ⟨hlt, hg, hs', hg'⟩ := drop_cons hs
    refine vc_blindstampref06_Right_4 _ _ _ _ fun g => ?_
    simp [new_ne, ne_new, new_ne1, ne_new1, gen_put', *, VC_blindstampref06_Right_4, hu.r, hu.idx, Clear.enc, IntWalk.i64_in ((k : Int) + 1) (by omega)]
    repeat' ((first | refine br_of (fun h => ?_) (fun h => ?_) | refine gQ_oft (fun h => ?_) (fun h => ?_) | refine gQ_off (fun h => ?_) (fun h => ?_) | refine gW_oft (fun h => ?_) (fun h => ?_) | refine gW_off (fun h => ?_) (fun h => ?_)) <;> (try simp only [decide_eq_true_eq, decide_eq_false_iff_not, Bool.not_eq_true', Bool.not_eq_false', Bool.and_eq_true, Bool.or_eq_true] at h) <;> (try simp [new_ne, ne_new, new_ne1, ne_new1, gen_put', *, hu.r, IntWalk.i64_in ((k : Int) + 1) (by omega)]))
    exact ih (k + 1) _ _ hs' (by omega) (by simp) hF hB fun y H' e => hQ y H' (by simpa [*] using e)

def rightR (us : List Clear) (qs : List Quota) (gr : Int) : Bool :=
  (!decide (8 < us.length) && (!decide (8 < qs.length) && (!decide (gr < 0) && !decide (64 < gr)))) && (us.all (fun c => clearB c.lv c.cats c.ok) && (qRow none qs && (decide (rsum gr qs ≤ 2048) && decide (rcells 0 qs ≤ 8192))))

theorem s_Right0 : limf env 53 [.agg [xu, xq, aI gr]] = some (aB (rightR us qs gr)) := by
  refine limf_of (fn := Try.f53) (c := bd_blindstampref06_Right) rfl (by kernel_rfl) (by kernel_rfl) (by kernel_rfl) (by kernel_rfl) ?_; refine vc_blindstampref06_Right _ _ _ fun g => ?_
  have e8 (n : Nat) : ((8 : Int) < (n : Int)) ↔ 8 < n := by omega
  simp [new_ne, ne_new, new_ne1, ne_new1, gen_put', *, VC_blindstampref06_Right, hu.r, hq.r]
  repeat' ((first | refine br_of (fun h => ?_) (fun h => ?_) | refine gQ_oft (fun h => ?_) (fun h => ?_) | refine gQ_off (fun h => ?_) (fun h => ?_) | refine gW_oft (fun h => ?_) (fun h => ?_) | refine gW_off (fun h => ?_) (fun h => ?_)) <;> (try simp only [decide_eq_true_eq, decide_eq_false_iff_not, Bool.not_eq_true', Bool.not_eq_false', Bool.and_eq_true, Bool.or_eq_true] at h) <;> (try simp [new_ne, ne_new, new_ne1, ne_new1, gen_put', *, hu.r, hq.r, rightR]))
  refine right4 (gr := gr) hu hq hql hul us 0 _ _ rfl (by omega) rfl (by simp (maxDischargeDepth := 12) [Fr_cons, Fr_consK, Fr.nil, Fr_put, new_ne, ne_new, new_ne1, ne_new1, get_new, get_new1, gen_put', *]) (by simp (maxDischargeDepth := 12) [Fr_cons, Fr_consK, Fr.nil, Fr_put, new_ne, ne_new, new_ne1, ne_new1, get_new, get_new1, gen_put', *]) fun y H' e => ?_
  simp [*, rightR]

omit hu hq in
theorem rsum_sum : ∀ {l : List Quota} {n : Int}, (∀ q ∈ l, qOwn q = true) → 0 ≤ n → n + 1088 * l.length ≤ 4611686018427387904 → rsum n l = sumQ n l := by
  intro l
  induction l with
  | nil => intro n _ h0 h1; rfl
  | cons q l ih =>
    intro n h h0 h1
    have hq := qOwn_le (h q (List.mem_cons_self ..))
    simp only [List.length_cons] at h1
    have e1 : IntKind.i64.wrap (4 * q.ops) = 4 * q.ops := IntWalk.i64_in _ (by omega)
    have e2 : IntKind.i64.wrap (n + q.opens) = n + q.opens := IntWalk.i64_in _ (by omega)
    have e3 : IntKind.i64.wrap (n + q.opens + 4 * q.ops) = n + q.opens + 4 * q.ops := IntWalk.i64_in _ (by omega)
    have := ih (n := n + q.opens + 4 * q.ops) (fun x hx => h x (List.mem_cons_of_mem _ hx)) (by omega) (by omega)
    simp only [rsum, sumQ, List.foldl_cons, addR, e1, e2, e3] at this ⊢
    exact this
omit hu hq in
theorem rcells_sum : ∀ {l : List Quota} {n : Int}, (∀ q ∈ l, qOwn q = true) → 0 ≤ n → n + 4096 * l.length ≤ 4611686018427387904 → rcells n l = sumC n l := by
  intro l
  induction l with
  | nil => intro n _ h0 h1; rfl
  | cons q l ih =>
    intro n h h0 h1
    have hq := qOwn_le (h q (List.mem_cons_self ..))
    simp only [List.length_cons] at h1
    have e1 : IntKind.i64.wrap (n + q.cells) = n + q.cells := IntWalk.i64_in _ (by omega)
    have := ih (n := n + q.cells) (fun x hx => h x (List.mem_cons_of_mem _ hx)) (by omega) (by omega)
    simp only [rcells, sumC, List.foldl_cons, addRC, e1] at this ⊢
    exact this
omit hu hq in
theorem rightR_eq : rightR us qs gr = mayB us qs gr := by
  rw [mayB_sum, rightR]
  by_cases h1 : us.length ≤ 8
  · by_cases h2 : qs.length ≤ 8
    · by_cases h3 : 0 ≤ gr ∧ gr ≤ 64
      · cases h5 : qRow none qs with
        | false => simp
        | true =>
          have ho := qRow_own h5
          rw [rsum_sum hql hul ho h3.1 (by omega), rcells_sum hql hul ho (by omega) (by omega)]
          have g1 : ¬ 8 < us.length := by omega
          have g2 : ¬ 8 < qs.length := by omega
          have g3 : ¬ gr < 0 := by omega
          have g4 : ¬ 64 < gr := by omega
          simp [h1, h2, h3, g1, g2, g3, g4]
      · have : (decide (0 ≤ gr) && decide (gr ≤ 64)) = false := by simp; omega
        have g : (!decide (gr < 0) && !decide (64 < gr)) = false := by simp; omega
        simp [this, g]
    · have g2 : 8 < qs.length := by omega
      simp [h2, g2]
  · have g1 : 8 < us.length := by omega
    simp [h1, g1]

@[simp] theorem s_Right : limf env 53 [.agg [xu, xq, aI gr]] = some (aB (mayB us qs gr)) := by
  rw [s_Right0 hu hq hql hul, rightR_eq hql hul]

@[simp] theorem s_RCheck : limf env 27 [.agg [xu, xq, aI gr]] = some (aI (bad (mayB us qs gr))) := by
  refine limf_of (fn := Try.f27) (c := bd_blindstampref06_Check) rfl (by kernel_rfl) (by kernel_rfl) (by kernel_rfl) (by kernel_rfl) ?_; refine vc_blindstampref06_Check _ _ _ fun g => ?_
  have := s_Right (gr := gr) hu hq hql hul
  simp [new_ne, ne_new, new_ne1, ne_new1, gen_put', *, VC_blindstampref06_Check, hu.r, hq.r]
  repeat' ((first | refine br_of (fun h => ?_) (fun h => ?_) | refine gQ_oft (fun h => ?_) (fun h => ?_) | refine gQ_off (fun h => ?_) (fun h => ?_) | refine gW_oft (fun h => ?_) (fun h => ?_) | refine gW_off (fun h => ?_) (fun h => ?_)) <;> (try simp only [decide_eq_true_eq, decide_eq_false_iff_not, Bool.not_eq_true', Bool.not_eq_false', Bool.and_eq_true, Bool.or_eq_true] at h) <;> (try simp [new_ne, ne_new, new_ne1, ne_new1, gen_put', *, bad]))

@[simp] theorem s_RBlocks : limf env 23 [.agg [xu, xq, aI gr]] = some (.tup [aI (if mayB us qs gr = true then blocksOf gr qs else 0), aI (bad (mayB us qs gr))]) := by
  refine limf_of (fn := Try.f23) (c := bd_blindstampref06_Blocks) rfl (by kernel_rfl) (by kernel_rfl) (by kernel_rfl) (by kernel_rfl) ?_; refine vc_blindstampref06_Blocks _ _ _ fun g => ?_
  have h1 := s_Right (gr := gr) hu hq hql hul
  have h2 := s_Sum (gr := gr) hu hq hql hul
  simp [new_ne, ne_new, new_ne1, ne_new1, gen_put', *, VC_blindstampref06_Blocks, hu.r, hq.r]
  cases hm : mayB us qs gr with
  | false => simp [*, bad]
  | true =>
    have h3 : rsum gr qs = blocksOf gr qs := by
      have hm' := hm
      rw [mayB] at hm'
      simp only [Bool.and_eq_true, decide_eq_true_eq] at hm'
      have ho := qRow_own hm'.1.2
      rw [rsum_sum hql hul ho (by omega) (by omega), (blocksOf_sum ho (by omega) (by omega)).1]
    simp [*, hu.r, hq.r, bad]

@[simp] theorem s_Opens (user : Int) (a : UInt8) (b : UInt32) : limf env 56 [.agg [xu, xq, aI gr], aI user, .agg [a8 a, a32 b]] = some (aB (opensB us user a b)) := by
  refine limf_of (fn := Try.f56) (c := bd_blindstampref06_Opens) rfl (by kernel_rfl) (by kernel_rfl) (by kernel_rfl) (by kernel_rfl) ?_; refine vc_blindstampref06_Opens _ _ _ _ _ fun g => ?_
  by_cases h0 : 0 ≤ user ∧ user < us.length
  · obtain ⟨n, rfl⟩ := Int.eq_ofNat_of_zero_le h0.1
    have hn : n < us.length := by omega
    simp [new_ne, ne_new, new_ne1, ne_new1, gen_put', *, VC_blindstampref06_Opens, hu.r, hq.r, hu.idx, opensB, Clear.enc]
    repeat' ((first | refine br_of (fun h => ?_) (fun h => ?_) | refine gQ_oft (fun h => ?_) (fun h => ?_) | refine gQ_off (fun h => ?_) (fun h => ?_) | refine gW_oft (fun h => ?_) (fun h => ?_) | refine gW_off (fun h => ?_) (fun h => ?_)) <;> (try simp only [decide_eq_true_eq, decide_eq_false_iff_not, Bool.not_eq_true', Bool.not_eq_false', Bool.and_eq_true, Bool.or_eq_true] at h) <;> (try simp [new_ne, ne_new, new_ne1, ne_new1, gen_put', *, hu.r, hq.r, hu.idx, opensB, Clear.enc]))
  · have h1 : 0 ≤ user → ¬ user < us.length := by omega
    simp [new_ne, ne_new, new_ne1, ne_new1, gen_put', *, VC_blindstampref06_Opens, hu.r, hq.r, hu.idx, opensB, Clear.enc]
    repeat' ((first | refine br_of (fun h => ?_) (fun h => ?_) | refine gQ_oft (fun h => ?_) (fun h => ?_) | refine gQ_off (fun h => ?_) (fun h => ?_) | refine gW_oft (fun h => ?_) (fun h => ?_) | refine gW_off (fun h => ?_) (fun h => ?_)) <;> (try simp only [decide_eq_true_eq, decide_eq_false_iff_not, Bool.not_eq_true', Bool.not_eq_false', Bool.and_eq_true, Bool.or_eq_true] at h) <;> (try simp [new_ne, ne_new, new_ne1, ne_new1, gen_put', *, hu.r, hq.r, hu.idx, opensB, Clear.enc]))

@[simp] theorem s_RMay3 (user : Int) (a : UInt8) (b : UInt32) : limf env 24 [.agg [xu, xq, aI gr], aI user, .agg [a8 a, a32 b]] = some (.tup [aB (decide (askedE us qs gr a = 0) && opensB us user a b), aI (askedE us qs gr a)]) := by
  refine limf_of (fn := Try.f24) (c := bd_blindstampref06_May) rfl (by kernel_rfl) (by kernel_rfl) (by kernel_rfl) (by kernel_rfl) ?_; refine vc_blindstampref06_May _ _ _ _ _ fun g => ?_
  have h1 := s_Right (gr := gr) hu hq hql hul
  have h2 := s_Opens (gr := gr) hu hq hql hul user a b
  simp [new_ne, ne_new, new_ne1, ne_new1, gen_put', *, VC_blindstampref06_May, hu.r, hq.r]
  by_cases ha : a ≤ 15
  · have hl : lcheck a = 0 := by simp [ha]
    cases hm : mayB us qs gr <;> simp [*, askedE, bad, hu.r, hq.r]
  · have hl : lcheck a = 8 := by unfold lcheck; rw [if_pos (UInt8.not_le.1 ha)]
    cases hm : mayB us qs gr <;> simp [*, askedE, bad, hu.r, hq.r]
end

end Go.Proofs.Ytgooemdlilfkmaa
