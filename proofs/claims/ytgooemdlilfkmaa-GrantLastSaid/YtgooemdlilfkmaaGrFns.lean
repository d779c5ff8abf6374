/-
  The functions of grant: what they answer. No statement of a seat is proved here.
-/
import Derived.Test.YtgooemdlilfkmaaPolFns
import Derived.Test.YtgooemdlilfkmaaAbsRules
set_option linter.unusedVariables false
set_option linter.unusedSimpArgs false
set_option linter.unusedSectionVars false
set_option linter.unnecessarySimpa false
set_option maxRecDepth 100000
namespace Go.Proofs.Ytgooemdlilfkmaa
open Go.Ab
attribute [local simp] depth_eq callRes_V callG_data callG_frz callG_own keep appRes_G appFine_n appFine_s appG_n appG_s roomB appRes_I islFine_some islG_ne List.take_of_length_le

/-- May a grant be? -/
def mayG (user : Int) (v : UInt8) (c : UInt32) (ok : Bool) : Bool := decide (0 ≤ user) && decide (user < 8) && clearB v c ok

@[simp] theorem s_right (b : Bool) : limf env 82 [aB b] = some (aI (bad b)) := by
  refine limf_of (fn := Try.f82) (c := bd_ids_right) rfl (by kernel_rfl) (by kernel_rfl) (by kernel_rfl) (by kernel_rfl) ?_; refine vc_ids_right _ _ _ fun g => ?_
  cases b <;> simp [new_ne, ne_new, new_ne1, ne_new1, gen_put', *, VC_ids_right, bad]
@[simp] theorem s_CheckHandle (a : UInt8) (b : UInt32) (n : UInt8) : limf env 76 [.agg [a8 a, a32 b, a8 n]] = some (aI (bad (decide (a ≤ 15) && decide (n < 8)))) := by
  refine limf_of (fn := Try.f76) (c := bd_ids_CheckHandle) rfl (by kernel_rfl) (by kernel_rfl) (by kernel_rfl) (by kernel_rfl) ?_; refine vc_ids_CheckHandle _ _ _ fun g => ?_
  simp [new_ne, ne_new, new_ne1, ne_new1, gen_put', *, VC_ids_CheckHandle]
  repeat' ((first | refine br_of (fun h => ?_) (fun h => ?_) | refine gQ_oft (fun h => ?_) (fun h => ?_) | refine gQ_off (fun h => ?_) (fun h => ?_) | refine gW_oft (fun h => ?_) (fun h => ?_) | refine gW_off (fun h => ?_) (fun h => ?_)) <;> (try simp only [decide_eq_true_eq, decide_eq_false_iff_not, Bool.not_eq_true', Bool.not_eq_false', Bool.and_eq_true, Bool.or_eq_true] at h) <;> (try simp [new_ne, ne_new, new_ne1, ne_new1, gen_put', *]))
@[simp] theorem s_GCheck (user : Int) (v : UInt8) (c : UInt32) (ok : Bool) : limf env 38 [.agg [aI user, a8 v, a32 c, aB ok]] = some (aI (bad (mayG user v c ok))) := by
  refine limf_of (fn := Try.f38) (c := bd_grant_Check) rfl (by kernel_rfl) (by kernel_rfl) (by kernel_rfl) (by kernel_rfl) ?_; refine vc_grant_Check _ _ _ fun g => ?_
  cases ok
  · simp [new_ne, ne_new, new_ne1, ne_new1, gen_put', *, VC_grant_Check, eqA, eqFs]
    repeat' ((first | refine br_of (fun h => ?_) (fun h => ?_) | refine gQ_oft (fun h => ?_) (fun h => ?_) | refine gQ_off (fun h => ?_) (fun h => ?_) | refine gW_oft (fun h => ?_) (fun h => ?_) | refine gW_off (fun h => ?_) (fun h => ?_)) <;> (try simp only [decide_eq_true_eq, decide_eq_false_iff_not, Bool.not_eq_true', Bool.not_eq_false', Bool.and_eq_true, Bool.or_eq_true] at h) <;> (try simp [new_ne, ne_new, new_ne1, ne_new1, gen_put', *, eqA, eqFs, mayG, clearB, bad]))
    all_goals (try grind)
  · simp [new_ne, ne_new, new_ne1, ne_new1, gen_put', *, VC_grant_Check, eqA, eqFs]
    repeat' ((first | refine br_of (fun h => ?_) (fun h => ?_) | refine gQ_oft (fun h => ?_) (fun h => ?_) | refine gQ_off (fun h => ?_) (fun h => ?_) | refine gW_oft (fun h => ?_) (fun h => ?_) | refine gW_off (fun h => ?_) (fun h => ?_)) <;> (try simp only [decide_eq_true_eq, decide_eq_false_iff_not, Bool.not_eq_true', Bool.not_eq_false', Bool.and_eq_true, Bool.or_eq_true] at h) <;> (try simp [new_ne, ne_new, new_ne1, ne_new1, gen_put', *, eqA, eqFs, mayG, clearB, bad]))
    all_goals (try grind)
@[simp] theorem s_RGMay (user : Int) (v : UInt8) (c : UInt32) (ok : Bool) : limf env 63 [.agg [aI user, a8 v, a32 c, aB ok]] = some (aB (mayG user v c ok)) := by
  refine limf_of (fn := Try.f63) (c := bd_blindstampref07_May) rfl (by kernel_rfl) (by kernel_rfl) (by kernel_rfl) (by kernel_rfl) ?_; refine vc_blindstampref07_May _ _ _ fun g => ?_
  simp [new_ne, ne_new, new_ne1, ne_new1, gen_put', *, VC_blindstampref07_May]
  repeat' ((first | refine br_of (fun h => ?_) (fun h => ?_) | refine gQ_oft (fun h => ?_) (fun h => ?_) | refine gQ_off (fun h => ?_) (fun h => ?_) | refine gW_oft (fun h => ?_) (fun h => ?_) | refine gW_off (fun h => ?_) (fun h => ?_)) <;> (try simp only [decide_eq_true_eq, decide_eq_false_iff_not, Bool.not_eq_true', Bool.not_eq_false', Bool.and_eq_true, Bool.or_eq_true] at h) <;> (try simp [new_ne, ne_new, new_ne1, ne_new1, gen_put', *, mayG]))

@[simp] theorem s_number4 (n : Int) (h0 : 0 ≤ n) : limf env 77 [aI n, aI 4] = some (.isl 1 (by8 (be 4 n)) none) := by
  refine limf_of (fn := Try.f77) (c := bd_ids_number) rfl (by kernel_rfl) (by kernel_rfl) (by kernel_rfl) (by kernel_rfl) ?_; refine vc_ids_number _ _ _ _ fun g => ?_
  have w5 : IntKind.i64.wrap (-1) = -1 := rfl
  have w4 : IntKind.i64.wrap 0 = 0 := rfl
  simp [new_ne, ne_new, new_ne1, ne_new1, gen_put', *, VC_ids_number]
  refine vc_ids_number_2 _ _ _ _ _ fun g => ?_
  simp [new_ne, ne_new, new_ne1, ne_new1, gen_put', *, VC_ids_number_2, qBin_shr, fdiv_lit]
  refine vc_ids_number_2 _ _ _ _ _ fun g => ?_
  simp [new_ne, ne_new, new_ne1, ne_new1, gen_put', *, VC_ids_number_2, qBin_shr, fdiv_lit]
  refine vc_ids_number_2 _ _ _ _ _ fun g => ?_
  simp [new_ne, ne_new, new_ne1, ne_new1, gen_put', *, VC_ids_number_2, qBin_shr, fdiv_lit]
  refine vc_ids_number_2 _ _ _ _ _ fun g => ?_
  simp [new_ne, ne_new, new_ne1, ne_new1, gen_put', *, VC_ids_number_2, qBin_shr, fdiv_lit]
  refine vc_ids_number_2 _ _ _ _ _ fun g => ?_
  simp [new_ne, ne_new, new_ne1, ne_new1, gen_put', *, VC_ids_number_2, be_4, by8]
@[simp] theorem s_wide4 (n : Int) (h0 : 0 ≤ n) (h1 : n < 9223372036854775808) : limf env 83 [aI n, aI 4] = some (.isl 1 (by8 (be 4 n)) none) := by
  refine limf_of (fn := Try.f83) (c := bd_blindstampref05_wide) rfl (by kernel_rfl) (by kernel_rfl) (by kernel_rfl) (by kernel_rfl) ?_; refine vc_blindstampref05_wide _ _ _ _ fun g => ?_
  simp [new_ne, ne_new, new_ne1, ne_new1, gen_put', *, VC_blindstampref05_wide]
  refine vc_blindstampref05_wide_3 _ _ _ _ _ _ fun g => ?_
  simp [new_ne, ne_new, new_ne1, ne_new1, gen_put', *, VC_blindstampref05_wide_3, qBin_rem, qBin_quo]
  refine vc_blindstampref05_wide_3 _ _ _ _ _ _ fun g => ?_
  simp [new_ne, ne_new, new_ne1, ne_new1, gen_put', *, VC_blindstampref05_wide_3, qBin_rem, qBin_quo]
  refine vc_blindstampref05_wide_3 _ _ _ _ _ _ fun g => ?_
  simp [new_ne, ne_new, new_ne1, ne_new1, gen_put', *, VC_blindstampref05_wide_3, qBin_rem, qBin_quo]
  refine vc_blindstampref05_wide_3 _ _ _ _ _ _ fun g => ?_
  simp [new_ne, ne_new, new_ne1, ne_new1, gen_put', *, VC_blindstampref05_wide_3, qBin_rem, qBin_quo]
  refine vc_blindstampref05_wide_3 _ _ _ _ _ _ fun g => ?_
  simp [new_ne, ne_new, new_ne1, ne_new1, gen_put', *, VC_blindstampref05_wide_3]
  have e1 := tdiv_256 h0
  have e2 := IntWalk.i64_in (n / 256) (by omega)
  have e3 := tdiv_256 (n := n / 256) (by omega)
  have e4 := IntWalk.i64_in (n / 256 / 256) (by omega)
  have e5 := tdiv_256 (n := n / 256 / 256) (by omega)
  have e6 := IntWalk.i64_in (n / 256 / 256 / 256) (by omega)
  have m1 := tmod_256 h0
  have m2 := tmod_256 (n := n / 256) (by omega)
  have m3 := tmod_256 (n := n / 256 / 256) (by omega)
  have m4 := tmod_256 (n := n / 256 / 256 / 256) (by omega)
  simp only [e1, e2, e3, e4, e5, e6, m1, m2, m3, m4, u8_mod]
  simp [be, by8]

theorem read_loop {x5 : AV} {Q : AV → Heap → Prop} {l : List UInt8} (hx : Sl 1 (by8 l) x5) (hl : l.length ≤ 7) : ∀ (s : List UInt8) (k : Nat) (i a : Int) (H : Heap), l.drop k = s → k ≤ l.length → i = k → 0 ≤ a → a < 256 ^ k →
    (∀ y H', y = aI (valF a s) → Q y H') →
    GoL env Try.f84 0 hd_ids_read_2 [(7, aI i), (2, aI a), (5, x5), (6, aI l.length)] H Q := by
  intro s
  induction s with
  | nil =>
    rintro k i a H hs hk rfl h0 h1 hQ
    obtain rfl := drop_nil hs hk
    refine vc_ids_read_2 _ _ _ _ _ _ fun g => ?_
    simp [new_ne, ne_new, new_ne1, ne_new1, gen_put', *, VC_ids_read_2]
    exact hQ _ _ rfl
  | cons b s ih =>
    rintro k i a H hs hk rfl h0 h1 hQ
    obtain ⟨hlt, hg, hs', hg'⟩ := drop_cons hs
    refine vc_ids_read_2 _ _ _ _ _ _ fun g => ?_
    have hb := b.toNat_lt
    have h2 := pow256_le (k := k) 6 (by omega)
    have e := or_byte h0 (by omega) b
    have e2 := IntWalk.i64_in (a * 256) (by omega)
    have e3 := IntWalk.i64_in ((k : Int) + 1) (by omega)
    simp [new_ne, ne_new, new_ne1, ne_new1, gen_put', *, VC_ids_read_2, qBin_shl, hx.idx]
    exact ih (k + 1) _ _ _ hs' (by omega) (by simp) (by omega) (by rw [Int.pow_succ]; omega) hQ
@[simp] theorem s_read {x : AV} {l : List UInt8} (hx : Sl 1 (by8 l) x) (hl : l.length ≤ 7) : limf env 84 [x] = some (aI (val l)) := by
  refine limf_of (fn := Try.f84) (c := bd_ids_read) rfl (by kernel_rfl) (by kernel_rfl) (by kernel_rfl) (by kernel_rfl) ?_; refine vc_ids_read _ _ _ fun g => ?_
  have h := hx.len
  simp [new_ne, ne_new, new_ne1, ne_new1, gen_put', *, VC_ids_read]
  exact read_loop hx hl l 0 _ _ _ rfl (by omega) rfl (by omega) (by simp) (fun y H' e => by simp [e, val])

@[simp] theorem s_PutHandle (a : UInt8) (b : UInt32) (n : UInt8) : limf env 62 [.agg [a8 a, a32 b, a8 n]] = some (if a ≤ 15 ∧ n < 8 then .tup [.isl 1 (by8 (a :: (be 4 b.toNat ++ [n]))) none, aI 0] else .tup [aNil, aI 8]) := by
  refine limf_of (fn := Try.f62) (c := bd_ids_PutHandle) rfl (by kernel_rfl) (by kernel_rfl) (by kernel_rfl) (by kernel_rfl) ?_; refine vc_ids_PutHandle _ _ _ fun g => ?_
  by_cases h : a ≤ 15 ∧ n < 8
  · obtain ⟨h1, h2⟩ := h
    simp [new_ne, ne_new, new_ne1, ne_new1, gen_put', *, VC_ids_PutHandle, bad, by8]
  · rw [if_neg h]
    have h' : (decide (a ≤ 15) && decide (n < 8)) = false := by
      rw [Bool.and_eq_false_iff]; simp only [decide_eq_false_iff_not]
      by_cases h1 : a ≤ 15
      · exact .inr fun h2 => h ⟨h1, h2⟩
      · exact .inl h1
    simp [new_ne, ne_new, new_ne1, ne_new1, gen_put', *, VC_ids_PutHandle, bad]
@[simp] theorem s_Named (a : UInt8) (b : UInt32) (n : UInt8) : limf env 78 [.agg [a8 a, a32 b, a8 n]] = some (.isl 1 (by8 (a :: (be 4 b.toNat ++ [n]))) none) := by
  refine limf_of (fn := Try.f78) (c := bd_blindstampref05_Named) rfl (by kernel_rfl) (by kernel_rfl) (by kernel_rfl) (by kernel_rfl) ?_; refine vc_blindstampref05_Named _ _ _ fun g => ?_
  have hb : (b.toNat : Int) < 9223372036854775808 := by have := b.toNat_lt; omega
  simp [new_ne, ne_new, new_ne1, ne_new1, gen_put', *, VC_blindstampref05_Named, by8]


/-- A handle of bytes. -/
theorem s_named {c : Option Nat} {a n b1 b2 b3 b4 : UInt8} (hc : 6 ≤ c.getD 6) : limf env 79 [.isl 1 [a8 a, a8 b1, a8 b2, a8 b3, a8 b4, a8 n] c] = some (.agg [a8 a, a32 (u32 (val [b1, b2, b3, b4])), a8 n, aI (bad (decide (a ≤ 15) && decide (n < 8)))]) := by
  refine limf_of (fn := Try.f79) (c := bd_ids_named) rfl (by kernel_rfl) (by kernel_rfl) (by kernel_rfl) (by kernel_rfl) ?_; refine vc_ids_named _ _ _ fun g => ?_
  have hr := s_read (l := [b1, b2, b3, b4]) (x := .isl 1 [a8 b1, a8 b2, a8 b3, a8 b4] (c.map (· - 1))) (Sl.mkC (cap_sub hc (by simp))) (by simp)
  have hv := val_bound [b1, b2, b3, b4]
  generalize val [b1, b2, b3, b4] = v at *
  simp [new_ne, ne_new, new_ne1, ne_new1, gen_put', *, VC_ids_named]
theorem s_GetHandle {c : Option Nat} {a n b1 b2 b3 b4 : UInt8} (hc : 6 ≤ c.getD 6) : limf env 65 [.isl 1 [a8 a, a8 b1, a8 b2, a8 b3, a8 b4, a8 n] c] =
    some (if a ≤ 15 ∧ n < 8 then .tup [.agg [a8 a, a32 (u32 (val [b1, b2, b3, b4])), a8 n], aI 0] else .tup [.agg [a8 0, a32 0, a8 0], aI 8]) := by
  refine limf_of (fn := Try.f65) (c := bd_ids_GetHandle) rfl (by kernel_rfl) (by kernel_rfl) (by kernel_rfl) (by kernel_rfl) ?_; refine vc_ids_GetHandle _ _ _ fun g => ?_
  have hr := s_named (a := a) (n := n) (b1 := b1) (b2 := b2) (b3 := b3) (b4 := b4) hc
  generalize val [b1, b2, b3, b4] = v at *
  by_cases h : a ≤ 15 ∧ n < 8
  · obtain ⟨h1, h2⟩ := h
    simp [new_ne, ne_new, new_ne1, ne_new1, gen_put', *, VC_ids_GetHandle, bad]
  · rw [if_neg h]
    have h' : (decide (a ≤ 15) && decide (n < 8)) = false := by grind
    simp [new_ne, ne_new, new_ne1, ne_new1, gen_put', *, VC_ids_GetHandle, bad]

/-- A grant's bytes. -/
def gBytes (user : Int) (v : UInt8) (c : UInt32) (ok : Bool) : List UInt8 := u8 user :: (if ok then 1 else 0) :: v :: be 4 c.toNat
@[simp] theorem s_GPut (user : Int) (v : UInt8) (c : UInt32) (ok : Bool) : limf env 30 [.agg [aI user, a8 v, a32 c, aB ok]] = some (if mayG user v c ok then .tup [.isl 1 (by8 (gBytes user v c ok)) none, aI 0] else .tup [aNil, aI 8]) := by
  refine limf_of (fn := Try.f30) (c := bd_grant_Put) rfl (by kernel_rfl) (by kernel_rfl) (by kernel_rfl) (by kernel_rfl) ?_; refine vc_grant_Put _ _ _ fun g => ?_
  by_cases h : mayG user v c ok = true
  · have h1 : v ≤ 15 := by simp [mayG, clearB] at h; exact h.2.1
    cases ok <;> simp [new_ne, ne_new, new_ne1, ne_new1, gen_put', *, VC_grant_Put, bad, gBytes, by8]
  · simp at h
    simp [new_ne, ne_new, new_ne1, ne_new1, gen_put', *, VC_grant_Put, bad]
@[simp] theorem s_RGBytes (user : Int) (v : UInt8) (c : UInt32) (ok : Bool) : limf env 64 [.agg [aI user, a8 v, a32 c, aB ok]] = some (.isl 1 (by8 (gBytes user v c ok)) none) := by
  refine limf_of (fn := Try.f64) (c := bd_blindstampref07_Bytes) rfl (by kernel_rfl) (by kernel_rfl) (by kernel_rfl) (by kernel_rfl) ?_; refine vc_blindstampref07_Bytes _ _ _ fun g => ?_
  cases ok <;> simp [new_ne, ne_new, new_ne1, ne_new1, gen_put', *, VC_blindstampref07_Bytes, bad, gBytes, by8]
@[simp] theorem s_RGPut (user : Int) (v : UInt8) (c : UInt32) (ok : Bool) : limf env 31 [.agg [aI user, a8 v, a32 c, aB ok]] = some (if mayG user v c ok then .tup [.isl 1 (by8 (gBytes user v c ok)) none, aI 0] else .tup [aNil, aI 8]) := by
  refine limf_of (fn := Try.f31) (c := bd_blindstampref07_Put) rfl (by kernel_rfl) (by kernel_rfl) (by kernel_rfl) (by kernel_rfl) ?_; refine vc_blindstampref07_Put _ _ _ fun g => ?_
  by_cases h : mayG user v c ok = true
  · simp [new_ne, ne_new, new_ne1, ne_new1, gen_put', *, VC_blindstampref07_Put]
  · simp at h
    simp [new_ne, ne_new, new_ne1, ne_new1, gen_put', *, VC_blindstampref07_Put]

/-- That of bytes. -/
def gotG (b0 b1 b2 b3 b4 b5 b6 : UInt8) : AV := if b1 ≤ 1 ∧ mayG b0.toNat b2 (u32 (val [b3, b4, b5, b6])) (decide (b1 = 1)) = true then .tup [.agg [aI b0.toNat, a8 b2, a32 (u32 (val [b3, b4, b5, b6])), aB (decide (b1 = 1))], aI 0] else .tup [.agg [aI 0, a8 0, a32 0, aB false], aI 8]
theorem s_GGet {c : Option Nat} {b0 b1 b2 b3 b4 b5 b6 : UInt8} (hc : 7 ≤ c.getD 7) : limf env 32 [.isl 1 [a8 b0, a8 b1, a8 b2, a8 b3, a8 b4, a8 b5, a8 b6] c] = some (gotG b0 b1 b2 b3 b4 b5 b6) := by
  refine limf_of (fn := Try.f32) (c := bd_grant_Get) rfl (by kernel_rfl) (by kernel_rfl) (by kernel_rfl) (by kernel_rfl) ?_; refine vc_grant_Get _ _ _ fun g => ?_
  have hc' : (7 : Int) ≤ (c.getD 7 : Nat) := by omega
  have hr := s_GetHandle (a := b2) (n := 0) (b1 := b3) (b2 := b4) (b3 := b5) (b4 := b6) (c := none) (by simp)
  unfold gotG
  generalize val [b3, b4, b5, b6] = v at *
  by_cases h1 : b1 ≤ 1
  · have h1' : ¬ 1 < b1 := UInt8.not_lt.2 h1
    by_cases h2 : b2 ≤ 15
    · cases h : mayG b0.toNat b2 (u32 v) (decide (b1 = 1)) <;> simp [new_ne, ne_new, new_ne1, ne_new1, gen_put', *, VC_grant_Get, bad]
    · have h' : mayG b0.toNat b2 (u32 v) (decide (b1 = 1)) = false := by simp [mayG, clearB, h2]
      simp [new_ne, ne_new, new_ne1, ne_new1, gen_put', *, VC_grant_Get, bad]
  · have h1' : 1 < b1 := UInt8.not_le.1 h1
    simp [new_ne, ne_new, new_ne1, ne_new1, gen_put', *, VC_grant_Get, bad]
theorem s_GGetN {x : AV} {l : List UInt8} (hx : Sl 1 (by8 l) x) (hl : l.length ≠ 7) (hl' : l.length < 1000000) : limf env 32 [x] = some (.tup [.agg [aI 0, a8 0, a32 0, aB false], aI 8]) := by
  refine limf_of (fn := Try.f32) (c := bd_grant_Get) rfl (by kernel_rfl) (by kernel_rfl) (by kernel_rfl) (by kernel_rfl) ?_; refine vc_grant_Get _ _ _ fun g => ?_
  have h : ¬ (l.length : Int) = 7 := by omega
  simp [new_ne, ne_new, new_ne1, ne_new1, gen_put', *, VC_grant_Get, hx.r]
theorem s_RGGetN {x : AV} {l : List UInt8} (hx : Sl 1 (by8 l) x) (hl : l.length ≠ 7) (hl' : l.length < 1000000) : limf env 33 [x] = some (.tup [.agg [aI 0, a8 0, a32 0, aB false], aI 8]) := by
  refine limf_of (fn := Try.f33) (c := bd_blindstampref07_Get) rfl (by kernel_rfl) (by kernel_rfl) (by kernel_rfl) (by kernel_rfl) ?_; refine vc_blindstampref07_Get _ _ _ fun g => ?_
  have h : ¬ (l.length : Int) = 7 := by omega
  simp [new_ne, ne_new, new_ne1, ne_new1, gen_put', *, VC_blindstampref07_Get, hx.r]
theorem s_RGGet {c : Option Nat} {b0 b1 b2 b3 b4 b5 b6 : UInt8} (hc : 7 ≤ c.getD 7) : limf env 33 [.isl 1 [a8 b0, a8 b1, a8 b2, a8 b3, a8 b4, a8 b5, a8 b6] c] = some (gotG b0 b1 b2 b3 b4 b5 b6) := by
  refine limf_of (fn := Try.f33) (c := bd_blindstampref07_Get) rfl (by kernel_rfl) (by kernel_rfl) (by kernel_rfl) (by kernel_rfl) ?_; refine vc_blindstampref07_Get _ _ _ fun g => ?_
  have e : val [b3, b4, b5, b6] = 256 * (256 * (256 * b3.toNat + b4.toNat) + b5.toNat) + b6.toNat := by simp [val, valF]
  have e3 := b3.toNat_lt
  have e4 := b4.toNat_lt
  have e5 := b5.toNat_lt
  have e6 := b6.toNat_lt
  have w3 := IntWalk.i64_in (256 * (b3.toNat : Int)) (by omega)
  have w4 := IntWalk.i64_in (256 * (b3.toNat : Int) + b4.toNat) (by omega)
  have w5 := IntWalk.i64_in (256 * (256 * (b3.toNat : Int) + b4.toNat)) (by omega)
  have w6 := IntWalk.i64_in (256 * (256 * (b3.toNat : Int) + b4.toNat) + b5.toNat) (by omega)
  have w7 := IntWalk.i64_in (256 * (256 * (256 * (b3.toNat : Int) + b4.toNat) + b5.toNat)) (by omega)
  have w8 := IntWalk.i64_in (256 * (256 * (256 * (b3.toNat : Int) + b4.toNat) + b5.toNat) + b6.toNat) (by omega)
  unfold gotG
  by_cases h1 : b1 ≤ 1
  · have h1' : ¬ 1 < b1 := UInt8.not_lt.2 h1
    simp [new_ne, ne_new, new_ne1, ne_new1, gen_put', *, VC_blindstampref07_Get]
    refine vc_blindstampref07_Get_5 _ _ _ _ _ _ fun g => ?_
    simp [new_ne, ne_new, new_ne1, ne_new1, gen_put', *, VC_blindstampref07_Get_5]
    refine vc_blindstampref07_Get_5 _ _ _ _ _ _ fun g => ?_
    simp [new_ne, ne_new, new_ne1, ne_new1, gen_put', *, VC_blindstampref07_Get_5]
    refine vc_blindstampref07_Get_5 _ _ _ _ _ _ fun g => ?_
    simp [new_ne, ne_new, new_ne1, ne_new1, gen_put', *, VC_blindstampref07_Get_5]
    refine vc_blindstampref07_Get_5 _ _ _ _ _ _ fun g => ?_
    simp [new_ne, ne_new, new_ne1, ne_new1, gen_put', *, VC_blindstampref07_Get_5]
    refine vc_blindstampref07_Get_5 _ _ _ _ _ _ fun g => ?_
    cases h : mayG b0.toNat b2 (u32 (256 * (256 * (256 * b3.toNat + b4.toNat) + b5.toNat) + b6.toNat)) (decide (b1 = 1)) <;> simp [new_ne, ne_new, new_ne1, ne_new1, gen_put', *, VC_blindstampref07_Get_5]
  · have h1' : 1 < b1 := UInt8.not_le.1 h1
    simp [new_ne, ne_new, new_ne1, ne_new1, gen_put', *, VC_blindstampref07_Get]
end Go.Proofs.Ytgooemdlilfkmaa
