/-
  The sum of bytes as mathematics: a linear map that turns one to one. No statement of a seat is proved here.
-/
import Derived.Test.YtfkpmldmmdkgoaaAbsSimp
set_option linter.unusedVariables false
namespace Go.Proofs.Ytfkpmldmmdkgoaa

def crcBit (s : UInt32) : UInt32 := if (0 : UInt32) < (s <<< 1) >>> 24 then (s <<< 1) ^^^ 25578747 else s <<< 1
def crcBits : Nat → UInt32 → UInt32
  | 0, s => s
  | n + 1, s => crcBits n (crcBit s)
def crcByte (s : UInt32) (x : UInt8) : UInt32 := crcBits 8 (s ^^^ (x.toUInt32 <<< 16))
def crcFrom (s : UInt32) (l : List UInt8) : UInt32 := l.foldl crcByte s
def crc (l : List UInt8) : UInt32 := crcFrom 11994318 l

/-- Less than 24 bits. -/
abbrev Sm (s : UInt32) : Prop := s.toNat < 16777216

theorem shl1 {s : UInt32} (h : s.toNat < 2147483648) : (s <<< 1).toNat = 2 * s.toNat := by
  rw [UInt32.toNat_shiftLeft]
  show s.toNat <<< 1 % 4294967296 = _
  rw [Nat.shiftLeft_eq]; omega
theorem shr24 (s : UInt32) : (s >>> 24).toNat = s.toNat / 16777216 := by
  rw [UInt32.toNat_shiftRight]
  show s.toNat >>> 24 = _
  rw [Nat.shiftRight_eq_div_pow]
theorem top {s : UInt32} (h : Sm s) : ((0 : UInt32) < (s <<< 1) >>> 24) ↔ 8388608 ≤ s.toNat := by
  have : s.toNat < 2147483648 := by unfold Sm at h; omega
  rw [UInt32.lt_iff_toNat_lt, shr24, shl1 this]
  show 0 < _ ↔ _
  unfold Sm at h
  omega
theorem crcBit_eq {s : UInt32} (h : Sm s) : (crcBit s).toNat = if 8388608 ≤ s.toNat then (2 * s.toNat) ^^^ 25578747 else 2 * s.toNat := by
  have hs : s.toNat < 2147483648 := by unfold Sm at h; omega
  unfold crcBit
  by_cases ht : 8388608 ≤ s.toNat
  · rw [if_pos ((top h).2 ht), if_pos ht, UInt32.toNat_xor, shl1 hs]; rfl
  · rw [if_neg (fun hh => ht ((top h).1 hh)), if_neg ht, shl1 hs]

theorem xor_top {n : Nat} (h1 : 16777216 ≤ n) (h2 : n < 33554432) : n ^^^ 25578747 < 16777216 := by
  have : n = 2 ^ 24 * 1 + (n - 16777216) := by omega
  have e : (25578747 : Nat) = 2 ^ 24 * 1 + 8801531 := rfl
  apply Nat.lt_pow_two_of_testBit (n := 24)
  intro i hi
  rw [Nat.testBit_xor]
  rcases Nat.lt_or_ge i 25 with h | h
  · obtain rfl : i = 24 := by omega
    have a : n.testBit 24 = true := by rw [Nat.testBit_eq_decide_div_mod_eq]; simp; omega
    rw [a]; rfl
  · have a : n.testBit i = false := Nat.testBit_lt_two_pow (Nat.lt_of_lt_of_le (show n < 2 ^ 25 by omega) (Nat.pow_le_pow_right (by decide) h))
    have b : (25578747 : Nat).testBit i = false := Nat.testBit_lt_two_pow (Nat.lt_of_lt_of_le (show 25578747 < 2 ^ 25 by decide) (Nat.pow_le_pow_right (by decide) h))
    rw [a, b]; rfl

theorem crcBit_sm {s : UInt32} (h : Sm s) : Sm (crcBit s) := by
  unfold Sm at *
  rw [crcBit_eq h]
  split
  · exact xor_top (by omega) (by omega)
  · omega
theorem crcBits_sm {s : UInt32} (n : Nat) (h : Sm s) : Sm (crcBits n s) := by
  induction n generalizing s with
  | zero => exact h
  | succ n ih => exact ih (crcBit_sm h)

theorem xor_sm {a b : UInt32} (ha : Sm a) (hb : Sm b) : Sm (a ^^^ b) := by
  unfold Sm at *
  rw [UInt32.toNat_xor]
  exact Nat.xor_lt_two_pow (n := 24) ha hb

/- ## Linear -/
theorem top_xor {a b : Nat} (ha : a < 16777216) (hb : b < 16777216) : (8388608 ≤ a ^^^ b) ↔ ¬ ((8388608 ≤ a) ↔ (8388608 ≤ b)) := by
  have key : ∀ n : Nat, n < 16777216 → ((8388608 ≤ n) ↔ n.testBit 23 = true) := by
    intro n hn
    rw [Nat.testBit_eq_decide_div_mod_eq]; simp; omega
  rw [key _ (Nat.xor_lt_two_pow (n := 24) ha hb), key _ ha, key _ hb, Nat.testBit_xor]
  cases a.testBit 23 <;> cases b.testBit 23 <;> simp

theorem two_xor (a b : Nat) : 2 * (a ^^^ b) = 2 * a ^^^ 2 * b := by
  have := Nat.shiftLeft_xor_distrib (a := a) (b := b) (i := 1)
  simpa [Nat.shiftLeft_eq, Nat.mul_comm] using this

theorem crcBit_xor {a b : UInt32} (ha : Sm a) (hb : Sm b) : crcBit (a ^^^ b) = crcBit a ^^^ crcBit b := by
  apply UInt32.toNat_inj.1
  rw [UInt32.toNat_xor, crcBit_eq (xor_sm ha hb), crcBit_eq ha, crcBit_eq hb, UInt32.toNat_xor, two_xor]
  have := top_xor ha hb
  by_cases h1 : 8388608 ≤ a.toNat <;> by_cases h2 : 8388608 ≤ b.toNat
  · rw [if_neg (by rw [this]; simp [h1, h2]), if_pos h1, if_pos h2]
    rw [Nat.xor_assoc, Nat.xor_comm 25578747, Nat.xor_assoc, Nat.xor_self, Nat.xor_zero]
  · rw [if_pos (by rw [this]; simp [h1, h2]), if_pos h1, if_neg h2]
    rw [Nat.xor_assoc, Nat.xor_assoc, Nat.xor_comm (2 * b.toNat)]
  · rw [if_pos (by rw [this]; simp [h1, h2]), if_neg h1, if_pos h2, Nat.xor_assoc]
  · rw [if_neg (by rw [this]; simp [h1, h2]), if_neg h1, if_neg h2]
theorem crcBits_xor {a b : UInt32} (n : Nat) (ha : Sm a) (hb : Sm b) : crcBits n (a ^^^ b) = crcBits n a ^^^ crcBits n b := by
  induction n generalizing a b with
  | zero => rfl
  | succ n ih =>
    show crcBits n (crcBit (a ^^^ b)) = _
    rw [crcBit_xor ha hb]
    exact ih (crcBit_sm ha) (crcBit_sm hb)

/- ## One to one -/
theorem crcBit_inj0 {a : UInt32} (ha : Sm a) (h : crcBit a = 0) : a = 0 := by
  have := congrArg UInt32.toNat h
  rw [crcBit_eq ha] at this
  apply UInt32.toNat_inj.1
  split at this
  · exfalso
    have hm := congrArg (· % 2) this
    simp only [show (0 : UInt32).toNat = 0 from rfl] at hm
    have e : (2 * a.toNat ^^^ 25578747) % 2 = 1 := by
      have : (2 * a.toNat ^^^ 25578747).testBit 0 = true := by
        rw [Nat.testBit_xor]
        simp [Nat.testBit_zero]
      rw [Nat.testBit_zero] at this
      exact of_decide_eq_true this
    omega
  · simp at this ⊢; omega
theorem crcBits_inj0 {a : UInt32} (n : Nat) (ha : Sm a) (h : crcBits n a = 0) : a = 0 := by
  induction n generalizing a with
  | zero => exact h
  | succ n ih => exact crcBit_inj0 ha (ih (crcBit_sm ha) h)
theorem xor_eq_zero {a b : UInt32} (h : a ^^^ b = 0) : a = b := by
  have := congrArg (· ^^^ b) h
  simpa [UInt32.xor_assoc] using this
theorem crcBits_inj {a b : UInt32} (n : Nat) (ha : Sm a) (hb : Sm b) (h : crcBits n a = crcBits n b) : a = b := by
  apply xor_eq_zero
  apply crcBits_inj0 n (xor_sm ha hb)
  rw [crcBits_xor n ha hb, h, UInt32.xor_self]

/-- A byte at its place. -/
def at16 (x : UInt8) : UInt32 := x.toUInt32 <<< 16
theorem at16_toNat (x : UInt8) : (at16 x).toNat = x.toNat * 65536 := by
  have := x.toNat_lt
  unfold at16
  rw [UInt32.toNat_shiftLeft, UInt8.toNat_toUInt32]
  show x.toNat <<< 16 % 4294967296 = _
  rw [Nat.shiftLeft_eq]; omega
theorem at16_sm (x : UInt8) : Sm (at16 x) := by
  have := x.toNat_lt
  unfold Sm
  rw [at16_toNat]; omega
theorem mul_xor (a b k m : Nat) (hm : m = 2 ^ k) : (a ^^^ b) * m = a * m ^^^ b * m := by
  subst hm
  have := Nat.shiftLeft_xor_distrib (a := a) (b := b) (i := k)
  rw [Nat.shiftLeft_eq, Nat.shiftLeft_eq, Nat.shiftLeft_eq] at this
  exact this
theorem at16_xor (x y : UInt8) : at16 (x ^^^ y) = at16 x ^^^ at16 y := by
  apply UInt32.toNat_inj.1
  rw [UInt32.toNat_xor, at16_toNat, at16_toNat, at16_toNat, UInt8.toNat_xor]
  exact mul_xor x.toNat y.toNat 16 65536 (by decide)
theorem at16_inj {x y : UInt8} (h : at16 x = at16 y) : x = y := by
  have := congrArg UInt32.toNat h
  rw [at16_toNat, at16_toNat] at this
  apply UInt8.toNat_inj.1; omega

theorem crcByte_eq (s : UInt32) (x : UInt8) : crcByte s x = crcBits 8 (s ^^^ at16 x) := rfl
theorem crcByte_sm {s : UInt32} (h : Sm s) (x : UInt8) : Sm (crcByte s x) := crcBits_sm 8 (xor_sm h (at16_sm x))
theorem crcFrom_sm {s : UInt32} (h : Sm s) (l : List UInt8) : Sm (crcFrom s l) := by
  induction l generalizing s with
  | nil => exact h
  | cons x l ih => exact ih (crcByte_sm h x)
theorem init_sm : Sm 11994318 := by decide
theorem crc_sm (l : List UInt8) : Sm (crc l) := crcFrom_sm init_sm l
theorem crcFrom_append (s : UInt32) (l m : List UInt8) : crcFrom s (l ++ m) = crcFrom (crcFrom s l) m := List.foldl_append ..

theorem crcByte_xor {s t : UInt32} (hs : Sm s) (ht : Sm t) (x y : UInt8) : crcByte (s ^^^ t) (x ^^^ y) = crcByte s x ^^^ crcByte t y := by
  rw [crcByte_eq, crcByte_eq, crcByte_eq, at16_xor, ← crcBits_xor 8 (xor_sm hs (at16_sm x)) (xor_sm ht (at16_sm y))]
  refine congrArg (crcBits 8) ?_
  rw [UInt32.xor_assoc, ← UInt32.xor_assoc t, UInt32.xor_comm t, UInt32.xor_assoc, ← UInt32.xor_assoc s]
/-- The sum of what is put together byte by byte. -/
theorem crcFrom_xor : ∀ {l m : List UInt8} {s t : UInt32}, Sm s → Sm t → l.length = m.length → crcFrom (s ^^^ t) (List.zipWith (· ^^^ ·) l m) = crcFrom s l ^^^ crcFrom t m := by
  intro l
  induction l with
  | nil => intro m s t _ _ h; cases m with | nil => rfl | cons _ _ => simp at h
  | cons x l ih =>
    intro m s t hs ht h
    cases m with
    | nil => simp at h
    | cons y m =>
      simp only [List.length_cons, Nat.add_right_cancel_iff] at h
      show crcFrom (crcByte (s ^^^ t) (x ^^^ y)) (List.zipWith _ l m) = _
      rw [crcByte_xor hs ht]
      exact ih (crcByte_sm hs x) (crcByte_sm ht y) h
theorem crcByte_inj {s t : UInt32} (hs : Sm s) (ht : Sm t) (x : UInt8) (h : crcByte s x = crcByte t x) : s = t := by
  have := crcBits_inj 8 (xor_sm hs (at16_sm x)) (xor_sm ht (at16_sm x)) h
  have := congrArg (· ^^^ at16 x) this
  simpa [UInt32.xor_assoc] using this
theorem crcFrom_inj {l : List UInt8} : ∀ {s t : UInt32}, Sm s → Sm t → crcFrom s l = crcFrom t l → s = t := by
  induction l with
  | nil => intro s t _ _ h; exact h
  | cons x l ih => intro s t hs ht h; exact crcByte_inj hs ht x (ih (crcByte_sm hs x) (crcByte_sm ht x) h)

/-- Small words are moved, and nothing more. -/
theorem crcBits_small : ∀ (n : Nat) (s : UInt32), s.toNat * 2 ^ n < 16777216 → (crcBits n s).toNat = s.toNat * 2 ^ n := by
  intro n
  induction n with
  | zero => intro s _; simp [crcBits]
  | succ n ih =>
    intro s h
    rw [Nat.pow_succ] at h
    have hp : 1 ≤ 2 ^ n := Nat.one_le_two_pow
    have h1 : s.toNat * 2 < 16777216 := Nat.lt_of_le_of_lt (by rw [← Nat.mul_assoc, Nat.mul_right_comm]; exact Nat.le_mul_of_pos_right _ hp) h
    have hb : (crcBit s).toNat = 2 * s.toNat := by rw [crcBit_eq (by unfold Sm; omega), if_neg (by omega)]
    show (crcBits n (crcBit s)).toNat = _
    rw [ih _ (by rw [hb, Nat.mul_comm 2, Nat.mul_assoc, Nat.mul_comm 2]; exact h), hb, Nat.pow_succ, Nat.mul_comm 2, Nat.mul_assoc, Nat.mul_comm 2]

theorem crcBits_add (n m : Nat) (s : UInt32) : crcBits (n + m) s = crcBits m (crcBits n s) := by
  induction n generalizing s with
  | zero => simp [crcBits]
  | succ n ih => rw [Nat.succ_add]; exact ih _

def wd (n : Nat) : UInt32 := UInt32.ofNat n
theorem wd_toNat {n : Nat} (h : n < 4294967296) : (wd n).toNat = n := by
  unfold wd; rw [UInt32.toNat_ofNat']; omega

/-- Three bytes that lead to nothing are none. -/
theorem three_zero {d0 d1 d2 : UInt8} (h : crcFrom 0 [d0, d1, d2] = 0) : d0 = 0 ∧ d1 = 0 ∧ d2 = 0 := by
  have g0 := d0.toNat_lt; have g1 := d1.toNat_lt; have g2 := d2.toNat_lt
  have h : crcBits 8 (crcByte (crcByte 0 d0) d1 ^^^ at16 d2) = 0 := h
  have z : Sm 0 := by decide
  have e1 := xor_eq_zero (crcBits_inj0 8 (xor_sm (crcByte_sm (crcByte_sm z d0) d1) (at16_sm d2)) h)
  -- e1 : crcByte (crcByte 0 d0) d1 = at16 d2
  have s1 : Sm (wd (d2.toNat * 256)) := by unfold Sm; rw [wd_toNat (by omega)]; omega
  have s2 : Sm (wd (d1.toNat * 256)) := by unfold Sm; rw [wd_toNat (by omega)]; omega
  have s3 : Sm (wd d2.toNat) := by unfold Sm; rw [wd_toNat (by omega)]; omega
  have e2 : crcBits 8 (wd (d2.toNat * 256)) = at16 d2 := by
    apply UInt32.toNat_inj.1
    rw [crcBits_small 8 _ (by rw [wd_toNat (by omega)]; omega), wd_toNat (by omega), at16_toNat]; omega
  have e3 : crcBits 8 (wd (d1.toNat * 256)) = at16 d1 := by
    apply UInt32.toNat_inj.1
    rw [crcBits_small 8 _ (by rw [wd_toNat (by omega)]; omega), wd_toNat (by omega), at16_toNat]; omega
  have e4 : crcBits 8 (wd d2.toNat) = wd (d2.toNat * 256) := by
    apply UInt32.toNat_inj.1
    rw [crcBits_small 8 _ (by rw [wd_toNat (by omega)]; omega), wd_toNat (by omega), wd_toNat (by omega)]
  have e5 : crcByte 0 d0 ^^^ at16 d1 = wd (d2.toNat * 256) := crcBits_inj 8 (xor_sm (crcByte_sm z d0) (at16_sm d1)) s1 (by rw [e2]; exact e1)
  have e6 : crcByte 0 d0 = crcBits 8 (wd (d1.toNat * 256) ^^^ wd d2.toNat) := by
    rw [crcBits_xor 8 s2 s3, e3, e4, ← e5, UInt32.xor_comm (at16 d1), UInt32.xor_assoc, UInt32.xor_self, UInt32.xor_zero]
  have e7 : at16 d0 = wd (d1.toNat * 256) ^^^ wd d2.toNat := by
    have := crcBits_inj 8 (xor_sm z (at16_sm d0)) (xor_sm s2 s3) e6
    simpa using this
  have e8 := congrArg UInt32.toNat e7
  rw [at16_toNat, UInt32.toNat_xor, wd_toNat (by omega), wd_toNat (by omega)] at e8
  have lt : d1.toNat * 256 ^^^ d2.toNat < 2 ^ 16 := Nat.xor_lt_two_pow (by omega) (by omega)
  have h0 : d0.toNat = 0 := by omega
  have hx : d1.toNat * 256 ^^^ d2.toNat = 0 := by omega
  have heq : d1.toNat * 256 = d2.toNat := by
    have := congrArg (· ^^^ d2.toNat) hx
    simpa [Nat.xor_assoc] using this
  refine ⟨UInt8.toNat_inj.1 h0, UInt8.toNat_inj.1 ?_, UInt8.toNat_inj.1 ?_⟩
  · show d1.toNat = 0; omega
  · show d2.toNat = 0; omega

/-- Where three bytes side by side are turned, the sum is another one. -/
theorem crc_turn {p q : List UInt8} {x0 x1 x2 b0 b1 b2 : UInt8} (h : crc (p ++ [x0 ^^^ b0, x1 ^^^ b1, x2 ^^^ b2] ++ q) = crc (p ++ [x0, x1, x2] ++ q)) : b0 = 0 ∧ b1 = 0 ∧ b2 = 0 := by
  unfold crc at h
  rw [crcFrom_append, crcFrom_append, crcFrom_append, crcFrom_append] at h
  have hs := crcFrom_sm init_sm p
  have e := crcFrom_inj (crcFrom_sm hs _) (crcFrom_sm hs _) h
  have z : Sm 0 := by decide
  have l := crcFrom_xor (l := [x0, x1, x2]) (m := [b0, b1, b2]) (s := crcFrom 11994318 p) (t := 0) hs z rfl
  rw [UInt32.xor_zero] at l
  simp only [List.zipWith_cons_cons, List.zipWith_nil_left] at l
  rw [l] at e
  have : crcFrom 0 [b0, b1, b2] = 0 := by
    have := congrArg (crcFrom (crcFrom 11994318 p) [x0, x1, x2] ^^^ ·) e
    simpa [← UInt32.xor_assoc] using this
  exact three_zero this

/- ## A sum's bytes -/
def bytesOf (s : UInt32) : List UInt8 := [(s >>> 16).toUInt8, (s >>> 8).toUInt8, s.toUInt8]
theorem b0_toNat (s : UInt32) : (s >>> 16).toUInt8.toNat = s.toNat / 65536 % 256 := by
  rw [UInt32.toNat_toUInt8, UInt32.toNat_shiftRight]
  show s.toNat >>> 16 % 256 = _
  rw [Nat.shiftRight_eq_div_pow]
theorem b1_toNat (s : UInt32) : (s >>> 8).toUInt8.toNat = s.toNat / 256 % 256 := by
  rw [UInt32.toNat_toUInt8, UInt32.toNat_shiftRight]
  show s.toNat >>> 8 % 256 = _
  rw [Nat.shiftRight_eq_div_pow]
theorem b2_toNat (s : UInt32) : s.toUInt8.toNat = s.toNat % 256 := UInt32.toNat_toUInt8 s

theorem clear_top (a r : Nat) (h : r < 65536) : (65536 * a + r) ^^^ 65536 * a = r := by
  apply Nat.eq_of_testBit_eq
  intro i
  rw [Nat.testBit_xor, show 65536 = 2 ^ 16 from rfl, Nat.testBit_two_pow_mul_add a h, Nat.testBit_two_pow_mul]
  by_cases hi : i < 16
  · rw [if_pos hi, show decide (i ≥ 16) = false from by simp; omega]; simp
  · rw [if_neg hi, show decide (i ≥ 16) = true from by simp; omega, Bool.true_and, Bool.xor_self]
    symm
    exact Nat.testBit_lt_two_pow (Nat.lt_of_lt_of_le h (Nat.pow_le_pow_right (n := 2) (i := 16) (by decide) (by omega)))

theorem crcBits_zero (n : Nat) : crcBits n 0 = 0 := by
  induction n with
  | zero => rfl
  | succ n ih => exact ih

/-- Bytes and their sum's have the sum nought. -/
theorem crc_self (l : List UInt8) : crc (l ++ bytesOf (crc l)) = 0 := by
  have hc := crc_sm l
  unfold crc at *
  rw [crcFrom_append]
  generalize crcFrom 11994318 l = c at *
  unfold Sm at hc
  show crcBits 8 (crcBits 8 (crcBits 8 (c ^^^ at16 _) ^^^ at16 _) ^^^ at16 _) = 0
  have e1 : c ^^^ at16 (c >>> 16).toUInt8 = wd (c.toNat % 65536) := by
    apply UInt32.toNat_inj.1
    rw [UInt32.toNat_xor, at16_toNat, b0_toNat, wd_toNat (by omega), Nat.mod_eq_of_lt (by omega : c.toNat / 65536 < 256), Nat.mul_comm]
    have := clear_top (c.toNat / 65536) (c.toNat % 65536) (by omega)
    rwa [Nat.div_add_mod] at this
  have e2 : crcBits 8 (wd (c.toNat % 65536)) = wd (c.toNat % 65536 * 256) := by
    apply UInt32.toNat_inj.1
    rw [crcBits_small 8 _ (by rw [wd_toNat (by omega)]; omega), wd_toNat (by omega), wd_toNat (by omega)]
  have e3 : wd (c.toNat % 65536 * 256) ^^^ at16 (c >>> 8).toUInt8 = wd (c.toNat % 256 * 256) := by
    apply UInt32.toNat_inj.1
    rw [UInt32.toNat_xor, at16_toNat, b1_toNat, wd_toNat (by omega), wd_toNat (by omega), Nat.mul_comm _ 65536]
    have := clear_top (c.toNat / 256 % 256) (c.toNat % 256 * 256) (by omega)
    rwa [show 65536 * (c.toNat / 256 % 256) + c.toNat % 256 * 256 = c.toNat % 65536 * 256 by omega] at this
  have e4 : crcBits 8 (wd (c.toNat % 256 * 256)) = wd (c.toNat % 256 * 65536) := by
    apply UInt32.toNat_inj.1
    rw [crcBits_small 8 _ (by rw [wd_toNat (by omega)]; omega), wd_toNat (by omega), wd_toNat (by omega)]
    omega
  have e5 : wd (c.toNat % 256 * 65536) ^^^ at16 c.toUInt8 = 0 := by
    apply UInt32.toNat_inj.1
    rw [UInt32.toNat_xor, at16_toNat, b2_toNat, wd_toNat (by omega), Nat.xor_self]
    rfl
  rw [e1, e2, e3, e4, e5, crcBits_zero]

theorem bytesOf_inj {s t : UInt32} : bytesOf s = bytesOf t ↔ s.toNat % 16777216 = t.toNat % 16777216 := by
  constructor
  · intro h
    simp only [bytesOf, List.cons.injEq, and_true] at h
    have h0 := congrArg UInt8.toNat h.1
    have h1 := congrArg UInt8.toNat h.2.1
    have h2 := congrArg UInt8.toNat h.2.2
    rw [b0_toNat, b0_toNat] at h0
    rw [b1_toNat, b1_toNat] at h1
    rw [b2_toNat, b2_toNat] at h2
    omega
  · intro h
    simp only [bytesOf, List.cons.injEq, and_true]
    refine ⟨UInt8.toNat_inj.1 ?_, UInt8.toNat_inj.1 ?_, UInt8.toNat_inj.1 ?_⟩
    · rw [b0_toNat, b0_toNat]; omega
    · rw [b1_toNat, b1_toNat]; omega
    · rw [b2_toNat, b2_toNat]; omega

def rightB (l : List UInt8) : Bool := decide (3 ≤ l.length ∧ l.take (l.length - 3) ++ bytesOf (crc (l.take (l.length - 3))) = l)

theorem right_append (l : List UInt8) (s : UInt32) : rightB (l ++ bytesOf s) = decide (s % 16777216 = crc l) := by
  have hl : (l ++ bytesOf s).length - 3 = l.length := by simp [bytesOf]
  unfold rightB
  rw [hl, List.take_left]
  have hc := crc_sm l
  unfold Sm at hc
  have : (s % 16777216 = crc l) ↔ bytesOf (crc l) = bytesOf s := by
    rw [bytesOf_inj, ← UInt32.toNat_inj, UInt32.toNat_mod]
    show s.toNat % 16777216 = _ ↔ _
    omega
  simp [this, bytesOf]

/-- Three texts of one length. -/
def xor3 (a b c : List UInt8) : List UInt8 := List.zipWith (· ^^^ ·) (List.zipWith (· ^^^ ·) a b) c
theorem crc_three {a b c : List UInt8} (h1 : a.length = b.length) (h2 : a.length = c.length) : crc (xor3 a b c) = crc a ^^^ crc b ^^^ crc c := by
  have z : Sm 0 := by decide
  have e1 := crcFrom_xor (l := a) (m := b) init_sm z h1
  have e2 := crcFrom_xor (l := List.zipWith (· ^^^ ·) a b) (m := c) (xor_sm init_sm z) z (by simp [h1]; omega)
  have e3 : ∀ l : List UInt8, crcFrom 11994318 l = crcFrom 0 l ^^^ crcFrom 11994318 (List.replicate l.length 0) := by
    intro l
    have := crcFrom_xor (l := l) (m := List.replicate l.length 0) z init_sm (by simp)
    rw [← this, UInt32.zero_xor]
    congr 1
    apply List.ext_getElem
    · simp
    · intro i h1 h2; simp
  unfold crc xor3
  have e4 : (11994318 : UInt32) ^^^ 0 ^^^ 0 = 11994318 := by decide
  rw [e4] at e2
  have e5 : (11994318 : UInt32) ^^^ 0 = 11994318 := by decide
  rw [e5] at e1 e2
  rw [e2, e1, e3 b, e3 c, ← h1, ← h2]
  generalize crcFrom 11994318 (List.replicate a.length 0) = u
  generalize crcFrom 0 b = v
  generalize crcFrom 0 c = w
  rw [UInt32.xor_assoc, UInt32.xor_assoc, UInt32.xor_assoc]
  congr 1
  rw [UInt32.xor_comm w u, ← UInt32.xor_assoc u u, UInt32.xor_self, UInt32.zero_xor]

theorem crcBit_nat {u : UInt32} (h : Sm u) : (crcBit u).toNat = (u.toNat % 8388608 * 2) ^^^ (if 8388608 ≤ u.toNat then 8801531 else 0) := by
  unfold Sm at h
  rw [crcBit_eq h]
  by_cases ht : 8388608 ≤ u.toNat
  · rw [if_pos ht, if_pos ht]
    have e : 2 * u.toNat = 2 ^ 24 * 1 + u.toNat % 8388608 * 2 := by omega
    have e2 : (25578747 : Nat) = 2 ^ 24 * 1 + 8801531 := rfl
    apply Nat.eq_of_testBit_eq
    intro i
    rw [Nat.testBit_xor, Nat.testBit_xor, e, e2, Nat.testBit_two_pow_mul_add _ (by omega), Nat.testBit_two_pow_mul_add _ (by decide)]
    by_cases hi : i < 24
    · rw [if_pos hi, if_pos hi]
    · rw [if_neg hi, if_neg hi, Bool.xor_self]
      have hp := Nat.pow_le_pow_right (n := 2) (i := 24) (j := i) (by decide) (by omega)
      rw [Nat.testBit_lt_two_pow (Nat.lt_of_lt_of_le (by omega) hp), Nat.testBit_lt_two_pow (Nat.lt_of_lt_of_le (by decide) hp)]
      rfl
  · rw [if_neg ht, if_neg ht, Nat.xor_zero]
    omega

/-- The document's step: bit by bit. -/
def refBit (s x : Nat) : Nat := if s / 8388608 ≠ x / 128 % 2 then (s % 8388608 * 2) ^^^ 8801531 else s % 8388608 * 2
theorem refBit_lt {s x : Nat} (h : s < 16777216) : refBit s x < 16777216 := by
  unfold refBit
  split
  · exact Nat.xor_lt_two_pow (n := 24) (by omega) (by decide)
  · omega

theorem ref_step {s x : Nat} {u : UInt32} (hs : s < 16777216) (hu : u.toNat = s ^^^ (x % 256 * 65536)) : Sm u ∧ (crcBit u).toNat = refBit s x ^^^ (x * 2 % 256 * 65536) := by
  have hx : x % 256 * 65536 < 2 ^ 24 := by omega
  have hsm : Sm u := by unfold Sm; rw [hu]; exact Nat.xor_lt_two_pow (n := 24) hs hx
  refine ⟨hsm, ?_⟩
  rw [crcBit_nat hsm, hu]
  have hm : (s ^^^ (x % 256 * 65536)) % 8388608 = s % 8388608 ^^^ (x % 128 * 65536) := by
    rw [show 8388608 = 2 ^ 23 from rfl, Nat.xor_mod_two_pow]
    congr 1
    omega
  have ht : (8388608 ≤ s ^^^ (x % 256 * 65536)) ↔ s / 8388608 ≠ x / 128 % 2 := by
    rw [top_xor hs (by omega)]
    omega
  have hd : (s % 8388608 ^^^ (x % 128 * 65536)) * 2 = s % 8388608 * 2 ^^^ (x * 2 % 256 * 65536) := by
    rw [mul_xor _ _ 1 2 rfl]
    congr 1
    omega
  rw [hm, hd]
  unfold refBit
  by_cases hne : s / 8388608 ≠ x / 128 % 2
  · rw [if_pos (ht.2 hne), if_pos hne, Nat.xor_assoc, Nat.xor_assoc, Nat.xor_comm 8801531]
  · rw [if_neg (fun h => hne (ht.1 h)), if_neg hne, Nat.xor_zero]

def refBits : Nat → Nat → Nat → Nat
  | 0, s, _ => s
  | d + 1, s, x => refBits d (refBit s x) (x * 2)
theorem ref_bits : ∀ (d s x : Nat) (u : UInt32), s < 16777216 → u.toNat = s ^^^ (x % 256 * 65536) → (crcBits d u).toNat = refBits d s x ^^^ (x * 2 ^ d % 256 * 65536) ∧ refBits d s x < 16777216 := by
  intro d
  induction d with
  | zero => intro s x u hs hu; simp [crcBits, refBits, hu, hs]
  | succ d ih =>
    intro s x u hs hu
    obtain ⟨_, h2⟩ := ref_step hs hu
    have := ih (refBit s x) (x * 2) (crcBit u) (refBit_lt hs) h2
    rw [show x * 2 * 2 ^ d = x * 2 ^ (d + 1) by rw [Nat.pow_succ, Nat.mul_assoc, Nat.mul_comm 2]] at this
    exact this
/-- A byte, in the document's way. -/
theorem ref_byte {s : UInt32} (hs : Sm s) (x : UInt8) : refBits 8 s.toNat x.toNat = (crcByte s x).toNat := by
  have hx := x.toNat_lt
  have := (ref_bits 8 s.toNat x.toNat (s ^^^ at16 x) hs (by rw [UInt32.toNat_xor, at16_toNat, Nat.mod_eq_of_lt (by omega)])).1
  rw [show x.toNat * 2 ^ 8 % 256 * 65536 = 0 by omega, Nat.xor_zero] at this
  exact this.symm

end Go.Proofs.Ytfkpmldmmdkgoaa
