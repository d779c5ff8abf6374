/-
  Numbers as bytes, the highest first. No statement of a seat is proved here.
-/
import Derived.Test.YtjampffmlnplcaaAbsAuto4
set_option linter.unusedVariables false
set_option linter.unusedSimpArgs false
namespace Go.Ab

/-- The lowest bytes of a number, the highest first. -/
def be : Nat → Int → List UInt8
  | 0, _ => []
  | k + 1, n => be k (n / 256) ++ [u8 n]
def valF (a : Int) (l : List UInt8) : Int := l.foldl (fun a b => 256 * a + (b.toNat : Int)) a
def val (l : List UInt8) : Int := valF 0 l

@[simp] theorem be_len (k : Nat) : ∀ n, (be k n).length = k := by
  induction k with
  | zero => intro n; rfl
  | succ k ih => intro n; simp [be, ih]
@[simp] theorem be_zero (n : Int) : be 0 n = [] := id rfl
theorem valF_nil (a : Int) : valF a [] = a := rfl
theorem valF_cons (a : Int) (b : UInt8) (l : List UInt8) : valF a (b :: l) = valF (256 * a + b.toNat) l := rfl
theorem valF_snoc (a : Int) (l : List UInt8) (b : UInt8) : valF a (l ++ [b]) = 256 * valF a l + b.toNat := by
  unfold valF; rw [List.foldl_append]; rfl
theorem val_snoc (l : List UInt8) (b : UInt8) : val (l ++ [b]) = 256 * val l + b.toNat := valF_snoc 0 l b
@[simp] theorem val_nil : val [] = 0 := id rfl
theorem u8_int (n : Int) : ((u8 n).toNat : Int) = n % 256 := by rw [u8_toNat']; omega
theorem valF_be (k : Nat) : ∀ n : Int, 0 ≤ n → n < 256 ^ k → val (be k n) = n := by
  induction k with
  | zero => intro n h0 h1; simp only [Int.pow_zero] at h1; have : n = 0 := by omega
            subst this; rfl
  | succ k ih =>
    intro n h0 h1
    rw [be, val_snoc, ih (n / 256) (by omega) (by rw [Int.pow_succ] at h1; omega), u8_int]; omega
theorem val_be {k : Nat} {n : Int} (h0 : 0 ≤ n) (h1 : n < 256 ^ k) : val (be k n) = n := valF_be k n h0 h1
theorem val_bound (l : List UInt8) : 0 ≤ val l ∧ val l < 256 ^ l.length := by
  induction h : l.length generalizing l with
  | zero => have : l = [] := List.length_eq_zero_iff.1 h
            subst this; simp
  | succ k ih =>
    have hne : l ≠ [] := by rintro rfl; simp at h
    rw [← List.dropLast_concat_getLast hne]
    generalize l.getLast hne = b
    have hd : l.dropLast.length = k := by simp [h]
    have h2 := ih l.dropLast hd
    rw [val_snoc, Int.pow_succ]
    have := b.toNat_lt
    omega
theorem be_val (l : List UInt8) : be l.length (val l) = l := by
  induction h : l.length generalizing l with
  | zero => have : l = [] := List.length_eq_zero_iff.1 h
            subst this; rfl
  | succ k ih =>
    have hne : l ≠ [] := by rintro rfl; simp at h
    have hd : l.dropLast.length = k := by simp [h]
    have h3 := List.dropLast_concat_getLast hne
    generalize l.getLast hne = b at h3
    have h2 := ih l.dropLast hd
    rw [← h3, val_snoc, be]
    have hb := b.toNat_lt
    have e1 : (256 * val l.dropLast + (b.toNat : Int)) / 256 = val l.dropLast := by omega
    have e2 : u8 (256 * val l.dropLast + (b.toNat : Int)) = b := by
      apply UInt8.toNat_inj.1; rw [u8_toNat']; omega
    rw [e1, e2, h2]
theorem be_val' {l : List UInt8} {k : Nat} (h : l.length = k) : be k (val l) = l := by subst h; exact be_val l
theorem be_inj {k : Nat} {m n : Int} (h0 : 0 ≤ m) (h1 : m < 256 ^ k) (h2 : 0 ≤ n) (h3 : n < 256 ^ k) (h : be k m = be k n) : m = n := by
  rw [← val_be h0 h1, ← val_be h2 h3, h]
/-- From the highest byte on. -/
theorem be_cons (k : Nat) : ∀ n : Int, be (k + 1) n = u8 (n / 256 ^ k) :: be k n := by
  induction k with
  | zero => intro n; simp [be]
  | succ k ih =>
    intro n
    rw [be, ih, be]
    rw [Int.ediv_ediv_of_nonneg (by omega), Int.pow_succ, Int.mul_comm (256 ^ k)]
    simp
theorem valF_mono (a : Int) (h : 0 ≤ a) (l : List UInt8) : a ≤ valF a l := by
  induction l generalizing a with
  | nil => exact Int.le_refl _
  | cons b l ih => rw [valF_cons]; have := ih (256 * a + b.toNat) (by omega); omega
theorem valF_bound (l : List UInt8) : ∀ (a : Int), 0 ≤ a → ∀ k : Nat, a < 256 ^ k → valF a l < 256 ^ (k + l.length) := by
  induction l with
  | nil => intro a h k hk; simpa [valF_nil] using hk
  | cons b l ih =>
    intro a h k hk
    have hb := b.toNat_lt
    have := ih (256 * a + b.toNat) (by omega) (k + 1) (by rw [Int.pow_succ]; omega)
    rw [valF_cons, List.length_cons]
    rwa [show k + (l.length + 1) = k + 1 + l.length by omega]

/- ## Bits -/
theorem fdiv_pow (n : Int) (i : Nat) : n.fdiv (2 ^ (8 * i)) = n / 256 ^ i := by
  rw [Int.fdiv_eq_ediv_of_nonneg _ (Int.pow_nonneg (by decide))]
  congr 1
  rw [show (256 : Int) = 2 ^ 8 from rfl, ← Int.pow_mul]
/-- The bits of either. -/
def orI (a b : Int) : Int := IntKind.i64.wrap ((BitVec.ofInt 64 a ||| BitVec.ofInt 64 b).toNat : Int)
@[simp] theorem qBin_or (P : Program) (t : TypeId) (xo yo : Operand) (a b : Int) : qBin P .or t xo yo (some (.v (.int .i64 a))) (some (.v (.int .i64 b))) = some (.v (.int .i64 (orI a b)), []) := by
  have h : prBin P .or t xo yo (.int .i64 a) (.int .i64 b) = some (.int .i64 (orI a b)) := rfl
  simp only [qBin, isSl, nilSlice, toValue, h, Bool.false_and, Bool.or_self, Bool.false_eq_true, if_false, Option.bind_some, ofScalar, scalar, if_true, qVal, Option.map_some]
theorem orI_low {a b : Int} {k : Nat} (h0 : 0 ≤ a) (h1 : a * 2 ^ k < 9223372036854775808) (h2 : 0 ≤ b) (h3 : b < 2 ^ k) (hk : k < 63) : orI (a * 2 ^ k) b = a * 2 ^ k + b := by
  obtain ⟨m, rfl⟩ := Int.eq_ofNat_of_zero_le h0
  obtain ⟨n, rfl⟩ := Int.eq_ofNat_of_zero_le h2
  have h3' : n < 2 ^ k := by exact_mod_cast h3
  have h1' : m * 2 ^ k < 2 ^ 63 := by
    have e : ((m * 2 ^ k : Nat) : Int) < 9223372036854775808 := by rw [Int.natCast_mul, Int.natCast_pow]; exact h1
    omega
  have e2 : n < 2 ^ 63 := Nat.lt_trans h3' (Nat.pow_lt_pow_right (by decide) hk)
  have e : (BitVec.ofInt 64 ((m : Int) * 2 ^ k) ||| BitVec.ofInt 64 (n : Int)).toNat = m * 2 ^ k + n := by
    rw [BitVec.toNat_or]
    rw [show ((m : Int) * 2 ^ k) = ((m * 2 ^ k : Nat) : Int) by rw [Int.natCast_mul, Int.natCast_pow]; rfl]
    rw [BitVec.ofInt_natCast, BitVec.ofInt_natCast, BitVec.toNat_ofNat, BitVec.toNat_ofNat, Nat.mod_eq_of_lt (by omega), Nat.mod_eq_of_lt (by omega)]
    rw [Nat.mul_comm, Nat.two_pow_add_eq_or_of_lt h3']
  unfold orI
  rw [e]
  have h4 : m * 2 ^ k + n < 2 ^ 63 := by
    have hd : m * 2 ^ k + n < (m + 1) * 2 ^ k := by rw [Nat.succ_mul]; omega
    have hm : m + 1 ≤ 2 ^ (63 - k) := by
      have e3 : 2 ^ 63 = 2 ^ (63 - k) * 2 ^ k := by rw [← Nat.pow_add]; congr 1; omega
      rw [e3] at h1'
      exact Nat.lt_of_mul_lt_mul_right h1'
    calc m * 2 ^ k + n < (m + 1) * 2 ^ k := hd
      _ ≤ 2 ^ (63 - k) * 2 ^ k := Nat.mul_le_mul_right _ hm
      _ = 2 ^ 63 := by rw [← Nat.pow_add]; congr 1; omega
  rw [IntWalk.i64_in _ (by omega)]
  push_cast
  rfl
theorem or_byte {n : Int} (h0 : 0 ≤ n) (h1 : n < 36028797018963968) (b : UInt8) : orI (n * 256) (b.toNat : Int) = 256 * n + b.toNat := by
  have := b.toNat_lt
  have e := orI_low (a := n) (b := b.toNat) (k := 8) h0 (by omega) (by omega) (by omega) (by omega)
  rw [show (2 : Int) ^ 8 = 256 from rfl] at e
  rw [e]; omega

@[simp] theorem be_nil_iff (k : Nat) (n : Int) : be k n = [] ↔ k = 0 := by
  rw [← List.length_eq_zero_iff, be_len]
/- ## Some widths -/
theorem tdiv_256 {n : Int} (h : 0 ≤ n) : n.tdiv 256 = n / 256 := Int.tdiv_eq_ediv_of_nonneg h
theorem tmod_256 {n : Int} (h : 0 ≤ n) : n.tmod 256 = n % 256 := Int.tmod_eq_emod_of_nonneg h
theorem pow256_le {k : Nat} (m : Nat) (h : k ≤ m) : (256 : Int) ^ k ≤ 256 ^ m := by
  have := Nat.pow_le_pow_right (n := 256) (by decide) h
  have e : ((256 ^ k : Nat) : Int) ≤ ((256 ^ m : Nat) : Int) := by exact_mod_cast this
  rwa [Int.natCast_pow, Int.natCast_pow] at e
theorem be_4 (n : Int) : be 4 n = [u8 (n / 16777216), u8 (n / 65536), u8 (n / 256), u8 n] := by
  simp [be_cons]
theorem be_7 (n : Int) : be 7 n = [u8 (n / 281474976710656), u8 (n / 1099511627776), u8 (n / 4294967296), u8 (n / 16777216), u8 (n / 65536), u8 (n / 256), u8 n] := by
  simp [be_cons]
theorem fdiv_lit (n : Int) (k : Nat) : n.fdiv (no_index (OfNat.ofNat k)) = n / OfNat.ofNat k := Int.fdiv_eq_ediv_of_nonneg _ (Int.natCast_nonneg k)
theorem u8_mod (n : Int) : u8 (n % 256) = u8 n := by
  apply UInt8.toNat_inj.1; rw [u8_toNat', u8_toNat']; omega
theorem div256 (n : Int) (k : Nat) : n / OfNat.ofNat k / 256 = n / (OfNat.ofNat k * 256) := Int.ediv_ediv_of_nonneg (Int.natCast_nonneg k)
/-- What a slice of the call's own is seen as. -/
def outI (z : Nat) : List AV → AV
  | [] => aNil
  | es => .isl z es none
theorem outI_ne (z : Nat) {es : List AV} (h : es ≠ []) : outI z es = .isl z es none := by
  cases es with
  | nil => exact (h rfl).elim
  | cons _ _ => rfl
theorem outI_sl (z : Nat) (es : List AV) : Sl z es (outI z es) := by
  cases es with
  | nil => exact .inl ⟨rfl, rfl⟩
  | cons a l => exact .inr ⟨none, rfl, by simp⟩
theorem Own.viewN {z : Nat} {es : List AV} {H : Heap} {x : AV} (h : Own z es H x) (he : es ≠ []) (n : Nat) : Ab.view H.get (n + 1) x = some (.isl z es none) := by
  rcases h with ⟨_, rfl⟩ | ⟨r, rfl, hr⟩
  · exact (he rfl).elim
  · rw [view_full hr rfl]

theorem Sl.islN {z : Nat} {es : List AV} {x : AV} (h : Sl z es x) (he : es ≠ []) : ∃ c, x = .isl z es c ∧ es.length ≤ c.getD es.length := by
  rcases h with ⟨_, rfl⟩ | ⟨c, h, hc⟩
  · exact (he rfl).elim
  · exact ⟨c, h, hc⟩
theorem Sl.mkC {z : Nat} {es : List AV} {c : Option Nat} (h : es.length ≤ c.getD es.length) : Sl z es (.isl z es c) := .inr ⟨c, rfl, h⟩
theorem cap_sub {c : Option Nat} {n a m : Nat} (h : n ≤ c.getD n) (hm : a + m ≤ n) : m ≤ (c.map (· - a)).getD m := by
  cases c with
  | none => exact Nat.le_refl _
  | some c => simp only [Option.getD_some, Option.map_some] at h ⊢; omega


/- ## Strings of bytes, by the simplifier -/
/-- Bytes, as they stand. -/
def unb (es : List AV) : List UInt8 := es.map fun x => (byteOf x).getD 0
def isB (x : AV) : Bool := (byteOf x).isSome
def bsl (x : AV) : Bool := match x with
  | .isl .. | .osl .. => true
  | .v (.slice none 0 0) => true
  | _ => false
@[simp] theorem unb_nil : unb [] = [] := id rfl
@[simp] theorem byteOf_8 (x : UInt8) : byteOf (a8 x) = some x := by
  show some (UInt8.ofNat ((x.toNat : Int)).toNat) = _
  simp
@[simp] theorem unb_cons (x : UInt8) (es : List AV) : unb (a8 x :: es) = x :: unb es := by simp [unb]
@[simp] theorem unb_app (es fs : List AV) : unb (es ++ fs) = unb es ++ unb fs := by simp [unb]
@[simp] theorem unb_map (l : List UInt8) : unb (List.map a8 l) = l := by
  induction l with
  | nil => rfl
  | cons b l ih => simp [ih]
@[simp] theorem unb_by8 (l : List UInt8) : unb (by8 l) = l := unb_map l
@[simp] theorem unb_take (es : List AV) (n : Nat) : unb (es.take n) = (unb es).take n := by simp [unb, List.map_take]
@[simp] theorem unb_drop (es : List AV) (n : Nat) : unb (es.drop n) = (unb es).drop n := by simp [unb, List.map_drop]
@[simp] theorem isB_8 (x : UInt8) : isB (a8 x) = true := by simp [isB]
@[simp] theorem all_isB (l : List UInt8) : (by8 l).all isB = true := by simp [by8]
@[simp] theorem bsl_isl (z : Nat) (es : List AV) (c : Option Nat) : bsl (.isl z es c) = true := id rfl
@[simp] theorem bsl_osl (r : Ref) (o n : Nat) (c : Option Nat) : bsl (.osl r o n c) = true := id rfl
@[simp] theorem bsl_nil : bsl aNil = true := id rfl
theorem Sl.bsl {z : Nat} {es : List AV} {x : AV} (h : Sl z es x) : Ab.bsl x = true := by
  rcases h with ⟨rfl, _⟩ | ⟨c, rfl, _⟩ <;> rfl
theorem Own.bsl {z : Nat} {es : List AV} {H : Heap} {x : AV} (h : Own z es H x) : Ab.bsl x = true := by
  rcases h with ⟨rfl, _⟩ | ⟨c, rfl, _⟩ <;> rfl
theorem unb_mapM {es : List AV} (h : es.all isB = true) : es.mapM byteOf = some (unb es) := by
  induction es with
  | nil => rfl
  | cons x es ih =>
    rw [List.all_cons, Bool.and_eq_true] at h
    obtain ⟨b, hb⟩ := Option.isSome_iff_exists.1 h.1
    rw [mapM_cons_o, ih h.2, hb]
    simp [unb, hb]
@[simp] theorem qConv_strE {P : Program} {src dst : TypeId} (h1 : isByteSlice P src = true) (h2 : isStr P dst = true) (g : Get) (r : Ref) (x : AV) (hx : (elsOf 1 g x).isSome = true) (hb : ((elsOf 1 g x).getD []).all isB = true) (hs : bsl x = true) :
    qConvert P g r src dst (some x) = some (sB (unb ((elsOf 1 g x).getD [])), []) := by
  obtain ⟨es, he⟩ := Option.isSome_iff_exists.1 hx
  rw [he, Option.getD_some] at hb ⊢
  have hm := unb_mapM hb
  have e := elsOf_Els he
  rcases e with ⟨rfl, rfl⟩ | ⟨_, _, e⟩
  · simp only [qConvert, h1, h2, Bool.and_self, if_true]; rfl
  · cases x with
    | v x =>
      cases x with
      | slice a b c => simp [elemsOf] at e
      | _ => simp [Ab.bsl] at hs
    | isl _ _ _ => simp only [qConvert, h1, h2, Bool.and_self, if_true, e, hm, Option.map_some]; rfl
    | osl _ _ _ _ => simp only [qConvert, h1, h2, Bool.and_self, if_true, e, hm, Option.map_some]; rfl
    | _ => simp [Ab.bsl] at hs
attribute [simp] qBin_add_sB
theorem sB_lit (l : List UInt8) : AV.v (.string ⟨l.toArray⟩) = sB l := rfl


def oslB (z : Nat) (b : Option Blk) (q : QRes) : QRes := match b with
  | some b => if z = b.esz then q else none
  | none => none
@[simp] theorem oslB_some (z : Nat) (b : Blk) (q : QRes) : oslB z (some b) q = if z = b.esz then q else none := id rfl
@[simp] theorem qSlice_osl {P : Program} {t : TypeId} (h : elOk P t = true) (g : Get) (r : Ref) (o n : Nat) (c : Option Nat) (lo hi mx : Option Int) :
    qSlice P g t (some (.osl r o n c)) (some lo) (some hi) (some mx) = oslB (elZ P t) (g r) ((bounds n c lo hi mx).map fun p => (.osl r (o + p.1) (p.2.1 - p.1) p.2.2, [])) := by
  unfold elOk at h
  obtain ⟨e, zz, h1, h2, h3, h4, h5, h6, h7, h8⟩ := elT_some h
  have hz : (telem P t).bind (tsize P) = some (elZ P t) := by rw [h1]; exact h2
  unfold qSlice
  dsimp only
  rw [hz]
  cases g r with
  | none => rfl
  | some b => simp [oslB]
@[simp] theorem by8_eq_nil (l : List UInt8) : by8 l = [] ↔ l = [] := by simp [by8]

end Go.Ab
