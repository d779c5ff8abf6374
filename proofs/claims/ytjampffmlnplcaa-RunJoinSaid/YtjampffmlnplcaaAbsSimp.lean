/-
  What the abstract machine's operations yield on data: the rules for the conditions. No statement of a seat is proved here.
-/
import Derived.Test.YtjampffmlnplcaaAbsWp
import Derived.IntWalk
set_option linter.unusedVariables false
set_option linter.unusedSimpArgs false
namespace Go.Ab

/- ## Data -/
abbrev aI (n : Int) : AV := .v (.int .i64 n)
abbrev aB (b : Bool) : AV := .v (.bool b)
def a8 (n : UInt8) : AV := .v (.int .u8 (n.toNat : Int))
def a32 (n : UInt32) : AV := .v (.int .u32 (n.toNat : Int))
abbrev aS (s : ByteArray) : AV := .v (.string s)
abbrev aNil : AV := .v (.slice none 0 0)

/- ## The conditions -/
theorem doQ_of {q : QRes} {K : AV → Prop} {m : Mk K} {v : AV} (hq : q = some (v, [])) (h : K v) : doQ q K m := ⟨v, hq, h⟩
theorem doW_of {w : WRes} {K : AV → Heap → Prop} {m : Mk K} {v : AV} {H : Heap} (hw : w = some (v, H)) (h : K v H) : doW w K m := ⟨v, H, hw, h⟩

@[simp] theorem doQ_some (v : AV) (K : AV → Prop) (m : Mk K) : doQ (some (v, [])) K m ↔ K v :=
  ⟨fun ⟨⟨w, hw, h⟩⟩ => by cases hw; exact h, fun h => ⟨v, rfl, h⟩⟩
@[simp] theorem doQ_if (c : Prop) [Decidable c] (q : QRes) (K : AV → Prop) (m : Mk K) : doQ (if c then q else none) K m ↔ c ∧ doQ q K m := by
  by_cases hc : c
  · simp [hc]
  · simp only [if_neg hc, hc, false_and, iff_false]
    rintro ⟨v, hv, _⟩; cases hv
@[simp] theorem doW_some (v : AV) (H : Heap) (K : AV → Heap → Prop) (m : Mk K) : doW (some (v, H)) K m ↔ K v H :=
  ⟨fun ⟨⟨w, _, hw, h⟩⟩ => by cases hw; exact h, fun h => ⟨v, H, rfl, h⟩⟩
@[simp] theorem doW_if (c : Prop) [Decidable c] (q : WRes) (K : AV → Heap → Prop) (m : Mk K) : doW (if c then q else none) K m ↔ c ∧ doW q K m := by
  by_cases hc : c
  · simp [hc]
  · simp only [if_neg hc, hc, false_and, iff_false]
    rintro ⟨v, _, hv, _⟩; cases hv
theorem brP_iff {x : Option AV} {A B : Prop} {m : Mk (A, B)} : br x A B m ↔ brP x A B := ⟨fun h => h.h, fun h => ⟨h⟩⟩
@[simp] theorem br_true (A B : Prop) (m : Mk (A, B)) : br (some (aB true)) A B m ↔ A := brP_iff
@[simp] theorem br_false (A B : Prop) (m : Mk (A, B)) : br (some (aB false)) A B m ↔ B := brP_iff
theorem br_of {b : Bool} {A B : Prop} {m : Mk (A, B)} (h1 : b = true → A) (h2 : b = false → B) : br (some (aB b)) A B m := by
  cases b
  · exact ⟨h2 rfl⟩
  · exact ⟨h1 rfl⟩
theorem br_dec {p : Prop} [Decidable p] {A B : Prop} {m : Mk (A, B)} (h1 : p → A) (h2 : ¬ p → B) : br (some (aB (decide p))) A B m :=
  br_of (fun h => h1 (of_decide_eq_true h)) (fun h => h2 (of_decide_eq_false h))

@[simp] theorem gQ_tt (q : QRes) (K : AV → Prop) (m : Mk (q, K)) : gQ (aB true) true q K m ↔ doQ q K := ⟨fun h => h.h, fun h => ⟨h⟩⟩
@[simp] theorem gQ_ff (q : QRes) (K : AV → Prop) (m : Mk (q, K)) : gQ (aB false) false q K m ↔ doQ q K := ⟨fun h => h.h, fun h => ⟨h⟩⟩
@[simp] theorem gQ_tf (q : QRes) (K : AV → Prop) (m : Mk (q, K)) : gQ (aB true) false q K m ↔ K AV.undef := ⟨fun h => h.h, fun h => ⟨h⟩⟩
@[simp] theorem gQ_ft (q : QRes) (K : AV → Prop) (m : Mk (q, K)) : gQ (aB false) true q K m ↔ K AV.undef := ⟨fun h => h.h, fun h => ⟨h⟩⟩
@[simp] theorem gQ_u (w : Bool) (q : QRes) (K : AV → Prop) (m : Mk (q, K)) : gQ AV.undef w q K m ↔ K AV.undef := ⟨fun h => h.h, fun h => ⟨h⟩⟩
@[simp] theorem gW_tt (H : Heap) (q : WRes) (K : AV → Heap → Prop) (m : Mk (q, K)) : gW (aB true) true H q K m ↔ doW q K := ⟨fun h => h.h, fun h => ⟨h⟩⟩
@[simp] theorem gW_ff (H : Heap) (q : WRes) (K : AV → Heap → Prop) (m : Mk (q, K)) : gW (aB false) false H q K m ↔ doW q K := ⟨fun h => h.h, fun h => ⟨h⟩⟩
@[simp] theorem gW_tf (H : Heap) (q : WRes) (K : AV → Heap → Prop) (m : Mk (q, K)) : gW (aB true) false H q K m ↔ K AV.undef H := ⟨fun h => h.h, fun h => ⟨h⟩⟩
@[simp] theorem gW_ft (H : Heap) (q : WRes) (K : AV → Heap → Prop) (m : Mk (q, K)) : gW (aB false) true H q K m ↔ K AV.undef H := ⟨fun h => h.h, fun h => ⟨h⟩⟩
@[simp] theorem gW_u (w : Bool) (H : Heap) (q : WRes) (K : AV → Heap → Prop) (m : Mk (q, K)) : gW AV.undef w H q K m ↔ K AV.undef H := ⟨fun h => h.h, fun h => ⟨h⟩⟩
theorem undef_eq : AV.undef = .v Go.undef := rfl

@[simp] theorem qVal_some (v : AV) : qVal (some v) = some (v, []) := id rfl
@[simp] theorem nRes_some (H : Heap) (r : Ref) (v : AV) (bs : List Blk) : nRes H r (some (v, bs)) = some (v, keyed r 0 bs H) := id rfl
@[simp] theorem nRes_none (H : Heap) (r : Ref) : nRes H r none = none := id rfl
@[simp] theorem nRes_if (H : Heap) (r : Ref) (c : Prop) [Decidable c] (q : QRes) : nRes H r (if c then q else none) = if c then nRes H r q else none := by split <;> rfl
@[simp] theorem keyed_nil' (r : Ref) (k : Nat) (H : Heap) : keyed r k [] H = H := id rfl
@[simp] theorem keyed_cons (r : Ref) (k : Nat) (b : Blk) (bs : List Blk) (H : Heap) : keyed r k (b :: bs) H = keyed r (k + 1) bs (({ r with k := k }, some b) :: H) := id rfl
@[simp] theorem orW_some (wk : Bool) (x : AV × Heap) (b : WRes) : orW wk (some x) b = some x := id rfl
@[simp] theorem orW_none (b : WRes) : orW true none b = b := id rfl
@[simp] theorem pickF_true (a b : Option AV) : pickF (some (aB true)) a b = qVal a := id rfl
@[simp] theorem pickF_false (a b : Option AV) : pickF (some (aB false)) a b = qVal b := id rfl
@[simp] theorem oi_int (k : IntKind) (n : Int) : oi (.v (.int k n)) = some (some n) := id rfl

/- ## Cells -/
@[simp] theorem cells_agg (cs : List AV) : (AV.agg cs).cells = cs := id rfl
@[simp] theorem cells_v (x : Value) : (AV.v x).cells = [.v x] := id rfl
@[simp] theorem cells_8 (x : UInt8) : (a8 x).cells = [a8 x] := id rfl
@[simp] theorem cells_32 (x : UInt32) : (a32 x).cells = [a32 x] := id rfl
@[simp] theorem cells_isl (z : Nat) (es : List AV) (c : Option Nat) : (AV.isl z es c).cells = [.isl z es c] := id rfl
@[simp] theorem cells_osl (r : Ref) (o n : Nat) (c : Option Nat) : (AV.osl r o n c).cells = [.osl r o n c] := id rfl
@[simp] theorem cells_ptr (r : Ref) (i j : Nat) : (AV.ptr r i j).cells = [.ptr r i j] := id rfl
@[simp] theorem cells_iptr (z : Nat) (es : List AV) (i j : Nat) : (AV.iptr z es i j).cells = [.iptr z es i j] := id rfl
@[simp] theorem cells_ifc (t : TypeId) (x : AV) : (AV.ifc t x).cells = [.ifc t x] := id rfl
@[simp] theorem cells_fn (f : Fn) (a b : List AV) : (AV.fn f a b).cells = [.fn f a b] := id rfl
@[simp] theorem one_int (k : IntKind) (n : Int) : (AV.v (.int k n)).one = true := id rfl
@[simp] theorem one_bool (b : Bool) : (AV.v (.bool b)).one = true := id rfl
@[simp] theorem one_str (s : ByteArray) : (AV.v (.string s)).one = true := id rfl
@[simp] theorem one_nil : aNil.one = true := id rfl
@[simp] theorem one_8 (x : UInt8) : (a8 x).one = true := id rfl
@[simp] theorem one_32 (x : UInt32) : (a32 x).one = true := id rfl
@[simp] theorem one_isl (z : Nat) (es : List AV) (c : Option Nat) : (AV.isl z es c).one = true := id rfl
@[simp] theorem one_osl (r : Ref) (o n : Nat) (c : Option Nat) : (AV.osl r o n c).one = true := id rfl
@[simp] theorem one_ptr (r : Ref) (i j : Nat) : (AV.ptr r i j).one = true := id rfl
@[simp] theorem one_iptr (z : Nat) (es : List AV) (i j : Nat) : (AV.iptr z es i j).one = true := id rfl
@[simp] theorem one_ifc (t : TypeId) (x : AV) : (AV.ifc t x).one = true := id rfl
@[simp] theorem one_fn (f : Fn) (a b : List AV) : (AV.fn f a b).one = true := id rfl

/- ## Numbers -/
section
variable (P : Program) (t : TypeId) (xo yo : Operand) (k : IntKind) (a b : Int)
@[simp] theorem qBin_lss : qBin P .lss t xo yo (some (.v (.int k a))) (some (.v (.int k b))) = some (aB (decide (a < b)), []) := by cases k <;> rfl
@[simp] theorem qBin_leq : qBin P .leq t xo yo (some (.v (.int k a))) (some (.v (.int k b))) = some (aB (decide (a ≤ b)), []) := by cases k <;> rfl
@[simp] theorem qBin_gtr : qBin P .gtr t xo yo (some (.v (.int k a))) (some (.v (.int k b))) = some (aB (decide (b < a)), []) := by cases k <;> rfl
@[simp] theorem qBin_geq : qBin P .geq t xo yo (some (.v (.int k a))) (some (.v (.int k b))) = some (aB (decide (b ≤ a)), []) := by cases k <;> rfl
@[simp] theorem qBin_eql : qBin P .eql t xo yo (some (.v (.int k a))) (some (.v (.int k b))) = some (aB (decide (a = b)), []) := by
  have : (a == b) = decide (a = b) := by by_cases h : a = b <;> simp [h]
  rw [← this]; cases k <;> rfl
@[simp] theorem qBin_neq : qBin P .neq t xo yo (some (.v (.int k a))) (some (.v (.int k b))) = some (aB (!decide (a = b)), []) := by
  have : (a != b) = !decide (a = b) := by by_cases h : a = b <;> simp [h]
  rw [← this]; cases k <;> rfl
@[simp] theorem qBin_add : qBin P .add t xo yo (some (.v (.int k a))) (some (.v (.int k b))) = some (.v (.int k (k.wrap (a + b))), []) := by cases k <;> rfl
@[simp] theorem qBin_sub : qBin P .sub t xo yo (some (.v (.int k a))) (some (.v (.int k b))) = some (.v (.int k (k.wrap (a - b))), []) := by cases k <;> rfl
@[simp] theorem qBin_mul : qBin P .mul t xo yo (some (.v (.int k a))) (some (.v (.int k b))) = some (.v (.int k (k.wrap (a * b))), []) := by cases k <;> rfl
theorem qBin_quo (hb : b ≠ 0) : qBin P .quo t xo yo (some (.v (.int k a))) (some (.v (.int k b))) = some (.v (.int k (k.wrap (a.tdiv b))), []) := by
  have h : Op.intDiv .quo k a b = pure (.int k (k.wrap (a.tdiv b))) := by unfold Op.intDiv; rw [if_neg hb]
  have h2 : prBin P .quo t xo yo (.int k a) (.int k b) = some (.int k (k.wrap (a.tdiv b))) := by
    have : prBin P .quo t xo yo (.int k a) (.int k b) = pureRun P (Op.intDiv .quo k a b) := by cases k <;> rfl
    rw [this, h]; rfl
  simp only [qBin, isSl, nilSlice, toValue, h2, Bool.false_and, Bool.or_self, Bool.false_eq_true, if_false, Option.bind_some, ofScalar, scalar, if_true, qVal, Option.map_some]
theorem qBin_rem (hb : b ≠ 0) : qBin P .rem t xo yo (some (.v (.int k a))) (some (.v (.int k b))) = some (.v (.int k (a.tmod b)), []) := by
  have h : Op.intDiv .rem k a b = pure (.int k (a.tmod b)) := by unfold Op.intDiv; rw [if_neg hb]
  have h2 : prBin P .rem t xo yo (.int k a) (.int k b) = some (.int k (a.tmod b)) := by
    have : prBin P .rem t xo yo (.int k a) (.int k b) = pureRun P (Op.intDiv .rem k a b) := by cases k <;> rfl
    rw [this, h]; rfl
  simp only [qBin, isSl, nilSlice, toValue, h2, Bool.false_and, Bool.or_self, Bool.false_eq_true, if_false, Option.bind_some, ofScalar, scalar, if_true, qVal, Option.map_some]
theorem qBin_shl {yk : IntKind} (hb : 0 ≤ b) : qBin P .shl t xo yo (some (.v (.int k a))) (some (.v (.int yk b))) = some (.v (.int k (k.wrap (a * 2 ^ min b.toNat k.bits))), []) := by
  have h : Op.shift .shl k a yk b = pure (.int k (k.wrap (a * 2 ^ min b.toNat k.bits))) := by unfold Op.shift; rw [if_neg (by omega)]
  have h2 : prBin P .shl t xo yo (.int k a) (.int yk b) = some (.int k (k.wrap (a * 2 ^ min b.toNat k.bits))) := by
    have : prBin P .shl t xo yo (.int k a) (.int yk b) = pureRun P (Op.shift .shl k a yk b) := rfl
    rw [this, h]; rfl
  simp only [qBin, isSl, nilSlice, toValue, h2, Bool.false_and, Bool.or_self, Bool.false_eq_true, if_false, Option.bind_some, ofScalar, scalar, if_true, qVal, Option.map_some]
theorem qBin_shr {yk : IntKind} (hb : 0 ≤ b) : qBin P .shr t xo yo (some (.v (.int k a))) (some (.v (.int yk b))) = some (.v (.int k (a.fdiv (2 ^ min b.toNat k.bits))), []) := by
  have h : Op.shift .shr k a yk b = pure (.int k (a.fdiv (2 ^ min b.toNat k.bits))) := by unfold Op.shift; rw [if_neg (by omega)]
  have h2 : prBin P .shr t xo yo (.int k a) (.int yk b) = some (.int k (a.fdiv (2 ^ min b.toNat k.bits))) := by
    have : prBin P .shr t xo yo (.int k a) (.int yk b) = pureRun P (Op.shift .shr k a yk b) := rfl
    rw [this, h]; rfl
  simp only [qBin, isSl, nilSlice, toValue, h2, Bool.false_and, Bool.or_self, Bool.false_eq_true, if_false, Option.bind_some, ofScalar, scalar, if_true, qVal, Option.map_some]
@[simp] theorem qUn_not (b : Bool) : qUn P .not (some (aB b)) = some (aB (!b), []) := id rfl

/-- Words of 8 and of 32 bits. -/
def u8 (n : Int) : UInt8 := UInt8.ofBitVec (BitVec.ofInt 8 n)
def u32 (n : Int) : UInt32 := UInt32.ofBitVec (BitVec.ofInt 32 n)
@[simp] theorem wrap8 (n : Int) : IntKind.u8.wrap n = ((u8 n).toNat : Int) := by
  unfold u8; rw [IntKind.wrap_u8, UInt8.toNat_ofBitVec, BitVec.toNat_ofInt]; omega
@[simp] theorem wrap32' (n : Int) : IntKind.u32.wrap n = ((u32 n).toNat : Int) := by
  unfold u32; rw [IntKind.wrap_u32, UInt32.toNat_ofBitVec, BitVec.toNat_ofInt]; omega
theorem of8 (x : UInt8) : BitVec.ofInt 8 (x.toNat : Int) = x.toBitVec := by
  apply BitVec.eq_of_toNat_eq; rw [BitVec.toNat_ofInt]; have := x.toNat_lt; simp; omega
theorem of32 (x : UInt32) : BitVec.ofInt 32 (x.toNat : Int) = x.toBitVec := by
  apply BitVec.eq_of_toNat_eq; rw [BitVec.toNat_ofInt]; have := x.toNat_lt; simp; omega
theorem u8_toNat' (n : Int) : (u8 n).toNat = (n % 256).toNat := by
  unfold u8; rw [UInt8.toNat_ofBitVec, BitVec.toNat_ofInt]; rfl
theorem u32_toNat' (n : Int) : (u32 n).toNat = (n % 4294967296).toNat := by
  unfold u32; rw [UInt32.toNat_ofBitVec, BitVec.toNat_ofInt]; rfl
@[simp] theorem u8_nat (x : UInt8) : u8 (x.toNat : Int) = x := by apply UInt8.toNat_inj.1; rw [u8_toNat']; have := x.toNat_lt; omega
@[simp] theorem u32_nat (x : UInt32) : u32 (x.toNat : Int) = x := by apply UInt32.toNat_inj.1; rw [u32_toNat']; have := x.toNat_lt; omega
@[simp] theorem u32_nat8 (x : UInt8) : u32 (x.toNat : Int) = x.toUInt32 := by apply UInt32.toNat_inj.1; rw [u32_toNat', UInt8.toNat_toUInt32]; have := x.toNat_lt; omega
@[simp] theorem u8_nat32 (x : UInt32) : u8 (x.toNat : Int) = x.toUInt8 := by apply UInt8.toNat_inj.1; rw [u8_toNat', UInt32.toNat_toUInt8]; omega
@[simp] theorem u8_zero : u8 0 = 0 := id rfl
@[simp] theorem u32_zero : u32 0 = 0 := id rfl
@[simp] theorem u8_one : u8 1 = 1 := id rfl
@[simp] theorem u32_one : u32 1 = 1 := id rfl
@[simp] theorem u8_lit (n : Nat) : u8 (no_index (OfNat.ofNat n)) = OfNat.ofNat n := by
  apply UInt8.toNat_inj.1
  rw [u8_toNat', show (OfNat.ofNat n : UInt8) = UInt8.ofNat n from rfl, UInt8.toNat_ofNat', show (OfNat.ofNat n : Int) = (n : Int) from rfl]
  omega
@[simp] theorem u32_lit (n : Nat) : u32 (no_index (OfNat.ofNat n)) = OfNat.ofNat n := by
  apply UInt32.toNat_inj.1
  rw [u32_toNat', show (OfNat.ofNat n : UInt32) = UInt32.ofNat n from rfl, UInt32.toNat_ofNat', show (OfNat.ofNat n : Int) = (n : Int) from rfl]
  omega
@[simp] theorem i64_8 (x : UInt8) : IntKind.i64.wrap (x.toNat : Int) = x.toNat := by have := x.toNat_lt; exact IntWalk.i64_in _ (by omega)
@[simp] theorem i64_32 (x : UInt32) : IntKind.i64.wrap (x.toNat : Int) = x.toNat := by have := x.toNat_lt; exact IntWalk.i64_in _ (by omega)

theorem back8 (v : BitVec 8) : IntKind.u8.wrap (v.toNat : Int) = ((UInt8.ofBitVec v).toNat : Int) := by
  rw [wrap8]; unfold u8; congr 3; apply BitVec.eq_of_toNat_eq; rw [BitVec.toNat_ofInt]; have := v.isLt; omega
theorem back32 (v : BitVec 32) : IntKind.u32.wrap (v.toNat : Int) = ((UInt32.ofBitVec v).toNat : Int) := by
  rw [wrap32']; unfold u32; congr 3; apply BitVec.eq_of_toNat_eq; rw [BitVec.toNat_ofInt]; have := v.isLt; omega
theorem bits8 (op : BinOp) (f : BitVec 8 → BitVec 8 → BitVec 8) (g : UInt8 → UInt8 → UInt8) (hg : ∀ x y, g x y = UInt8.ofBitVec (f x.toBitVec y.toBitVec)) (hop : ∀ x y : Int, qBin P op t xo yo (some (.v (.int .u8 x))) (some (.v (.int .u8 y))) = some (.v (.int .u8 (IntKind.u8.wrap ((f (BitVec.ofInt 8 x) (BitVec.ofInt 8 y)).toNat : Int))), [])) :
    qBin P op t xo yo (some (.v (.int .u8 a))) (some (.v (.int .u8 b))) = some (a8 (g (u8 a) (u8 b)), []) := by
  rw [hop, back8, hg]; rfl
theorem bits32 (op : BinOp) (f : BitVec 32 → BitVec 32 → BitVec 32) (g : UInt32 → UInt32 → UInt32) (hg : ∀ x y, g x y = UInt32.ofBitVec (f x.toBitVec y.toBitVec)) (hop : ∀ x y : Int, qBin P op t xo yo (some (.v (.int .u32 x))) (some (.v (.int .u32 y))) = some (.v (.int .u32 (IntKind.u32.wrap ((f (BitVec.ofInt 32 x) (BitVec.ofInt 32 y)).toNat : Int))), [])) :
    qBin P op t xo yo (some (.v (.int .u32 a))) (some (.v (.int .u32 b))) = some (a32 (g (u32 a) (u32 b)), []) := by
  rw [hop, back32, hg]; rfl
section
variable (x y : UInt8)
@[simp] theorem qBin_xor8 : qBin P .xor t xo yo (some (a8 x)) (some (a8 y)) = some (a8 (x ^^^ y), []) := by
  unfold a8; rw [bits8 P t xo yo _ _ .xor (· ^^^ ·) (· ^^^ ·) (fun _ _ => rfl) (fun _ _ => rfl)]; simp only [u8_nat]; rfl
@[simp] theorem qBin_and8 : qBin P .and t xo yo (some (a8 x)) (some (a8 y)) = some (a8 (x &&& y), []) := by
  unfold a8; rw [bits8 P t xo yo _ _ .and (· &&& ·) (· &&& ·) (fun _ _ => rfl) (fun _ _ => rfl)]; simp only [u8_nat]; rfl
@[simp] theorem qBin_or8 : qBin P .or t xo yo (some (a8 x)) (some (a8 y)) = some (a8 (x ||| y), []) := by
  unfold a8; rw [bits8 P t xo yo _ _ .or (· ||| ·) (· ||| ·) (fun _ _ => rfl) (fun _ _ => rfl)]; simp only [u8_nat]; rfl
@[simp] theorem qBin_andNot8 : qBin P .andNot t xo yo (some (a8 x)) (some (a8 y)) = some (a8 (x &&& ~~~y), []) := by
  unfold a8; rw [bits8 P t xo yo _ _ .andNot (fun a b => a &&& ~~~b) (fun a b => a &&& ~~~b) (fun _ _ => rfl) (fun _ _ => rfl)]; simp only [u8_nat]; rfl
@[simp] theorem qBin_lss8 : qBin P .lss t xo yo (some (a8 x)) (some (a8 y)) = some (aB (decide (x < y)), []) := by
  unfold a8; rw [qBin_lss]; congr 4; rw [UInt8.lt_iff_toNat_lt]; all_goals exact propext (by omega)
@[simp] theorem qBin_leq8 : qBin P .leq t xo yo (some (a8 x)) (some (a8 y)) = some (aB (decide (x ≤ y)), []) := by
  unfold a8; rw [qBin_leq]; congr 4; rw [UInt8.le_iff_toNat_le]; all_goals exact propext (by omega)
@[simp] theorem qBin_gtr8 : qBin P .gtr t xo yo (some (a8 x)) (some (a8 y)) = some (aB (decide (y < x)), []) := by
  unfold a8; rw [qBin_gtr]; congr 4; rw [UInt8.lt_iff_toNat_lt]; all_goals exact propext (by omega)
@[simp] theorem qBin_geq8 : qBin P .geq t xo yo (some (a8 x)) (some (a8 y)) = some (aB (decide (y ≤ x)), []) := by
  unfold a8; rw [qBin_geq]; congr 4; rw [UInt8.le_iff_toNat_le]; all_goals exact propext (by omega)
@[simp] theorem qBin_eql8 : qBin P .eql t xo yo (some (a8 x)) (some (a8 y)) = some (aB (decide (x = y)), []) := by
  unfold a8; rw [qBin_eql]; congr 4; rw [← UInt8.toNat_inj]; all_goals exact propext (by omega)
@[simp] theorem qBin_neq8 : qBin P .neq t xo yo (some (a8 x)) (some (a8 y)) = some (aB (!decide (x = y)), []) := by
  unfold a8; rw [qBin_neq]; congr 5; rw [← UInt8.toNat_inj]; all_goals exact propext (by omega)
@[simp] theorem qBin_add8 : qBin P .add t xo yo (some (a8 x)) (some (a8 y)) = some (a8 (x + y), []) := by
  unfold a8; rw [qBin_add, wrap8]; congr 5
@[simp] theorem qBin_sub8 : qBin P .sub t xo yo (some (a8 x)) (some (a8 y)) = some (a8 (x - y), []) := by
  unfold a8; rw [qBin_sub, wrap8]; congr 5; rw [u8_toNat']; have := x.toNat_lt; have := y.toNat_lt; simp only [UInt8.toNat_sub]; omega
@[simp] theorem qBin_mul8 : qBin P .mul t xo yo (some (a8 x)) (some (a8 y)) = some (a8 (x * y), []) := by
  unfold a8; rw [qBin_mul, wrap8]; congr 5
end
section
variable (x y : UInt32)
@[simp] theorem qBin_xor32 : qBin P .xor t xo yo (some (a32 x)) (some (a32 y)) = some (a32 (x ^^^ y), []) := by
  unfold a32; rw [bits32 P t xo yo _ _ .xor (· ^^^ ·) (· ^^^ ·) (fun _ _ => rfl) (fun _ _ => rfl)]; simp only [u32_nat]; rfl
@[simp] theorem qBin_and32 : qBin P .and t xo yo (some (a32 x)) (some (a32 y)) = some (a32 (x &&& y), []) := by
  unfold a32; rw [bits32 P t xo yo _ _ .and (· &&& ·) (· &&& ·) (fun _ _ => rfl) (fun _ _ => rfl)]; simp only [u32_nat]; rfl
@[simp] theorem qBin_or32 : qBin P .or t xo yo (some (a32 x)) (some (a32 y)) = some (a32 (x ||| y), []) := by
  unfold a32; rw [bits32 P t xo yo _ _ .or (· ||| ·) (· ||| ·) (fun _ _ => rfl) (fun _ _ => rfl)]; simp only [u32_nat]; rfl
@[simp] theorem qBin_andNot32 : qBin P .andNot t xo yo (some (a32 x)) (some (a32 y)) = some (a32 (x &&& ~~~y), []) := by
  unfold a32; rw [bits32 P t xo yo _ _ .andNot (fun a b => a &&& ~~~b) (fun a b => a &&& ~~~b) (fun _ _ => rfl) (fun _ _ => rfl)]; simp only [u32_nat]; rfl
@[simp] theorem qBin_lss32 : qBin P .lss t xo yo (some (a32 x)) (some (a32 y)) = some (aB (decide (x < y)), []) := by
  unfold a32; rw [qBin_lss]; congr 4; rw [UInt32.lt_iff_toNat_lt]; all_goals exact propext (by omega)
@[simp] theorem qBin_leq32 : qBin P .leq t xo yo (some (a32 x)) (some (a32 y)) = some (aB (decide (x ≤ y)), []) := by
  unfold a32; rw [qBin_leq]; congr 4; rw [UInt32.le_iff_toNat_le]; all_goals exact propext (by omega)
@[simp] theorem qBin_gtr32 : qBin P .gtr t xo yo (some (a32 x)) (some (a32 y)) = some (aB (decide (y < x)), []) := by
  unfold a32; rw [qBin_gtr]; congr 4; rw [UInt32.lt_iff_toNat_lt]; all_goals exact propext (by omega)
@[simp] theorem qBin_geq32 : qBin P .geq t xo yo (some (a32 x)) (some (a32 y)) = some (aB (decide (y ≤ x)), []) := by
  unfold a32; rw [qBin_geq]; congr 4; rw [UInt32.le_iff_toNat_le]; all_goals exact propext (by omega)
@[simp] theorem qBin_eql32 : qBin P .eql t xo yo (some (a32 x)) (some (a32 y)) = some (aB (decide (x = y)), []) := by
  unfold a32; rw [qBin_eql]; congr 4; rw [← UInt32.toNat_inj]; all_goals exact propext (by omega)
@[simp] theorem qBin_neq32 : qBin P .neq t xo yo (some (a32 x)) (some (a32 y)) = some (aB (!decide (x = y)), []) := by
  unfold a32; rw [qBin_neq]; congr 5; rw [← UInt32.toNat_inj]; all_goals exact propext (by omega)
@[simp] theorem qBin_add32 : qBin P .add t xo yo (some (a32 x)) (some (a32 y)) = some (a32 (x + y), []) := by
  unfold a32; rw [qBin_add, wrap32']; congr 5
@[simp] theorem qBin_sub32 : qBin P .sub t xo yo (some (a32 x)) (some (a32 y)) = some (a32 (x - y), []) := by
  unfold a32; rw [qBin_sub, wrap32']; congr 5; rw [u32_toNat']; have := x.toNat_lt; have := y.toNat_lt; simp only [UInt32.toNat_sub]; omega
@[simp] theorem qBin_mul32 : qBin P .mul t xo yo (some (a32 x)) (some (a32 y)) = some (a32 (x * y), []) := by
  unfold a32; rw [qBin_mul, wrap32']; congr 5
end
/-- Shifts of words by what is told. -/
@[simp] theorem qBin_shl32 {yk : IntKind} (x : UInt32) (hb : 0 ≤ b ∧ b < 32) : qBin P .shl t xo yo (some (a32 x)) (some (.v (.int yk b))) = some (a32 (x <<< UInt32.ofNat b.toNat), []) := by
  unfold a32
  rw [qBin_shl P t xo yo .u32 _ b hb.1, wrap32']
  congr 5
  have hm : min b.toNat IntKind.u32.bits = b.toNat := by show min b.toNat 32 = _; omega
  have hx := x.toNat_lt
  rw [hm, u32_toNat', UInt32.toNat_shiftLeft, UInt32.toNat_ofNat', Nat.shiftLeft_eq]
  have h1 : b.toNat % 2 ^ 32 % 32 = b.toNat := by omega
  rw [h1]
  have : ((x.toNat : Int) * 2 ^ b.toNat) = ((x.toNat * 2 ^ b.toNat : Nat) : Int) := by push_cast; rfl
  rw [this]
  omega
@[simp] theorem qBin_shr32 {yk : IntKind} (x : UInt32) (hb : 0 ≤ b ∧ b < 32) : qBin P .shr t xo yo (some (a32 x)) (some (.v (.int yk b))) = some (a32 (x >>> UInt32.ofNat b.toNat), []) := by
  unfold a32
  rw [qBin_shr P t xo yo .u32 _ b hb.1]
  congr 5
  have hm : min b.toNat IntKind.u32.bits = b.toNat := by show min b.toNat 32 = _; omega
  rw [hm, UInt32.toNat_shiftRight, UInt32.toNat_ofNat', Nat.shiftRight_eq_div_pow]
  have h1 : b.toNat % 2 ^ 32 % 32 = b.toNat := by omega
  rw [h1, Int.fdiv_eq_ediv_of_nonneg _ (by exact Int.pow_nonneg (by decide))]
  push_cast
  rfl

/-- Conversions of numbers: from one kind to another one. -/
theorem pureRun_und {P : Program} {t : TypeId} {d : TypeDesc} (h : P.underlying t = some d) : pureRun P (Go.underlying t) = some d := by
  unfold Go.underlying
  rw [pureRun_bind]
  show (some P).bind _ = _
  rw [Option.bind_some, h]
  rfl
def intKind (P : Program) (t : TypeId) : Option IntKind := match P.underlying t with | some (.int k) => some k | _ => none
theorem intKind_some {P : Program} {t : TypeId} {k : IntKind} (h : intKind P t = some k) : P.underlying t = some (.int k) := by
  unfold intKind at h
  split at h
  · cases h; assumption
  · cases h
theorem qConv_int {g : Get} {r : Ref} {src dst : TypeId} {k' : IntKind} (hs : (P.underlying src).isNone = false) (hd : intKind P dst = some k) (n : Int) :
    qConvert P g r src dst (some (.v (.int k' n))) = some (.v (.int k (k.wrap n)), []) := by
  have hd := intKind_some hd
  obtain ⟨d, hs⟩ : ∃ d, P.underlying src = some d := by cases h : P.underlying src with | none => rw [h] at hs; cases hs | some d => exact ⟨d, rfl⟩
  have : pureRun P (Go.convert src dst (.int k' n)) = some (.int k (k.wrap n)) := by
    unfold Go.convert
    rw [pureRun_bind, pureRun_und hs, Option.bind_some, pureRun_bind, pureRun_und hd, Option.bind_some]
    cases d <;> rfl
  simp only [qConvert, this, Option.bind_some, ofScalar, scalar, if_true, qVal, Option.map_some]
@[simp] theorem qConv_8_32 {g : Get} {r : Ref} {src dst : TypeId} (hs : (P.underlying src).isNone = false) (hd : intKind P dst = some .u32) (x : UInt8) :
    qConvert P g r src dst (some (a8 x)) = some (a32 x.toUInt32, []) := by
  unfold a8 a32; rw [qConv_int P .u32 hs hd, wrap32', u32_nat8]
@[simp] theorem qConv_32_8 {g : Get} {r : Ref} {src dst : TypeId} (hs : (P.underlying src).isNone = false) (hd : intKind P dst = some .u8) (x : UInt32) :
    qConvert P g r src dst (some (a32 x)) = some (a8 x.toUInt8, []) := by
  unfold a8 a32; rw [qConv_int P .u8 hs hd, wrap8, u8_nat32]
@[simp] theorem qConv_8_i {g : Get} {r : Ref} {src dst : TypeId} (hs : (P.underlying src).isNone = false) (hd : intKind P dst = some .i64) (x : UInt8) :
    qConvert P g r src dst (some (a8 x)) = some (aI x.toNat, []) := by
  unfold a8; rw [qConv_int P .i64 hs hd, i64_8]
@[simp] theorem qConv_32_i {g : Get} {r : Ref} {src dst : TypeId} (hs : (P.underlying src).isNone = false) (hd : intKind P dst = some .i64) (x : UInt32) :
    qConvert P g r src dst (some (a32 x)) = some (aI x.toNat, []) := by
  unfold a32; rw [qConv_int P .i64 hs hd, i64_32]
@[simp] theorem qConv_i_8 {g : Get} {r : Ref} {src dst : TypeId} {k' : IntKind} (hs : (P.underlying src).isNone = false) (hd : intKind P dst = some .u8) (n : Int) :
    qConvert P g r src dst (some (.v (.int k' n))) = some (a8 (u8 n), []) := by
  unfold a8; rw [qConv_int P .u8 hs hd, wrap8]
@[simp] theorem qConv_i_32 {g : Get} {r : Ref} {src dst : TypeId} {k' : IntKind} (hs : (P.underlying src).isNone = false) (hd : intKind P dst = some .u32) (n : Int) :
    qConvert P g r src dst (some (.v (.int k' n))) = some (a32 (u32 n), []) := by
  unfold a32; rw [qConv_int P .u32 hs hd, wrap32']
@[simp] theorem qConv_i_i {g : Get} {r : Ref} {src dst : TypeId} {k' : IntKind} (hs : (P.underlying src).isNone = false) (hd : intKind P dst = some .i64) (n : Int) :
    qConvert P g r src dst (some (.v (.int k' n))) = some (aI (IntKind.i64.wrap n), []) := qConv_int P .i64 hs hd n
@[simp] theorem qConv_i_i32 {g : Get} {r : Ref} {src dst : TypeId} {k' : IntKind} (hs : (P.underlying src).isNone = false) (hd : intKind P dst = some .i32) (n : Int) :
    qConvert P g r src dst (some (.v (.int k' n))) = some (.v (.int .i32 (IntKind.i32.wrap n)), []) := qConv_int P .i32 hs hd n
end

/- ## Slices -/
/-- Bytes, as a slice's elements. -/
def by8 (l : List UInt8) : List AV := l.map a8
@[simp] theorem by8_len (l : List UInt8) : (by8 l).length = l.length := by simp [by8]
@[simp] theorem by8_nil : by8 [] = [] := id rfl

theorem qLen_bi' (P : Program) (d : Bool) (g : Get) (r : Ref) (t : TypeId) (ts : List TypeId) (x : AV) (hx : ∀ r', x ≠ .mp r') : qBuiltin P d g r .len ⟨t :: ts⟩ [x] = qLen P (some t) x := by
  unfold qBuiltin
  cases x <;> first | rfl | (rename_i q; exact (hx q rfl).elim)
@[simp] theorem qLen_bi (P : Program) (d : Bool) (g : Get) (r : Ref) (t : TypeId) (ts : List TypeId) (x : AV) (hx : (lenAV x).isSome = true) : qBuiltin P d g r .len ⟨t :: ts⟩ [x] = qLen P (some t) x := by
  refine qLen_bi' P d g r t ts x fun r' e => ?_
  subst e; cases hx
@[simp] theorem qLen_bi_str (P : Program) (d : Bool) (g : Get) (r : Ref) (t : TypeId) (ts : List TypeId) (s : ByteArray) : qBuiltin P d g r .len ⟨t :: ts⟩ [aS s] = qLen P (some t) (aS s) := id rfl
@[simp] theorem qLen_bi_agg (P : Program) (d : Bool) (g : Get) (r : Ref) (t : TypeId) (ts : List TypeId) (cs : List AV) : qBuiltin P d g r .len ⟨t :: ts⟩ [.agg cs] = qLen P (some t) (.agg cs) := id rfl
@[simp] theorem lenAV_nil : lenAV aNil = some 0 := id rfl
@[simp] theorem lenAV_isl (n : Nat) (es : List AV) (c : Option Nat) : lenAV (.isl n es c) = some es.length := id rfl
@[simp] theorem lenAV_osl (r : Ref) (o n : Nat) (c : Option Nat) : lenAV (.osl r o n c) = some n := id rfl
@[simp] theorem qLen_slice {P : Program} {t : TypeId} (ha : tarr P t = none) (hs : isStr P t = false) (he : (telem P t).isSome = true) (x : AV) : qLen P (some t) x = (lenAV x).map fun n => (aI n, []) := by
  simp only [qLen, ha, hs, he]; rfl
@[simp] theorem qLen_str {P : Program} {t : TypeId} (ha : tarr P t = none) (hs : isStr P t = true) (x : ByteArray) : qLen P (some t) (aS x) = some (aI x.size, []) := by
  simp only [qLen, ha, hs]; rfl

theorem elemSize {P : Program} {t : TypeId} {z : Nat} (h : (telem P t).bind (tsize P) = some z) : ∃ e, telem P t = some e ∧ tsize P e = some z := by
  simpa [Option.bind_eq_some_iff] using h
@[simp] theorem qIndexAddr_isl {P : Program} {t : TypeId} {z : Nat} (h : (telem P t).bind (tsize P) = some z) (g : Get) (es : List AV) (c : Option Nat) (kd : IntKind) (k : Int) :
    qIndexAddr P g t (some (.isl z es c)) (some (.v (.int kd k))) = if 0 ≤ k ∧ k < es.length then some (.iptr z es k.toNat 0, []) else none := by
  obtain ⟨e, he, hz⟩ := elemSize h
  simp only [qIndexAddr, Option.bind_some, intOf, he, hz, and_true]
theorem qIndexAddr_osl {P : Program} {t : TypeId} {z : Nat} (h : (telem P t).bind (tsize P) = some z) (g : Get) {r : Ref} {b : Blk} (hr : g r = some b) (hb : b.esz = z) (o n : Nat) (c : Option Nat) (kd : IntKind) (k : Int) :
    qIndexAddr P g t (some (.osl r o n c)) (some (.v (.int kd k))) = if 0 ≤ k ∧ k < n then some (.ptr r (o + k.toNat) 0, []) else none := by
  obtain ⟨e, he, hz⟩ := elemSize h
  simp only [qIndexAddr, Option.bind_some, intOf, he, hz, hr, hb, and_true]

@[simp] theorem qIndexAddr_arr {P : Program} {t : TypeId} (h : telem P t = none) (hz : ((tarr P t).bind fun p => tsize P p.2).isSome = true) (g : Get) (r : Ref) (i j : Nat) (kd : IntKind) (k : Int) :
    qIndexAddr P g t (some (.ptr r i j)) (some (.v (.int kd k))) = if 0 ≤ k ∧ k < ((tarr P t).getD (0, 0)).1 then some (.ptr r i (j + k.toNat * (tsize P ((tarr P t).getD (0, 0)).2).getD 0), []) else none := by
  obtain ⟨z, hz⟩ := Option.isSome_iff_exists.1 hz
  simp only [Option.bind_eq_some_iff] at hz
  obtain ⟨⟨n, e⟩, ha, hz⟩ := hz
  simp only [qIndexAddr, Option.bind_some, intOf, h, ha, hz, Option.getD_some]
@[simp] theorem qLoad_iptr {P : Program} {t : TypeId} (ha : (tagg P t).isSome = true) (hn : (tsize P t).isSome = true) (g : Get) (z : Nat) (es : List AV) (i j : Nat) :
    qLoad P g t (some (.iptr z es i j)) = qVal (readAt es i j ((tsize P t).getD 0) ((tagg P t).getD false)) := by
  obtain ⟨a, ha⟩ := Option.isSome_iff_exists.1 ha
  obtain ⟨n, hn⟩ := Option.isSome_iff_exists.1 hn
  simp only [qLoad, ha, hn, Option.getD_some]
def loadB (x : Option Blk) (i j n : Nat) (ag : Bool) : QRes := match x with
  | some b => qVal (readAt b.es i j n ag)
  | none => none
@[simp] theorem loadB_some (b : Blk) (i j n : Nat) (ag : Bool) : loadB (some b) i j n ag = qVal (readAt b.es i j n ag) := id rfl
@[simp] theorem qLoad_ptr {P : Program} {t : TypeId} (ha : (tagg P t).isSome = true) (hn : (tsize P t).isSome = true) (g : Get) (r : Ref) (i j : Nat) :
    qLoad P g t (some (.ptr r i j)) = loadB (g r) i j ((tsize P t).getD 0) ((tagg P t).getD false) := by
  obtain ⟨a, ha⟩ := Option.isSome_iff_exists.1 ha
  obtain ⟨n, hn⟩ := Option.isSome_iff_exists.1 hn
  simp only [qLoad, ha, hn, Option.getD_some]
  rfl
theorem readAt_one {es : List AV} {i j n : Nat} {e x : AV} (h : es[i]? = some e) (hx : e.cells[j]? = some x) : readAt es i j n false = some x := by
  simp only [readAt, h, hx]; rfl
theorem readAt_agg {es : List AV} {i j n : Nat} {e : AV} (h : es[i]? = some e) (hn : j + n ≤ e.cells.length ∧ 0 < n) : readAt es i j n true = some (.agg ((e.cells.drop j).take n)) := by
  simp only [readAt, h, if_true, if_pos hn]
@[simp] theorem qVal_if (c : Prop) [Decidable c] (x : Option AV) : qVal (if c then x else none) = if c then qVal x else none := by split <;> rfl
@[simp] theorem readAt_cons_agg (e : AV) (es : List AV) (j n : Nat) : readAt (e :: es) 0 j n true = if j + n ≤ e.cells.length ∧ 0 < n then some (.agg ((e.cells.drop j).take n)) else none := id rfl
@[simp] theorem readAt_cons_one (e : AV) (es : List AV) (j n : Nat) : readAt (e :: es) 0 j n false = e.cells[j]? := id rfl
@[simp] theorem readAt_by8 (l : List UInt8) (i n : Nat) : readAt (by8 l) i 0 n false = (l[i]?).map a8 := by
  unfold readAt by8
  rw [List.getElem?_map]
  cases l[i]? <;> rfl
@[simp] theorem doQ_get8 (l : List UInt8) (i : Nat) (K : AV → Prop) (m : Mk K) (h : i < l.length) : doQ (qVal ((l[i]?).map a8)) K m ↔ K (a8 l[i]) := by
  rw [List.getElem?_eq_getElem h]; simp

/-- A slice: nil, or elements. -/
def Sl (z : Nat) (es : List AV) (x : AV) : Prop := (x = aNil ∧ es = []) ∨ ∃ c, x = .isl z es c ∧ es.length ≤ c.getD es.length
theorem Sl.mk (z : Nat) (es : List AV) : Sl z es (.isl z es none) := .inr ⟨none, rfl, Nat.le_refl _⟩
theorem Sl.len {z : Nat} {es : List AV} {x : AV} (h : Sl z es x) : lenAV x = some es.length := by
  rcases h with ⟨rfl, rfl⟩ | ⟨c, rfl, _⟩ <;> rfl
theorem Sl.isl {z : Nat} {es : List AV} {x : AV} (h : Sl z es x) {i : Nat} (hi : i < es.length) : ∃ c, x = .isl z es c ∧ es.length ≤ c.getD es.length := by
  rcases h with ⟨rfl, rfl⟩ | h
  · simp at hi
  · exact h
theorem Sl.view {z : Nat} {es : List AV} {x : AV} (h : Sl z es x) (g : Get) (n : Nat) : view g (n + 1) x = some x := by
  rcases h with ⟨rfl, rfl⟩ | ⟨c, rfl, _⟩ <;> rfl
theorem Sl.refs {z : Nat} {es : List AV} {x : AV} (h : Sl z es x) (g : Get) (n : Nat) : viewRefs g n x = [] := by
  rcases h with ⟨rfl, rfl⟩ | ⟨c, rfl, _⟩ <;> cases n <;> rfl
theorem Sl.imp {z : Nat} {es : List AV} {x : AV} (h : Sl z es x) (r : Ref) (n : Nat) : importA r n x [] = (x, []) := by
  rcases h with ⟨rfl, rfl⟩ | ⟨c, rfl, _⟩ <;> cases n <;> rfl

theorem Sl.cells {z : Nat} {es : List AV} {x : AV} (h : Sl z es x) : x.cells = [x] ∧ x.one = true := by
  rcases h with ⟨rfl, _⟩ | ⟨c, rfl, _⟩ <;> exact ⟨rfl, rfl⟩

/- ## What is seen of data -/
@[simp] theorem view_v (g : Get) (n : Nat) (x : Value) : view g (n + 1) (.v x) = some (.v x) := id rfl
@[simp] theorem view_8 (g : Get) (n : Nat) (x : UInt8) : view g (n + 1) (a8 x) = some (a8 x) := id rfl
@[simp] theorem view_32 (g : Get) (n : Nat) (x : UInt32) : view g (n + 1) (a32 x) = some (a32 x) := id rfl
@[simp] theorem view_isl (g : Get) (n z : Nat) (es : List AV) (c : Option Nat) : view g (n + 1) (.isl z es c) = some (.isl z es c) := id rfl
@[simp] theorem view_agg (g : Get) (n : Nat) (cs : List AV) : view g (n + 1) (.agg cs) = (cs.mapM (view g n)).map .agg := id rfl
@[simp] theorem view_tup (g : Get) (n : Nat) (cs : List AV) : view g (n + 1) (.tup cs) = (cs.mapM (view g n)).map .tup := id rfl
@[simp] theorem view_iptr (g : Get) (n z : Nat) (es : List AV) (i j : Nat) : view g (n + 1) (.iptr z es i j) = some (.iptr z es i j) := id rfl
@[simp] theorem view_ifc (g : Get) (n : Nat) (t : TypeId) (x : AV) : view g (n + 1) (.ifc t x) = (view g n x).map (.ifc t) := id rfl
theorem view_osl {g : Get} {r : Ref} {b : Blk} (hr : g r = some b) (n o l : Nat) (c : Option Nat) : view g (n + 1) (.osl r o l c) = if b.arr = true ∧ o + l ≤ b.es.length then some (.isl b.esz ((b.es.drop o).take l) c) else none := by
  simp only [view, hr]
theorem depth_eq : depth = 8 := Nat.le_antisymm (Nat.le_refl 8) (Nat.le_refl 8)

/- ## Calls -/
theorem doW_call {E : Env} {wk : Bool} {dep : Nat} {H : Heap} {r : Ref} {f : FuncId} {first captured args xs : List AV} {y : AV} {K : AV → Heap → Prop} {m : Mk K}
    (hm : (E.mode f == 2) = false) (hv : (first ++ args ++ captured).mapM (view H.get depth) = some xs) (hy : limf E f xs = some y) (hf : flat depth y = true) (h : K y H) :
    doW (callRes E wk (limf E) (limt E dep) H r (some (.fn (.func f) first captured)) args) K m := by
  refine doW_of (v := y) (H := H) ?_ h
  have hm' : E.mode f ≠ 2 := by simpa using hm
  simp only [callRes, qCall, if_neg hm', hv, hy, hf, Bool.true_or, if_true]
  rw [import_flat r depth depth y [] hf]
  rfl

end Go.Ab
