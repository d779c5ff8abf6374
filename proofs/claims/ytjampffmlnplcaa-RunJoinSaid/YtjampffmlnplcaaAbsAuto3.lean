/-
  Rules for a simplifier, on: appends to data, bytes. No statement of a seat is proved here.
-/
import Derived.Test.YtjampffmlnplcaaAbsAuto2
set_option linter.unusedVariables false
set_option linter.unusedSimpArgs false
namespace Go.Ab

def islFine (by' : Nat) (es : List AV) (k : Nat) (new : Option (List AV)) : Prop := match new with
  | some new => new = [] ∨ (k < es.length + new.length ∧ (es.length + new.length) * by' ≤ roomB)
  | none => False
theorem islFine_some (by' : Nat) (es : List AV) (k : Nat) (new : List AV) : islFine by' es k (some new) = (new = [] ∨ (k < es.length + new.length ∧ (es.length + new.length) * by' ≤ roomB)) := id rfl
def islG (z : Nat) (H : Heap) (r : Ref) (es : List AV) (k : Nat) (new : Option (List AV)) : WRes := match new with
  | some [] => some (.isl z es (some k), H)
  | some new => some (.osl r 0 (es.length + new.length) none, ({ r with k := 0 }, some ⟨z, es ++ new, true, false⟩) :: H)
  | none => none
@[simp] theorem islG_nil (z : Nat) (H : Heap) (r : Ref) (es : List AV) (k : Nat) : islG z H r es k (some []) = some (.isl z es (some k), H) := id rfl
theorem islG_ne (z : Nat) (H : Heap) (r : Ref) (es : List AV) (k : Nat) (new : List AV) (hn : new ≠ []) : islG z H r es k (some new) = some (.osl r 0 (es.length + new.length) none, ({ r with k := 0 }, some ⟨z, es ++ new, true, false⟩) :: H) := by
  cases new with
  | nil => exact (hn rfl).elim
  | cons _ _ => rfl
/-- An append to data of a capacity that is told and exceeded. -/
theorem appRes_I {P : Program} {t t' : TypeId} (hT : elOk P t = true) (hA : apT P t' = true) (wk : Bool) (H : Heap) (r : Ref) (z k : Nat) (es : List AV) (x : AV) (hz : z = elZ P t) (hf : islFine (elBy P t) es k (elsOf (elZ P t) H.get x)) :
    appRes P wk H r (some t) (some t') (.isl z es (some k)) x = islG z H r es k (elsOf (elZ P t) H.get x) := by
  subst hz
  cases hx : elsOf (elZ P t) H.get x with
  | none => rw [hx] at hf; exact hf.elim
  | some new =>
    rw [hx] at hf
    have hx' := elsOf_Els hx
    unfold elOk at hT
    obtain ⟨e, zz, h1, h2, h3, h4, h5, h6, h7, h8⟩ := elT_some hT
    have hnew := hx'.newOf hT h1
    unfold apT at hA
    simp only [Bool.and_eq_true, Bool.not_eq_true'] at hA
    have hun : (P.underlying t').isNone = false := by cases h : P.underlying t' with | none => rw [h] at hA; simp at hA | some d => rfl
    have hc : ¬ ((P.underlying t').isNone = true ∨ isInt P t' ≠ isNum x) := by rw [hun, hA.2, hx'.num]; simp
    have hd : ¬ (elZ P t ≠ elZ P t ∨ elZ P t = 0 ∨ elBy P t = 0 ∨ zz.cells.length ≠ elZ P t) := by simp [h5, h7, h8]
    by_cases hn : new = []
    · subst hn
      rw [islG_nil]
      simp only [appRes, qAppend, Option.bind_some, h1, Option.map_some, Option.getD_some, if_neg hc, h2, h3, h4, hnew, if_neg hd, if_neg (show ¬ (elZ P t ≠ elZ P t) by simp), if_true]
      rfl
    · obtain ⟨hk, hb⟩ := hf.resolve_left hn
      rw [islG_ne _ _ _ _ _ _ hn]
      simp only [appRes, qAppend, Option.bind_some, h1, Option.map_some, Option.getD_some, if_neg hc, h2, h3, h4, hnew, if_neg hd, if_neg (show ¬ (elZ P t ≠ elZ P t) by simp), if_neg hn, if_pos (show k < es.length + new.length ∧ (es.length + new.length) * elBy P t ≤ roomB from ⟨hk, hb⟩)]
      rfl

theorem qBin_or_i (P : Program) (t : TypeId) (xo yo : Operand) (a b : Nat) (ha : a < 9223372036854775808) (hb : b < 9223372036854775808) :
    qBin P .or t xo yo (some (aI a)) (some (aI b)) = some (aI ((a ||| b : Nat) : Int), []) := by
  show some ((AV.v (.int .i64 (IntKind.i64.wrap ((BitVec.ofInt 64 (a : Int) ||| BitVec.ofInt 64 (b : Int)).toNat : Int)))), []) = _
  have e : (BitVec.ofInt 64 (a : Int) ||| BitVec.ofInt 64 (b : Int)).toNat = a ||| b := by
    rw [BitVec.toNat_or, BitVec.toNat_ofInt, BitVec.toNat_ofInt]
    congr 1 <;> omega
  rw [e, i64_nat _ (Nat.or_lt_two_pow (n := 63) ha hb)]
/-- n<<8 | x -/
theorem shl8_or (n : Nat) (x : UInt8) : (n * 256) ||| x.toNat = n * 256 + x.toNat := by
  have hx : x.toNat < 2 ^ 8 := x.toNat_lt
  have := Nat.shiftLeft_add_eq_or_of_lt hx n
  rw [Nat.shiftLeft_eq] at this
  exact this.symm
/-- The numbers of words' bytes. -/
theorem u8_shr (c : UInt32) (k : Nat) (hk : k < 32) : u8 ((c.toNat : Int).fdiv (2 ^ k)) = (c >>> UInt32.ofNat k).toUInt8 := by
  apply UInt8.toNat_inj.1
  rw [u8_toNat', UInt32.toNat_toUInt8, UInt32.toNat_shiftRight, UInt32.toNat_ofNat', Nat.shiftRight_eq_div_pow]
  have h1 : k % 2 ^ 32 % 32 = k := by omega
  rw [h1, Int.fdiv_eq_ediv_of_nonneg _ (by exact Int.pow_nonneg (by decide))]
  have : ((c.toNat : Int) / 2 ^ k) = ((c.toNat / 2 ^ k : Nat) : Int) := by push_cast; rfl
  rw [this]
  omega
end Go.Ab
