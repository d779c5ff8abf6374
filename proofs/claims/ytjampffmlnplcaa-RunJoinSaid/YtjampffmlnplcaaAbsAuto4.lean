/-
  More rules for the simplifier. No statement of a seat is proved here.
-/
import Derived.Test.YtjampffmlnplcaaAbsAuto3
set_option linter.unusedVariables false
set_option linter.unusedSimpArgs false
namespace Go.Ab

@[simp] theorem i64_ofNat (n : Nat) (h : n < 9223372036854775808) : IntKind.i64.wrap (no_index (OfNat.ofNat n) : Int) = OfNat.ofNat n := by
  show IntKind.i64.wrap (n : Int) = n
  exact IntWalk.i64_in _ (by omega)
@[simp] theorem bounds_n (len : Nat) (cap : Option Nat) (lo hi : Option Int) : bounds len cap lo hi none = if 0 ≤ lo.getD 0 ∧ lo.getD 0 ≤ hi.getD len ∧ hi.getD len ≤ len then some ((lo.getD 0).toNat, (hi.getD len).toNat, cap.map (· - (lo.getD 0).toNat)) else none := id rfl
@[simp] theorem bounds_s (len : Nat) (cap : Option Nat) (lo : Option Int) (h m : Int) : bounds len cap lo (some h) (some m) = if 0 ≤ lo.getD 0 ∧ lo.getD 0 ≤ h ∧ h ≤ m ∧ m ≤ cap.getD len ∧ h ≤ len then some ((lo.getD 0).toNat, h.toNat, some (m.toNat - (lo.getD 0).toNat)) else none := id rfl
@[simp] theorem shl_bits (k : Nat) : min k IntKind.i64.bits = min k 64 := id rfl

def readE (o : Option AV) (j n : Nat) (ag : Bool) : Option AV := match o with
  | none => none
  | some e => if ag then (if j + n ≤ e.cells.length ∧ 0 < n then some (.agg ((e.cells.drop j).take n)) else none) else e.cells[j]?
@[simp] theorem readE_some (e : AV) (j n : Nat) (ag : Bool) : readE (some e) j n ag = if ag then (if j + n ≤ e.cells.length ∧ 0 < n then some (.agg ((e.cells.drop j).take n)) else none) else e.cells[j]? := id rfl
@[simp] theorem readAt_c2 (e1 e2 : AV) (es : List AV) (i j n : Nat) (ag : Bool) : readAt (e1 :: e2 :: es) i j n ag = readE (e1 :: e2 :: es)[i]? j n ag := by
  unfold readAt; cases (e1 :: e2 :: es)[i]? <;> rfl

@[simp] theorem apartV_l (l : List (AV × AV)) (st bs : List AV) (H : Heap) : apartV l st bs H ↔ (l.all fun p => refNeV p.1 p.2) = true ∧ st.all (storeV H) = true ∧ bs.all bsV = true := Iff.rfl
@[simp] theorem refNeV_pp (r : Ref) (i j : Nat) (r' : Ref) (i' j' : Nat) : refNeV (.ptr r i j) (.ptr r' i' j') = !decide (r = r') := by
  unfold refNeV; simp [refOf]
@[simp] theorem refNeV_po (r : Ref) (i j : Nat) (r' : Ref) (o n : Nat) (c : Option Nat) : refNeV (.ptr r i j) (.osl r' o n c) = !decide (r = r') := by
  unfold refNeV; simp [refOf]
@[simp] theorem refNeV_op (r : Ref) (i j : Nat) (r' : Ref) (o n : Nat) (c : Option Nat) : refNeV (.osl r' o n c) (.ptr r i j) = !decide (r' = r) := by
  unfold refNeV; simp [refOf]
@[simp] theorem refNeV_v (v : Value) (x : AV) : refNeV (.v v) x = true := id rfl
@[simp] theorem refNeV_isl (z : Nat) (es : List AV) (c : Option Nat) (x : AV) : refNeV (.isl z es c) x = true := id rfl
@[simp] theorem refNeV_v' (v : Value) (x : AV) : refNeV x (.v v) = true := by
  unfold refNeV; cases refOf x <;> rfl
@[simp] theorem refNeV_isl' (z : Nat) (es : List AV) (c : Option Nat) (x : AV) : refNeV x (.isl z es c) = true := by
  unfold refNeV; cases refOf x <;> rfl
def writeE (es : List AV) (o : Option AV) (i j : Nat) (new : List AV) : Option (List AV) := match o with
  | none => none
  | some e => (writeElem e j new).map fun e' => es.set i e'
@[simp] theorem writeE_some (es : List AV) (e : AV) (i j : Nat) (new : List AV) : writeE es (some e) i j new = (writeElem e j new).map fun e' => es.set i e' := id rfl
@[simp] theorem writeAt_c2 (e1 e2 : AV) (es : List AV) (i j : Nat) (new : List AV) : writeAt (e1 :: e2 :: es) i j new = writeE (e1 :: e2 :: es) (e1 :: e2 :: es)[i]? i j new := by
  unfold writeAt; cases (e1 :: e2 :: es)[i]? <;> rfl
def storeO (o : Option Blk) : Bool := match o with
  | some b => !b.arr
  | none => false
@[simp] theorem storeO_some (b : Blk) : storeO (some b) = !b.arr := id rfl
@[simp] theorem storeV_p (H : Heap) (r : Ref) (i j : Nat) : storeV H (.ptr r i j) = storeO (H.get r) := by
  cases h : H.get r <;> simp [storeV, storeO, h]
@[simp] theorem bsV_o (r : Ref) (o n : Nat) (c : Option Nat) : bsV (.osl r o n c) = true := id rfl
@[simp] theorem bsV_v (v : Value) : bsV (.v v) = true := id rfl

end Go.Ab
