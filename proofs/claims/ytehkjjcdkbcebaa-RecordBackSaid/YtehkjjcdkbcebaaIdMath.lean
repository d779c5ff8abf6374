/-
  Handles, ids, spans: what the functions compute. No statement of a seat is proved here.
-/
import Derived.Test.YtehkjjcdkbcebaaAbsRules
set_option linter.unusedVariables false
set_option linter.unusedSimpArgs false
namespace Go.Ab
def bad (b : Bool) : Int := if b then 0 else 8
@[simp] theorem bad_zero (b : Bool) : bad b = 0 ↔ b = true := by cases b <;> simp [bad]
@[simp] theorem bad_true : bad true = 0 := id rfl
@[simp] theorem bad_false : bad false = 8 := id rfl
structure Han where
  lv : UInt8
  cats : UInt32
  num : UInt8
deriving DecidableEq
structure Idd where
  h : Han
  n : Int
deriving DecidableEq
structure Spn where
  f : Idd
  many : Int
deriving DecidableEq
def handB (h : Han) : Bool := decide (h.lv ≤ 15) && decide (h.num < 8)
def idB (i : Idd) : Bool := handB i.h && (decide (1 ≤ i.n) && decide (i.n ≤ 1099511627776))
def spanB (s : Spn) : Bool := idB s.f && (decide (1 ≤ s.many) && (decide (s.many ≤ 64) && decide (s.f.n + s.many - 1 ≤ 1099511627776)))
theorem idB_n {i : Idd} (h : idB i = true) : 1 ≤ i.n ∧ i.n ≤ 1099511627776 := by
  simp [idB] at h; exact h.2
theorem spanB_n {s : Spn} (h : spanB s = true) : 1 ≤ s.f.n ∧ 1 ≤ s.many ∧ s.many ≤ 64 ∧ s.f.n + s.many - 1 ≤ 1099511627776 := by
  simp [spanB] at h
  have := idB_n h.1
  exact ⟨this.1, h.2.1, h.2.2.1, h.2.2.2⟩
theorem spanB_id {s : Spn} (h : spanB s = true) : idB s.f = true := by
  simp [spanB] at h; exact h.1
def zeroI : Idd := ⟨⟨0, 0, 0⟩, 0⟩
def aR (n : Int) : AV := .v (.int .i32 n)
def rows (l : List Int) : List AV := l.map aR
@[simp] theorem rows_len (l : List Int) : (rows l).length = l.length := by simp [rows]
def runeB (n : Int) : Bool := decide (n = -1) || (decide (0 ≤ n) && decide (n < 55296)) || (decide (57343 < n) && decide (n ≤ 1114111))
def rowB (l : List Int) : Bool := decide (l.length ≤ 64) && l.all runeB
def rowE (l : List Int) : Int := if 64 < l.length then 4 else if l.all runeB then 0 else 8
@[simp] theorem leafT_aR (n : Int) : (aR n).cells = [aR n] := id rfl
@[simp] theorem aR_one (n : Int) : (aR n).one = true := id rfl
@[simp] theorem view_aR (g : Get) (k : Nat) (n : Int) : view g (k + 1) (aR n) = some (aR n) := id rfl
theorem rowE_zero (l : List Int) : rowE l = 0 ↔ rowB l = true := by
  unfold rowE rowB
  by_cases h : 64 < l.length
  · simp [h, Nat.not_le.2 h]
  · have h' : l.length ≤ 64 := Nat.not_lt.1 h
    rw [if_neg h]
    cases l.all runeB <;> simp [h']
end Go.Ab
