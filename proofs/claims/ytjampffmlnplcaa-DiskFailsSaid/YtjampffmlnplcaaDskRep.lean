/-
  The arguments' data: disks; and that the functions are fit. No statement of a seat is proved here.
-/
import Derived.Test.YtjampffmlnplcaaDskFns
import Derived.Test.YtjampffmlnplcaaAliveDsk
set_option linter.unusedVariables false
set_option linter.unusedSimpArgs false
set_option maxRecDepth 1000000
namespace Go.Proofs.Ytjampffmlnplcaa
open Go.Ab Go.ChangeShapes Go.WideShapes Go.RowKit
theorem own : ownKnob Try.prog.godebug = none := by kernel_rfl
theorem kids : Kids Try.prog (· < Try.prog.types.size) := kids_rows (by kernel_rfl) (by kernel_rfl)
theorem envOk : env.Ok (drawOk env) := envX_ok (memo_cons dskAlive.alive memo_nil) (by kernel_rfl) fnsFit (fun f t h => by cases h) (fun f args H y H' h => by
  by_cases e : f = 101
  · rw [if_pos e] at h
    rw [e]
    exact ins.insOkSpec args H y H' h
  · rw [if_neg e] at h; cases h)
theorem sh_int {n : Nat} {x : AV} (h : ShV env.P n 3 x) : ∃ i : Int, (-9223372036854775808 ≤ i ∧ i ≤ 9223372036854775807) ∧ x = aI i := by
  obtain ⟨i, hi, e⟩ := rep_i64 (P := env.P) (t := 3) (by simp) _ _ (h.cell (by simp))
  cases e
  exact ⟨i, hi, rfl⟩
theorem rep_Sec : Rep env.P 146 SecOk (fun s : Sec => [aI s.pos, s.av]) := by
  intro n xs h
  have h := sh_struct (P := env.P) fieldTys_146 h
  obtain ⟨m, x, r, rfl, h1, y, r', rfl, h2, rfl⟩ := h
  obtain ⟨i, _, rfl⟩ := rep_i64 (P := env.P) (t := 3) (by simp) _ _ h1
  obtain ⟨l, z, rfl, hs⟩ := sh_bytes (P := env.P) (t := 98) (e := 5) (by simp) (by simp) (by simp) (by simp) h2
  exact ⟨⟨i, l, z⟩, hs, rfl⟩
theorem sh_Dsk {n : Nat} {x : AV} (h : ShV env.P n 93 x) : ∃ (l : List Sec) (y : AV) (st lf : Int) (dd : Bool), (∀ s ∈ l, SecOk s) ∧ Sl 2 (encS l) y ∧ x = dsk y st lf dd := by
  obtain ⟨y, rfl, h'⟩ := h.agg (by simp)
  have h := sh_struct (P := env.P) fieldTys_93 h'
  obtain ⟨m, x1, r1, rfl, h1, x2, r2, rfl, h2, x3, r3, rfl, h3, x4, r4, rfl, h4, rfl⟩ := h
  obtain ⟨l, z, hl, rfl, s⟩ := sh_slice (P := env.P) telem_91 tsize_146 tagg_146 rep_Sec h1
  obtain ⟨st, _, rfl⟩ := rep_i64 (P := env.P) (t := 3) (by simp) _ _ h2
  obtain ⟨lf, _, rfl⟩ := rep_i64 (P := env.P) (t := 3) (by simp) _ _ h3
  obtain ⟨b, _, rfl⟩ := rep_bool (P := env.P) (t := 4) (by simp) _ _ h4
  exact ⟨l, z, st, lf, b, hl, s, rfl⟩
end Go.Proofs.Ytjampffmlnplcaa
