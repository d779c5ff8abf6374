/-
  The arguments' data: labels, handles, ids, spans, rows. No statement of a seat is proved here.
-/
import Derived.Test.YtjampffmlnplcaaRcTy
import Derived.Test.YtjampffmlnplcaaIdMath
set_option linter.unusedVariables false
set_option linter.unusedSimpArgs false
set_option maxRecDepth 1000000
namespace Go.Ab
def Han.enc (h : Han) : List AV := [a8 h.lv, a32 h.cats, a8 h.num]
def Idd.enc (i : Idd) : List AV := [a8 i.h.lv, a32 i.h.cats, a8 i.h.num, aI i.n]
def Spn.enc (s : Spn) : List AV := [a8 s.f.h.lv, a32 s.f.h.cats, a8 s.f.h.num, aI s.f.n, aI s.many]
end Go.Ab
namespace Go.Proofs.Ytjampffmlnplcaa
open Go.Ab Go.ChangeShapes Go.WideShapes Go.RowKit

theorem rep_Lab : Rep env.P 24 (fun _ => True) (fun p : UInt8 × UInt32 => [a8 p.1, a32 p.2]) := by
  intro n xs h
  have h := sh_struct (P := env.P) fieldTys_24 h
  obtain ⟨m, x, r, rfl, h1, y, r', rfl, h2, rfl⟩ := h
  obtain ⟨v, _, rfl⟩ := rep_8 (P := env.P) (t := 5) (by simp) _ _ h1
  obtain ⟨w, _, rfl⟩ := rep_32 (P := env.P) (t := 22) (by simp) _ _ h2
  exact ⟨(v, w), trivial, rfl⟩
theorem rep_Han : Rep env.P 26 (fun _ => True) Han.enc := by
  intro n xs h
  have h := sh_struct (P := env.P) fieldTys_26 h
  obtain ⟨m, x, r, rfl, h1, y, r', rfl, h2, rfl⟩ := h
  obtain ⟨p, _, rfl⟩ := rep_Lab _ _ h1
  obtain ⟨w, _, rfl⟩ := rep_8 (P := env.P) (t := 5) (by simp) _ _ h2
  exact ⟨⟨p.1, p.2, w⟩, trivial, rfl⟩
theorem rep_Idd : Rep env.P 28 (fun _ => True) Idd.enc := by
  intro n xs h
  have h := sh_struct (P := env.P) fieldTys_28 h
  obtain ⟨m, x, r, rfl, h1, y, r', rfl, h2, rfl⟩ := h
  obtain ⟨p, _, rfl⟩ := rep_Han _ _ h1
  obtain ⟨i, _, rfl⟩ := rep_i64 (P := env.P) (t := 3) (by simp) _ _ h2
  exact ⟨⟨p, i⟩, trivial, rfl⟩
theorem rep_Spn : Rep env.P 30 (fun _ => True) Spn.enc := by
  intro n xs h
  have h := sh_struct (P := env.P) fieldTys_30 h
  obtain ⟨m, x, r, rfl, h1, y, r', rfl, h2, rfl⟩ := h
  obtain ⟨p, _, rfl⟩ := rep_Idd _ _ h1
  obtain ⟨i, _, rfl⟩ := rep_i64 (P := env.P) (t := 3) (by simp) _ _ h2
  exact ⟨⟨p, i⟩, trivial, rfl⟩
theorem shc_Rows {n : Nat} {xs : List AV} (h : ShC env.P n 31 xs) : ∃ (l : List Int) (x : AV), (∀ a ∈ l, -2147483648 ≤ a ∧ a ≤ 2147483647) ∧ xs = [x] ∧ Sl 1 (rows l) x := by
  obtain ⟨l, x, hl, rfl, s⟩ := sh_slice (P := env.P) telem_31 tsize_21 tagg_21 (rep_i32 (by simp)) h
  exact ⟨l, x, hl, rfl, s⟩
theorem sh_int {n : Nat} {x : AV} (h : ShV env.P n 3 x) : ∃ i : Int, (-9223372036854775808 ≤ i ∧ i ≤ 9223372036854775807) ∧ x = aI i := by
  obtain ⟨i, hi, e⟩ := rep_i64 (P := env.P) (t := 3) (by simp) _ _ (h.cell (by simp))
  cases e
  exact ⟨i, hi, rfl⟩
/-- A run. -/
theorem sh_Rn {n : Nat} {x : AV} (h : ShV env.P n 33 x) : ∃ (s : Spn) (a : Idd) (l : List Int) (y : AV), (∀ a ∈ l, -2147483648 ≤ a ∧ a ≤ 2147483647) ∧ Sl 1 (rows l) y ∧ x = .agg (s.enc ++ (a.enc ++ [y])) := by
  obtain ⟨y0, rfl, h0'⟩ := h.agg (by simp)
  have h0 := sh_struct (P := env.P) fieldTys_33 h0'
  obtain ⟨m, u, r, rfl, hu, q, r', rfl, hq, g, r'', rfl, hg, rfl⟩ := h0
  obtain ⟨s, _, rfl⟩ := rep_Spn _ _ hu
  obtain ⟨a, _, rfl⟩ := rep_Idd _ _ hq
  obtain ⟨l, y, hl, rfl, sl⟩ := shc_Rows hg
  exact ⟨s, a, l, y, hl, sl, rfl⟩

theorem own : ownKnob Try.prog.godebug = none := by kernel_rfl
theorem kids : Kids Try.prog (· < Try.prog.types.size) := kids_rows (by kernel_rfl) (by kernel_rfl)
theorem envOk : env.Ok (drawOk env) := env_ok (by kernel_rfl) fnsFit
end Go.Proofs.Ytjampffmlnplcaa
