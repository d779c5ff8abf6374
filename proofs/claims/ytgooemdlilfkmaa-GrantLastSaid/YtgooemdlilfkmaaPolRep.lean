/-
  The arguments' data: labels, clearances, quotas, policies, grants. No statement of a seat is proved here.
-/
import Derived.Test.YtgooemdlilfkmaaPolMath
import Derived.Test.YtgooemdlilfkmaaPgTy
set_option linter.unusedVariables false
set_option linter.unusedSimpArgs false
set_option maxRecDepth 1000000
namespace Go.Proofs.Ytgooemdlilfkmaa
open Go.Ab Go.ChangeShapes Go.WideShapes Go.RowKit

theorem rep_Lab : Rep env.P 24 (fun _ => True) (fun p : UInt8 × UInt32 => [a8 p.1, a32 p.2]) := by
  intro n xs h
  have h := sh_struct (P := env.P) fieldTys_24 h
  obtain ⟨m, x, r, rfl, h1, y, r', rfl, h2, rfl⟩ := h
  obtain ⟨v, _, rfl⟩ := rep_8 (P := env.P) (t := 5) (by simp) _ _ h1
  obtain ⟨w, _, rfl⟩ := rep_32 (P := env.P) (t := 22) (by simp) _ _ h2
  exact ⟨(v, w), trivial, rfl⟩
theorem rep_Cl : Rep env.P 39 (fun _ => True) Clear.enc := by
  intro n xs h
  have h := sh_struct (P := env.P) fieldTys_39 h
  obtain ⟨m, x, r, rfl, h1, y, r', rfl, h2, rfl⟩ := h
  obtain ⟨p, _, rfl⟩ := rep_Lab _ _ h1
  obtain ⟨b, _, rfl⟩ := rep_bool (P := env.P) (t := 4) (by simp) _ _ h2
  exact ⟨⟨p.1, p.2, b⟩, trivial, rfl⟩
theorem rep_Qu : Rep env.P 26 (fun _ => True) Quota.enc := by
  intro n xs h
  have h := sh_struct (P := env.P) fieldTys_26 h
  obtain ⟨m, x, r, rfl, h1, y, r', rfl, h2, z, r'', rfl, h3, w, r3, rfl, h4, rfl⟩ := h
  obtain ⟨p, _, rfl⟩ := rep_Lab _ _ h1
  obtain ⟨i, _, rfl⟩ := rep_i64 (P := env.P) (t := 3) (by simp) _ _ h2
  obtain ⟨j, _, rfl⟩ := rep_i64 (P := env.P) (t := 3) (by simp) _ _ h3
  obtain ⟨k, _, rfl⟩ := rep_i64 (P := env.P) (t := 3) (by simp) _ _ h4
  exact ⟨⟨p.1, p.2, i, j, k⟩, trivial, rfl⟩

/-- A policy's data. -/
theorem sh_Pol {n : Nat} {x : AV} (h : ShV env.P n 33 x) : ∃ (us : List Clear) (qs : List Quota) (gr : Int) (xu xq : AV), x = .agg [xu, xq, aI gr] ∧ Sl 3 (encCs us) xu ∧ Sl 5 (encQs qs) xq := by
  obtain ⟨y0, rfl, h0'⟩ := h.agg (by simp)
  have h0 := sh_struct (P := env.P) fieldTys_33 h0'
  obtain ⟨m, u, r, rfl, hu, q, r', rfl, hq, g, r'', rfl, hg, rfl⟩ := h0
  have hu := sh_slice (P := env.P) telem_30 tsize_39 tagg_39 rep_Cl hu
  obtain ⟨us, xu, _, rfl, su⟩ := hu
  have hq := sh_slice (P := env.P) telem_31 tsize_26 tagg_26 rep_Qu hq
  obtain ⟨qs, xq, _, rfl, sq⟩ := hq
  obtain ⟨gr, _, rfl⟩ := rep_i64 (P := env.P) (t := 3) (by simp) _ _ hg
  exact ⟨us, qs, gr, xu, xq, rfl, su, sq⟩
theorem sh_Lab {n : Nat} {x : AV} (h : ShV env.P n 24 x) : ∃ (a : UInt8) (b : UInt32), x = .agg [a8 a, a32 b] := by
  obtain ⟨y, rfl, h'⟩ := h.agg (by simp)
  obtain ⟨p, _, rfl⟩ := rep_Lab _ _ h'
  exact ⟨p.1, p.2, rfl⟩
theorem sh_Qu {n : Nat} {x : AV} (h : ShV env.P n 26 x) : ∃ q : Quota, x = .agg q.enc := by
  obtain ⟨y, rfl, h'⟩ := h.agg (by simp)
  obtain ⟨q, _, rfl⟩ := rep_Qu _ _ h'
  exact ⟨q, rfl⟩
theorem sh_int {n : Nat} {x : AV} (h : ShV env.P n 3 x) : ∃ i : Int, (-9223372036854775808 ≤ i ∧ i ≤ 9223372036854775807) ∧ x = aI i := by
  obtain ⟨i, hi, e⟩ := rep_i64 (P := env.P) (t := 3) (by simp) _ _ (h.cell (by simp))
  cases e
  exact ⟨i, hi, rfl⟩

theorem own : ownKnob Try.prog.godebug = none := by kernel_rfl
theorem kids : Kids Try.prog (· < Try.prog.types.size) := kids_rows (by kernel_rfl) (by kernel_rfl)
theorem envOk : env.Ok (drawOk env) := env_ok (by kernel_rfl) fnsFit
end Go.Proofs.Ytgooemdlilfkmaa
