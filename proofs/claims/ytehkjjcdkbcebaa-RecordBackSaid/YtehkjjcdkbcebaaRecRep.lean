/-
  The arguments' data: records; and that the functions are fit. No statement of a seat is proved here.
-/
import Derived.Test.YtehkjjcdkbcebaaOmRep
import Derived.Test.YtehkjjcdkbcebaaAliveRec
import Derived.Test.YtehkjjcdkbcebaaRecFns
set_option linter.unusedVariables false
set_option linter.unusedSimpArgs false
set_option maxRecDepth 1000000
namespace Go.Proofs.Ytehkjjcdkbcebaa
open Go.Ab Go.ChangeShapes Go.WideShapes Go.RowKit
theorem envOk : env.Ok (drawOk env) := envM_ok (memo_cons recAlive.alive memo_nil) (by kernel_rfl) fnsFit
theorem rep_Clr : Rep env.P 71 (fun _ => True) (fun p : UInt8 × UInt32 × Bool => [a8 p.1, a32 p.2.1, aB p.2.2]) := by
  intro n xs h
  have h := sh_struct (P := env.P) fieldTys_71 h
  obtain ⟨m, x, r, rfl, h1, y, r', rfl, h2, rfl⟩ := h
  obtain ⟨q, _, rfl⟩ := rep_Lab _ _ h1
  obtain ⟨b, _, rfl⟩ := rep_bool (P := env.P) (t := 4) (by simp) _ _ h2
  exact ⟨(q.1, q.2, b), trivial, rfl⟩
theorem sh_Rec {n : Nat} {x : AV} (h : ShV env.P n 75 x) : ∃ (k : UInt8) (u : Int) (o : Opn) (rx : AV) (c g : Int) (v : UInt8) (w : UInt32) (ok : Bool), Sl 1 (rows o.l) rx ∧ x = .agg ([a8 k, aI u] ++ (encOc (o, rx) ++ [aI c, aI g, a8 v, a32 w, aB ok])) := by
  obtain ⟨y, rfl, h'⟩ := h.agg (by simp)
  have h := sh_struct (P := env.P) fieldTys_75 h'
  obtain ⟨m, x1, r1, rfl, h1, x2, r2, rfl, h2, x3, r3, rfl, h3, x4, r4, rfl, h4, x5, r5, rfl, h5, rfl⟩ := h
  obtain ⟨k, _, rfl⟩ := rep_8 (P := env.P) (t := 5) (by simp) _ _ h1
  obtain ⟨u, _, rfl⟩ := rep_i64 (P := env.P) (t := 3) (by simp) _ _ h2
  obtain ⟨q, hq, rfl⟩ := rep_Opn _ _ h3
  obtain ⟨c, _, rfl⟩ := rep_i64 (P := env.P) (t := 36) (by simp) _ _ h4
  have h6 := sh_struct (P := env.P) fieldTys_73 h5
  obtain ⟨m, y1, s1, rfl, i1, y2, s2, rfl, i2, rfl⟩ := h6
  obtain ⟨g, _, rfl⟩ := rep_i64 (P := env.P) (t := 3) (by simp) _ _ i1
  obtain ⟨z, _, rfl⟩ := rep_Clr _ _ i2
  exact ⟨k, u, q.1, q.2, c, g, z.1, z.2.1, z.2.2, hq, rfl⟩
end Go.Proofs.Ytehkjjcdkbcebaa
