/-
  The arguments' data: mail; and that the functions are fit. No statement of a seat is proved here.
-/
import Derived.Test.YtehkjjcdkbcebaaOmRep
import Derived.Test.YtehkjjcdkbcebaaAliveMail
import Derived.Test.YtehkjjcdkbcebaaMailKinds
set_option linter.unusedVariables false
set_option linter.unusedSimpArgs false
set_option maxRecDepth 1000000
namespace Go.Proofs.Ytehkjjcdkbcebaa
open Go.Ab Go.ChangeShapes Go.WideShapes Go.RowKit
theorem envOk : env.Ok (drawOk env) := envM_ok (memo_cons mailAlive.alive memo_nil) (by kernel_rfl) fnsFit
theorem sh_Mail {n : Nat} {x : AV} (h : ShV env.P n 60 x) : ∃ (m : Mai) (l : List (Opn × AV)) (xo : AV), (∀ p ∈ l, Sl 1 (rows p.1.l) p.2) ∧ Sl 17 (encOs l) xo ∧ x = m.val xo := by
  obtain ⟨y, rfl, h'⟩ := h.agg (by simp)
  have h := sh_struct (P := env.P) fieldTys_60 h'
  obtain ⟨m, x1, r1, rfl, h1, x2, r2, rfl, h2, x3, r3, rfl, h3, x4, r4, rfl, h4, x5, r5, rfl, h5, x6, r6, rfl, h6, x7, r7, rfl, h7, x8, r8, rfl, h8, x9, r9, rfl, h9, rfl⟩ := h
  obtain ⟨k, _, rfl⟩ := rep_8 (P := env.P) (t := 5) (by simp) _ _ h1
  obtain ⟨u, _, rfl⟩ := rep_i64 (P := env.P) (t := 3) (by simp) _ _ h2
  obtain ⟨se, _, rfl⟩ := rep_i64 (P := env.P) (t := 3) (by simp) _ _ h3
  obtain ⟨co, _, rfl⟩ := rep_i64 (P := env.P) (t := 36) (by simp) _ _ h4
  obtain ⟨fr, _, rfl⟩ := rep_i64 (P := env.P) (t := 3) (by simp) _ _ h5
  obtain ⟨to, _, rfl⟩ := rep_i64 (P := env.P) (t := 3) (by simp) _ _ h6
  obtain ⟨a, _, rfl⟩ := rep_8 (P := env.P) (t := 5) (by simp) _ _ h7
  obtain ⟨tl, ⟨htl, _⟩, rfl⟩ := rep_arr (P := env.P) (t := 57) tarr_57 (rep_i64 (P := env.P) (t := 3) (by simp)) _ _ h8
  obtain ⟨l, xo, hl, rfl, s⟩ := sh_slice (P := env.P) telem_58 tsize_33 tagg_33 rep_Opn h9
  match tl, htl with
  | [t0, t1, t2, t3], _ => exact ⟨⟨k, u, se, co, fr, to, a, t0, t1, t2, t3⟩, l, xo, hl, s, rfl⟩
end Go.Proofs.Ytehkjjcdkbcebaa
