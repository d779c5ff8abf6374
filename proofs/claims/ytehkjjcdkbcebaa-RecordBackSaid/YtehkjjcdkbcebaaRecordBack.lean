/-
  'Rows.RecordBackSaid' is proved: the law returns true. No conditions.
-/
import Derived.Test.YtehkjjcdkbcebaaRecBk
import Derived.Test.YtehkjjcdkbcebaaRecRep
set_option linter.unusedVariables false
set_option maxRecDepth 1000000
namespace Go.Proofs.Ytehkjjcdkbcebaa.recordBack
open Go.Ab Go.ChangeShapes Go.WideShapes Go.RowKit
theorem law (xs : List AV) (h : ShVs env.P 20 Try.f10.params.toList xs) : limf env 10 xs = some (aB true) := by
  rw [show Try.f10.params.toList = [75, 3, 3, 3, 3] from by kernel_rfl] at h
  obtain ⟨x0, xs, rfl, h0, h⟩ := shvs_cons h
  obtain ⟨x1, xs, rfl, h1, h⟩ := shvs_cons h
  obtain ⟨x2, xs, rfl, h2, h⟩ := shvs_cons h
  obtain ⟨x3, xs, rfl, h3, h⟩ := shvs_cons h
  obtain ⟨x4, xs, rfl, h4, h⟩ := shvs_cons h
  obtain rfl := shvs_nil h
  obtain ⟨k1, u1, ⟨ka, ha, sa, pa, aa, ta, la⟩, rx, c1, g1, v1, w1, o1, hx, rfl⟩ := sh_Rec h0
  obtain ⟨st, _, est⟩ := rep_i64 (P := env.P) (t := 3) (by simp) _ _ h1
  obtain rfl := (List.cons.inj est).1
  obtain ⟨nu, _, enu⟩ := rep_i64 (P := env.P) (t := 3) (by simp) _ _ h2
  obtain rfl := (List.cons.inj enu).1
  obtain ⟨ot, _, eot⟩ := rep_i64 (P := env.P) (t := 3) (by simp) _ _ h3
  obtain rfl := (List.cons.inj eot).1
  obtain ⟨kk, _, ekk⟩ := rep_i64 (P := env.P) (t := 3) (by simp) _ _ h4
  obtain rfl := (List.cons.inj ekk).1
  exact back_law ⟨k1, u1, ⟨ka, ha, sa, pa, aa, ta, la⟩, c1, g1, v1, w1, o1⟩ hx st nu ot kk
theorem lifted (os : Os) (started : os.Started) (H : Type) (enc : TypeId × Value → H) :
    ReturnsInHanded {} Try.checked os 10 .any (Rows.recordBackSpec.pre6 enc Try.prog Try.f10 Rows.recordBackRow.domain false) (Rows.recordBackSpec.post enc Try.prog Try.f10 false true false false) := by
  refine returnsInHanded_of_change (C := Try.checked) own started (by kernel_rfl) Try.func10
    (ChangeSpec.witness6 (enc := enc) (C := Try.checked) false ⟨#[], #[.agg #[.int .u8 0, .int .i64 0, .int .u8 0, .int .u8 0, .int .u32 0, .int .u8 0, .int .i64 0, .int .u8 0, .int .u32 0, .int .u8 0, .int .i64 0, .int .i64 0, .int .u8 0, .int .u32 0, .int .u8 0, .int .i64 0, .int .u8 0, .int .u32 0, .slice none 0 0, .int .i64 0, .int .i64 0, .int .u8 0, .int .u32 0, .bool false], .int .i64 0, .int .i64 0, .int .i64 0, .int .i64 0], []⟩ 8 (by kernel_rfl) (by kernel_rfl) (by kernel_rfl) (by kernel_rfl)) ?_
  intro W base args ds gs before hval hW _ _
  exact open_contract (E := env) envOk kids (slices_full_of Try.prog (by kernel_rfl)) (m := 20) (fun t ht => of_decide_eq_true (List.all_eq_true.1 (show Try.f10.params.toList.all (fun t => decide (t < Try.prog.types.size)) = true by kernel_rfl) t ht)) (by kernel_rfl) rfl
    (fun ds hd => by match ds, hd with | [_, _, _, _, _], _ => rfl) (by kernel_rfl) law W base args ds gs before hval hW
theorem over : Rows.recordBackRow.holds Try.pinned (OpenSpec.ofChange Rows.recordBackSpec) :=
  OpenClaim.holds_of_wide 10 Try.f10 rfl rfl rfl rfl rfl rfl rfl ⟨rfl, rfl, rfl, rfl, rfl⟩ rfl rfl rfl rfl rfl (by kernel_rfl) Try.func10 (by kernel_rfl)
    (of_decide_eq_true (by kernel_rfl)) (by unfold Func.isWrapper; first | (rw [if_pos (by decide +kernel)]; kernel_rfl) | (rw [if_neg (by decide +kernel)]; exact ⟨rfl, rfl⟩))
    (fun os started H enc _ => lifted os started H enc)
theorem proved : Rows.RecordBackSaid :=
  over
end Go.Proofs.Ytehkjjcdkbcebaa.recordBack
