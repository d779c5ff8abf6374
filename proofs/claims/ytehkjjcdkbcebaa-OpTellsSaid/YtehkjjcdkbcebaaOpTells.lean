/-
  'Rows.OpTellsSaid' is proved: the law returns true. No conditions.
-/
import Derived.Test.YtehkjjcdkbcebaaOpTells0
import Derived.Test.YtehkjjcdkbcebaaOmOk
set_option linter.unusedVariables false
set_option maxRecDepth 1000000
namespace Go.Proofs.Ytehkjjcdkbcebaa.opTells
open Go.Ab Go.ChangeShapes Go.WideShapes Go.RowKit

theorem law (xs : List AV) (h : ShVs env.P 20 Try.f6.params.toList xs) : limf env 6 xs = some (aB true) := by
  rw [show Try.f6.params.toList = [33, 33, 34, 5, 3] from by kernel_rfl] at h
  obtain ⟨x0, xs, rfl, h0, h⟩ := shvs_cons h
  obtain ⟨x1, xs, rfl, h1, h⟩ := shvs_cons h
  obtain ⟨x2, xs, rfl, h2, h⟩ := shvs_cons h
  obtain ⟨x3, xs, rfl, h3, h⟩ := shvs_cons h
  obtain ⟨x4, xs, rfl, h4, h⟩ := shvs_cons h
  obtain rfl := shvs_nil h
  obtain ⟨⟨⟨ka, ha, sa, pa, aa, ta, la⟩, rx⟩, hx, rfl⟩ := sh_OpR h0
  obtain ⟨⟨⟨kb, hb, sb, pb, ab, tb, lb⟩, ry⟩, hy, rfl⟩ := sh_Op h1
  obtain ⟨b, hbb⟩ := sh_Bytes h2
  obtain ⟨kd, rfl⟩ := sh_u8 h3
  obtain ⟨mn, hmn, rfl⟩ := sh_int h4
  exact tells_law _ _ _ _ _ _ _ _ _ _ _ _ _ _ _ _ _ _ _ _ _ _ _ _ _ _ _ _ _ _ _ _ kd mn hx.1 hx.2 hy hbb

theorem lifted (os : Os) (started : os.Started) (H : Type) (enc : TypeId × Value → H) :
    ReturnsInHanded {} Try.checked os 6 .any (Rows.opTellsSpec.pre6 enc Try.prog Try.f6 Rows.opTellsRow.domain false) (Rows.opTellsSpec.post enc Try.prog Try.f6 false true false false) := by
  refine returnsInHanded_of_change (C := Try.checked) own started (by kernel_rfl) Try.func6
    (ChangeSpec.witness6 (enc := enc) (C := Try.checked) false ⟨#[], #[.agg #[.int .u8 0, .int .u8 0, .int .u32 0, .int .u8 0, .int .i64 0, .int .u8 0, .int .u32 0, .int .u8 0, .int .i64 0, .int .i64 0, .int .u8 0, .int .u32 0, .int .u8 0, .int .i64 0, .int .u8 0, .int .u32 0, .slice none 0 0], .agg #[.int .u8 0, .int .u8 0, .int .u32 0, .int .u8 0, .int .i64 0, .int .u8 0, .int .u32 0, .int .u8 0, .int .i64 0, .int .i64 0, .int .u8 0, .int .u32 0, .int .u8 0, .int .i64 0, .int .u8 0, .int .u32 0, .slice none 0 0], .slice none 0 0, .int .u8 0, .int .i64 0], []⟩ 8 (by kernel_rfl) (by kernel_rfl) (by kernel_rfl) (by kernel_rfl)) ?_
  intro W base args ds gs before hval hW _ _
  exact open_contract (E := env) envOk kids (slices_full_of Try.prog (by kernel_rfl)) (m := 20) (fun t ht => of_decide_eq_true (List.all_eq_true.1 (show Try.f6.params.toList.all (fun t => decide (t < Try.prog.types.size)) = true by kernel_rfl) t ht)) (by kernel_rfl) rfl
    (fun ds hd => by match ds, hd with | [_, _, _, _, _], _ => rfl) (by kernel_rfl) law W base args ds gs before hval hW

theorem over : Rows.opTellsRow.holds Try.pinned (OpenSpec.ofChange Rows.opTellsSpec) :=
  OpenClaim.holds_of_wide 6 Try.f6 rfl rfl rfl rfl rfl rfl rfl ⟨rfl, rfl, rfl, rfl, rfl⟩ rfl rfl rfl rfl rfl (by kernel_rfl) Try.func6 (by kernel_rfl)
    (of_decide_eq_true (by kernel_rfl)) (by unfold Func.isWrapper; first | (rw [if_pos (by decide +kernel)]; kernel_rfl) | (rw [if_neg (by decide +kernel)]; exact ⟨rfl, rfl⟩))
    (fun os started H enc _ => lifted os started H enc)

theorem proved : Rows.OpTellsSaid :=
  over
end Go.Proofs.Ytehkjjcdkbcebaa.opTells
