/-
  'Rows.RecordLongSaid' is proved: the law returns true. No conditions.
-/
import Derived.Test.YtehkjjcdkbcebaaRecLaw
import Derived.Test.YtehkjjcdkbcebaaRecRep
set_option linter.unusedVariables false
set_option maxRecDepth 1000000
namespace Go.Proofs.Ytehkjjcdkbcebaa.recordLong
open Go.Ab Go.ChangeShapes Go.WideShapes Go.RowKit

theorem law (xs : List AV) (h : ShVs env.P 20 Try.f11.params.toList xs) : limf env 11 xs = some (aB true) := by
  rw [show Try.f11.params.toList = [75, 75] from by kernel_rfl] at h
  obtain ⟨x0, xs, rfl, h0, h⟩ := shvs_cons h
  obtain ⟨x1, xs, rfl, h1, h⟩ := shvs_cons h
  obtain rfl := shvs_nil h
  obtain ⟨k1, u1, ⟨ka, ha, sa, pa, aa, ta, la⟩, rx, c1, g1, v1, w1, o1, hx, rfl⟩ := sh_Rec h0
  obtain ⟨k2, u2, ⟨kb, hb, sb, pb, ab, tb, lb⟩, ry, c2, g2, v2, w2, o2, hy, rfl⟩ := sh_Rec h1
  exact long_law _ _ _ _ _ _ _ _ _ _ _ _ _ _ _ _ _ _ _ _ _ _ _ _ _ _ _ _ _ _ _ _ _ _ _ _ _ _ _ _ _ _ _ _ _ _ hx hy

theorem lifted (os : Os) (started : os.Started) (H : Type) (enc : TypeId × Value → H) :
    ReturnsInHanded {} Try.checked os 11 .any (Rows.recordLongSpec.pre6 enc Try.prog Try.f11 Rows.recordLongRow.domain false) (Rows.recordLongSpec.post enc Try.prog Try.f11 false true false false) := by
  refine returnsInHanded_of_change (C := Try.checked) own started (by kernel_rfl) Try.func11
    (ChangeSpec.witness6 (enc := enc) (C := Try.checked) false ⟨#[], #[.agg #[.int .u8 0, .int .i64 0, .int .u8 0, .int .u8 0, .int .u32 0, .int .u8 0, .int .i64 0, .int .u8 0, .int .u32 0, .int .u8 0, .int .i64 0, .int .i64 0, .int .u8 0, .int .u32 0, .int .u8 0, .int .i64 0, .int .u8 0, .int .u32 0, .slice none 0 0, .int .i64 0, .int .i64 0, .int .u8 0, .int .u32 0, .bool false], .agg #[.int .u8 0, .int .i64 0, .int .u8 0, .int .u8 0, .int .u32 0, .int .u8 0, .int .i64 0, .int .u8 0, .int .u32 0, .int .u8 0, .int .i64 0, .int .i64 0, .int .u8 0, .int .u32 0, .int .u8 0, .int .i64 0, .int .u8 0, .int .u32 0, .slice none 0 0, .int .i64 0, .int .i64 0, .int .u8 0, .int .u32 0, .bool false]], []⟩ 8 (by kernel_rfl) (by kernel_rfl) (by kernel_rfl) (by kernel_rfl)) ?_
  intro W base args ds gs before hval hW _ _
  exact open_contract (E := env) envOk kids (slices_full_of Try.prog (by kernel_rfl)) (m := 20) (fun t ht => of_decide_eq_true (List.all_eq_true.1 (show Try.f11.params.toList.all (fun t => decide (t < Try.prog.types.size)) = true by kernel_rfl) t ht)) (by kernel_rfl) rfl
    (fun ds hd => by match ds, hd with | [_, _], _ => rfl) (by kernel_rfl) law W base args ds gs before hval hW

theorem over : Rows.recordLongRow.holds Try.pinned (OpenSpec.ofChange Rows.recordLongSpec) :=
  OpenClaim.holds_of_wide 11 Try.f11 rfl rfl rfl rfl rfl rfl rfl ⟨rfl, rfl, rfl, rfl, rfl⟩ rfl rfl rfl rfl rfl (by kernel_rfl) Try.func11 (by kernel_rfl)
    (of_decide_eq_true (by kernel_rfl)) (by unfold Func.isWrapper; first | (rw [if_pos (by decide +kernel)]; kernel_rfl) | (rw [if_neg (by decide +kernel)]; exact ⟨rfl, rfl⟩))
    (fun os started H enc _ => lifted os started H enc)

theorem proved : Rows.RecordLongSaid :=
  over
end Go.Proofs.Ytehkjjcdkbcebaa.recordLong
