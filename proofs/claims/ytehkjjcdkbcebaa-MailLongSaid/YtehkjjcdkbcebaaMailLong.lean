/-
  'Rows.MailLongSaid' is proved: the law returns true. No conditions.
-/
import Derived.Test.YtehkjjcdkbcebaaMailLaw9
import Derived.Test.YtehkjjcdkbcebaaMailRep
set_option linter.unusedVariables false
set_option maxRecDepth 1000000
namespace Go.Proofs.Ytehkjjcdkbcebaa.mailLong
open Go.Ab Go.ChangeShapes Go.WideShapes Go.RowKit
theorem law (xs : List AV) (h : ShVs env.P 20 Try.f9.params.toList xs) : limf env 9 xs = some (aB true) := by
  rw [show Try.f9.params.toList = [60, 60] from by kernel_rfl] at h
  obtain ⟨x0, xs, rfl, h0, h⟩ := shvs_cons h
  obtain ⟨x1, xs, rfl, h1, h⟩ := shvs_cons h
  obtain rfl := shvs_nil h
  obtain ⟨m, l, xo, ha, hx, rfl⟩ := sh_Mail h0
  obtain ⟨m2, l2, xo2, ha2, hx2, rfl⟩ := sh_Mail h1
  exact long_law9 m m2 hx ha hx2 ha2
theorem lifted (os : Os) (started : os.Started) (H : Type) (enc : TypeId × Value → H) :
    ReturnsInHanded {} Try.checked os 9 .any (Rows.mailLongSpec.pre6 enc Try.prog Try.f9 Rows.mailLongRow.domain false) (Rows.mailLongSpec.post enc Try.prog Try.f9 false true false false) := by
  refine returnsInHanded_of_change (C := Try.checked) own started (by kernel_rfl) Try.func9
    (ChangeSpec.witness6 (enc := enc) (C := Try.checked) false ⟨#[], #[.agg #[.int .u8 0, .int .i64 0, .int .i64 0, .int .i64 0, .int .i64 0, .int .i64 0, .int .u8 0, .int .i64 0, .int .i64 0, .int .i64 0, .int .i64 0, .slice none 0 0], .agg #[.int .u8 0, .int .i64 0, .int .i64 0, .int .i64 0, .int .i64 0, .int .i64 0, .int .u8 0, .int .i64 0, .int .i64 0, .int .i64 0, .int .i64 0, .slice none 0 0]], []⟩ 8 (by kernel_rfl) (by kernel_rfl) (by kernel_rfl) (by kernel_rfl)) ?_
  intro W base args ds gs before hval hW _ _
  exact open_contract (E := env) envOk kids (slices_full_of Try.prog (by kernel_rfl)) (m := 20) (fun t ht => of_decide_eq_true (List.all_eq_true.1 (show Try.f9.params.toList.all (fun t => decide (t < Try.prog.types.size)) = true by kernel_rfl) t ht)) (by kernel_rfl) rfl
    (fun ds hd => by match ds, hd with | [_, _], _ => rfl) (by kernel_rfl) law W base args ds gs before hval hW
theorem over : Rows.mailLongRow.holds Try.pinned (OpenSpec.ofChange Rows.mailLongSpec) :=
  OpenClaim.holds_of_wide 9 Try.f9 rfl rfl rfl rfl rfl rfl rfl ⟨rfl, rfl, rfl, rfl, rfl⟩ rfl rfl rfl rfl rfl (by kernel_rfl) Try.func9 (by kernel_rfl)
    (of_decide_eq_true (by kernel_rfl)) (by unfold Func.isWrapper; first | (rw [if_pos (by decide +kernel)]; kernel_rfl) | (rw [if_neg (by decide +kernel)]; exact ⟨rfl, rfl⟩))
    (fun os started H enc _ => lifted os started H enc)
theorem proved : Rows.MailLongSaid :=
  over
end Go.Proofs.Ytehkjjcdkbcebaa.mailLong
