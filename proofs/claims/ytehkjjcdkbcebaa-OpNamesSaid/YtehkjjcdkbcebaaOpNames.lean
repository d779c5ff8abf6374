/-
  'Rows.OpNamesSaid' is proved: the law returns true. No conditions.
-/
import Derived.Test.YtehkjjcdkbcebaaRows
import Derived.Test.YtehkjjcdkbcebaaAbsLift
set_option linter.unusedVariables false
set_option maxRecDepth 1000000
namespace Go.Proofs.Ytehkjjcdkbcebaa.opNames
open Go.Ab Go.ChangeShapes Go.WideShapes Go.RowKit

def fns : List FuncId := [5, 13, 14, 15, 17, 18, 19, 20, 21, 22, 51, 52, 53, 54, 55, 56, 57, 58, 59, 61, 62, 63, 64, 76, 80, 83, 84, 85, 86, 87, 88, 89, 90, 91, 92, 93, 94, 95, 96, 97, 98, 99, 100, 128, 130, 131, 132, 133, 136]
noncomputable def env : Env := envOf Try.prog fns [14, 51, 52, 53, 59, 85] [55, 56, 128] (strictOf [(19, 13, 18), (16, 1, 77777)]) (tabApart [(35, 21, 0, [(36, 52), (37, 52), (38, 52), (41, 52), (42, 52), (43, 52), (47, 52), (48, 52), (49, 52)]), (145, 8, 4, [(148, 2)]), (14, 5, 3, [(15, 2)]), (7, 6, 0, [(3, 5)]), (49, 9, 0, [(6, 50), (6, 54)]), (13, 5, 4, [(3, 2)]), (67, 5, 4, [(3, 2)]), (15, 12, 0, [(20, 23)]), (52, 10, 0, [(56, 58)])]) (tabFrz [(19, 13, 18), (16, 1, 77777)])

theorem fnsFit : fnsOk env fns = true := by kernel_rfl

theorem run : pureCall env (runA env 100000) 5 [] = some (.v (.bool true)) := by kernel_rfl

theorem own : ownKnob Try.prog.godebug = none := by kernel_rfl

theorem kids : Kids Try.prog (· < Try.prog.types.size) := kids_rows (by kernel_rfl) (by kernel_rfl)

theorem lifted (os : Os) (started : os.Started) (H : Type) (enc : TypeId × Value → H) :
    ReturnsInHanded {} Try.checked os 5 .any (Rows.opNamesSpec.pre6 enc Try.prog Try.f5 Rows.opNamesRow.domain false) (Rows.opNamesSpec.post enc Try.prog Try.f5 false true false false) := by
  refine returnsInHanded_of_change (C := Try.checked) own started (by kernel_rfl) Try.func5
    (ChangeSpec.witness6 (enc := enc) (C := Try.checked) false ⟨#[], #[], []⟩ 8 (by kernel_rfl) (by kernel_rfl) (by kernel_rfl) (by kernel_rfl)) ?_
  intro W base args ds gs before hval hW _ _
  exact closed_contract (E := env) (env_ok (by kernel_rfl) fnsFit) kids (slices_full_of Try.prog (by kernel_rfl)) (by kernel_rfl) rfl rfl (by kernel_rfl) run W args ds gs before hW

theorem over : Rows.opNamesRow.holds Try.pinned (OpenSpec.ofChange Rows.opNamesSpec) :=
  OpenClaim.holds_of_wide 5 Try.f5 rfl rfl rfl rfl rfl rfl rfl ⟨rfl, rfl, rfl, rfl, rfl⟩ rfl rfl rfl rfl rfl (by kernel_rfl) Try.func5 (by kernel_rfl)
    (of_decide_eq_true (by kernel_rfl)) (by unfold Func.isWrapper; first | (rw [if_pos (by decide +kernel)]; kernel_rfl) | (rw [if_neg (by decide +kernel)]; exact ⟨rfl, rfl⟩))
    (fun os started H enc _ => lifted os started H enc)

theorem proved : Rows.OpNamesSaid :=
  over
end Go.Proofs.Ytehkjjcdkbcebaa.opNames
