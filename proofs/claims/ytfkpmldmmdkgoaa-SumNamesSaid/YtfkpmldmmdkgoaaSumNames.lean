/-
  'Rows.SumNamesSaid' is proved: the law returns true. No conditions.
-/
import Derived.Test.YtfkpmldmmdkgoaaRows
import Derived.Test.YtfkpmldmmdkgoaaAbsLift
set_option linter.unusedVariables false
set_option maxRecDepth 1000000
namespace Go.Proofs.Ytfkpmldmmdkgoaa.sumNames
open Go.Ab Go.ChangeShapes Go.WideShapes Go.RowKit

def fns : List FuncId := [5, 8, 9, 10, 11, 15]
noncomputable def env : Env := envOf Try.prog fns [] []

theorem fnsFit : fnsOk env fns = true := by kernel_rfl

theorem run : pureCall env (runA env 20000) 5 [] = some (.v (.bool true)) := by kernel_rfl

theorem own : ownKnob Try.prog.godebug = none := by kernel_rfl

theorem kids : Kids Try.prog (· < Try.prog.types.size) := kids_rows (by kernel_rfl) (by kernel_rfl)

theorem lifted (os : Os) (started : os.Started) (H : Type) (enc : TypeId × Value → H) :
    ReturnsInHanded {} Try.checked os 5 .any (Rows.sumNamesSpec.pre6 enc Try.prog Try.f5 Rows.sumNamesRow.domain false) (Rows.sumNamesSpec.post enc Try.prog Try.f5 false true false false) := by
  refine returnsInHanded_of_change (C := Try.checked) own started (by kernel_rfl) Try.func5
    (ChangeSpec.witness6 (enc := enc) (C := Try.checked) false ⟨#[], #[], []⟩ 8 (by kernel_rfl) (by kernel_rfl) (by kernel_rfl) (by kernel_rfl)) ?_
  intro W base args ds gs before hval hW _ _
  exact closed_contract (E := env) (env_ok (by kernel_rfl) fnsFit) kids (slices_full_of Try.prog (by kernel_rfl)) (by kernel_rfl) rfl rfl (by kernel_rfl) run W args ds gs before hW

theorem over : Rows.sumNamesRow.holds Try.pinned (OpenSpec.ofChange Rows.sumNamesSpec) :=
  OpenClaim.holds_of_wide 5 Try.f5 rfl rfl rfl rfl rfl rfl rfl ⟨rfl, rfl, rfl, rfl, rfl⟩ rfl rfl rfl rfl rfl (by kernel_rfl) Try.func5 (by kernel_rfl)
    (of_decide_eq_true (by kernel_rfl)) (by unfold Func.isWrapper; first | (rw [if_pos (by decide +kernel)]; kernel_rfl) | (rw [if_neg (by decide +kernel)]; exact ⟨rfl, rfl⟩))
    (fun os started H enc _ => lifted os started H enc)

theorem proved : Rows.SumNamesSaid :=
  over
end Go.Proofs.Ytfkpmldmmdkgoaa.sumNames
