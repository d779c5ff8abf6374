/-
  'Rows.RunNamesSaid' is proved: the law returns true. No conditions.
-/
import Derived.Test.YtjampffmlnplcaaRows
import Derived.Test.YtjampffmlnplcaaAbsLift
set_option linter.unusedVariables false
set_option maxRecDepth 1000000
namespace Go.Proofs.Ytjampffmlnplcaa.runNames
open Go.Ab Go.ChangeShapes Go.WideShapes Go.RowKit

def fns : List FuncId := [5, 15, 16, 17, 18, 19, 20, 21, 22, 23, 30, 72, 73, 74, 75, 76, 77, 78, 79, 80, 81, 87, 92, 112, 113, 114, 115, 116, 117, 125, 139, 140, 141, 142, 143, 144, 145, 146, 147, 148]
noncomputable def env : Env := envOf Try.prog fns [81] [] (strictOf []) (tabApart [(15, 6, 6, [(5, 4)]), (28, 6, 6, [(5, 4)]), (22, 6, 6, [(5, 4)]), (25, 13, 6, [(7, 4), (30, 4)]), (13, 7, 7, [(5, 4)]), (25, 7, 7, [(5, 4)]), (40, 12, 7, [(5, 4), (42, 4), (43, 4), (45, 4), (42, 5), (43, 5), (45, 5)])])

theorem fnsFit : fnsOk env fns = true := by kernel_rfl

theorem run : pureCall env (runA env 100000) 5 [] = some (.v (.bool true)) := by kernel_rfl

theorem own : ownKnob Try.prog.godebug = none := by kernel_rfl

theorem kids : Kids Try.prog (· < Try.prog.types.size) := kids_rows (by kernel_rfl) (by kernel_rfl)

theorem lifted (os : Os) (started : os.Started) (H : Type) (enc : TypeId × Value → H) :
    ReturnsInHanded {} Try.checked os 5 .any (Rows.runNamesSpec.pre6 enc Try.prog Try.f5 Rows.runNamesRow.domain false) (Rows.runNamesSpec.post enc Try.prog Try.f5 false true false false) := by
  refine returnsInHanded_of_change (C := Try.checked) own started (by kernel_rfl) Try.func5
    (ChangeSpec.witness6 (enc := enc) (C := Try.checked) false ⟨#[], #[], []⟩ 8 (by kernel_rfl) (by kernel_rfl) (by kernel_rfl) (by kernel_rfl)) ?_
  intro W base args ds gs before hval hW _ _
  exact closed_contract (E := env) (env_ok (by kernel_rfl) fnsFit) kids (slices_full_of Try.prog (by kernel_rfl)) (by kernel_rfl) rfl rfl (by kernel_rfl) run W args ds gs before hW

theorem over : Rows.runNamesRow.holds Try.pinned (OpenSpec.ofChange Rows.runNamesSpec) :=
  OpenClaim.holds_of_wide 5 Try.f5 rfl rfl rfl rfl rfl rfl rfl ⟨rfl, rfl, rfl, rfl, rfl⟩ rfl rfl rfl rfl rfl (by kernel_rfl) Try.func5 (by kernel_rfl)
    (of_decide_eq_true (by kernel_rfl)) (by unfold Func.isWrapper; first | (rw [if_pos (by decide +kernel)]; kernel_rfl) | (rw [if_neg (by decide +kernel)]; exact ⟨rfl, rfl⟩))
    (fun os started H enc _ => lifted os started H enc)

theorem proved : Rows.RunNamesSaid :=
  over
end Go.Proofs.Ytjampffmlnplcaa.runNames
