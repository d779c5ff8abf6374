/-
  'Rows.ChainNamesSaid' is proved: the law returns true. No conditions.
-/
import Derived.Test.YtjampffmlnplcaaRows
import Derived.Test.YtjampffmlnplcaaAbsLift
set_option linter.unusedVariables false
set_option maxRecDepth 1000000
namespace Go.Proofs.Ytjampffmlnplcaa.chainNames
open Go.Ab Go.ChangeShapes Go.WideShapes Go.RowKit

def fns : List FuncId := [8, 35, 37, 38, 39, 40, 41, 42, 43, 44, 45, 46, 47, 74, 77, 78, 79, 80, 88, 89, 90, 91, 92, 93, 112, 113, 114, 115, 116, 117, 125, 126, 127, 128, 139, 140, 141, 142, 143, 144, 145, 146, 147, 148, 150, 151]
noncomputable def env : Env := envOf Try.prog fns [] [150] (strictOf []) (tabApart [])

theorem fnsFit : fnsOk env fns = true := by kernel_rfl

theorem run : pureCall env (runA env 100000) 8 [] = some (.v (.bool true)) := by kernel_rfl

theorem own : ownKnob Try.prog.godebug = none := by kernel_rfl

theorem kids : Kids Try.prog (· < Try.prog.types.size) := kids_rows (by kernel_rfl) (by kernel_rfl)

theorem lifted (os : Os) (started : os.Started) (H : Type) (enc : TypeId × Value → H) :
    ReturnsInHanded {} Try.checked os 8 .any (Rows.chainNamesSpec.pre6 enc Try.prog Try.f8 Rows.chainNamesRow.domain false) (Rows.chainNamesSpec.post enc Try.prog Try.f8 false true false false) := by
  refine returnsInHanded_of_change (C := Try.checked) own started (by kernel_rfl) Try.func8
    (ChangeSpec.witness6 (enc := enc) (C := Try.checked) false ⟨#[], #[], []⟩ 8 (by kernel_rfl) (by kernel_rfl) (by kernel_rfl) (by kernel_rfl)) ?_
  intro W base args ds gs before hval hW _ _
  exact closed_contract (E := env) (env_ok (by kernel_rfl) fnsFit) kids (slices_full_of Try.prog (by kernel_rfl)) (by kernel_rfl) rfl rfl (by kernel_rfl) run W args ds gs before hW

theorem over : Rows.chainNamesRow.holds Try.pinned (OpenSpec.ofChange Rows.chainNamesSpec) :=
  OpenClaim.holds_of_wide 8 Try.f8 rfl rfl rfl rfl rfl rfl rfl ⟨rfl, rfl, rfl, rfl, rfl⟩ rfl rfl rfl rfl rfl (by kernel_rfl) Try.func8 (by kernel_rfl)
    (of_decide_eq_true (by kernel_rfl)) (by unfold Func.isWrapper; first | (rw [if_pos (by decide +kernel)]; kernel_rfl) | (rw [if_neg (by decide +kernel)]; exact ⟨rfl, rfl⟩))
    (fun os started H enc _ => lifted os started H enc)

theorem proved : Rows.ChainNamesSaid :=
  over
end Go.Proofs.Ytjampffmlnplcaa.chainNames
