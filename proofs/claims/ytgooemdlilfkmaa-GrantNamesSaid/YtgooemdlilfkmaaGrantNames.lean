/-
  'Rows.GrantNamesSaid' is proved: the law returns true. No conditions.
-/
import Derived.Test.YtgooemdlilfkmaaRows
import Derived.Test.YtgooemdlilfkmaaAbsLift
set_option linter.unusedVariables false
set_option maxRecDepth 1000000
namespace Go.Proofs.Ytgooemdlilfkmaa.grantNames
open Go.Ab Go.ChangeShapes Go.WideShapes Go.RowKit

def fns : List FuncId := [11, 15, 17, 19, 21, 26, 30, 32, 34, 36, 38, 40, 41, 42, 43, 44, 48, 49, 50, 51, 52, 58, 59, 62, 65, 66, 68, 71, 76, 77, 79, 80, 82, 84]
noncomputable def env : Env := envOf Try.prog fns [26, 34, 41, 58, 59, 66] [] (strictOf [(19, 13, 18)]) (tabApart [(14, 5, 3, [(15, 2)])])

theorem fnsFit : fnsOk env fns = true := by kernel_rfl

theorem run : pureCall env (runA env 100000) 11 [] = some (.v (.bool true)) := by kernel_rfl

theorem own : ownKnob Try.prog.godebug = none := by kernel_rfl

theorem kids : Kids Try.prog (· < Try.prog.types.size) := kids_rows (by kernel_rfl) (by kernel_rfl)

theorem lifted (os : Os) (started : os.Started) (H : Type) (enc : TypeId × Value → H) :
    ReturnsInHanded {} Try.checked os 11 .any (Rows.grantNamesSpec.pre6 enc Try.prog Try.f11 Rows.grantNamesRow.domain false) (Rows.grantNamesSpec.post enc Try.prog Try.f11 false true false false) := by
  refine returnsInHanded_of_change (C := Try.checked) own started (by kernel_rfl) Try.func11
    (ChangeSpec.witness6 (enc := enc) (C := Try.checked) false ⟨#[], #[], []⟩ 8 (by kernel_rfl) (by kernel_rfl) (by kernel_rfl) (by kernel_rfl)) ?_
  intro W base args ds gs before hval hW _ _
  exact closed_contract (E := env) (env_ok (by kernel_rfl) fnsFit) kids (slices_full_of Try.prog (by kernel_rfl)) (by kernel_rfl) rfl rfl (by kernel_rfl) run W args ds gs before hW

theorem over : Rows.grantNamesRow.holds Try.pinned (OpenSpec.ofChange Rows.grantNamesSpec) :=
  OpenClaim.holds_of_wide 11 Try.f11 rfl rfl rfl rfl rfl rfl rfl ⟨rfl, rfl, rfl, rfl, rfl⟩ rfl rfl rfl rfl rfl (by kernel_rfl) Try.func11 (by kernel_rfl)
    (of_decide_eq_true (by kernel_rfl)) (by unfold Func.isWrapper; first | (rw [if_pos (by decide +kernel)]; kernel_rfl) | (rw [if_neg (by decide +kernel)]; exact ⟨rfl, rfl⟩))
    (fun os started H enc _ => lifted os started H enc)

theorem proved : Rows.GrantNamesSaid :=
  over
end Go.Proofs.Ytgooemdlilfkmaa.grantNames
