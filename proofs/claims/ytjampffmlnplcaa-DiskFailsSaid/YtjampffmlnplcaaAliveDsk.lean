/-
  The chapter's first examples are run. No statement of a seat is proved here.
-/
import Derived.Test.YtjampffmlnplcaaRows
import Derived.Test.YtjampffmlnplcaaAbsEnv
set_option linter.unusedVariables false
set_option maxRecDepth 1000000
namespace Go.Proofs.Ytjampffmlnplcaa.dskAlive
open Go.Ab
def fns : List FuncId := [54, 55, 56, 57, 58, 59, 60, 67, 99, 100, 101, 102, 103, 108, 133, 134, 135, 137, 154, 155, 156]
noncomputable def env : Env := envOf Try.prog fns [67, 101, 102, 108] []
theorem fnsFit : fnsOk env fns = true := by kernel_rfl
theorem run : pureCall env (runA env 20000) 59 [] = some (.v (.bool true)) := by kernel_rfl
theorem alive : PureOk Try.prog 59 [] (.v (.bool true)) := memo_run (env_ok (by kernel_rfl) fnsFit) run
end Go.Proofs.Ytjampffmlnplcaa.dskAlive
