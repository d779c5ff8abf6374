/-
  The chapter's first examples are run. No statement of a seat is proved here.
-/
import Derived.Test.YtehkjjcdkbcebaaRows
import Derived.Test.YtehkjjcdkbcebaaAbsEnv
set_option linter.unusedVariables false
set_option maxRecDepth 1000000
namespace Go.Proofs.Ytehkjjcdkbcebaa.mailAlive
open Go.Ab Go.ChangeShapes Go.WideShapes Go.RowKit
def fns : List FuncId := [8, 14, 15, 16, 21, 22, 30, 31, 33, 34, 35, 36, 37, 38, 39, 51, 52, 53, 54, 55, 56, 57, 58, 59, 60, 61, 62, 63, 64, 71, 72, 73, 76, 80, 83, 84, 85, 86, 87, 88, 89, 90, 91, 92, 93, 94, 95, 96, 97, 98, 99, 100, 111, 112, 113, 114, 115, 116, 117, 118, 119, 120, 121, 122, 123, 124, 125, 126, 128, 130, 131, 132, 133, 136]
noncomputable def env : Env := envOf Try.prog fns [14, 33, 51, 52, 53, 59, 72, 85] [55, 56, 113, 114, 115, 116, 118, 119, 120, 121, 122, 124, 125, 128] (strictOf [(19, 13, 18), (16, 1, 77777), (55, 1, 88888)]) (tabApart [(35, 21, 0, [(36, 52), (37, 52), (38, 52), (41, 52), (42, 52), (43, 52), (47, 52), (48, 52), (49, 52)]), (145, 8, 4, [(148, 2)]), (7, 6, 0, [(3, 5)]), (14, 5, 3, [(15, 2)]), (8, 6, 0, [(3, 5)]), (72, 19, 0, [(76, 82), (76, 83), (83, 86)])]) (tabFrz [(19, 13, 18), (16, 1, 77777), (55, 1, 88888)])
theorem fnsFit : fnsOk env fns = true := by kernel_rfl
theorem run : pureCall env (runA env 100000) 31 [] = some (.v (.bool true)) := by kernel_rfl
theorem alive : PureOk Try.prog 31 [] (.v (.bool true)) := memo_run (env_ok (by kernel_rfl) fnsFit) run
end Go.Proofs.Ytehkjjcdkbcebaa.mailAlive
