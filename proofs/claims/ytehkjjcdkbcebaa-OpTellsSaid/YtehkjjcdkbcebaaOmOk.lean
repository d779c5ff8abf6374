/-
  The functions are fit. No statement of a seat is proved here.
-/
import Derived.Test.YtehkjjcdkbcebaaOmRep
set_option maxRecDepth 1000000
namespace Go.Proofs.Ytehkjjcdkbcebaa
open Go.Ab Go.ChangeShapes Go.WideShapes Go.RowKit
theorem envOk : env.Ok (drawOk env) := env_ok (by kernel_rfl) fnsFit
end Go.Proofs.Ytehkjjcdkbcebaa
