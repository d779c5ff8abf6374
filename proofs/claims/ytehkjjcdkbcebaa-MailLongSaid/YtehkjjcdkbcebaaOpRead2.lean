/-
  An operation's bytes, there and back. No statement of a seat is proved here.
-/
import Derived.Test.YtehkjjcdkbcebaaOpRead
set_option linter.unusedVariables false
set_option linter.unusedSimpArgs false
set_option linter.unusedSectionVars false
set_option linter.unnecessarySimpa false
set_option maxRecDepth 100000
namespace Go.Proofs.Ytehkjjcdkbcebaa
open Go.Ab
end Go.Proofs.Ytehkjjcdkbcebaa
