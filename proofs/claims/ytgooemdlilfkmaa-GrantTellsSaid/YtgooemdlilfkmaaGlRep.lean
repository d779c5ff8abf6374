/-
  The arguments' data: rows of grants, numbers. No statement of a seat is proved here.
-/
import Derived.Test.YtgooemdlilfkmaaGrRep
set_option linter.unusedVariables false
set_option linter.unusedSimpArgs false
set_option maxRecDepth 1000000
namespace Go.Proofs.Ytgooemdlilfkmaa
open Go.Ab Go.ChangeShapes Go.WideShapes Go.RowKit
theorem zE{n:Nat}{x:AV}(h:ShV env.P n 70 x) : ∃l:List Gr,Sl 4 (l.map fun g => .agg g.enc) x:=by
 obtain⟨l,x',_,e,s⟩:=oA (P:=env.P) vk vh xw wY (h.cell (by simp))
 cases e
 exact⟨l,s⟩
end Go.Proofs.Ytgooemdlilfkmaa
