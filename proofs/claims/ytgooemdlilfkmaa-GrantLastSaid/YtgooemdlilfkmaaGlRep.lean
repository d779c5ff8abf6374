/-
  The arguments' data: rows of grants, numbers. No statement of a seat is proved here.
-/
import Derived.Test.YtgooemdlilfkmaaGrRep
set_option linter.unusedVariables false
set_option linter.unusedSimpArgs false
set_option maxRecDepth 1000000
namespace Go.Proofs.Ytgooemdlilfkmaa
open Go.Ab Go.ChangeShapes Go.WideShapes Go.RowKit

theorem sh_Grs {n : Nat} {x : AV} (h : ShV env.P n 70 x) : ∃ l : List Gr, Sl 4 (l.map fun g => .agg g.enc) x := by
  obtain ⟨l, x', _, e, s⟩ := sh_slice (P := env.P) telem_70 tsize_59 tagg_59 rep_Gr (h.cell (by simp))
  cases e
  exact ⟨l, s⟩
end Go.Proofs.Ytgooemdlilfkmaa
