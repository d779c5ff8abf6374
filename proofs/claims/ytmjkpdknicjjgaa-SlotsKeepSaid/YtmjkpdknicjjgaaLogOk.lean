/-
  That the functions are fit. No statement of a seat is proved here.
-/
import Derived.Test.YtmjkpdknicjjgaaLgTy
set_option linter.unusedVariables false
set_option maxRecDepth 1000000
namespace Go.Proofs.Ytmjkpdknicjjgaa
open Go.Ab
theorem Lw:env.Ok (Cg env):=Ja EL (by kernel_rfl) I3 (fun f t h=>by cases h) (fun f args H y H' h=>by
 by_cases e:f=42
 ·rw [if_pos e] at h
  rw [e]
  exact ins.IG args H y H' h
 ·rw [if_neg e] at h;cases h)
end Go.Proofs.Ytmjkpdknicjjgaa
