/-
  Bytes copied and read: what these functions answer. No statement of a seat is proved here.
-/
import Derived.Test.YtmjkpdknicjjgaaOpBytes
set_option linter.unusedVariables false
set_option linter.unusedSimpArgs false
set_option linter.unusedSectionVars false
set_option linter.unnecessarySimpa false
set_option maxRecDepth 100000
namespace Go.Proofs.Ytmjkpdknicjjgaa
open Go.Ab
attribute [local simp] cb bC bG bF keep thr cy bB bH eF eE bX cx aO cZ List.take_of_length_le
theorem Ht (c:Option Nat) (b1 b2 b3 b4 b5:UInt8):limf env 98 [.isl 1 [a8 b1,a8 b2,a8 b3,a8 b4,a8 b5] c]=some (.fsl 1 [a8 b1,a8 b2,a8 b3,a8 b4,a8 b5] none):=by
 refine aG (fn:=Try.f98) (c:=nQ) rfl (by kernel_rfl) (by kernel_rfl) (by kernel_rfl) (by kernel_rfl) ?_;refine xG _ _ _ fun g=>?_
 simp [af,ah,ad,ae,aa, *,nX]
theorem zS {x y:AV} {l m:List UInt8} (hx:Sl 1 (by8 l) x) (hy:Sl 1 (by8 m) y):limf env 69 [x,y]=some (aB (decide (l=m))):=by
 refine aG (fn:=Try.f69) (c:=nP) rfl (by kernel_rfl) (by kernel_rfl) (by kernel_rfl) (by kernel_rfl) ?_;refine xF _ _ _ _ fun g=>?_
 have e : ∀l:List UInt8,by8 l=[]→l=[]:=fun l h=>by simpa [by8] using h
 rcases hx with ⟨rfl,h1⟩ | ⟨c,rfl,h1⟩<;>rcases hy with ⟨rfl,h2⟩ | ⟨c',rfl,h2⟩
 ·obtain rfl:=e l h1
  obtain rfl:=e m h2
  simp [af,ah,ad,ae,aa, *,gZ]
 ·obtain rfl:=e l h1
  simp [af,ah,ad,ae,aa, *,gZ]
  try exact ⟨fun h=>h.symm,fun h=>h.symm⟩
 ·obtain rfl:=e m h2
  simp [af,ah,ad,ae,aa, *,gZ]
 ·simp [af,ah,ad,ae,aa, *,gZ]
end Go.Proofs.Ytmjkpdknicjjgaa
