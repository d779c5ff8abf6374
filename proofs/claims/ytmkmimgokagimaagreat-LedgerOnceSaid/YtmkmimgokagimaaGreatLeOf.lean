/-
  What a log tells: the kinds, and a round of the loop. No statement of a seat is proved here.
-/
import Derived.Test.YtmkmimgokagimaaGreatLeDo2
set_option linter.unusedVariables false
set_option linter.unusedSimpArgs false
set_option linter.unusedSectionVars false
set_option linter.unnecessarySimpa false
set_option maxRecDepth 100000
namespace Go.Proofs.YtmkmimgokagimaaGreat
open Go.Ab
attribute [local simp] bn aV aF bj bh keep thr bD aX bc dx dw cN bE aD ct List.take_of_length_le
def knd(f g:FuncId):AV := .agg [.fn (.func f) [] [],.fn (.func g) [] []]
def qO:List AV:=[.tup [a8 1,knd 145 148],.tup [a8 2,knd 149 150],.tup [a8 3,knd 151 153]]
theorem K4:limf env 84 []=some (.fsl 0 (.v (.bool true) :: qO) none):=wg (n:=400) (by kernel_rfl)
theorem LG(wk:Bool)(dep:Nat)(H:Heap)(d t g:Nat):aK env wk (limf env) (limt env dep) H ⟨d,t,g,0⟩ (some (.fn (.func 84) [] [])) []=some (.mp ⟨d,t,g,0⟩,(⟨d,t,g,0⟩,some (ba qO)) :: H):=by
 have hm:env.mode 84=1:=by kernel_rfl
 have e:([]++[]++[]:List AV)=[]:=rfl
 have e2:(pure []:Option (List AV))=some []:=rfl
 simp only[aK,je,hm,e,List.mapM_nil,e2,K4]
 cases wk<;>rfl
theorem ze:tmap env.P 151=some (5,150):=by kernel_rfl
theorem OX{g:Get}{r:Ref}(h:g r=some (ba qO)):cG env.P g 151 (some (.mp r)) (some (a8 1)) false=some (knd 145 148,[]):=by
 have hm:iS g r=some qO:=by unfold iS;rw[h];rfl
 have hv:ff (a8 1)=some (.int .u8 1):=by kernel_rfl
 simp only[cG,ze,Option.bind_some,hv,hm]
 show _=_
 kernel_rfl
theorem OW{g:Get}{r:Ref}(h:g r=some (ba qO)):cG env.P g 151 (some (.mp r)) (some (a8 2)) false=some (knd 149 150,[]):=by
 have hm:iS g r=some qO:=by unfold iS;rw[h];rfl
 have hv:ff (a8 2)=some (.int .u8 2):=by kernel_rfl
 simp only[cG,ze,Option.bind_some,hv,hm]
 show _=_
 kernel_rfl
theorem OV{g:Get}{r:Ref}(h:g r=some (ba qO)):cG env.P g 151 (some (.mp r)) (some (a8 3)) false=some (knd 151 153,[]):=by
 have hm:iS g r=some qO:=by unfold iS;rw[h];rfl
 have hv:ff (a8 3)=some (.int .u8 3):=by kernel_rfl
 simp only[cG,ze,Option.bind_some,hv,hm]
 show _=_
 kernel_rfl
end Go.Proofs.YtmkmimgokagimaaGreat
