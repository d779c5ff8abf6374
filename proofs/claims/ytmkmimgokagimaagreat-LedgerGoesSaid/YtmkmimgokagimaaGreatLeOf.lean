/-
  What a log tells: the kinds, and a round of the loop. No statement of a seat is proved here.
-/
import Derived.Test.YtmkmimgokagimaaGreatLeDo2
set_option linter.unusedVariables false
set_option linter.unusedSimpArgs false
set_option linter.unusedSectionVars false
set_option linter.unnecessarySimpa false
set_option maxRecDepth 100000
namespace Go.Proofs.YtmkmimgokagimaaGreat
open Go.Ab
attribute [local simp] bx aZ aL bw bu keep thr bD bh bq dC dB cP bF aE cC List.take_of_length_le
def knd(f g:FuncId):AV := .agg [.fn (.func f) [] [],.fn (.func g) [] []]
def n9:List AV:=[.tup [a8 1,knd 145 148],.tup [a8 2,knd 149 150],.tup [a8 3,knd 151 153]]
theorem KW:limf env 84 []=some (.fsl 0 (.v (.bool true) :: n9) none):=vW (n:=400) (by kernel_rfl)
theorem Gr(wk:Bool)(dep:Nat)(H:Heap)(d t g:Nat):aG env wk (limf env) (limt env dep) H ⟨d,t,g,0⟩ (some (.fn (.func 84) [] [])) []=some (.mp ⟨d,t,g,0⟩,(⟨d,t,g,0⟩,some (aY n9)) :: H):=by
 have hm:env.mode 84=1:=by kernel_rfl
 have e:([]++[]++[]:List AV)=[]:=rfl
 have e2:(pure []:Option (List AV))=some []:=rfl
 simp only[aG,ja,hm,e,List.mapM_nil,e2,KW]
 cases wk<;>rfl
theorem yU:tmap env.P 151=some (5,150):=by kernel_rfl
theorem J3{g:Get}{r:Ref}(h:g r=some (aY n9)):cB env.P g 151 (some (.mp r)) (some (a8 1)) false=some (knd 145 148,[]):=by
 have hm:iS g r=some n9:=by unfold iS;rw[h];rfl
 have hv:eX (a8 1)=some (.int .u8 1):=by kernel_rfl
 simp only[cB,yU,Option.bind_some,hv,hm]
 show _=_
 kernel_rfl
theorem J2{g:Get}{r:Ref}(h:g r=some (aY n9)):cB env.P g 151 (some (.mp r)) (some (a8 2)) false=some (knd 149 150,[]):=by
 have hm:iS g r=some n9:=by unfold iS;rw[h];rfl
 have hv:eX (a8 2)=some (.int .u8 2):=by kernel_rfl
 simp only[cB,yU,Option.bind_some,hv,hm]
 show _=_
 kernel_rfl
theorem J1{g:Get}{r:Ref}(h:g r=some (aY n9)):cB env.P g 151 (some (.mp r)) (some (a8 3)) false=some (knd 151 153,[]):=by
 have hm:iS g r=some n9:=by unfold iS;rw[h];rfl
 have hv:eX (a8 3)=some (.int .u8 3):=by kernel_rfl
 simp only[cB,yU,Option.bind_some,hv,hm]
 show _=_
 kernel_rfl
end Go.Proofs.YtmkmimgokagimaaGreat
