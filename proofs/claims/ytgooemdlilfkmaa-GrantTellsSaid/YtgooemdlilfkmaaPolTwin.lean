/-
  Policies copied: what these functions answer. No statement of a seat is proved here.
-/
import Derived.Test.YtgooemdlilfkmaaPolSame2
set_option linter.unusedVariables false
set_option linter.unusedSimpArgs false
set_option linter.unusedSectionVars false
set_option linter.unnecessarySimpa false
set_option maxRecDepth 100000
namespace Go.Proofs.Ytgooemdlilfkmaa
open Go.Ab
attribute [local simp] cA bA keep thr iv gv gu lI lH eo
theorem Ca:qBin env.P .eql 30 (.tmp 3) (.const (.slice none 0 0)) (some aNil) (some aNil)=some (aB true,[]):=by kernel_rfl
theorem B9:qBin env.P .eql 31 (.tmp 3) (.const (.slice none 0 0)) (some aNil) (some aNil)=some (aB true,[]):=by kernel_rfl
theorem vB{xu:AV}{us:List Clear}(hu:Sl 3 (av us) xu)(hul:us.length * 12≤140737488355328):limf env 58 [xu]=some (gY xu):=by
 rcases hu.zW with ⟨rfl,he⟩ | ⟨c,rfl⟩
 ·refine aH (fn:=Try.f58) (c:=aK) rfl (by kernel_rfl) (by kernel_rfl) (by kernel_rfl) (by kernel_rfl) ?_;refine aV _ _ _ fun g=>?_
  simp[ae,af,ab,ad,aa, *,aM,Ca]
 ·by_cases hn:us=[]
  ·refine aH (fn:=Try.f58) (c:=aK) rfl (by kernel_rfl) (by kernel_rfl) (by kernel_rfl) (by kernel_rfl) ?_;refine aV _ _ _ fun g=>?_
   subst hn
   simp[ae,af,ab,ad,aa, *,aM]
  ·refine aH (fn:=Try.f58) (c:=aK) rfl (by kernel_rfl) (by kernel_rfl) (by kernel_rfl) (by kernel_rfl) ?_;refine aV _ _ _ fun g=>?_
   simp[ae,af,ab,ad,aa, *,aM,List.length_pos_iff,je]
theorem vA{xu:AV}{us:List Quota}(hu:Sl 5 (ay us) xu)(hul:us.length * 32≤140737488355328):limf env 59 [xu]=some (gY xu):=by
 rcases hu.zW with ⟨rfl,he⟩ | ⟨c,rfl⟩
 ·refine aH (fn:=Try.f59) (c:=aJ) rfl (by kernel_rfl) (by kernel_rfl) (by kernel_rfl) (by kernel_rfl) ?_;refine aU _ _ _ fun g=>?_
  simp[ae,af,ab,ad,aa, *,aL,B9]
 ·by_cases hn:us=[]
  ·refine aH (fn:=Try.f59) (c:=aJ) rfl (by kernel_rfl) (by kernel_rfl) (by kernel_rfl) (by kernel_rfl) ?_;refine aU _ _ _ fun g=>?_
   subst hn
   simp[ae,af,ab,ad,aa, *,aL]
  ·refine aH (fn:=Try.f59) (c:=aJ) rfl (by kernel_rfl) (by kernel_rfl) (by kernel_rfl) (by kernel_rfl) ?_;refine aU _ _ _ fun g=>?_
   simp[ae,af,ab,ad,aa, *,aL,List.length_pos_iff,je]
section
variable{xu xq:AV}{us:List Clear}{qs:List Quota}{gr:Int}(hu:Sl 3 (av us) xu)(hq:Sl 5 (ay qs) xq)(hql:qs.length * 32≤140737488355328)(hul:us.length * 12≤140737488355328)
include hu hq hql hul
theorem wX:limf env 26 [.agg [xu,xq,aI gr]]=some (.agg [gY xu,gY xq,aI gr]):=by
 have hyu:=vB hu hul
 have hyq:=vA hq hql
 have ou:=kr hu
 have oq:=kr hq
 generalize gY xu=yu at *
 generalize gY xq=yq at *
 refine aH (fn:=Try.f26) (c:=kE) rfl (by kernel_rfl) (by kernel_rfl) (by kernel_rfl) (by kernel_rfl) ?_;refine ng _ _ _ fun g=>?_
 rcases ou with ⟨rfl,h1⟩ | rfl | ⟨rfl,h1⟩<;>rcases oq with ⟨rfl,h2⟩ | rfl | ⟨rfl,h2⟩<;>simp[ae,af,ab,ad,aa, *,kK,hu.r,hq.r,cV]
theorem oB:limf env 20 [.agg [xu,xq,aI gr]]=some (.agg [outA 3 (av us),outA 5 (ay qs),aI gr]):=by
 refine aH (fn:=Try.f20) (c:=fC) rfl (by kernel_rfl) (by kernel_rfl) (by kernel_rfl) (by kernel_rfl) ?_;refine ji _ _ _ fun g=>?_
 by_cases h1:us=[]
 ·by_cases h2:qs=[]
  ·subst h1;subst h2
   simp[ae,af,ab,ad,aa, *,bW,hu.r,hq.r,hu.hY,hq.hY]
  ·subst h1
   simp[ae,af,ab,ad,aa, *,bW,hu.r,hq.r,hu.hY,hq.hY,aN]
 ·by_cases h2:qs=[]
  ·subst h2
   simp[ae,af,ab,ad,aa, *,bW,hu.r,hq.r,hu.hY,hq.hY,aN]
  ·simp[ae,af,ab,ad,aa, *,bW,hu.r,hq.r,hu.hY,hq.hY,aN]
end
end Go.Proofs.Ytgooemdlilfkmaa
