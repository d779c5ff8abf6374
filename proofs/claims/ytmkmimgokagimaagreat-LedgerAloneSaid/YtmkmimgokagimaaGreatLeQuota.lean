/-
  The document's functions of policy: what they answer. No statement of a seat is proved here.
-/
import Derived.Test.YtmkmimgokagimaaGreatMLeTwin
set_option linter.unusedVariables false
set_option linter.unusedSimpArgs false
set_option maxRecDepth 100000
namespace Go.Proofs.YtmkmimgokagimaaGreat
open Go.Ab
attribute [local simp] bm aP keep thr
def qE(us:List Clear)(qs:List Quota)(gr:Int)(a:UInt8)(b:UInt32):Quota:=if Ad us qs gr a=0 then IJ qs a b else ⟨0,0,0,0,0⟩
section
variable{xu xq:AV}{us:List Clear}{qs:List Quota}{gr:Int}(hu:Sl 3 (eg us) xu)(hq:Sl 5 (eK qs) xq)(hql:qs.length<4611686018427387904)(hul:us.length<4611686018427387904)
include hu hq hql hul
@[simp] theorem Il(a:UInt8)(b:UInt32):limf env 44 [.agg [xu,xq,aI gr],.agg [a8 a,a32 b]]=some (.tup [.agg (qE us qs gr a b).enc,aI (Ad us qs gr a)]):=by
 refine az (fn:=Tryz.f44) (c:=rH) rfl (by kernel_rfl) (by kernel_rfl) (by kernel_rfl) (by kernel_rfl) ?_;refine xZ _ _ _ _ fun g=>?_
 simp[af,ah,ad,ae,ab, *,rW,hu.r,hq.r,Fy hu hq hql hul,lT]
 unfold qE IJ
 refine oc (fun h=>?_) (fun h=>?_)
 ·have h:Ad us qs gr a≠0:=by simpa using h
  simp[h,Quota.enc]
 ·have h:Ad us qs gr a=0:=by simpa using h
  cases hf:qs.find? (B5 a b) with
  | none=>simp[hu.r,hq.r,Mw hq hql,hf,Quota.enc,h,lT]
  | some q=>simp[hu.r,hq.r,Mw hq hql,hf,Quota.enc,h,lT]
end
end Go.Proofs.YtmkmimgokagimaaGreat
