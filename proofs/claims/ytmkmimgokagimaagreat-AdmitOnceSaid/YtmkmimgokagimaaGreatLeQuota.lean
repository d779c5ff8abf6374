/-
  The document's functions of policy: what they answer. No statement of a seat is proved here.
-/
import Derived.Test.YtmkmimgokagimaaGreatMLeTwin
set_option linter.unusedVariables false
set_option linter.unusedSimpArgs false
set_option maxRecDepth 100000
namespace Go.Proofs.YtmkmimgokagimaaGreat
open Go.Ab
attribute [local simp] bj aL keep thr
def ir(us:List Clear)(qs:List Quota)(gr:Int)(a:UInt8)(b:UInt32):Quota:=if o5 us qs gr a=0 then I7 qs a b else ⟨0,0,0,0,0⟩
section
variable{xu xq:AV}{us:List Clear}{qs:List Quota}{gr:Int}(hu:Sl 3 (eN us) xu)(hq:Sl 5 (eQ qs) xq)(hql:qs.length<4611686018427387904)(hul:us.length<4611686018427387904)
include hu hq hql hul
@[simp] theorem Ev(a:UInt8)(b:UInt32):limf env 44 [.agg [xu,xq,aI gr],.agg [a8 a,a32 b]]=some (.tup [.agg (ir us qs gr a b).enc,aI (o5 us qs gr a)]):=by
 refine aw (fn:=Tryz.f44) (c:=rO) rfl (by kernel_rfl) (by kernel_rfl) (by kernel_rfl) (by kernel_rfl) ?_;refine yL _ _ _ _ fun g=>?_
 simp[af,ah,ad,ae,ab, *,sj,hu.r,hq.r,FY hu hq hql hul,lz]
 unfold ir I7
 refine nH (fun h=>?_) (fun h=>?_)
 ·have h:o5 us qs gr a≠0:=by simpa using h
  simp[h,Quota.enc]
 ·have h:o5 us qs gr a=0:=by simpa using h
  cases hf:qs.find? (CF a b) with
  | none=>simp[hu.r,hq.r,MQ hq hql,hf,Quota.enc,h,lz]
  | some q=>simp[hu.r,hq.r,MQ hq hql,hf,Quota.enc,h,lz]
end
end Go.Proofs.YtmkmimgokagimaaGreat
