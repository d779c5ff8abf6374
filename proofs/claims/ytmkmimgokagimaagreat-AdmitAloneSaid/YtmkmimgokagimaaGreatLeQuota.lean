/-
  The document's functions of policy: what they answer. No statement of a seat is proved here.
-/
import Derived.Test.YtmkmimgokagimaaGreatMLeTwin
set_option linter.unusedVariables false
set_option linter.unusedSimpArgs false
set_option maxRecDepth 100000
namespace Go.Proofs.YtmkmimgokagimaaGreat
open Go.Ab
attribute [local simp] bJ bw cL kN
def jO(us:List Clear)(qs:List bn)(gr:Int)(a:UInt8)(b:UInt32):bn:=if nv us qs gr a=0 then Nf qs a b else ⟨0,0,0,0,0⟩
section
variable{xu xq:AV}{us:List Clear}{qs:List bn}{gr:Int}(hu:Sl 3 (ed us) xu)(hq:Sl 5 (ef qs) xq)(hql:qs.length<4611686018427387904)(hul:us.length<4611686018427387904)
include hu hq hql hul
@[simp] theorem Is(a:UInt8)(b:UInt32):bj env 44 [.agg [xu,xq,aI gr],.agg [a8 a,aF b]]=some (.tup [.agg (jO us qs gr a b).enc,aI (nv us qs gr a)]):=by
 refine aG (fn:=Tryz.f44) (c:=wZ) rfl (by kernel_rfl) (by kernel_rfl) (by kernel_rfl) (by kernel_rfl) ?_;refine Dy _ _ _ _ fun g=>?_
 simp[ah,ai,ae,af,ab, *,xg,hu.r,hq.r,JI hu hq hql hul,lB]
 unfold jO Nf
 refine mZ (fun h=>?_) (fun h=>?_)
 ·have h:nv us qs gr a≠0:=by simpa using h
  simp[h,bn.enc]
 ·have h:nv us qs gr a=0:=by simpa using h
  cases hf:qs.find? (Bs a b) with
  | none=>simp[hu.r,hq.r,Qd hq hql,hf,bn.enc,h,lB]
  | some q=>simp[hu.r,hq.r,Qd hq hql,hf,bn.enc,h,lB]
end
end Go.Proofs.YtmkmimgokagimaaGreat
