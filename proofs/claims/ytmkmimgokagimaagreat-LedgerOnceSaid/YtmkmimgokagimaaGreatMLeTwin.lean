/-
  The functions of policy, and the document's: what they answer. No statement of a seat is proved here.
-/
import Derived.Test.YtmkmimgokagimaaGreatMLeFns
set_option linter.unusedVariables false
set_option linter.unusedSimpArgs false
set_option linter.unusedSectionVars false
set_option linter.unnecessarySimpa false
set_option maxRecDepth 100000
namespace Go.Proofs.YtmkmimgokagimaaGreat
open Go.Ab
attribute [local simp] bn aV keep thr
section
variable{xu xq:AV}{us:List Clear}{qs:List Quota}{gr:Int}(hu:Sl 3 (gz us) xu)(hq:Sl 5 (gS qs) xq)(hql:qs.length<4611686018427387904)(hul:us.length<4611686018427387904)
include hu hq hql hul
@[simp] theorem Oh(user:Int)(a:UInt8)(b:UInt32):limf env 174 [.agg [xu,xq,aI gr],aI user,.agg [a8 a,a32 b]]=some (.tup [aB (decide (sg us qs gr a=0)&&AS us user a b),aI (sg us qs gr a)]):=by
 refine az (fn:=Tryz.f174) (c:=sK) rfl (by kernel_rfl) (by kernel_rfl) (by kernel_rfl) (by kernel_rfl) ?_;refine yS _ _ _ _ _ fun g=>?_
 simp[af,ah,ad,ae,ab, *,sU,hu.r,hq.r,De hu hq hql hul]
 by_cases h0:0≤user∧user<us.length
 ·obtain⟨n,rfl⟩:=Int.eq_ofNat_of_zero_le h0.1
  have hn:n<us.length:=by omega
  have h1 : ¬(n:Int)<0:=by omega
  have h2 : ¬(us.length:Int)≤n:=by omega
  repeat' ((first | refine mM (fun h=>?_) (fun h=>?_) | refine kD (fun h=>?_) (fun h=>?_) | refine kE (fun h=>?_) (fun h=>?_) | refine kB (fun h=>?_) (fun h=>?_) | refine kC (fun h=>?_) (fun h=>?_))<;>(try simp only[decide_eq_true_eq,decide_eq_false_iff_not,Bool.not_eq_true',Bool.not_eq_false',Bool.and_eq_true,Bool.or_eq_true]at h)<;>(try simp[af,ah,ad,ae,ab, *,hu.r,hq.r,hu.idx,hn,h1,h2,AS,Clear.enc]))
 ·have h1 : ¬user<0→(us.length:Int)≤user:=by omega
  repeat' ((first | refine mM (fun h=>?_) (fun h=>?_) | refine kD (fun h=>?_) (fun h=>?_) | refine kE (fun h=>?_) (fun h=>?_) | refine kB (fun h=>?_) (fun h=>?_) | refine kC (fun h=>?_) (fun h=>?_))<;>(try simp only[decide_eq_true_eq,decide_eq_false_iff_not,Bool.not_eq_true',Bool.not_eq_false',Bool.and_eq_true,Bool.or_eq_true]at h)<;>(try simp[af,ah,ad,ae,ab, *,hu.r,hq.r,hu.idx,AS,Clear.enc]))
@[simp] theorem FJ:limf env 43 [.agg [xu,xq,aI gr]]=some (.tup [aI (if polB us qs gr=true then gT gr qs else 0),aI (bad (polB us qs gr))]):=by
 refine az (fn:=Tryz.f43) (c:=o8) rfl (by kernel_rfl) (by kernel_rfl) (by kernel_rfl) (by kernel_rfl) ?_;refine uD _ _ _ fun g=>?_
 simp[af,ah,ad,ae,ab, *,pe,hu.r,hq.r,rZ hu hq hql hul]
 cases hm:polB us qs gr<;>simp[bad,hu.r,hq.r,AE hu hq hql]
end
@[simp] theorem Ih{xu xq:AV}{us:List Clear}{qs:List Quota}(gr:Int)(hu:Sl 3 (gz us) xu)(hq:Sl 5 (gS qs) xq):limf env 63 [.agg [xu,xq,aI gr]]=some (aB (decide (100<(us.length:Int))||decide (100<(qs.length:Int)))):=by
 refine az (fn:=Tryz.f63) (c:=jK) rfl (by kernel_rfl) (by kernel_rfl) (by kernel_rfl) (by kernel_rfl) ?_;refine nK _ _ _ fun g=>?_
 simp[af,ah,ad,ae,ab, *,jM,hu.r,hq.r]
 repeat' ((first | refine mM (fun h=>?_) (fun h=>?_) | refine kD (fun h=>?_) (fun h=>?_) | refine kE (fun h=>?_) (fun h=>?_) | refine kB (fun h=>?_) (fun h=>?_) | refine kC (fun h=>?_) (fun h=>?_))<;>(try simp only[decide_eq_true_eq,decide_eq_false_iff_not,Bool.not_eq_true',Bool.not_eq_false',Bool.and_eq_true,Bool.or_eq_true]at h)<;>(try simp[af,ah,ad,ae,ab, *,hu.r,hq.r]))
@[simp] theorem Uf(a:UInt8)(b:UInt32)(x y z:Int):limf env 106 [.agg [a8 a,a32 b,aI x,aI y,aI z]]=some (.agg [a8 a,a32 b]):=by
 refine az (fn:=Tryz.f106) (c:=oh) rfl (by kernel_rfl) (by kernel_rfl) (by kernel_rfl) (by kernel_rfl) ?_;refine s7 _ _ _ fun g=>?_
 simp[af,ah,ad,ae,ab, *,oy]
@[simp] theorem QK(q:Quota)(a:UInt8)(b:UInt32):limf env 171 [.agg [a8 q.lv,a32 q.cats,aI q.opens,aI q.ops,aI q.cells],.iptr 1 [.fn (.func 106) [] []] 0 0,.iptr 2 [.agg [a8 a,a32 b]] 0 0]=some (aB (pB a b q)):=by
 refine az (fn:=Tryz.f171) (c:=cl) rfl (by kernel_rfl) (by kernel_rfl) (by kernel_rfl) (by kernel_rfl) ?_;refine dV _ _ _ _ _ fun g=>?_
 simp[af,ah,ad,ae,ab, *,cm,eqA,eqFs,pB]
def mZ(a:UInt8)(b:UInt32):List Quota→Nat→Int
 | [],_ => -1
 | q :: s,k=>if pB a b q=true then k else mZ a b s (k+1)
section
variable{xq:AV}{qs:List Quota}(hq:Sl 5 (gS qs) xq)(hql:qs.length<4611686018427387904)
include hq hql
theorem xL{a:UInt8}{b:UInt32}{Q:AV→Heap→Prop} : ∀(s:List Quota)(k:Nat)(i:Int)(H:Heap),qs.drop k=s→k≤qs.length→i=k→(∀y H',y=aI (mZ a b s k)→Q y H') →
 GoL env Tryz.f170 0 aE [(8,aI i),(0,xq),(1,.fn (.func 171) [] [.iptr 1 [.fn (.func 106) [] []] 0 0,.iptr 2 [.agg [a8 a,a32 b]] 0 0]),(7,aI qs.length)] H Q:=by
 intro s
 induction s with
 | nil =>
  rintro k i H hs hk rfl hQ
  obtain rfl:=drop_nil hs hk
  refine bH _ _ _ _ _ _ fun g=>?_
  simp[af,ah,ad,ae,ab, *,aZ]
  all_goals (first | exact hQ _ _ rfl | exact hQ _ _ (by simp[*]))
 | cons q s ih =>
  rintro k i H hs hk rfl hQ
  obtain⟨hlt,hg,hs',hg'⟩:=drop_cons hs
  refine bH _ _ _ _ _ _ fun g=>?_
  simp[af,ah,ad,ae,ab, *,aZ,hq.idx,hlt,hg,Quota.enc]
  refine mM (fun h=>?_) (fun h=>?_)
  ·all_goals (first | exact hQ _ _ rfl | exact hQ _ _ (by simp[*,mZ]))
  simp[IntWalk.i64_in ((k:Int)+1) (by omega)]
  exact ih (k+1) _ _ hs' (by omega) (by simp) (fun y H' e=>hQ y H' (by simp[*,mZ]))
@[simp] theorem BS(a:UInt8)(b:UInt32):limf env 170 [xq,.fn (.func 171) [] [.iptr 1 [.fn (.func 106) [] []] 0 0,.iptr 2 [.agg [a8 a,a32 b]] 0 0]]=some (aI (mZ a b qs 0)):=by
 refine az (fn:=Tryz.f170) (c:=bf) rfl (by kernel_rfl) (by kernel_rfl) (by kernel_rfl) (by kernel_rfl) ?_;refine dz _ _ _ _ fun g=>?_
 simp[af,ah,ad,ae,ab, *,bL,hq.r]
 exact xL hq hql qs 0 _ _ rfl (by omega) (by simp) (fun y H' e=>by simp[e])
omit hq hql in
theorem zX(a:UInt8)(b:UInt32) : ∀(s:List Quota)(k:Nat),qs.drop k=s→(mZ a b s k = -1∧s.find? (pB a b)=none) ∨∃n,∃h:n<qs.length,mZ a b s k=(n:Int)∧s.find? (pB a b)=some qs[n]:=by
 intro s
 induction s with
 | nil=>intro k _;exact .inl ⟨rfl,rfl⟩
 | cons q s ih =>
  intro k hs
  obtain⟨hlt,hg,hs',hg'⟩:=drop_cons hs
  unfold mZ
  by_cases h:pB a b q=true
  ·exact .inr ⟨k,hlt,by simp[h],by simp[h,hg]⟩
  ·rcases ih (k+1) hs' with ⟨h1,h2⟩ | ⟨n,hn,h1,h2⟩
   ·exact .inl ⟨by simp[h,h1],by simp[h,h2]⟩
   ·exact .inr ⟨n,hn,by simp[h,h1],by simp[h,h2]⟩
@[simp] theorem JV(a:UInt8)(b:UInt32):limf env 105 [xq,.agg [a8 a,a32 b],.fn (.func 106) [] []]=some (match qs.find? (pB a b) with
 | some q => .tup [.agg q.enc,aB true]
 | none => .tup [.agg (Quota.mk 0 0 0 0 0).enc,aB false]):=by
 refine az (fn:=Tryz.f105) (c:=cw) rfl (by kernel_rfl) (by kernel_rfl) (by kernel_rfl) (by kernel_rfl) ?_;refine ef _ _ _ _ _ fun g=>?_
 simp[af,ah,ad,ae,ab, *,cx,hq.r,BS hq hql]
 rcases zX a b qs 0 rfl with ⟨h1,h2⟩ | ⟨n,hn,h1,h2⟩
 ·rw[h1,h2]
  simp[Quota.enc]
 ·have h3 : ¬(n:Int)<0:=by omega
  rw[h1,h2]
  simp[hq.idx,hn,h3,Quota.enc]
end
end Go.Proofs.YtmkmimgokagimaaGreat
namespace Go.Proofs.YtmkmimgokagimaaGreat
open Go.Ab
attribute [local simp] bn aV keep thr bD aX bc dx dw cN
theorem SG:qBin env.P .eql 22 (.tmp 3) (.const (.slice none 0 0)) (some aNil) (some aNil)=some (aB true,[]):=by kernel_rfl
theorem SF:qBin env.P .eql 23 (.tmp 3) (.const (.slice none 0 0)) (some aNil) (some aNil)=some (aB true,[]):=by kernel_rfl
theorem Iu{xu:AV}{us:List Clear}(hu:Sl 3 (gz us) xu)(hul:us.length * 12≤140737488355328):limf env 205 [xu]=some (m4 xu):=by
 rcases hu.Lx with ⟨rfl,he⟩ | ⟨c,rfl⟩
 ·refine az (fn:=Tryz.f205) (c:=aO) rfl (by kernel_rfl) (by kernel_rfl) (by kernel_rfl) (by kernel_rfl) ?_;refine bu _ _ _ fun g=>?_
  simp[af,ah,ad,ae,ab, *,aQ,SG]
 ·by_cases hn:us=[]
  ·refine az (fn:=Tryz.f205) (c:=aO) rfl (by kernel_rfl) (by kernel_rfl) (by kernel_rfl) (by kernel_rfl) ?_;refine bu _ _ _ fun g=>?_
   subst hn
   simp[af,ah,ad,ae,ab, *,aQ]
  ·refine az (fn:=Tryz.f205) (c:=aO) rfl (by kernel_rfl) (by kernel_rfl) (by kernel_rfl) (by kernel_rfl) ?_;refine bu _ _ _ fun g=>?_
   simp[af,ah,ad,ae,ab, *,aQ,List.length_pos_iff,mF]
theorem It{xu:AV}{us:List Quota}(hu:Sl 5 (gS us) xu)(hul:us.length * 32≤140737488355328):limf env 206 [xu]=some (m4 xu):=by
 rcases hu.Lx with ⟨rfl,he⟩ | ⟨c,rfl⟩
 ·refine az (fn:=Tryz.f206) (c:=aN) rfl (by kernel_rfl) (by kernel_rfl) (by kernel_rfl) (by kernel_rfl) ?_;refine bt _ _ _ fun g=>?_
  simp[af,ah,ad,ae,ab, *,aP,SF]
 ·by_cases hn:us=[]
  ·refine az (fn:=Tryz.f206) (c:=aN) rfl (by kernel_rfl) (by kernel_rfl) (by kernel_rfl) (by kernel_rfl) ?_;refine bt _ _ _ fun g=>?_
   subst hn
   simp[af,ah,ad,ae,ab, *,aP]
  ·refine az (fn:=Tryz.f206) (c:=aN) rfl (by kernel_rfl) (by kernel_rfl) (by kernel_rfl) (by kernel_rfl) ?_;refine bt _ _ _ fun g=>?_
   simp[af,ah,ad,ae,ab, *,aP,List.length_pos_iff,mF]
section
variable{xu xq:AV}{us:List Clear}{qs:List Quota}{gr:Int}(hu:Sl 3 (gz us) xu)(hq:Sl 5 (gS qs) xq)(hql:qs.length * 32≤140737488355328)(hul:us.length * 12≤140737488355328)
include hu hq hql hul
theorem FI:limf env 160 [.agg [xu,xq,aI gr]]=some (.agg [m4 xu,m4 xq,aI gr]):=by
 have hyu:=Iu hu hul
 have hyq:=It hq hql
 have ou:=og hu
 have oq:=og hq
 generalize m4 xu=yu at *
 generalize m4 xq=yq at *
 refine az (fn:=Tryz.f160) (c:=qV) rfl (by kernel_rfl) (by kernel_rfl) (by kernel_rfl) (by kernel_rfl) ?_;refine xg _ _ _ fun g=>?_
 rcases ou with ⟨rfl,h1⟩ | rfl | ⟨rfl,h1⟩<;>rcases oq with ⟨rfl,h2⟩ | rfl | ⟨rfl,h2⟩<;>simp[af,ah,ad,ae,ab, *,q9,hu.r,hq.r,aF]
end
end Go.Proofs.YtmkmimgokagimaaGreat
