/-
  The functions of policy, and the document's: what they answer. No statement of a seat is proved here.
-/
import Derived.Test.YtmkmimgokagimaaGreatMLeFns
set_option linter.unusedVariables false
set_option linter.unusedSimpArgs false
set_option linter.unusedSectionVars false
set_option linter.unnecessarySimpa false
set_option maxRecDepth 100000
namespace Go.Proofs.YtmkmimgokagimaaGreat
open Go.Ab
attribute [local simp] bj aL keep thr
section
variable{xu xq:AV}{us:List Clear}{qs:List Quota}{gr:Int}(hu:Sl 3 (eN us) xu)(hq:Sl 5 (eQ qs) xq)(hql:qs.length<4611686018427387904)(hul:us.length<4611686018427387904)
include hu hq hql hul
@[simp] theorem MU(user:Int)(a:UInt8)(b:UInt32):limf env 174 [.agg [xu,xq,aI gr],aI user,.agg [a8 a,a32 b]]=some (.tup [aB (decide (o5 us qs gr a=0)&&nQ us user a b),aI (o5 us qs gr a)]):=by
 refine aw (fn:=Tryz.f174) (c:=vu) rfl (by kernel_rfl) (by kernel_rfl) (by kernel_rfl) (by kernel_rfl) ?_;refine BW _ _ _ _ _ fun g=>?_
 simp[af,ah,ad,ae,ab, *,vH,hu.r,hq.r,FY hu hq hql hul]
 by_cases h0:0≤user∧user<us.length
 ·obtain⟨n,rfl⟩:=Int.eq_ofNat_of_zero_le h0.1
  have hn:n<us.length:=by omega
  have h1 : ¬(n:Int)<0:=by omega
  have h2 : ¬(us.length:Int)≤n:=by omega
  repeat' ((first | refine nH (fun h=>?_) (fun h=>?_) | refine lu (fun h=>?_) (fun h=>?_) | refine lx (fun h=>?_) (fun h=>?_) | refine lg (fun h=>?_) (fun h=>?_) | refine lj (fun h=>?_) (fun h=>?_))<;>(try simp only[decide_eq_true_eq,decide_eq_false_iff_not,Bool.not_eq_true',Bool.not_eq_false',Bool.and_eq_true,Bool.or_eq_true]at h)<;>(try simp[af,ah,ad,ae,ab, *,hu.r,hq.r,hu.idx,hn,h1,h2,nQ,Clear.enc]))
 ·have h1 : ¬user<0→(us.length:Int)≤user:=by omega
  repeat' ((first | refine nH (fun h=>?_) (fun h=>?_) | refine lu (fun h=>?_) (fun h=>?_) | refine lx (fun h=>?_) (fun h=>?_) | refine lg (fun h=>?_) (fun h=>?_) | refine lj (fun h=>?_) (fun h=>?_))<;>(try simp only[decide_eq_true_eq,decide_eq_false_iff_not,Bool.not_eq_true',Bool.not_eq_false',Bool.and_eq_true,Bool.or_eq_true]at h)<;>(try simp[af,ah,ad,ae,ab, *,hu.r,hq.r,hu.idx,nQ,Clear.enc]))
end
@[simp] theorem Le{xu xq:AV}{us:List Clear}{qs:List Quota}(gr:Int)(hu:Sl 3 (eN us) xu)(hq:Sl 5 (eQ qs) xq):limf env 63 [.agg [xu,xq,aI gr]]=some (aB (decide (100<(us.length:Int))||decide (100<(qs.length:Int)))):=by
 refine aw (fn:=Tryz.f63) (c:=kA) rfl (by kernel_rfl) (by kernel_rfl) (by kernel_rfl) (by kernel_rfl) ?_;refine oT _ _ _ fun g=>?_
 simp[af,ah,ad,ae,ab, *,kC,hu.r,hq.r]
 repeat' ((first | refine nH (fun h=>?_) (fun h=>?_) | refine lu (fun h=>?_) (fun h=>?_) | refine lx (fun h=>?_) (fun h=>?_) | refine lg (fun h=>?_) (fun h=>?_) | refine lj (fun h=>?_) (fun h=>?_))<;>(try simp only[decide_eq_true_eq,decide_eq_false_iff_not,Bool.not_eq_true',Bool.not_eq_false',Bool.and_eq_true,Bool.or_eq_true]at h)<;>(try simp[af,ah,ad,ae,ab, *,hu.r,hq.r]))
@[simp] theorem X8(a:UInt8)(b:UInt32)(x y z:Int):limf env 106 [.agg [a8 a,a32 b,aI x,aI y,aI z]]=some (.agg [a8 a,a32 b]):=by
 refine aw (fn:=Tryz.f106) (c:=pr) rfl (by kernel_rfl) (by kernel_rfl) (by kernel_rfl) (by kernel_rfl) ?_;refine vO _ _ _ fun g=>?_
 simp[af,ah,ad,ae,ab, *,pK]
@[simp] theorem Ux(q:Quota)(a:UInt8)(b:UInt32):limf env 171 [.agg [a8 q.lv,a32 q.cats,aI q.opens,aI q.ops,aI q.cells],.iptr 1 [.fn (.func 106) [] []] 0 0,.iptr 2 [.agg [a8 a,a32 b]] 0 0]=some (aB (CF a b q)):=by
 refine aw (fn:=Tryz.f171) (c:=cq) rfl (by kernel_rfl) (by kernel_rfl) (by kernel_rfl) (by kernel_rfl) ?_;refine dU _ _ _ _ _ fun g=>?_
 simp[af,ah,ad,ae,ab, *,cr,eqA,eqFs,CF]
def nV(a:UInt8)(b:UInt32):List Quota→Nat→Int
 | [],_ => -1
 | q :: s,k=>if CF a b q=true then k else nV a b s (k+1)
section
variable{xq:AV}{qs:List Quota}(hq:Sl 5 (eQ qs) xq)(hql:qs.length<4611686018427387904)
include hq hql
theorem A5{a:UInt8}{b:UInt32}{Q:AV→Heap→Prop} : ∀(s:List Quota)(k:Nat)(i:Int)(H:Heap),qs.drop k=s→k≤qs.length→i=k→(∀y H',y=aI (nV a b s k)→Q y H') →
 GoL env Tryz.f170 0 aK [(8,aI i),(0,xq),(1,.fn (.func 171) [] [.iptr 1 [.fn (.func 106) [] []] 0 0,.iptr 2 [.agg [a8 a,a32 b]] 0 0]),(7,aI qs.length)] H Q:=by
 intro s
 induction s with
 | nil =>
  rintro k i H hs hk rfl hQ
  obtain rfl:=drop_nil hs hk
  refine bK _ _ _ _ _ _ fun g=>?_
  simp[af,ah,ad,ae,ab, *,bo]
  all_goals (first | exact hQ _ _ rfl | exact hQ _ _ (by simp[*]))
 | cons q s ih =>
  rintro k i H hs hk rfl hQ
  obtain⟨hlt,hg,hs',hg'⟩:=drop_cons hs
  refine bK _ _ _ _ _ _ fun g=>?_
  simp[af,ah,ad,ae,ab, *,bo,hq.idx,hlt,hg,Quota.enc]
  refine nH (fun h=>?_) (fun h=>?_)
  ·all_goals (first | exact hQ _ _ rfl | exact hQ _ _ (by simp[*,nV]))
  simp[IntWalk.i64_in ((k:Int)+1) (by omega)]
  exact ih (k+1) _ _ hs' (by omega) (by simp) (fun y H' e=>hQ y H' (by simp[*,nV]))
@[simp] theorem Ex(a:UInt8)(b:UInt32):limf env 170 [xq,.fn (.func 171) [] [.iptr 1 [.fn (.func 106) [] []] 0 0,.iptr 2 [.agg [a8 a,a32 b]] 0 0]]=some (aI (nV a b qs 0)):=by
 refine aw (fn:=Tryz.f170) (c:=bp) rfl (by kernel_rfl) (by kernel_rfl) (by kernel_rfl) (by kernel_rfl) ?_;refine dA _ _ _ _ fun g=>?_
 simp[af,ah,ad,ae,ab, *,bP,hq.r]
 exact A5 hq hql qs 0 _ _ rfl (by omega) (by simp) (fun y H' e=>by simp[e])
omit hq hql in
theorem CL(a:UInt8)(b:UInt32) : ∀(s:List Quota)(k:Nat),qs.drop k=s→(nV a b s k = -1∧s.find? (CF a b)=none) ∨∃n,∃h:n<qs.length,nV a b s k=(n:Int)∧s.find? (CF a b)=some qs[n]:=by
 intro s
 induction s with
 | nil=>intro k _;exact .inl ⟨rfl,rfl⟩
 | cons q s ih =>
  intro k hs
  obtain⟨hlt,hg,hs',hg'⟩:=drop_cons hs
  unfold nV
  by_cases h:CF a b q=true
  ·exact .inr ⟨k,hlt,by simp[h],by simp[h,hg]⟩
  ·rcases ih (k+1) hs' with ⟨h1,h2⟩ | ⟨n,hn,h1,h2⟩
   ·exact .inl ⟨by simp[h,h1],by simp[h,h2]⟩
   ·exact .inr ⟨n,hn,by simp[h,h1],by simp[h,h2]⟩
@[simp] theorem MQ(a:UInt8)(b:UInt32):limf env 105 [xq,.agg [a8 a,a32 b],.fn (.func 106) [] []]=some (match qs.find? (CF a b) with
 | some q => .tup [.agg q.enc,aB true]
 | none => .tup [.agg (Quota.mk 0 0 0 0 0).enc,aB false]):=by
 refine aw (fn:=Tryz.f105) (c:=cy) rfl (by kernel_rfl) (by kernel_rfl) (by kernel_rfl) (by kernel_rfl) ?_;refine ej _ _ _ _ _ fun g=>?_
 simp[af,ah,ad,ae,ab, *,cz,hq.r,Ex hq hql]
 rcases CL a b qs 0 rfl with ⟨h1,h2⟩ | ⟨n,hn,h1,h2⟩
 ·rw[h1,h2]
  simp[Quota.enc]
 ·have h3 : ¬(n:Int)<0:=by omega
  rw[h1,h2]
  simp[hq.idx,hn,h3,Quota.enc]
end
end Go.Proofs.YtmkmimgokagimaaGreat
namespace Go.Proofs.YtmkmimgokagimaaGreat
open Go.Ab
attribute [local simp] bj aL keep thr bx aT bc da cZ cJ
theorem WI:qBin env.P .eql 22 (.tmp 3) (.const (.slice none 0 0)) (some aNil) (some aNil)=some (aB true,[]):=by kernel_rfl
theorem WH:qBin env.P .eql 23 (.tmp 3) (.const (.slice none 0 0)) (some aNil) (some aNil)=some (aB true,[]):=by kernel_rfl
theorem Lq{xu:AV}{us:List Clear}(hu:Sl 3 (eN us) xu)(hul:us.length * 12≤140737488355328):limf env 205 [xu]=some (nZ xu):=by
 rcases hu.OS with ⟨rfl,he⟩ | ⟨c,rfl⟩
 ·refine aw (fn:=Tryz.f205) (c:=aX) rfl (by kernel_rfl) (by kernel_rfl) (by kernel_rfl) (by kernel_rfl) ?_;refine bA _ _ _ fun g=>?_
  simp[af,ah,ad,ae,ab, *,aZ,WI]
 ·by_cases hn:us=[]
  ·refine aw (fn:=Tryz.f205) (c:=aX) rfl (by kernel_rfl) (by kernel_rfl) (by kernel_rfl) (by kernel_rfl) ?_;refine bA _ _ _ fun g=>?_
   subst hn
   simp[af,ah,ad,ae,ab, *,aZ]
  ·refine aw (fn:=Tryz.f205) (c:=aX) rfl (by kernel_rfl) (by kernel_rfl) (by kernel_rfl) (by kernel_rfl) ?_;refine bA _ _ _ fun g=>?_
   simp[af,ah,ad,ae,ab, *,aZ,List.length_pos_iff,nw]
theorem Lp{xu:AV}{us:List Quota}(hu:Sl 5 (eQ us) xu)(hul:us.length * 32≤140737488355328):limf env 206 [xu]=some (nZ xu):=by
 rcases hu.OS with ⟨rfl,he⟩ | ⟨c,rfl⟩
 ·refine aw (fn:=Tryz.f206) (c:=aW) rfl (by kernel_rfl) (by kernel_rfl) (by kernel_rfl) (by kernel_rfl) ?_;refine bz _ _ _ fun g=>?_
  simp[af,ah,ad,ae,ab, *,aY,WH]
 ·by_cases hn:us=[]
  ·refine aw (fn:=Tryz.f206) (c:=aW) rfl (by kernel_rfl) (by kernel_rfl) (by kernel_rfl) (by kernel_rfl) ?_;refine bz _ _ _ fun g=>?_
   subst hn
   simp[af,ah,ad,ae,ab, *,aY]
  ·refine aw (fn:=Tryz.f206) (c:=aW) rfl (by kernel_rfl) (by kernel_rfl) (by kernel_rfl) (by kernel_rfl) ?_;refine bz _ _ _ fun g=>?_
   simp[af,ah,ad,ae,ab, *,aY,List.length_pos_iff,nw]
section
variable{xu xq:AV}{us:List Clear}{qs:List Quota}{gr:Int}(hu:Sl 3 (eN us) xu)(hq:Sl 5 (eQ qs) xq)(hql:qs.length * 32≤140737488355328)(hul:us.length * 12≤140737488355328)
include hu hq hql hul
theorem IP:limf env 160 [.agg [xu,xq,aI gr]]=some (.agg [nZ xu,nZ xq,aI gr]):=by
 have hyu:=Lq hu hul
 have hyq:=Lp hq hql
 have ou:=pq hu
 have oq:=pq hq
 generalize nZ xu=yu at *
 generalize nZ xq=yq at *
 refine aw (fn:=Tryz.f160) (c:=tE) rfl (by kernel_rfl) (by kernel_rfl) (by kernel_rfl) (by kernel_rfl) ?_;refine AE _ _ _ fun g=>?_
 rcases ou with ⟨rfl,h1⟩ | rfl | ⟨rfl,h1⟩<;>rcases oq with ⟨rfl,h2⟩ | rfl | ⟨rfl,h2⟩<;>simp[af,ah,ad,ae,ab, *,tM,hu.r,hq.r,aF]
end
end Go.Proofs.YtmkmimgokagimaaGreat
