/-
  The functions of policy, and the document's: what they answer. No statement of a seat is proved here.
-/
import Derived.Test.YtmkmimgokagimaaGreatMLeFns
set_option linter.unusedVariables false
set_option linter.unusedSimpArgs false
set_option linter.unusedSectionVars false
set_option linter.unnecessarySimpa false
set_option maxRecDepth 100000
namespace Go.Proofs.YtmkmimgokagimaaGreat
open Go.Ab
attribute [local simp] bm aP keep thr
section
variable{xu xq:AV}{us:List Clear}{qs:List Quota}{gr:Int}(hu:Sl 3 (eg us) xu)(hq:Sl 5 (eK qs) xq)(hql:qs.length<4611686018427387904)(hul:us.length<4611686018427387904)
include hu hq hql hul
@[simp] theorem QW(user:Int)(a:UInt8)(b:UInt32):limf env 174 [.agg [xu,xq,aI gr],aI user,.agg [a8 a,a32 b]]=some (.tup [aB (decide (Ad us qs gr a=0)&&C4 us user a b),aI (Ad us qs gr a)]):=by
 refine az (fn:=Tryz.f174) (c:=u7) rfl (by kernel_rfl) (by kernel_rfl) (by kernel_rfl) (by kernel_rfl) ?_;refine Bp _ _ _ _ _ fun g=>?_
 simp[af,ah,ad,ae,ab, *,vn,hu.r,hq.r,Fy hu hq hql hul]
 by_cases h0:0≤user∧user<us.length
 ·obtain⟨n,rfl⟩:=Int.eq_ofNat_of_zero_le h0.1
  have hn:n<us.length:=by omega
  have h1 : ¬(n:Int)<0:=by omega
  have h2 : ¬(us.length:Int)≤n:=by omega
  repeat' ((first | refine oc (fun h=>?_) (fun h=>?_) | refine lQ (fun h=>?_) (fun h=>?_) | refine lR (fun h=>?_) (fun h=>?_) | refine lO (fun h=>?_) (fun h=>?_) | refine lP (fun h=>?_) (fun h=>?_))<;>(try simp only[decide_eq_true_eq,decide_eq_false_iff_not,Bool.not_eq_true',Bool.not_eq_false',Bool.and_eq_true,Bool.or_eq_true]at h)<;>(try simp[af,ah,ad,ae,ab, *,hu.r,hq.r,hu.idx,hn,h1,h2,C4,Clear.enc]))
 ·have h1 : ¬user<0→(us.length:Int)≤user:=by omega
  repeat' ((first | refine oc (fun h=>?_) (fun h=>?_) | refine lQ (fun h=>?_) (fun h=>?_) | refine lR (fun h=>?_) (fun h=>?_) | refine lO (fun h=>?_) (fun h=>?_) | refine lP (fun h=>?_) (fun h=>?_))<;>(try simp only[decide_eq_true_eq,decide_eq_false_iff_not,Bool.not_eq_true',Bool.not_eq_false',Bool.and_eq_true,Bool.or_eq_true]at h)<;>(try simp[af,ah,ad,ae,ab, *,hu.r,hq.r,hu.idx,C4,Clear.enc]))
end
@[simp] theorem KX{xu xq:AV}{us:List Clear}{qs:List Quota}(gr:Int)(hu:Sl 3 (eg us) xu)(hq:Sl 5 (eK qs) xq):limf env 63 [.agg [xu,xq,aI gr]]=some (aB (decide (100<(us.length:Int))||decide (100<(qs.length:Int)))):=by
 refine az (fn:=Tryz.f63) (c:=kT) rfl (by kernel_rfl) (by kernel_rfl) (by kernel_rfl) (by kernel_rfl) ?_;refine ph _ _ _ fun g=>?_
 simp[af,ah,ad,ae,ab, *,kV,hu.r,hq.r]
 repeat' ((first | refine oc (fun h=>?_) (fun h=>?_) | refine lQ (fun h=>?_) (fun h=>?_) | refine lR (fun h=>?_) (fun h=>?_) | refine lO (fun h=>?_) (fun h=>?_) | refine lP (fun h=>?_) (fun h=>?_))<;>(try simp only[decide_eq_true_eq,decide_eq_false_iff_not,Bool.not_eq_true',Bool.not_eq_false',Bool.and_eq_true,Bool.or_eq_true]at h)<;>(try simp[af,ah,ad,ae,ab, *,hu.r,hq.r]))
@[simp] theorem WX(a:UInt8)(b:UInt32)(x y z:Int):limf env 106 [.agg [a8 a,a32 b,aI x,aI y,aI z]]=some (.agg [a8 a,a32 b]):=by
 refine az (fn:=Tryz.f106) (c:=pK) rfl (by kernel_rfl) (by kernel_rfl) (by kernel_rfl) (by kernel_rfl) ?_;refine vw _ _ _ fun g=>?_
 simp[af,ah,ad,ae,ab, *,pU]
@[simp] theorem Tl(q:Quota)(a:UInt8)(b:UInt32):limf env 171 [.agg [a8 q.lv,a32 q.cats,aI q.opens,aI q.ops,aI q.cells],.iptr 1 [.fn (.func 106) [] []] 0 0,.iptr 2 [.agg [a8 a,a32 b]] 0 0]=some (aB (B5 a b q)):=by
 refine az (fn:=Tryz.f171) (c:=cF) rfl (by kernel_rfl) (by kernel_rfl) (by kernel_rfl) (by kernel_rfl) ?_;refine ep _ _ _ _ _ fun g=>?_
 simp[af,ah,ad,ae,ab, *,cG,eqA,eqFs,B5]
def oC(a:UInt8)(b:UInt32):List Quota→Nat→Int
 | [],_ => -1
 | q :: s,k=>if B5 a b q=true then k else oC a b s (k+1)
section
variable{xq:AV}{qs:List Quota}(hq:Sl 5 (eK qs) xq)(hql:qs.length<4611686018427387904)
include hq hql
theorem Au{a:UInt8}{b:UInt32}{Q:AV→Heap→Prop} : ∀(s:List Quota)(k:Nat)(i:Int)(H:Heap),qs.drop k=s→k≤qs.length→i=k→(∀y H',y=aI (oC a b s k)→Q y H') →
 GoL env Tryz.f170 0 aJ [(8,aI i),(0,xq),(1,.fn (.func 171) [] [.iptr 1 [.fn (.func 106) [] []] 0 0,.iptr 2 [.agg [a8 a,a32 b]] 0 0]),(7,aI qs.length)] H Q:=by
 intro s
 induction s with
 | nil =>
  rintro k i H hs hk rfl hQ
  obtain rfl:=drop_nil hs hk
  refine bO _ _ _ _ _ _ fun g=>?_
  simp[af,ah,ad,ae,ab, *,bl]
  all_goals (first | exact hQ _ _ rfl | exact hQ _ _ (by simp[*]))
 | cons q s ih =>
  rintro k i H hs hk rfl hQ
  obtain⟨hlt,hg,hs',hg'⟩:=drop_cons hs
  refine bO _ _ _ _ _ _ fun g=>?_
  simp[af,ah,ad,ae,ab, *,bl,hq.idx,hlt,hg,Quota.enc]
  refine oc (fun h=>?_) (fun h=>?_)
  ·all_goals (first | exact hQ _ _ rfl | exact hQ _ _ (by simp[*,oC]))
  simp[IntWalk.i64_in ((k:Int)+1) (by omega)]
  exact ih (k+1) _ _ hs' (by omega) (by simp) (fun y H' e=>hQ y H' (by simp[*,oC]))
@[simp] theorem D7(a:UInt8)(b:UInt32):limf env 170 [xq,.fn (.func 171) [] [.iptr 1 [.fn (.func 106) [] []] 0 0,.iptr 2 [.agg [a8 a,a32 b]] 0 0]]=some (aI (oC a b qs 0)):=by
 refine az (fn:=Tryz.f170) (c:=bo) rfl (by kernel_rfl) (by kernel_rfl) (by kernel_rfl) (by kernel_rfl) ?_;refine dI _ _ _ _ fun g=>?_
 simp[af,ah,ad,ae,ab, *,bS,hq.r]
 exact Au hq hql qs 0 _ _ rfl (by omega) (by simp) (fun y H' e=>by simp[e])
omit hq hql in
theorem Cc(a:UInt8)(b:UInt32) : ∀(s:List Quota)(k:Nat),qs.drop k=s→(oC a b s k = -1∧s.find? (B5 a b)=none) ∨∃n,∃h:n<qs.length,oC a b s k=(n:Int)∧s.find? (B5 a b)=some qs[n]:=by
 intro s
 induction s with
 | nil=>intro k _;exact .inl ⟨rfl,rfl⟩
 | cons q s ih =>
  intro k hs
  obtain⟨hlt,hg,hs',hg'⟩:=drop_cons hs
  unfold oC
  by_cases h:B5 a b q=true
  ·exact .inr ⟨k,hlt,by simp[h],by simp[h,hg]⟩
  ·rcases ih (k+1) hs' with ⟨h1,h2⟩ | ⟨n,hn,h1,h2⟩
   ·exact .inl ⟨by simp[h,h1],by simp[h,h2]⟩
   ·exact .inr ⟨n,hn,by simp[h,h1],by simp[h,h2]⟩
@[simp] theorem Mw(a:UInt8)(b:UInt32):limf env 105 [xq,.agg [a8 a,a32 b],.fn (.func 106) [] []]=some (match qs.find? (B5 a b) with
 | some q => .tup [.agg q.enc,aB true]
 | none => .tup [.agg (Quota.mk 0 0 0 0 0).enc,aB false]):=by
 refine az (fn:=Tryz.f105) (c:=cK) rfl (by kernel_rfl) (by kernel_rfl) (by kernel_rfl) (by kernel_rfl) ?_;refine eM _ _ _ _ _ fun g=>?_
 simp[af,ah,ad,ae,ab, *,cL,hq.r,D7 hq hql]
 rcases Cc a b qs 0 rfl with ⟨h1,h2⟩ | ⟨n,hn,h1,h2⟩
 ·rw[h1,h2]
  simp[Quota.enc]
 ·have h3 : ¬(n:Int)<0:=by omega
  rw[h1,h2]
  simp[hq.idx,hn,h3,Quota.enc]
end
end Go.Proofs.YtmkmimgokagimaaGreat
namespace Go.Proofs.YtmkmimgokagimaaGreat
open Go.Ab
attribute [local simp] bm aP keep thr bF aY bf dw dv cV
theorem Vr:qBin env.P .eql 22 (.tmp 3) (.const (.slice none 0 0)) (some aNil) (some aNil)=some (aB true,[]):=by kernel_rfl
theorem Vq:qBin env.P .eql 23 (.tmp 3) (.const (.slice none 0 0)) (some aNil) (some aNil)=some (aB true,[]):=by kernel_rfl
theorem K8{xu:AV}{us:List Clear}(hu:Sl 3 (eg us) xu)(hul:us.length * 12≤140737488355328):limf env 205 [xu]=some (oF xu):=by
 rcases hu.Of with ⟨rfl,he⟩ | ⟨c,rfl⟩
 ·refine az (fn:=Tryz.f205) (c:=aU) rfl (by kernel_rfl) (by kernel_rfl) (by kernel_rfl) (by kernel_rfl) ?_;refine bz _ _ _ fun g=>?_
  simp[af,ah,ad,ae,ab, *,aW,Vr]
 ·by_cases hn:us=[]
  ·refine az (fn:=Tryz.f205) (c:=aU) rfl (by kernel_rfl) (by kernel_rfl) (by kernel_rfl) (by kernel_rfl) ?_;refine bz _ _ _ fun g=>?_
   subst hn
   simp[af,ah,ad,ae,ab, *,aW]
  ·refine az (fn:=Tryz.f205) (c:=aU) rfl (by kernel_rfl) (by kernel_rfl) (by kernel_rfl) (by kernel_rfl) ?_;refine bz _ _ _ fun g=>?_
   simp[af,ah,ad,ae,ab, *,aW,List.length_pos_iff,nP]
theorem K7{xu:AV}{us:List Quota}(hu:Sl 5 (eK us) xu)(hul:us.length * 32≤140737488355328):limf env 206 [xu]=some (oF xu):=by
 rcases hu.Of with ⟨rfl,he⟩ | ⟨c,rfl⟩
 ·refine az (fn:=Tryz.f206) (c:=aT) rfl (by kernel_rfl) (by kernel_rfl) (by kernel_rfl) (by kernel_rfl) ?_;refine bx _ _ _ fun g=>?_
  simp[af,ah,ad,ae,ab, *,aV,Vq]
 ·by_cases hn:us=[]
  ·refine az (fn:=Tryz.f206) (c:=aT) rfl (by kernel_rfl) (by kernel_rfl) (by kernel_rfl) (by kernel_rfl) ?_;refine bx _ _ _ fun g=>?_
   subst hn
   simp[af,ah,ad,ae,ab, *,aV]
  ·refine az (fn:=Tryz.f206) (c:=aT) rfl (by kernel_rfl) (by kernel_rfl) (by kernel_rfl) (by kernel_rfl) ?_;refine bx _ _ _ fun g=>?_
   simp[af,ah,ad,ae,ab, *,aV,List.length_pos_iff,nP]
section
variable{xu xq:AV}{us:List Clear}{qs:List Quota}{gr:Int}(hu:Sl 3 (eg us) xu)(hq:Sl 5 (eK qs) xq)(hql:qs.length * 32≤140737488355328)(hul:us.length * 12≤140737488355328)
include hu hq hql hul
theorem Im:limf env 160 [.agg [xu,xq,aI gr]]=some (.agg [oF xu,oF xq,aI gr]):=by
 have hyu:=K8 hu hul
 have hyq:=K7 hq hql
 have ou:=pJ hu
 have oq:=pJ hq
 generalize oF xu=yu at *
 generalize oF xq=yq at *
 refine az (fn:=Tryz.f160) (c:=s7) rfl (by kernel_rfl) (by kernel_rfl) (by kernel_rfl) (by kernel_rfl) ?_;refine zY _ _ _ fun g=>?_
 rcases ou with ⟨rfl,h1⟩ | rfl | ⟨rfl,h1⟩<;>rcases oq with ⟨rfl,h2⟩ | rfl | ⟨rfl,h2⟩<;>simp[af,ah,ad,ae,ab, *,tn,hu.r,hq.r,aG]
end
end Go.Proofs.YtmkmimgokagimaaGreat
