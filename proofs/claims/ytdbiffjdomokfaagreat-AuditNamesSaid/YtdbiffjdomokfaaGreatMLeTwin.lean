/-
  The functions of policy, and the document's: what they answer. No statement of a seat is proved here.
-/
import Derived.Test.YtdbiffjdomokfaaGreatMLeFns
set_option linter.unusedVariables false
set_option linter.unusedSimpArgs false
set_option linter.unusedSectionVars false
set_option linter.unnecessarySimpa false
set_option maxRecDepth 100000
namespace Go.Proofs.YtdbiffjdomokfaaGreat
open Go.Ab
attribute [local simp] bK bw dc kS
section
variable{xu xq:AV}{us:List Clear}{qs:List bI}{gr:Int}(hu:Sl 3 (fD us) xu)(hq:Sl 5 (fQ qs) xq)(hql:qs.length<4611686018427387904)(hul:us.length<4611686018427387904)
include hu hq hql hul
@[simp] theorem Qg(user:Int)(a:UInt8)(b:UInt32):bj env 93 [.agg [xu,xq,aI gr],aI user,.agg [a8 a,aF b]]=some (.tup [aB (decide (u7 us qs gr a=0)&&AJ us user a b),aI (u7 us qs gr a)]):=by
 refine aJ (fn:=Tryz.f93) (c:=vn) rfl (by kernel_rfl) (by kernel_rfl) (by kernel_rfl) (by kernel_rfl) ?_;refine BS _ _ _ _ _ fun g=>?_
 simp[ah,ai,ae,af,ad, *,vB,hu.r,hq.r,E4 hu hq hql hul]
 by_cases h0:0≤user∧user<us.length
 ·obtain⟨n,rfl⟩:=Int.eq_ofNat_of_zero_le h0.1
  have hn:n<us.length:=by omega
  have h1 : ¬(n:Int)<0:=by omega
  have h2 : ¬(us.length:Int)≤n:=by omega
  repeat' ((first | refine kP (fun h=>?_) (fun h=>?_) | refine kp (fun h=>?_) (fun h=>?_) | refine kq (fun h=>?_) (fun h=>?_) | refine kn (fun h=>?_) (fun h=>?_) | refine ko (fun h=>?_) (fun h=>?_))<;>(try simp only[decide_eq_true_eq,decide_eq_false_iff_not,Bool.not_eq_true',Bool.not_eq_false',Bool.and_eq_true,Bool.or_eq_true]at h)<;>(try simp[ah,ai,ae,af,ad, *,hu.r,hq.r,hu.idx,hn,h1,h2,AJ,Clear.enc]))
 ·have h1 : ¬user<0→(us.length:Int)≤user:=by omega
  repeat' ((first | refine kP (fun h=>?_) (fun h=>?_) | refine kp (fun h=>?_) (fun h=>?_) | refine kq (fun h=>?_) (fun h=>?_) | refine kn (fun h=>?_) (fun h=>?_) | refine ko (fun h=>?_) (fun h=>?_))<;>(try simp only[decide_eq_true_eq,decide_eq_false_iff_not,Bool.not_eq_true',Bool.not_eq_false',Bool.and_eq_true,Bool.or_eq_true]at h)<;>(try simp[ah,ai,ae,af,ad, *,hu.r,hq.r,hu.idx,AJ,Clear.enc]))
end
@[simp] theorem YQ(a:UInt8)(b:UInt32)(x y z:Int):bj env 113 [.agg [a8 a,aF b,aI x,aI y,aI z]]=some (.agg [a8 a,aF b]):=by
 refine aJ (fn:=Tryz.f113) (c:=qu) rfl (by kernel_rfl) (by kernel_rfl) (by kernel_rfl) (by kernel_rfl) ?_;refine wg _ _ _ fun g=>?_
 simp[ah,ai,ae,af,ad, *,qC]
@[simp] theorem Uu(q:bI)(a:UInt8)(b:UInt32):bj env 129 [.agg [a8 q.lv,aF q.cats,aI q.opens,aI q.ops,aI q.cells],.iptr 1 [.fn (.func 113) [] []] 0 0,.iptr 2 [.agg [a8 a,aF b]] 0 0]=some (aB (xi a b q)):=by
 refine aJ (fn:=Tryz.f129) (c:=dy) rfl (by kernel_rfl) (by kernel_rfl) (by kernel_rfl) (by kernel_rfl) ?_;refine fA _ _ _ _ _ fun g=>?_
 simp[ah,ai,ae,af,ad, *,dz,lC,fL,xi]
def oB(a:UInt8)(b:UInt32):List bI→Nat→Int
 | [],_ => -1
 | q :: s,k=>if xi a b q=true then k else oB a b s (k+1)
section
variable{xq:AV}{qs:List bI}(hq:Sl 5 (fQ qs) xq)(hql:qs.length<4611686018427387904)
include hq hql
theorem A7{a:UInt8}{b:UInt32}{Q:AV→ab→Prop} : ∀(s:List bI)(k:Nat)(i:Int)(H:ab),qs.drop k=s→k≤qs.length→i=k→(∀y H',y=aI (oB a b s k)→Q y H') →
 bW env Tryz.f128 0 bt [(8,aI i),(0,xq),(1,.fn (.func 129) [] [.iptr 1 [.fn (.func 113) [] []] 0 0,.iptr 2 [.agg [a8 a,aF b]] 0 0]),(7,aI qs.length)] H Q:=by
 intro s
 induction s with
 | nil =>
  rintro k i H hs hk rfl hQ
  obtain rfl:=drop_nil hs hk
  refine cI _ _ _ _ _ _ fun g=>?_
  simp[ah,ai,ae,af,ad, *,bP]
  all_goals (first | exact hQ _ _ rfl | exact hQ _ _ (by simp[*]))
 | cons q s ih =>
  rintro k i H hs hk rfl hQ
  obtain⟨hlt,hg,hs',hg'⟩:=drop_cons hs
  refine cI _ _ _ _ _ _ fun g=>?_
  simp[ah,ai,ae,af,ad, *,bP,hq.idx,hlt,hg,bI.enc]
  refine kP (fun h=>?_) (fun h=>?_)
  ·all_goals (first | exact hQ _ _ rfl | exact hQ _ _ (by simp[*,oB]))
  simp[IntWalk.i64_in ((k:Int)+1) (by omega)]
  exact ih (k+1) _ _ hs' (by omega) (by simp) (fun y H' e=>hQ y H' (by simp[*,oB]))
@[simp] theorem E6(a:UInt8)(b:UInt32):bj env 128 [xq,.fn (.func 129) [] [.iptr 1 [.fn (.func 113) [] []] 0 0,.iptr 2 [.agg [a8 a,aF b]] 0 0]]=some (aI (oB a b qs 0)):=by
 refine aJ (fn:=Tryz.f128) (c:=bT) rfl (by kernel_rfl) (by kernel_rfl) (by kernel_rfl) (by kernel_rfl) ?_;refine eP _ _ _ _ fun g=>?_
 simp[ah,ai,ae,af,ad, *,cP,hq.r]
 exact A7 hq hql qs 0 _ _ rfl (by omega) (by simp) (fun y H' e=>by simp[e])
omit hq hql in
theorem Cm(a:UInt8)(b:UInt32) : ∀(s:List bI)(k:Nat),qs.drop k=s→(oB a b s k = -1∧s.find? (xi a b)=none) ∨∃n,∃h:n<qs.length,oB a b s k=(n:Int)∧s.find? (xi a b)=some qs[n]:=by
 intro s
 induction s with
 | nil=>intro k _;exact .inl ⟨rfl,rfl⟩
 | cons q s ih =>
  intro k hs
  obtain⟨hlt,hg,hs',hg'⟩:=drop_cons hs
  unfold oB
  by_cases h:xi a b q=true
  ·exact .inr ⟨k,hlt,by simp[h],by simp[h,hg]⟩
  ·rcases ih (k+1) hs' with ⟨h1,h2⟩ | ⟨n,hn,h1,h2⟩
   ·exact .inl ⟨by simp[h,h1],by simp[h,h2]⟩
   ·exact .inr ⟨n,hn,by simp[h,h1],by simp[h,h2]⟩
@[simp] theorem KM(a:UInt8)(b:UInt32):bj env 112 [xq,.agg [a8 a,aF b],.fn (.func 113) [] []]=some (match qs.find? (xi a b) with
 | some q => .tup [.agg q.enc,aB true]
 | none => .tup [.agg (bI.mk 0 0 0 0 0).enc,aB false]):=by
 refine aJ (fn:=Tryz.f112) (c:=dM) rfl (by kernel_rfl) (by kernel_rfl) (by kernel_rfl) (by kernel_rfl) ?_;refine fS _ _ _ _ _ fun g=>?_
 simp[ah,ai,ae,af,ad, *,dO,hq.r,E6 hq hql]
 rcases Cm a b qs 0 rfl with ⟨h1,h2⟩ | ⟨n,hn,h1,h2⟩
 ·rw[h1,h2]
  simp[bI.enc]
 ·have h3 : ¬(n:Int)<0:=by omega
  rw[h1,h2]
  simp[hq.idx,hn,h3,bI.enc]
end
end Go.Proofs.YtdbiffjdomokfaaGreat
namespace Go.Proofs.YtdbiffjdomokfaaGreat
open Go.Ab
attribute [local simp] bK bw dc kS bU bx bH dJ dI cp
theorem UO:aE env.P .eql 26 (.tmp 3) (.const (.slice none 0 0)) (some dg) (some dg)=some (aB true,[]):=by kernel_rfl
theorem UN:aE env.P .eql 27 (.tmp 3) (.const (.slice none 0 0)) (some dg) (some dg)=some (aB true,[]):=by kernel_rfl
theorem K4{xu:AV}{us:List Clear}(hu:Sl 3 (fD us) xu)(hul:us.length * 12≤140737488355328):bj env 69 [xu]=some (m7 xu):=by
 rcases hu.LB with ⟨rfl,he⟩ | ⟨c,rfl⟩
 ·refine aJ (fn:=Tryz.f69) (c:=bE) rfl (by kernel_rfl) (by kernel_rfl) (by kernel_rfl) (by kernel_rfl) ?_;refine bZ _ _ _ fun g=>?_
  simp[ah,ai,ae,af,ad, *,bG,UO]
 ·by_cases hn:us=[]
  ·refine aJ (fn:=Tryz.f69) (c:=bE) rfl (by kernel_rfl) (by kernel_rfl) (by kernel_rfl) (by kernel_rfl) ?_;refine bZ _ _ _ fun g=>?_
   subst hn
   simp[ah,ai,ae,af,ad, *,bG]
  ·refine aJ (fn:=Tryz.f69) (c:=bE) rfl (by kernel_rfl) (by kernel_rfl) (by kernel_rfl) (by kernel_rfl) ?_;refine bZ _ _ _ fun g=>?_
   simp[ah,ai,ae,af,ad, *,bG,List.length_pos_iff,nR]
theorem K3{xu:AV}{us:List bI}(hu:Sl 5 (fQ us) xu)(hul:us.length * 32≤140737488355328):bj env 70 [xu]=some (m7 xu):=by
 rcases hu.LB with ⟨rfl,he⟩ | ⟨c,rfl⟩
 ·refine aJ (fn:=Tryz.f70) (c:=bD) rfl (by kernel_rfl) (by kernel_rfl) (by kernel_rfl) (by kernel_rfl) ?_;refine bY _ _ _ fun g=>?_
  simp[ah,ai,ae,af,ad, *,bF,UN]
 ·by_cases hn:us=[]
  ·refine aJ (fn:=Tryz.f70) (c:=bD) rfl (by kernel_rfl) (by kernel_rfl) (by kernel_rfl) (by kernel_rfl) ?_;refine bY _ _ _ fun g=>?_
   subst hn
   simp[ah,ai,ae,af,ad, *,bF]
  ·refine aJ (fn:=Tryz.f70) (c:=bD) rfl (by kernel_rfl) (by kernel_rfl) (by kernel_rfl) (by kernel_rfl) ?_;refine bY _ _ _ fun g=>?_
   simp[ah,ai,ae,af,ad, *,bF,List.length_pos_iff,nR]
section
variable{xu xq:AV}{us:List Clear}{qs:List bI}{gr:Int}(hu:Sl 3 (fD us) xu)(hq:Sl 5 (fQ qs) xq)(hql:qs.length * 32≤140737488355328)(hul:us.length * 12≤140737488355328)
include hu hq hql hul
theorem Ii:bj env 42 [.agg [xu,xq,aI gr]]=some (.agg [m7 xu,m7 xq,aI gr]):=by
 have hyu:=K4 hu hul
 have hyq:=K3 hq hql
 have ou:=pF hu
 have oq:=pF hq
 generalize m7 xu=yu at *
 generalize m7 xq=yq at *
 refine aJ (fn:=Tryz.f42) (c:=ud) rfl (by kernel_rfl) (by kernel_rfl) (by kernel_rfl) (by kernel_rfl) ?_;refine Ac _ _ _ fun g=>?_
 rcases ou with ⟨rfl,h1⟩ | rfl | ⟨rfl,h1⟩<;>rcases oq with ⟨rfl,h2⟩ | rfl | ⟨rfl,h2⟩<;>simp[ah,ai,ae,af,ad, *,uq,hu.r,hq.r,bo]
end
end Go.Proofs.YtdbiffjdomokfaaGreat
