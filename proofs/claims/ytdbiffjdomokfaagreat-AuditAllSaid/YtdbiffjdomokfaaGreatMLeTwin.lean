/-
  The functions of policy, and the document's: what they answer. No statement of a seat is proved here.
-/
import Derived.Test.YtdbiffjdomokfaaGreatMLeFns
set_option linter.unusedVariables false
set_option linter.unusedSimpArgs false
set_option linter.unusedSectionVars false
set_option linter.unnecessarySimpa false
set_option maxRecDepth 100000
namespace Go.Proofs.YtdbiffjdomokfaaGreat
open Go.Ab
attribute [local simp] bD bq cZ ld
section
variable{xu xq:AV}{us:List Clear}{qs:List bz}{gr:Int}(hu:Sl 3 (eZ us) xu)(hq:Sl 5 (ff qs) xq)(hql:qs.length<4611686018427387904)(hul:us.length<4611686018427387904)
include hu hq hql hul
@[simp] theorem R6(user:Int)(a:UInt8)(b:UInt32):bj env 93 [.agg [xu,xq,aI gr],aI user,.agg [a8 a,aF b]]=some (.tup [aB (decide (wb us qs gr a=0)&&BJ us user a b),aI (wb us qs gr a)]):=by
 refine aL (fn:=Tryz.f93) (c:=wz) rfl (by kernel_rfl) (by kernel_rfl) (by kernel_rfl) (by kernel_rfl) ?_;refine CT _ _ _ _ _ fun g=>?_
 simp[ah,ai,ae,af,ad, *,wI,hu.r,hq.r,F3 hu hq hql hul]
 by_cases h0:0≤user∧user<us.length
 ·obtain⟨n,rfl⟩:=Int.eq_ofNat_of_zero_le h0.1
  have hn:n<us.length:=by omega
  have h1 : ¬(n:Int)<0:=by omega
  have h2 : ¬(us.length:Int)≤n:=by omega
  repeat' ((first | refine k5 (fun h=>?_) (fun h=>?_) | refine ku (fun h=>?_) (fun h=>?_) | refine ky (fun h=>?_) (fun h=>?_) | refine kq (fun h=>?_) (fun h=>?_) | refine kr (fun h=>?_) (fun h=>?_))<;>(try simp only[decide_eq_true_eq,decide_eq_false_iff_not,Bool.not_eq_true',Bool.not_eq_false',Bool.and_eq_true,Bool.or_eq_true]at h)<;>(try simp[ah,ai,ae,af,ad, *,hu.r,hq.r,hu.idx,hn,h1,h2,BJ,Clear.enc]))
 ·have h1 : ¬user<0→(us.length:Int)≤user:=by omega
  repeat' ((first | refine k5 (fun h=>?_) (fun h=>?_) | refine ku (fun h=>?_) (fun h=>?_) | refine ky (fun h=>?_) (fun h=>?_) | refine kq (fun h=>?_) (fun h=>?_) | refine kr (fun h=>?_) (fun h=>?_))<;>(try simp only[decide_eq_true_eq,decide_eq_false_iff_not,Bool.not_eq_true',Bool.not_eq_false',Bool.and_eq_true,Bool.or_eq_true]at h)<;>(try simp[ah,ai,ae,af,ad, *,hu.r,hq.r,hu.idx,BJ,Clear.enc]))
end
@[simp] theorem Mo{xu xq:AV}{us:List Clear}{qs:List bz}(gr:Int)(hu:Sl 3 (eZ us) xu)(hq:Sl 5 (ff qs) xq):bj env 25 [.agg [xu,xq,aI gr]]=some (aB (decide (100<(us.length:Int))||decide (100<(qs.length:Int)))):=by
 refine aL (fn:=Tryz.f25) (c:=mA) rfl (by kernel_rfl) (by kernel_rfl) (by kernel_rfl) (by kernel_rfl) ?_;refine rC _ _ _ fun g=>?_
 simp[ah,ai,ae,af,ad, *,mD,hu.r,hq.r]
 repeat' ((first | refine k5 (fun h=>?_) (fun h=>?_) | refine ku (fun h=>?_) (fun h=>?_) | refine ky (fun h=>?_) (fun h=>?_) | refine kq (fun h=>?_) (fun h=>?_) | refine kr (fun h=>?_) (fun h=>?_))<;>(try simp only[decide_eq_true_eq,decide_eq_false_iff_not,Bool.not_eq_true',Bool.not_eq_false',Bool.and_eq_true,Bool.or_eq_true]at h)<;>(try simp[ah,ai,ae,af,ad, *,hu.r,hq.r]))
@[simp] theorem aat(a:UInt8)(b:UInt32)(x y z:Int):bj env 113 [.agg [a8 a,aF b,aI x,aI y,aI z]]=some (.agg [a8 a,aF b]):=by
 refine aL (fn:=Tryz.f113) (c:=qX) rfl (by kernel_rfl) (by kernel_rfl) (by kernel_rfl) (by kernel_rfl) ?_;refine xn _ _ _ fun g=>?_
 simp[ah,ai,ae,af,ad, *,rf]
@[simp] theorem Wl(q:bz)(a:UInt8)(b:UInt32):bj env 129 [.agg [a8 q.lv,aF q.cats,aI q.opens,aI q.ops,aI q.cells],.iptr 1 [.fn (.func 113) [] []] 0 0,.iptr 2 [.agg [a8 a,aF b]] 0 0]=some (aB (yw a b q)):=by
 refine aL (fn:=Tryz.f129) (c:=dF) rfl (by kernel_rfl) (by kernel_rfl) (by kernel_rfl) (by kernel_rfl) ?_;refine fN _ _ _ _ _ fun g=>?_
 simp[ah,ai,ae,af,ad, *,dG,mf,gb,yw]
def o6(a:UInt8)(b:UInt32):List bz→Nat→Int
 | [],_ => -1
 | q :: s,k=>if yw a b q=true then k else o6 a b s (k+1)
section
variable{xq:AV}{qs:List bz}(hq:Sl 5 (ff qs) xq)(hql:qs.length<4611686018427387904)
include hq hql
theorem B6{a:UInt8}{b:UInt32}{Q:AV→ab→Prop} : ∀(s:List bz)(k:Nat)(i:Int)(H:ab),qs.drop k=s→k≤qs.length→i=k→(∀y H',y=aI (o6 a b s k)→Q y H') →
 bP env Tryz.f128 0 bu [(8,aI i),(0,xq),(1,.fn (.func 129) [] [.iptr 1 [.fn (.func 113) [] []] 0 0,.iptr 2 [.agg [a8 a,aF b]] 0 0]),(7,aI qs.length)] H Q:=by
 intro s
 induction s with
 | nil =>
  rintro k i H hs hk rfl hQ
  obtain rfl:=drop_nil hs hk
  refine cM _ _ _ _ _ _ fun g=>?_
  simp[ah,ai,ae,af,ad, *,bS]
  all_goals (first | exact hQ _ _ rfl | exact hQ _ _ (by simp[*]))
 | cons q s ih =>
  rintro k i H hs hk rfl hQ
  obtain⟨hlt,hg,hs',hg'⟩:=drop_cons hs
  refine cM _ _ _ _ _ _ fun g=>?_
  simp[ah,ai,ae,af,ad, *,bS,hq.idx,hlt,hg,bz.enc]
  refine k5 (fun h=>?_) (fun h=>?_)
  ·all_goals (first | exact hQ _ _ rfl | exact hQ _ _ (by simp[*,o6]))
  simp[IntWalk.i64_in ((k:Int)+1) (by omega)]
  exact ih (k+1) _ _ hs' (by omega) (by simp) (fun y H' e=>hQ y H' (by simp[*,o6]))
@[simp] theorem F6(a:UInt8)(b:UInt32):bj env 128 [xq,.fn (.func 129) [] [.iptr 1 [.fn (.func 113) [] []] 0 0,.iptr 2 [.agg [a8 a,aF b]] 0 0]]=some (aI (o6 a b qs 0)):=by
 refine aL (fn:=Tryz.f128) (c:=bW) rfl (by kernel_rfl) (by kernel_rfl) (by kernel_rfl) (by kernel_rfl) ?_;refine fb _ _ _ _ fun g=>?_
 simp[ah,ai,ae,af,ad, *,cX,hq.r]
 exact B6 hq hql qs 0 _ _ rfl (by omega) (by simp) (fun y H' e=>by simp[e])
omit hq hql in
theorem Dm(a:UInt8)(b:UInt32) : ∀(s:List bz)(k:Nat),qs.drop k=s→(o6 a b s k = -1∧s.find? (yw a b)=none) ∨∃n,∃h:n<qs.length,o6 a b s k=(n:Int)∧s.find? (yw a b)=some qs[n]:=by
 intro s
 induction s with
 | nil=>intro k _;exact .inl ⟨rfl,rfl⟩
 | cons q s ih =>
  intro k hs
  obtain⟨hlt,hg,hs',hg'⟩:=drop_cons hs
  unfold o6
  by_cases h:yw a b q=true
  ·exact .inr ⟨k,hlt,by simp[h],by simp[h,hg]⟩
  ·rcases ih (k+1) hs' with ⟨h1,h2⟩ | ⟨n,hn,h1,h2⟩
   ·exact .inl ⟨by simp[h,h1],by simp[h,h2]⟩
   ·exact .inr ⟨n,hn,by simp[h,h1],by simp[h,h2]⟩
@[simp] theorem Mi(a:UInt8)(b:UInt32):bj env 112 [xq,.agg [a8 a,aF b],.fn (.func 113) [] []]=some (match qs.find? (yw a b) with
 | some q => .tup [.agg q.enc,aB true]
 | none => .tup [.agg (bz.mk 0 0 0 0 0).enc,aB false]):=by
 refine aL (fn:=Tryz.f112) (c:=dR) rfl (by kernel_rfl) (by kernel_rfl) (by kernel_rfl) (by kernel_rfl) ?_;refine gm _ _ _ _ _ fun g=>?_
 simp[ah,ai,ae,af,ad, *,dT,hq.r,F6 hq hql]
 rcases Dm a b qs 0 rfl with ⟨h1,h2⟩ | ⟨n,hn,h1,h2⟩
 ·rw[h1,h2]
  simp[bz.enc]
 ·have h3 : ¬(n:Int)<0:=by omega
  rw[h1,h2]
  simp[hq.idx,hn,h3,bz.enc]
end
end Go.Proofs.YtdbiffjdomokfaaGreat
namespace Go.Proofs.YtdbiffjdomokfaaGreat
open Go.Ab
attribute [local simp] bD bq cZ ld bQ bx bA dx dw cg
theorem WH:aE env.P .eql 26 (.tmp 3) (.const (.slice none 0 0)) (some cW) (some cW)=some (aB true,[]):=by kernel_rfl
theorem WG:aE env.P .eql 27 (.tmp 3) (.const (.slice none 0 0)) (some cW) (some cW)=some (aB true,[]):=by kernel_rfl
theorem MC{xu:AV}{us:List Clear}(hu:Sl 3 (eZ us) xu)(hul:us.length * 12≤140737488355328):bj env 69 [xu]=some (nN xu):=by
 rcases hu.Nj with ⟨rfl,he⟩ | ⟨c,rfl⟩
 ·refine aL (fn:=Tryz.f69) (c:=bJ) rfl (by kernel_rfl) (by kernel_rfl) (by kernel_rfl) (by kernel_rfl) ?_;refine b7 _ _ _ fun g=>?_
  simp[ah,ai,ae,af,ad, *,bL,WH]
 ·by_cases hn:us=[]
  ·refine aL (fn:=Tryz.f69) (c:=bJ) rfl (by kernel_rfl) (by kernel_rfl) (by kernel_rfl) (by kernel_rfl) ?_;refine b7 _ _ _ fun g=>?_
   subst hn
   simp[ah,ai,ae,af,ad, *,bL]
  ·refine aL (fn:=Tryz.f69) (c:=bJ) rfl (by kernel_rfl) (by kernel_rfl) (by kernel_rfl) (by kernel_rfl) ?_;refine b7 _ _ _ fun g=>?_
   simp[ah,ai,ae,af,ad, *,bL,List.length_pos_iff,oF]
theorem MB{xu:AV}{us:List bz}(hu:Sl 5 (ff us) xu)(hul:us.length * 32≤140737488355328):bj env 70 [xu]=some (nN xu):=by
 rcases hu.Nj with ⟨rfl,he⟩ | ⟨c,rfl⟩
 ·refine aL (fn:=Tryz.f70) (c:=bI) rfl (by kernel_rfl) (by kernel_rfl) (by kernel_rfl) (by kernel_rfl) ?_;refine bZ _ _ _ fun g=>?_
  simp[ah,ai,ae,af,ad, *,bK,WG]
 ·by_cases hn:us=[]
  ·refine aL (fn:=Tryz.f70) (c:=bI) rfl (by kernel_rfl) (by kernel_rfl) (by kernel_rfl) (by kernel_rfl) ?_;refine bZ _ _ _ fun g=>?_
   subst hn
   simp[ah,ai,ae,af,ad, *,bK]
  ·refine aL (fn:=Tryz.f70) (c:=bI) rfl (by kernel_rfl) (by kernel_rfl) (by kernel_rfl) (by kernel_rfl) ?_;refine bZ _ _ _ fun g=>?_
   simp[ah,ai,ae,af,ad, *,bK,List.length_pos_iff,oF]
section
variable{xu xq:AV}{us:List Clear}{qs:List bz}{gr:Int}(hu:Sl 3 (eZ us) xu)(hq:Sl 5 (ff qs) xq)(hql:qs.length * 32≤140737488355328)(hul:us.length * 12≤140737488355328)
include hu hq hql hul
theorem Jx:bj env 42 [.agg [xu,xq,aI gr]]=some (.agg [nN xu,nN xq,aI gr]):=by
 have hyu:=MC hu hul
 have hyq:=MB hq hql
 have ou:=qb hu
 have oq:=qb hq
 generalize nN xu=yu at *
 generalize nN xq=yq at *
 refine aL (fn:=Tryz.f42) (c:=vd) rfl (by kernel_rfl) (by kernel_rfl) (by kernel_rfl) (by kernel_rfl) ?_;refine Bc _ _ _ fun g=>?_
 rcases ou with ⟨rfl,h1⟩ | rfl | ⟨rfl,h1⟩<;>rcases oq with ⟨rfl,h2⟩ | rfl | ⟨rfl,h2⟩<;>simp[ah,ai,ae,af,ad, *,vn,hu.r,hq.r,bo]
end
end Go.Proofs.YtdbiffjdomokfaaGreat
