/-
  The functions of policy, and the document's: what they answer. No statement of a seat is proved here.
-/
import Derived.Test.YtdbiffjdomokfaaGreatMLeFns
set_option linter.unusedVariables false
set_option linter.unusedSimpArgs false
set_option linter.unusedSectionVars false
set_option linter.unnecessarySimpa false
set_option maxRecDepth 100000
namespace Go.Proofs.YtdbiffjdomokfaaGreat
open Go.Ab
attribute [local simp] bD bp cV lj
section
variable{xu xq:AV}{us:List Clear}{qs:List bu}{gr:Int}(hu:Sl 3 (eW us) xu)(hq:Sl 5 (eY qs) xq)(hql:qs.length<4611686018427387904)(hul:us.length<4611686018427387904)
include hu hq hql hul
@[simp] theorem SP(user:Int)(a:UInt8)(b:UInt32):bj env 93 [.agg [xu,xq,aI gr],aI user,.agg [a8 a,aG b]]=some (.tup [aB (decide (wP us qs gr a=0)&&Ca us user a b),aI (wP us qs gr a)]):=by
 refine aK (fn:=Tryz.f93) (c:=wZ) rfl (by kernel_rfl) (by kernel_rfl) (by kernel_rfl) (by kernel_rfl) ?_;refine Dp _ _ _ _ _ fun g=>?_
 simp[ah,ai,ae,af,ad, *,xf,hu.r,hq.r,GK hu hq hql hul]
 by_cases h0:0≤user∧user<us.length
 ·obtain⟨n,rfl⟩:=Int.eq_ofNat_of_zero_le h0.1
  have hn:n<us.length:=by omega
  have h1 : ¬(n:Int)<0:=by omega
  have h2 : ¬(us.length:Int)≤n:=by omega
  repeat' ((first | refine kO (fun h=>?_) (fun h=>?_) | refine kC (fun h=>?_) (fun h=>?_) | refine kD (fun h=>?_) (fun h=>?_) | refine kA (fun h=>?_) (fun h=>?_) | refine kB (fun h=>?_) (fun h=>?_))<;>(try simp only[decide_eq_true_eq,decide_eq_false_iff_not,Bool.not_eq_true',Bool.not_eq_false',Bool.and_eq_true,Bool.or_eq_true]at h)<;>(try simp[ah,ai,ae,af,ad, *,hu.r,hq.r,hu.idx,hn,h1,h2,Ca,Clear.enc]))
 ·have h1 : ¬user<0→(us.length:Int)≤user:=by omega
  repeat' ((first | refine kO (fun h=>?_) (fun h=>?_) | refine kC (fun h=>?_) (fun h=>?_) | refine kD (fun h=>?_) (fun h=>?_) | refine kA (fun h=>?_) (fun h=>?_) | refine kB (fun h=>?_) (fun h=>?_))<;>(try simp only[decide_eq_true_eq,decide_eq_false_iff_not,Bool.not_eq_true',Bool.not_eq_false',Bool.and_eq_true,Bool.or_eq_true]at h)<;>(try simp[ah,ai,ae,af,ad, *,hu.r,hq.r,hu.idx,Ca,Clear.enc]))
end
@[simp] theorem Nj{xu xq:AV}{us:List Clear}{qs:List bu}(gr:Int)(hu:Sl 3 (eW us) xu)(hq:Sl 5 (eY qs) xq):bj env 25 [.agg [xu,xq,aI gr]]=some (aB (decide (100<(us.length:Int))||decide (100<(qs.length:Int)))):=by
 refine aK (fn:=Tryz.f25) (c:=mE) rfl (by kernel_rfl) (by kernel_rfl) (by kernel_rfl) (by kernel_rfl) ?_;refine rT _ _ _ fun g=>?_
 simp[ah,ai,ae,af,ad, *,mH,hu.r,hq.r]
 repeat' ((first | refine kO (fun h=>?_) (fun h=>?_) | refine kC (fun h=>?_) (fun h=>?_) | refine kD (fun h=>?_) (fun h=>?_) | refine kA (fun h=>?_) (fun h=>?_) | refine kB (fun h=>?_) (fun h=>?_))<;>(try simp only[decide_eq_true_eq,decide_eq_false_iff_not,Bool.not_eq_true',Bool.not_eq_false',Bool.and_eq_true,Bool.or_eq_true]at h)<;>(try simp[ah,ai,ae,af,ad, *,hu.r,hq.r]))
@[simp] theorem abh(a:UInt8)(b:UInt32)(x y z:Int):bj env 113 [.agg [a8 a,aG b,aI x,aI y,aI z]]=some (.agg [a8 a,aG b]):=by
 refine aK (fn:=Tryz.f113) (c:=rC) rfl (by kernel_rfl) (by kernel_rfl) (by kernel_rfl) (by kernel_rfl) ?_;refine xS _ _ _ fun g=>?_
 simp[ah,ai,ae,af,ad, *,rK]
@[simp] theorem W1(q:bu)(a:UInt8)(b:UInt32):bj env 129 [.agg [a8 q.lv,aG q.cats,aI q.opens,aI q.ops,aI q.cells],.iptr 1 [.fn (.func 113) [] []] 0 0,.iptr 2 [.agg [a8 a,aG b]] 0 0]=some (aB (yU a b q)):=by
 refine aK (fn:=Tryz.f129) (c:=dI) rfl (by kernel_rfl) (by kernel_rfl) (by kernel_rfl) (by kernel_rfl) ?_;refine fR _ _ _ _ _ fun g=>?_
 simp[ah,ai,ae,af,ad, *,dJ,lZ,gb,yU]
def pr(a:UInt8)(b:UInt32):List bu→Nat→Int
 | [],_ => -1
 | q :: s,k=>if yU a b q=true then k else pr a b s (k+1)
section
variable{xq:AV}{qs:List bu}(hq:Sl 5 (eY qs) xq)(hql:qs.length<4611686018427387904)
include hq hql
theorem Cy{a:UInt8}{b:UInt32}{Q:AV→ab→Prop} : ∀(s:List bu)(k:Nat)(i:Int)(H:ab),qs.drop k=s→k≤qs.length→i=k→(∀y H',y=aI (pr a b s k)→Q y H') →
 bT env Tryz.f128 0 bx [(8,aI i),(0,xq),(1,.fn (.func 129) [] [.iptr 1 [.fn (.func 113) [] []] 0 0,.iptr 2 [.agg [a8 a,aG b]] 0 0]),(7,aI qs.length)] H Q:=by
 intro s
 induction s with
 | nil =>
  rintro k i H hs hk rfl hQ
  obtain rfl:=drop_nil hs hk
  refine cR _ _ _ _ _ _ fun g=>?_
  simp[ah,ai,ae,af,ad, *,bS]
  all_goals (first | exact hQ _ _ rfl | exact hQ _ _ (by simp[*]))
 | cons q s ih =>
  rintro k i H hs hk rfl hQ
  obtain⟨hlt,hg,hs',hg'⟩:=drop_cons hs
  refine cR _ _ _ _ _ _ fun g=>?_
  simp[ah,ai,ae,af,ad, *,bS,hq.idx,hlt,hg,bu.enc]
  refine kO (fun h=>?_) (fun h=>?_)
  ·all_goals (first | exact hQ _ _ rfl | exact hQ _ _ (by simp[*,pr]))
  simp[IntWalk.i64_in ((k:Int)+1) (by omega)]
  exact ih (k+1) _ _ hs' (by omega) (by simp) (fun y H' e=>hQ y H' (by simp[*,pr]))
@[simp] theorem GM(a:UInt8)(b:UInt32):bj env 128 [xq,.fn (.func 129) [] [.iptr 1 [.fn (.func 113) [] []] 0 0,.iptr 2 [.agg [a8 a,aG b]] 0 0]]=some (aI (pr a b qs 0)):=by
 refine aK (fn:=Tryz.f128) (c:=bX) rfl (by kernel_rfl) (by kernel_rfl) (by kernel_rfl) (by kernel_rfl) ?_;refine fc _ _ _ _ fun g=>?_
 simp[ah,ai,ae,af,ad, *,cZ,hq.r]
 exact Cy hq hql qs 0 _ _ rfl (by omega) (by simp) (fun y H' e=>by simp[e])
omit hq hql in
theorem DU(a:UInt8)(b:UInt32) : ∀(s:List bu)(k:Nat),qs.drop k=s→(pr a b s k = -1∧s.find? (yU a b)=none) ∨∃n,∃h:n<qs.length,pr a b s k=(n:Int)∧s.find? (yU a b)=some qs[n]:=by
 intro s
 induction s with
 | nil=>intro k _;exact .inl ⟨rfl,rfl⟩
 | cons q s ih =>
  intro k hs
  obtain⟨hlt,hg,hs',hg'⟩:=drop_cons hs
  unfold pr
  by_cases h:yU a b q=true
  ·exact .inr ⟨k,hlt,by simp[h],by simp[h,hg]⟩
  ·rcases ih (k+1) hs' with ⟨h1,h2⟩ | ⟨n,hn,h1,h2⟩
   ·exact .inl ⟨by simp[h,h1],by simp[h,h2]⟩
   ·exact .inr ⟨n,hn,by simp[h,h1],by simp[h,h2]⟩
@[simp] theorem Nd(a:UInt8)(b:UInt32):bj env 112 [xq,.agg [a8 a,aG b],.fn (.func 113) [] []]=some (match qs.find? (yU a b) with
 | some q => .tup [.agg q.enc,aB true]
 | none => .tup [.agg (bu.mk 0 0 0 0 0).enc,aB false]):=by
 refine aK (fn:=Tryz.f112) (c:=dT) rfl (by kernel_rfl) (by kernel_rfl) (by kernel_rfl) (by kernel_rfl) ?_;refine gm _ _ _ _ _ fun g=>?_
 simp[ah,ai,ae,af,ad, *,dV,hq.r,GM hq hql]
 rcases DU a b qs 0 rfl with ⟨h1,h2⟩ | ⟨n,hn,h1,h2⟩
 ·rw[h1,h2]
  simp[bu.enc]
 ·have h3 : ¬(n:Int)<0:=by omega
  rw[h1,h2]
  simp[hq.idx,hn,h3,bu.enc]
end
end Go.Proofs.YtdbiffjdomokfaaGreat
namespace Go.Proofs.YtdbiffjdomokfaaGreat
open Go.Ab
attribute [local simp] bD bp cV lj bP bt bA dc db cg
theorem Xn:aE env.P .eql 26 (.tmp 3) (.const (.slice none 0 0)) (some cP) (some cP)=some (aB true,[]):=by kernel_rfl
theorem Xm:aE env.P .eql 27 (.tmp 3) (.const (.slice none 0 0)) (some cP) (some cP)=some (aB true,[]):=by kernel_rfl
theorem Nw{xu:AV}{us:List Clear}(hu:Sl 3 (eW us) xu)(hul:us.length * 12≤140737488355328):bj env 69 [xu]=some (nY xu):=by
 rcases hu.N7 with ⟨rfl,he⟩ | ⟨c,rfl⟩
 ·refine aK (fn:=Tryz.f69) (c:=bK) rfl (by kernel_rfl) (by kernel_rfl) (by kernel_rfl) (by kernel_rfl) ?_;refine ca _ _ _ fun g=>?_
  simp[ah,ai,ae,af,ad, *,bM,Xn]
 ·by_cases hn:us=[]
  ·refine aK (fn:=Tryz.f69) (c:=bK) rfl (by kernel_rfl) (by kernel_rfl) (by kernel_rfl) (by kernel_rfl) ?_;refine ca _ _ _ fun g=>?_
   subst hn
   simp[ah,ai,ae,af,ad, *,bM]
  ·refine aK (fn:=Tryz.f69) (c:=bK) rfl (by kernel_rfl) (by kernel_rfl) (by kernel_rfl) (by kernel_rfl) ?_;refine ca _ _ _ fun g=>?_
   simp[ah,ai,ae,af,ad, *,bM,List.length_pos_iff,oR]
theorem Nv{xu:AV}{us:List bu}(hu:Sl 5 (eY us) xu)(hul:us.length * 32≤140737488355328):bj env 70 [xu]=some (nY xu):=by
 rcases hu.N7 with ⟨rfl,he⟩ | ⟨c,rfl⟩
 ·refine aK (fn:=Tryz.f70) (c:=bJ) rfl (by kernel_rfl) (by kernel_rfl) (by kernel_rfl) (by kernel_rfl) ?_;refine b8 _ _ _ fun g=>?_
  simp[ah,ai,ae,af,ad, *,bL,Xm]
 ·by_cases hn:us=[]
  ·refine aK (fn:=Tryz.f70) (c:=bJ) rfl (by kernel_rfl) (by kernel_rfl) (by kernel_rfl) (by kernel_rfl) ?_;refine b8 _ _ _ fun g=>?_
   subst hn
   simp[ah,ai,ae,af,ad, *,bL]
  ·refine aK (fn:=Tryz.f70) (c:=bJ) rfl (by kernel_rfl) (by kernel_rfl) (by kernel_rfl) (by kernel_rfl) ?_;refine b8 _ _ _ fun g=>?_
   simp[ah,ai,ae,af,ad, *,bL,List.length_pos_iff,oR]
section
variable{xu xq:AV}{us:List Clear}{qs:List bu}{gr:Int}(hu:Sl 3 (eW us) xu)(hq:Sl 5 (eY qs) xq)(hql:qs.length * 32≤140737488355328)(hul:us.length * 12≤140737488355328)
include hu hq hql hul
theorem Kj:bj env 42 [.agg [xu,xq,aI gr]]=some (.agg [nY xu,nY xq,aI gr]):=by
 have hyu:=Nw hu hul
 have hyq:=Nv hq hql
 have ou:=qz hu
 have oq:=qz hq
 generalize nY xu=yu at *
 generalize nY xq=yq at *
 refine aK (fn:=Tryz.f42) (c:=vG) rfl (by kernel_rfl) (by kernel_rfl) (by kernel_rfl) (by kernel_rfl) ?_;refine BD _ _ _ fun g=>?_
 rcases ou with ⟨rfl,h1⟩ | rfl | ⟨rfl,h1⟩<;>rcases oq with ⟨rfl,h2⟩ | rfl | ⟨rfl,h2⟩<;>simp[ah,ai,ae,af,ad, *,vO,hu.r,hq.r,bl]
end
end Go.Proofs.YtdbiffjdomokfaaGreat
