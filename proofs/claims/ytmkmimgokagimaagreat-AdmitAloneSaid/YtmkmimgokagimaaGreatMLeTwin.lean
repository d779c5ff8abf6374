/-
  The functions of policy, and the document's: what they answer. No statement of a seat is proved here.
-/
import Derived.Test.YtmkmimgokagimaaGreatMLeFns
set_option linter.unusedVariables false
set_option linter.unusedSimpArgs false
set_option linter.unusedSectionVars false
set_option linter.unnecessarySimpa false
set_option maxRecDepth 100000
namespace Go.Proofs.YtmkmimgokagimaaGreat
open Go.Ab
attribute [local simp] bJ bw cL kN
section
variable{xu xq:AV}{us:List Clear}{qs:List bn}{gr:Int}(hu:Sl 3 (ed us) xu)(hq:Sl 5 (ef qs) xq)(hql:qs.length<4611686018427387904)(hul:us.length<4611686018427387904)
include hu hq hql hul
@[simp] theorem Ql(user:Int)(a:UInt8)(b:UInt32):bj env 174 [.agg [xu,xq,aI gr],aI user,.agg [a8 a,aF b]]=some (.tup [aB (decide (nv us qs gr a=0)&&nQ us user a b),aI (nv us qs gr a)]):=by
 refine aG (fn:=Tryz.f174) (c:=zE) rfl (by kernel_rfl) (by kernel_rfl) (by kernel_rfl) (by kernel_rfl) ?_;refine Gt _ _ _ _ _ fun g=>?_
 simp[ah,ai,ae,af,ab, *,zO,hu.r,hq.r,JI hu hq hql hul]
 by_cases h0:0≤user∧user<us.length
 ·obtain⟨n,rfl⟩:=Int.eq_ofNat_of_zero_le h0.1
  have hn:n<us.length:=by omega
  have h1 : ¬(n:Int)<0:=by omega
  have h2 : ¬(us.length:Int)≤n:=by omega
  repeat' ((first | refine mZ (fun h=>?_) (fun h=>?_) | refine lz (fun h=>?_) (fun h=>?_) | refine lA (fun h=>?_) (fun h=>?_) | refine lx (fun h=>?_) (fun h=>?_) | refine ly (fun h=>?_) (fun h=>?_))<;>(try simp only[decide_eq_true_eq,decide_eq_false_iff_not,Bool.not_eq_true',Bool.not_eq_false',Bool.and_eq_true,Bool.or_eq_true]at h)<;>(try simp[ah,ai,ae,af,ab, *,hu.r,hq.r,hu.idx,hn,h1,h2,nQ,Clear.enc]))
 ·have h1 : ¬user<0→(us.length:Int)≤user:=by omega
  repeat' ((first | refine mZ (fun h=>?_) (fun h=>?_) | refine lz (fun h=>?_) (fun h=>?_) | refine lA (fun h=>?_) (fun h=>?_) | refine lx (fun h=>?_) (fun h=>?_) | refine ly (fun h=>?_) (fun h=>?_))<;>(try simp only[decide_eq_true_eq,decide_eq_false_iff_not,Bool.not_eq_true',Bool.not_eq_false',Bool.and_eq_true,Bool.or_eq_true]at h)<;>(try simp[ah,ai,ae,af,ab, *,hu.r,hq.r,hu.idx,nQ,Clear.enc]))
end
@[simp] theorem Qm{xu xq:AV}{us:List Clear}{qs:List bn}(gr:Int)(hu:Sl 3 (ed us) xu)(hq:Sl 5 (ef qs) xq):bj env 63 [.agg [xu,xq,aI gr]]=some (aB (decide (100<(us.length:Int))||decide (100<(qs.length:Int)))):=by
 refine aG (fn:=Tryz.f63) (c:=nG) rfl (by kernel_rfl) (by kernel_rfl) (by kernel_rfl) (by kernel_rfl) ?_;refine uI _ _ _ fun g=>?_
 simp[ah,ai,ae,af,ab, *,nH,hu.r,hq.r]
 repeat' ((first | refine mZ (fun h=>?_) (fun h=>?_) | refine lz (fun h=>?_) (fun h=>?_) | refine lA (fun h=>?_) (fun h=>?_) | refine lx (fun h=>?_) (fun h=>?_) | refine ly (fun h=>?_) (fun h=>?_))<;>(try simp only[decide_eq_true_eq,decide_eq_false_iff_not,Bool.not_eq_true',Bool.not_eq_false',Bool.and_eq_true,Bool.or_eq_true]at h)<;>(try simp[ah,ai,ae,af,ab, *,hu.r,hq.r]))
@[simp] theorem aeO(a:UInt8)(b:UInt32)(x y z:Int):bj env 106 [.agg [a8 a,aF b,aI x,aI y,aI z]]=some (.agg [a8 a,aF b]):=by
 refine aG (fn:=Tryz.f106) (c:=tJ) rfl (by kernel_rfl) (by kernel_rfl) (by kernel_rfl) (by kernel_rfl) ?_;refine At _ _ _ fun g=>?_
 simp[ah,ai,ae,af,ab, *,ug]
@[simp] theorem aab(q:bn)(a:UInt8)(b:UInt32):bj env 171 [.agg [a8 q.lv,aF q.cats,aI q.opens,aI q.ops,aI q.cells],.iptr 1 [.fn (.func 106) [] []] 0 0,.iptr 2 [.agg [a8 a,aF b]] 0 0]=some (aB (Bs a b q)):=by
 refine aG (fn:=Tryz.f171) (c:=dJ) rfl (by kernel_rfl) (by kernel_rfl) (by kernel_rfl) (by kernel_rfl) ?_;refine fZ _ _ _ _ _ fun g=>?_
 simp[ah,ai,ae,af,ab, *,dK,ke,eE,Bs]
def qG(a:UInt8)(b:UInt32):List bn→Nat→Int
 | [],_ => -1
 | q :: s,k=>if Bs a b q=true then k else qG a b s (k+1)
section
variable{xq:AV}{qs:List bn}(hq:Sl 5 (ef qs) xq)(hql:qs.length<4611686018427387904)
include hq hql
theorem Fx{a:UInt8}{b:UInt32}{Q:AV→ad→Prop} : ∀(s:List bn)(k:Nat)(i:Int)(H:ad),qs.drop k=s→k≤qs.length→i=k→(∀y H',y=aI (qG a b s k)→Q y H') →
 b7 env Tryz.f170 0 bK [(8,aI i),(0,xq),(1,.fn (.func 171) [] [.iptr 1 [.fn (.func 106) [] []] 0 0,.iptr 2 [.agg [a8 a,aF b]] 0 0]),(7,aI qs.length)] H Q:=by
 intro s
 induction s with
 | nil =>
  rintro k i H hs hk rfl hQ
  obtain rfl:=drop_nil hs hk
  refine cV _ _ _ _ _ _ fun g=>?_
  simp[ah,ai,ae,af,ab, *,cm]
  all_goals (first | exact hQ _ _ rfl | exact hQ _ _ (by simp[*]))
 | cons q s ih =>
  rintro k i H hs hk rfl hQ
  obtain⟨hlt,hg,hs',hg'⟩:=drop_cons hs
  refine cV _ _ _ _ _ _ fun g=>?_
  simp[ah,ai,ae,af,ab, *,cm,hq.idx,hlt,hg,bn.enc]
  refine mZ (fun h=>?_) (fun h=>?_)
  ·all_goals (first | exact hQ _ _ rfl | exact hQ _ _ (by simp[*,qG]))
  simp[IntWalk.i64_in ((k:Int)+1) (by omega)]
  exact ih (k+1) _ _ hs' (by omega) (by simp) (fun y H' e=>hQ y H' (by simp[*,qG]))
@[simp] theorem JM(a:UInt8)(b:UInt32):bj env 170 [xq,.fn (.func 171) [] [.iptr 1 [.fn (.func 106) [] []] 0 0,.iptr 2 [.agg [a8 a,aF b]] 0 0]]=some (aI (qG a b qs 0)):=by
 refine aG (fn:=Tryz.f170) (c:=cq) rfl (by kernel_rfl) (by kernel_rfl) (by kernel_rfl) (by kernel_rfl) ?_;refine fk _ _ _ _ fun g=>?_
 simp[ah,ai,ae,af,ab, *,dc,hq.r]
 exact Fx hq hql qs 0 _ _ rfl (by omega) (by simp) (fun y H' e=>by simp[e])
omit hq hql in
theorem G2(a:UInt8)(b:UInt32) : ∀(s:List bn)(k:Nat),qs.drop k=s→(qG a b s k = -1∧s.find? (Bs a b)=none) ∨∃n,∃h:n<qs.length,qG a b s k=(n:Int)∧s.find? (Bs a b)=some qs[n]:=by
 intro s
 induction s with
 | nil=>intro k _;exact .inl ⟨rfl,rfl⟩
 | cons q s ih =>
  intro k hs
  obtain⟨hlt,hg,hs',hg'⟩:=drop_cons hs
  unfold qG
  by_cases h:Bs a b q=true
  ·exact .inr ⟨k,hlt,by simp[h],by simp[h,hg]⟩
  ·rcases ih (k+1) hs' with ⟨h1,h2⟩ | ⟨n,hn,h1,h2⟩
   ·exact .inl ⟨by simp[h,h1],by simp[h,h2]⟩
   ·exact .inr ⟨n,hn,by simp[h,h1],by simp[h,h2]⟩
@[simp] theorem Qd(a:UInt8)(b:UInt32):bj env 105 [xq,.agg [a8 a,aF b],.fn (.func 106) [] []]=some (match qs.find? (Bs a b) with
 | some q => .tup [.agg q.enc,aB true]
 | none => .tup [.agg (bn.mk 0 0 0 0 0).enc,aB false]):=by
 refine aG (fn:=Tryz.f105) (c:=dU) rfl (by kernel_rfl) (by kernel_rfl) (by kernel_rfl) (by kernel_rfl) ?_;refine gE _ _ _ _ _ fun g=>?_
 simp[ah,ai,ae,af,ab, *,dW,hq.r,JM hq hql]
 rcases G2 a b qs 0 rfl with ⟨h1,h2⟩ | ⟨n,hn,h1,h2⟩
 ·rw[h1,h2]
  simp[bn.enc]
 ·have h3 : ¬(n:Int)<0:=by omega
  rw[h1,h2]
  simp[hq.idx,hn,h3,bn.enc]
end
end Go.Proofs.YtmkmimgokagimaaGreat
namespace Go.Proofs.YtmkmimgokagimaaGreat
open Go.Ab
attribute [local simp] bJ bw cL kN bX bx bD cR cQ cr
theorem aaD:aH env.P .eql 22 (.tmp 3) (.const (.slice none 0 0)) (some cp) (some cp)=some (aB true,[]):=by kernel_rfl
theorem aaC:aH env.P .eql 23 (.tmp 3) (.const (.slice none 0 0)) (some cp) (some cp)=some (aB true,[]):=by kernel_rfl
theorem Qy{xu:AV}{us:List Clear}(hu:Sl 3 (ed us) xu)(hul:us.length * 12≤140737488355328):bj env 205 [xu]=some (pj xu):=by
 rcases hu.Q3 with ⟨rfl,he⟩ | ⟨c,rfl⟩
 ·refine aG (fn:=Tryz.f205) (c:=bU) rfl (by kernel_rfl) (by kernel_rfl) (by kernel_rfl) (by kernel_rfl) ?_;refine cx _ _ _ fun g=>?_
  simp[ah,ai,ae,af,ab, *,bW,aaD]
 ·by_cases hn:us=[]
  ·refine aG (fn:=Tryz.f205) (c:=bU) rfl (by kernel_rfl) (by kernel_rfl) (by kernel_rfl) (by kernel_rfl) ?_;refine cx _ _ _ fun g=>?_
   subst hn
   simp[ah,ai,ae,af,ab, *,bW]
  ·refine aG (fn:=Tryz.f205) (c:=bU) rfl (by kernel_rfl) (by kernel_rfl) (by kernel_rfl) (by kernel_rfl) ?_;refine cx _ _ _ fun g=>?_
   simp[ah,ai,ae,af,ab, *,bW,List.length_pos_iff,p6]
theorem Qx{xu:AV}{us:List bn}(hu:Sl 5 (ef us) xu)(hul:us.length * 32≤140737488355328):bj env 206 [xu]=some (pj xu):=by
 rcases hu.Q3 with ⟨rfl,he⟩ | ⟨c,rfl⟩
 ·refine aG (fn:=Tryz.f206) (c:=bT) rfl (by kernel_rfl) (by kernel_rfl) (by kernel_rfl) (by kernel_rfl) ?_;refine cw _ _ _ fun g=>?_
  simp[ah,ai,ae,af,ab, *,bV,aaC]
 ·by_cases hn:us=[]
  ·refine aG (fn:=Tryz.f206) (c:=bT) rfl (by kernel_rfl) (by kernel_rfl) (by kernel_rfl) (by kernel_rfl) ?_;refine cw _ _ _ fun g=>?_
   subst hn
   simp[ah,ai,ae,af,ab, *,bV]
  ·refine aG (fn:=Tryz.f206) (c:=bT) rfl (by kernel_rfl) (by kernel_rfl) (by kernel_rfl) (by kernel_rfl) ?_;refine cw _ _ _ fun g=>?_
   simp[ah,ai,ae,af,ab, *,bV,List.length_pos_iff,p6]
section
variable{xu xq:AV}{us:List Clear}{qs:List bn}{gr:Int}(hu:Sl 3 (ed us) xu)(hq:Sl 5 (ef qs) xq)(hql:qs.length * 32≤140737488355328)(hul:us.length * 12≤140737488355328)
include hu hq hql hul
theorem M9:bj env 160 [.agg [xu,xq,aI gr]]=some (.agg [pj xu,pj xq,aI gr]):=by
 have hyu:=Qy hu hul
 have hyq:=Qx hq hql
 have ou:=sb hu
 have oq:=sb hq
 generalize pj xu=yu at *
 generalize pj xq=yq at *
 refine aG (fn:=Tryz.f160) (c:=yr) rfl (by kernel_rfl) (by kernel_rfl) (by kernel_rfl) (by kernel_rfl) ?_;refine Ey _ _ _ fun g=>?_
 rcases ou with ⟨rfl,h1⟩ | rfl | ⟨rfl,h1⟩<;>rcases oq with ⟨rfl,h2⟩ | rfl | ⟨rfl,h2⟩<;>simp[ah,ai,ae,af,ab, *,yF,hu.r,hq.r,bt]
end
end Go.Proofs.YtmkmimgokagimaaGreat
