/-
  The functions of policy, and the document's: what they answer. No statement of a seat is proved here.
-/
import Derived.Test.YtmkmimgokagimaaGreatLeFns
set_option linter.unusedVariables false
set_option linter.unusedSimpArgs false
set_option maxRecDepth 100000
namespace Go.Proofs.YtmkmimgokagimaaGreat
open Go.Ab
attribute [local simp] bx aZ keep thr
section
variable{xu xq:AV}{us:List Clear}{qs:List Quota}{gr:Int}(hu:Sl 3 (gY us) xu)(hq:Sl 5 (iq qs) xq)(hql:qs.length<4611686018427387904)(hul:us.length<4611686018427387904)
include hu hq hql hul
@[simp] theorem N9(user:Int)(a:UInt8)(b:UInt32):limf env 174 [.agg [xu,xq,aI gr],aI user,.agg [a8 a,a32 b]]=some (.tup [aB (decide (xg us qs gr a=0)&&AD us user a b),aI (xg us qs gr a)]):=by
 refine aA (fn:=Tryz.f174) (c:=sH) rfl (by kernel_rfl) (by kernel_rfl) (by kernel_rfl) (by kernel_rfl) ?_;refine yJ _ _ _ _ _ fun g=>?_
 simp[af,ah,ad,ae,ab, *,sR,hu.r,hq.r,CP hu hq hql hul]
 by_cases h0:0≤user∧user<us.length
 ·obtain⟨n,rfl⟩:=Int.eq_ofNat_of_zero_le h0.1
  have hn:n<us.length:=by omega
  have h1 : ¬(n:Int)<0:=by omega
  have h2 : ¬(us.length:Int)≤n:=by omega
  repeat' ((first | refine mP (fun h=>?_) (fun h=>?_) | refine kD (fun h=>?_) (fun h=>?_) | refine kE (fun h=>?_) (fun h=>?_) | refine kB (fun h=>?_) (fun h=>?_) | refine kC (fun h=>?_) (fun h=>?_))<;>(try simp only[decide_eq_true_eq,decide_eq_false_iff_not,Bool.not_eq_true',Bool.not_eq_false',Bool.and_eq_true,Bool.or_eq_true]at h)<;>(try simp[af,ah,ad,ae,ab, *,hu.r,hq.r,hu.idx,hn,h1,h2,AD,Clear.enc]))
 ·have h1 : ¬user<0→(us.length:Int)≤user:=by omega
  repeat' ((first | refine mP (fun h=>?_) (fun h=>?_) | refine kD (fun h=>?_) (fun h=>?_) | refine kE (fun h=>?_) (fun h=>?_) | refine kB (fun h=>?_) (fun h=>?_) | refine kC (fun h=>?_) (fun h=>?_))<;>(try simp only[decide_eq_true_eq,decide_eq_false_iff_not,Bool.not_eq_true',Bool.not_eq_false',Bool.and_eq_true,Bool.or_eq_true]at h)<;>(try simp[af,ah,ad,ae,ab, *,hu.r,hq.r,hu.idx,AD,Clear.enc]))
end
@[simp] theorem HP{xu xq:AV}{us:List Clear}{qs:List Quota}(gr:Int)(hu:Sl 3 (gY us) xu)(hq:Sl 5 (iq qs) xq):limf env 63 [.agg [xu,xq,aI gr]]=some (aB (decide (100<(us.length:Int))||decide (100<(qs.length:Int)))):=by
 refine aA (fn:=Tryz.f63) (c:=jJ) rfl (by kernel_rfl) (by kernel_rfl) (by kernel_rfl) (by kernel_rfl) ?_;refine nN _ _ _ fun g=>?_
 simp[af,ah,ad,ae,ab, *,jL,hu.r,hq.r]
 repeat' ((first | refine mP (fun h=>?_) (fun h=>?_) | refine kD (fun h=>?_) (fun h=>?_) | refine kE (fun h=>?_) (fun h=>?_) | refine kB (fun h=>?_) (fun h=>?_) | refine kC (fun h=>?_) (fun h=>?_))<;>(try simp only[decide_eq_true_eq,decide_eq_false_iff_not,Bool.not_eq_true',Bool.not_eq_false',Bool.and_eq_true,Bool.or_eq_true]at h)<;>(try simp[af,ah,ad,ae,ab, *,hu.r,hq.r]))
@[simp] theorem TU(a:UInt8)(b:UInt32)(x y z:Int):limf env 106 [.agg [a8 a,a32 b,aI x,aI y,aI z]]=some (.agg [a8 a,a32 b]):=by
 refine aA (fn:=Tryz.f106) (c:=oo) rfl (by kernel_rfl) (by kernel_rfl) (by kernel_rfl) (by kernel_rfl) ?_;refine sX _ _ _ fun g=>?_
 simp[af,ah,ad,ae,ab, *,oA]
@[simp] theorem Qv(q:Quota)(a:UInt8)(b:UInt32):limf env 171 [.agg [a8 q.lv,a32 q.cats,aI q.opens,aI q.ops,aI q.cells],.iptr 1 [.fn (.func 106) [] []] 0 0,.iptr 2 [.agg [a8 a,a32 b]] 0 0]=some (aB (zC a b q)):=by
 refine aA (fn:=Tryz.f171) (c:=cf) rfl (by kernel_rfl) (by kernel_rfl) (by kernel_rfl) (by kernel_rfl) ?_;refine dQ _ _ _ _ _ fun g=>?_
 simp[af,ah,ad,ae,ab, *,cg,eqA,eqFs,zC]
def m5(a:UInt8)(b:UInt32):List Quota→Nat→Int
 | [],_ => -1
 | q :: s,k=>if zC a b q=true then k else m5 a b s (k+1)
section
variable{xq:AV}{qs:List Quota}(hq:Sl 5 (iq qs) xq)(hql:qs.length<4611686018427387904)
include hq hql
theorem xD{a:UInt8}{b:UInt32}{Q:AV→Heap→Prop} : ∀(s:List Quota)(k:Nat)(i:Int)(H:Heap),qs.drop k=s→k≤qs.length→i=k→(∀y H',y=aI (m5 a b s k)→Q y H') →
 GoL env Tryz.f170 0 aF [(8,aI i),(0,xq),(1,.fn (.func 171) [] [.iptr 1 [.fn (.func 106) [] []] 0 0,.iptr 2 [.agg [a8 a,a32 b]] 0 0]),(7,aI qs.length)] H Q:=by
 intro s
 induction s with
 | nil =>
  rintro k i H hs hk rfl hQ
  obtain rfl:=drop_nil hs hk
  refine bE _ _ _ _ _ _ fun g=>?_
  simp[af,ah,ad,ae,ab, *,ba]
  all_goals (first | exact hQ _ _ rfl | exact hQ _ _ (by simp[*]))
 | cons q s ih =>
  rintro k i H hs hk rfl hQ
  obtain⟨hlt,hg,hs',hg'⟩:=drop_cons hs
  refine bE _ _ _ _ _ _ fun g=>?_
  simp[af,ah,ad,ae,ab, *,ba,hq.idx,hlt,hg,Quota.enc]
  refine mP (fun h=>?_) (fun h=>?_)
  ·all_goals (first | exact hQ _ _ rfl | exact hQ _ _ (by simp[*,m5]))
  simp[IntWalk.i64_in ((k:Int)+1) (by omega)]
  exact ih (k+1) _ _ hs' (by omega) (by simp) (fun y H' e=>hQ y H' (by simp[*,m5]))
@[simp] theorem BA(a:UInt8)(b:UInt32):limf env 170 [xq,.fn (.func 171) [] [.iptr 1 [.fn (.func 106) [] []] 0 0,.iptr 2 [.agg [a8 a,a32 b]] 0 0]]=some (aI (m5 a b qs 0)):=by
 refine aA (fn:=Tryz.f170) (c:=bf) rfl (by kernel_rfl) (by kernel_rfl) (by kernel_rfl) (by kernel_rfl) ?_;refine dp _ _ _ _ fun g=>?_
 simp[af,ah,ad,ae,ab, *,bJ,hq.r]
 exact xD hq hql qs 0 _ _ rfl (by omega) (by simp) (fun y H' e=>by simp[e])
omit hq hql in
theorem zI(a:UInt8)(b:UInt32) : ∀(s:List Quota)(k:Nat),qs.drop k=s→(m5 a b s k = -1∧s.find? (zC a b)=none) ∨∃n,∃h:n<qs.length,m5 a b s k=(n:Int)∧s.find? (zC a b)=some qs[n]:=by
 intro s
 induction s with
 | nil=>intro k _;exact .inl ⟨rfl,rfl⟩
 | cons q s ih =>
  intro k hs
  obtain⟨hlt,hg,hs',hg'⟩:=drop_cons hs
  unfold m5
  by_cases h:zC a b q=true
  ·exact .inr ⟨k,hlt,by simp[h],by simp[h,hg]⟩
  ·rcases ih (k+1) hs' with ⟨h1,h2⟩ | ⟨n,hn,h1,h2⟩
   ·exact .inl ⟨by simp[h,h1],by simp[h,h2]⟩
   ·exact .inr ⟨n,hn,by simp[h,h1],by simp[h,h2]⟩
@[simp] theorem JF(a:UInt8)(b:UInt32):limf env 105 [xq,.agg [a8 a,a32 b],.fn (.func 106) [] []]=some (match qs.find? (zC a b) with
 | some q => .tup [.agg q.enc,aB true]
 | none => .tup [.agg (Quota.mk 0 0 0 0 0).enc,aB false]):=by
 refine aA (fn:=Tryz.f105) (c:=cm) rfl (by kernel_rfl) (by kernel_rfl) (by kernel_rfl) (by kernel_rfl) ?_;refine ee _ _ _ _ _ fun g=>?_
 simp[af,ah,ad,ae,ab, *,cp,hq.r,BA hq hql]
 rcases zI a b qs 0 rfl with ⟨h1,h2⟩ | ⟨n,hn,h1,h2⟩
 ·rw[h1,h2]
  simp[Quota.enc]
 ·have h3 : ¬(n:Int)<0:=by omega
  rw[h1,h2]
  simp[hq.idx,hn,h3,Quota.enc]
end
end Go.Proofs.YtmkmimgokagimaaGreat
set_option linter.unusedSectionVars false
set_option linter.unnecessarySimpa false
namespace Go.Proofs.YtmkmimgokagimaaGreat
open Go.Ab
attribute [local simp] bx aZ keep thr bD bh bq dC dB cP
theorem Sq:qBin env.P .eql 22 (.tmp 3) (.const (.slice none 0 0)) (some aNil) (some aNil)=some (aB true,[]):=by kernel_rfl
theorem Sp:qBin env.P .eql 23 (.tmp 3) (.const (.slice none 0 0)) (some aNil) (some aNil)=some (aB true,[]):=by kernel_rfl
theorem Ib{xu:AV}{us:List Clear}(hu:Sl 3 (gY us) xu)(hul:us.length * 12≤140737488355328):limf env 205 [xu]=some (m8 xu):=by
 rcases hu.Lq with ⟨rfl,he⟩ | ⟨c,rfl⟩
 ·refine aA (fn:=Tryz.f205) (c:=aO) rfl (by kernel_rfl) (by kernel_rfl) (by kernel_rfl) (by kernel_rfl) ?_;refine bo _ _ _ fun g=>?_
  simp[af,ah,ad,ae,ab, *,aQ,Sq]
 ·by_cases hn:us=[]
  ·refine aA (fn:=Tryz.f205) (c:=aO) rfl (by kernel_rfl) (by kernel_rfl) (by kernel_rfl) (by kernel_rfl) ?_;refine bo _ _ _ fun g=>?_
   subst hn
   simp[af,ah,ad,ae,ab, *,aQ]
  ·refine aA (fn:=Tryz.f205) (c:=aO) rfl (by kernel_rfl) (by kernel_rfl) (by kernel_rfl) (by kernel_rfl) ?_;refine bo _ _ _ fun g=>?_
   simp[af,ah,ad,ae,ab, *,aQ,List.length_pos_iff,mG]
theorem Ia{xu:AV}{us:List Quota}(hu:Sl 5 (iq us) xu)(hul:us.length * 32≤140737488355328):limf env 206 [xu]=some (m8 xu):=by
 rcases hu.Lq with ⟨rfl,he⟩ | ⟨c,rfl⟩
 ·refine aA (fn:=Tryz.f206) (c:=aN) rfl (by kernel_rfl) (by kernel_rfl) (by kernel_rfl) (by kernel_rfl) ?_;refine bn _ _ _ fun g=>?_
  simp[af,ah,ad,ae,ab, *,aP,Sp]
 ·by_cases hn:us=[]
  ·refine aA (fn:=Tryz.f206) (c:=aN) rfl (by kernel_rfl) (by kernel_rfl) (by kernel_rfl) (by kernel_rfl) ?_;refine bn _ _ _ fun g=>?_
   subst hn
   simp[af,ah,ad,ae,ab, *,aP]
  ·refine aA (fn:=Tryz.f206) (c:=aN) rfl (by kernel_rfl) (by kernel_rfl) (by kernel_rfl) (by kernel_rfl) ?_;refine bn _ _ _ fun g=>?_
   simp[af,ah,ad,ae,ab, *,aP,List.length_pos_iff,mG]
section
variable{xu xq:AV}{us:List Clear}{qs:List Quota}{gr:Int}(hu:Sl 3 (gY us) xu)(hq:Sl 5 (iq qs) xq)(hql:qs.length * 32≤140737488355328)(hul:us.length * 12≤140737488355328)
include hu hq hql hul
theorem Fm:limf env 160 [.agg [xu,xq,aI gr]]=some (.agg [m8 xu,m8 xq,aI gr]):=by
 have hyu:=Ib hu hul
 have hyq:=Ia hq hql
 have ou:=om hu
 have oq:=om hq
 generalize m8 xu=yu at *
 generalize m8 xq=yq at *
 refine aA (fn:=Tryz.f160) (c:=qZ) rfl (by kernel_rfl) (by kernel_rfl) (by kernel_rfl) (by kernel_rfl) ?_;refine wZ _ _ _ fun g=>?_
 rcases ou with ⟨rfl,h1⟩ | rfl | ⟨rfl,h1⟩<;>rcases oq with ⟨rfl,h2⟩ | rfl | ⟨rfl,h2⟩<;>simp[af,ah,ad,ae,ab, *,rf,hu.r,hq.r,aL]
end
end Go.Proofs.YtmkmimgokagimaaGreat
