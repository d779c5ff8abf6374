/-
  Handles and ids as bytes: what these functions answer. No statement of a seat is proved here.
-/
import Derived.Test.YtiidajnodhkidaaGreatMIdsFns
set_option linter.unusedVariables false
set_option linter.unusedSimpArgs false
set_option linter.unusedSectionVars false
set_option linter.unnecessarySimpa false
set_option maxRecDepth 100000
namespace Go.Proofs.YtiidajnodhkidaaGreat
open Go.Ab
attribute [local simp] cx bP bT bS keep thr cF bH bU eF eE cM cE aY dq List.take_of_length_le
@[simp] theorem SI(n:Int)(h0:0≤n):limf env 121 [aI n,aI 4]=some (.isl 1 (by8 (be 4 n)) none):=by
 refine aG (fn:=Tryz.f121) (c:=mK) rfl (by kernel_rfl) (by kernel_rfl) (by kernel_rfl) (by kernel_rfl) ?_;refine tl _ _ _ _ fun g=>?_
 have w5:IntKind.i64.wrap (-1) = -1:=rfl
 have w4:IntKind.i64.wrap 0=0:=rfl
 simp[af,ah,ad,ae,aa, *,pK]
 refine dg _ _ _ _ _ fun g=>?_
 simp[af,ah,ad,ae,aa, *,cX,cR,cN]
 refine dg _ _ _ _ _ fun g=>?_
 simp[af,ah,ad,ae,aa, *,cX,cR,cN]
 refine dg _ _ _ _ _ fun g=>?_
 simp[af,ah,ad,ae,aa, *,cX,cR,cN]
 refine dg _ _ _ _ _ fun g=>?_
 simp[af,ah,ad,ae,aa, *,cX,cR,cN]
 refine dg _ _ _ _ _ fun g=>?_
 simp[af,ah,ad,ae,aa, *,cX,be_4,by8]
@[simp] theorem IL(n:Int)(h0:0≤n):limf env 121 [aI n,aI 7]=some (.isl 1 (by8 (be 7 n)) none):=by
 refine aG (fn:=Tryz.f121) (c:=mK) rfl (by kernel_rfl) (by kernel_rfl) (by kernel_rfl) (by kernel_rfl) ?_;refine tl _ _ _ _ fun g=>?_
 have w5:IntKind.i64.wrap (-1) = -1:=rfl
 have w4:IntKind.i64.wrap 0=0:=rfl
 simp[af,ah,ad,ae,aa, *,pK]
 refine dg _ _ _ _ _ fun g=>?_
 simp[af,ah,ad,ae,aa, *,cX,cR,cN]
 refine dg _ _ _ _ _ fun g=>?_
 simp[af,ah,ad,ae,aa, *,cX,cR,cN]
 refine dg _ _ _ _ _ fun g=>?_
 simp[af,ah,ad,ae,aa, *,cX,cR,cN]
 refine dg _ _ _ _ _ fun g=>?_
 simp[af,ah,ad,ae,aa, *,cX,cR,cN]
 refine dg _ _ _ _ _ fun g=>?_
 simp[af,ah,ad,ae,aa, *,cX,cR,cN]
 refine dg _ _ _ _ _ fun g=>?_
 simp[af,ah,ad,ae,aa, *,cX,cR,cN]
 refine dg _ _ _ _ _ fun g=>?_
 simp[af,ah,ad,ae,aa, *,cX,cR,cN]
 refine dg _ _ _ _ _ fun g=>?_
 simp[af,ah,ad,ae,aa, *,cX,be_7,by8]
theorem Jb{x5:AV}{Q:AV→Heap→Prop}{l:List UInt8}(hx:Sl 1 (by8 l) x5)(hl:l.length≤7) : ∀(s:List UInt8)(k:Nat)(i a:Int)(H:Heap),l.drop k=s→k≤l.length→i=k→0≤a→a<256 ^ k →
 (∀y H',y=aI (valF a s)→Q y H') →
 GoL env Tryz.f202 0 mG [(7,aI i),(2,aI a),(5,x5),(6,aI l.length)] H Q:=by
 intro s
 induction s with
 | nil =>
  rintro k i a H hs hk rfl h0 h1 hQ
  obtain rfl:=drop_nil hs hk
  refine tk _ _ _ _ _ _ fun g=>?_
  simp[af,ah,ad,ae,aa, *,pJ]
  exact hQ _ _ rfl
 | cons b s ih =>
  rintro k i a H hs hk rfl h0 h1 hQ
  obtain⟨hlt,hg,hs',hg'⟩:=drop_cons hs
  refine tk _ _ _ _ _ _ fun g=>?_
  have hb:=b.toNat_lt
  have h2:=qD (k:=k) 6 (by omega)
  have e:=Bk h0 (by omega) b
  have e2:=IntWalk.i64_in (a * 256) (by omega)
  have e3:=IntWalk.i64_in ((k:Int)+1) (by omega)
  simp[af,ah,ad,ae,aa, *,pJ,rn,hx.idx]
  exact ih (k+1) _ _ _ hs' (by omega) (by simp) (by omega) (by rw[Int.pow_succ];omega) hQ
@[simp] theorem IK{x:AV}{l:List UInt8}(hx:Sl 1 (by8 l) x)(hl:l.length≤7):limf env 202 [x]=some (aI (val l)):=by
 refine aG (fn:=Tryz.f202) (c:=ta) rfl (by kernel_rfl) (by kernel_rfl) (by kernel_rfl) (by kernel_rfl) ?_;refine D8 _ _ _ fun g=>?_
 have h:=hx.len
 simp[af,ah,ad,ae,aa, *,yH]
 exact Jb hx hl l 0 _ _ _ rfl (by omega) rfl (by omega) (by simp) (fun y H' e=>by simp[e,val])
def eu(h:Han):List UInt8:=h.lv :: (be 4 h.cats.toNat++[h.num])
@[simp] theorem Ae(h:Han):(eu h).length=6:=by simp[eu]
@[simp] theorem Em(a:UInt8)(b:UInt32)(n:UInt8):limf env 81 [.agg [a8 a,a32 b,a8 n]]=some (if iH ⟨a,b,n⟩ then .tup [.fsl 1 (by8 (eu ⟨a,b,n⟩)) none,aI 0] else .tup [aNil,aI 8]):=by
 refine aG (fn:=Tryz.f81) (c:=pY) rfl (by kernel_rfl) (by kernel_rfl) (by kernel_rfl) (by kernel_rfl) ?_;refine wg _ _ _ fun g=>?_
 cases h:iH ⟨a,b,n⟩ with
 | true=>simp[af,ah,ad,ae,aa, *,mq,bad,by8,eu]
 | false=>simp[af,ah,ad,ae,aa, *,mq,bad]
def gr(i:Idd):List UInt8:=eu i.h++be 7 i.n
@[simp] theorem RO(i:Idd):(gr i).length=13:=by simp[gr]
@[simp] theorem X3(a:UInt8)(b:UInt32)(n:UInt8)(k:Int):limf env 123 [.agg [a8 a,a32 b,a8 n,aI k]]=some (if idB ⟨⟨a,b,n⟩,k⟩ then .tup [.isl 1 (by8 (gr ⟨⟨a,b,n⟩,k⟩)) none,aI 0] else .tup [aNil,aI 8]):=by
 refine aG (fn:=Tryz.f123) (c:=Ap) rfl (by kernel_rfl) (by kernel_rfl) (by kernel_rfl) (by kernel_rfl) ?_;refine GF _ _ _ fun g=>?_
 cases h:idB ⟨⟨a,b,n⟩,k⟩ with
 | true =>
  have hn:=J1 h
  have h7:=IL k (by simp only at hn;omega)
  have hh:iH ⟨a,b,n⟩=true:=by simp only[idB,Bool.and_eq_true]at h;exact h.1
  simp only at hn
  simp[af,ah,ad,ae,aa, *,vp,bad,by8,gr]
 | false=>simp[af,ah,ad,ae,aa, *,vp,bad]
theorem O2{c:Option Nat}{a n b1 b2 b3 b4:UInt8}(hc:6≤c.getD 6):limf env 193 [.isl 1 [a8 a,a8 b1,a8 b2,a8 b3,a8 b4,a8 n] c]=some (.agg [a8 a,a32 (u32 (val [b1,b2,b3,b4])),a8 n,aI (bad (iH ⟨a,u32 (val [b1,b2,b3,b4]),n⟩))]):=by
 refine aG (fn:=Tryz.f193) (c:=qZ) rfl (by kernel_rfl) (by kernel_rfl) (by kernel_rfl) (by kernel_rfl) ?_;refine vt _ _ _ fun g=>?_
 have hr:=IK (l:=[b1,b2,b3,b4]) (x := .isl 1 [a8 b1,a8 b2,a8 b3,a8 b4] (c.map (· - 1))) (Sl.mkC (Fk hc (by simp))) (by simp)
 have hv:=xj [b1,b2,b3,b4]
 generalize val [b1,b2,b3,b4]=v at *
 simp[af,ah,ad,ae,aa, *,rg]
theorem xu{c:Option Nat}{a n b1 b2 b3 b4:UInt8}(hc:6≤c.getD 6):limf env 175 [.isl 1 [a8 a,a8 b1,a8 b2,a8 b3,a8 b4,a8 n] c] =
 some (if iH ⟨a,u32 (val [b1,b2,b3,b4]),n⟩ then .tup [.agg [a8 a,a32 (u32 (val [b1,b2,b3,b4])),a8 n],aI 0] else .tup [.agg [a8 0,a32 0,a8 0],aI 8]):=by
 refine aG (fn:=Tryz.f175) (c:=pZ) rfl (by kernel_rfl) (by kernel_rfl) (by kernel_rfl) (by kernel_rfl) ?_;refine wh _ _ _ fun g=>?_
 have hr:=O2 (a:=a) (n:=n) (b1:=b1) (b2:=b2) (b3:=b3) (b4:=b4) hc
 generalize val [b1,b2,b3,b4]=v at *
 cases h:iH ⟨a,u32 v,n⟩<;>simp[af,ah,ad,ae,aa, *,qb,bad]
theorem IM{c:Option Nat}{a n b1 b2 b3 b4 d1 d2 d3 d4 d5 d6 d7:UInt8}(hc:13≤c.getD 13):limf env 193 [.isl 1 [a8 a,a8 b1,a8 b2,a8 b3,a8 b4,a8 n,a8 d1,a8 d2,a8 d3,a8 d4,a8 d5,a8 d6,a8 d7] c]=some (.agg [a8 a,a32 (u32 (val [b1,b2,b3,b4])),a8 n,aI (bad (iH ⟨a,u32 (val [b1,b2,b3,b4]),n⟩))]):=by
 refine aG (fn:=Tryz.f193) (c:=qZ) rfl (by kernel_rfl) (by kernel_rfl) (by kernel_rfl) (by kernel_rfl) ?_;refine vt _ _ _ fun g=>?_
 have hr:=IK (l:=[b1,b2,b3,b4]) (x := .isl 1 [a8 b1,a8 b2,a8 b3,a8 b4] (c.map (· - 1))) (Sl.mkC (Fk hc (by simp))) (by simp)
 have hv:=xj [b1,b2,b3,b4]
 generalize val [b1,b2,b3,b4]=v at *
 simp[af,ah,ad,ae,aa, *,rg]
theorem SQ{c:Option Nat}{a n b1 b2 b3 b4 d1 d2 d3 d4 d5 d6 d7:UInt8}(hc:13≤c.getD 13):limf env 203 [.isl 1 [a8 a,a8 b1,a8 b2,a8 b3,a8 b4,a8 n,a8 d1,a8 d2,a8 d3,a8 d4,a8 d5,a8 d6,a8 d7] c] =
 some (if idB ⟨⟨a,u32 (val [b1,b2,b3,b4]),n⟩,val [d1,d2,d3,d4,d5,d6,d7]⟩ then .tup [.agg [a8 a,a32 (u32 (val [b1,b2,b3,b4])),a8 n,aI (val [d1,d2,d3,d4,d5,d6,d7])],aI 0] else .tup [.agg [a8 0,a32 0,a8 0,aI 0],aI 8]):=by
 refine aG (fn:=Tryz.f203) (c:=Aq) rfl (by kernel_rfl) (by kernel_rfl) (by kernel_rfl) (by kernel_rfl) ?_;refine GG _ _ _ fun g=>?_
 have hr:=IM (a:=a) (n:=n) (b1:=b1) (b2:=b2) (b3:=b3) (b4:=b4) (d1:=d1) (d2:=d2) (d3:=d3) (d4:=d4) (d5:=d5) (d6:=d6) (d7:=d7) hc
 have hs:=IK (l:=[d1,d2,d3,d4,d5,d6,d7]) (x := .isl 1 [a8 d1,a8 d2,a8 d3,a8 d4,a8 d5,a8 d6,a8 d7] (c.map (· - 6))) (Sl.mkC (Fk hc (by simp))) (by simp)
 generalize val [b1,b2,b3,b4]=v at *
 generalize val [d1,d2,d3,d4,d5,d6,d7]=w at *
 cases h:idB ⟨⟨a,u32 v,n⟩,w⟩<;>simp[af,ah,ad,ae,aa, *,Au,bad]
end Go.Proofs.YtiidajnodhkidaaGreat
namespace Go.Proofs.YtiidajnodhkidaaGreat
open Go.Ab
attribute [local simp] cx bP bT bS keep thr cF bH bU eF eE cM cE aY dq List.take_of_length_le
def Ie(n:Int):Bool:=(decide (0≤n)&&decide (n<55296))||(decide (57343<n)&&decide (n≤1114111))
@[simp] theorem WX(n:Int):limf env 187 [.v (.int .i32 n)]=some (aB (Ie n)):=by
 refine aG (fn:=Tryz.f187) (c:=jC) rfl (by kernel_rfl) (by kernel_rfl) (by kernel_rfl) (by kernel_rfl) ?_;refine nW _ _ _ fun g=>?_
 simp[af,ah,ad,ae,aa, *,jD,Ie]
 repeat' ((first | refine vk (fun h=>?_) (fun h=>?_) | refine oO (fun h=>?_) (fun h=>?_) | refine oP (fun h=>?_) (fun h=>?_) | refine oM (fun h=>?_) (fun h=>?_) | refine oN (fun h=>?_) (fun h=>?_))<;>(try simp only[decide_eq_true_eq,decide_eq_false_iff_not,Bool.not_eq_true',Bool.not_eq_false',Bool.and_eq_true,Bool.or_eq_true]at h)<;>(try simp[af,ah,ad,ae,aa, *]))
 all_goals (try grind)
@[simp] theorem WT(n:Int):limf env 186 [.v (.int .i32 n)]=some (aB (!sO n)):=by
 refine aG (fn:=Tryz.f186) (c:=pX) rfl (by kernel_rfl) (by kernel_rfl) (by kernel_rfl) (by kernel_rfl) ?_;refine we _ _ _ fun g=>?_
 by_cases h:n = -1
 ·subst h;simp[af,ah,ad,ae,aa, *,mm,sO]
 ·simp[af,ah,ad,ae,aa, *,mm,sO,Ie]
def tV:List Int→Nat→Int
 | [],_ => -1
 | n :: l,k=>if sO n then tV l (k+1) else k
theorem Hq(l:List Int) : ∀k:Nat,(0≤tV l k↔l.all sO=false):=by
 induction l with
 | nil=>intro k;simp[tV]
 | cons n l ih =>
  intro k
  unfold tV
  cases h:sO n with
  | true=>rw[if_pos rfl,ih,List.all_cons,h,Bool.true_and]
  | false=>simp[h]
theorem Gu{x0:AV}{Q:AV→Heap→Prop}{l:List Int}(hx:Sl 1 (rows l) x0)(hl:l.length<4611686018427387904) : ∀(s:List Int)(k:Nat)(i:Int)(H:Heap),l.drop k=s→k≤l.length→i=k →
 (∀y H',y=aI (tV s k)→Q y H') →
 GoL env Tryz.f198 0 du [(8,aI i),(0,x0),(1,.fn (.func 186) [] []),(7,aI l.length)] H Q:=by
 intro s
 induction s with
 | nil =>
  rintro k i H hs hk rfl hQ
  obtain rfl:=drop_nil hs hk
  refine fT _ _ _ _ _ _ fun g=>?_
  simp[af,ah,ad,ae,aa, *,dv]
  all_goals exact hQ _ _ rfl
 | cons b s ih =>
  rintro k i H hs hk rfl hQ
  obtain⟨hlt,hg,hs',hg'⟩:=drop_cons hs
  refine fT _ _ _ _ _ _ fun g=>?_
  have e3:=IntWalk.i64_in ((k:Int)+1) (by omega)
  cases hb:sO b with
  | true =>
   simp[af,ah,ad,ae,aa, *,dv,hx.idx,rows,aR]
   exact ih (k+1) _ _ hs' (by omega) (by simp) (fun y H' e=>hQ y H' (by simp[e,tV,hb]))
  | false =>
   simp[af,ah,ad,ae,aa, *,dv,hx.idx,rows,aR]
   exact hQ _ _ (by simp[tV,hb])
section
variable{x:AV}{l:List Int}(hx:Sl 1 (rows l) x)(hl:l.length<4611686018427387904)
include hx hl
theorem GQ:limf env 198 [x,.fn (.func 186) [] []]=some (aI (tV l 0)):=by
 refine aG (fn:=Tryz.f198) (c:=eN) rfl (by kernel_rfl) (by kernel_rfl) (by kernel_rfl) (by kernel_rfl) ?_;refine ke _ _ _ _ fun g=>?_
 have h:=hx.len
 simp[af,ah,ad,ae,aa, *,gB]
 exact Gu hx hl l 0 _ _ rfl (by omega) rfl (fun y H' e=>by simp[e])
theorem LM:limf env 188 [x,.fn (.func 186) [] []]=some (aB (!l.all sO)):=by
 refine aG (fn:=Tryz.f188) (c:=fP) rfl (by kernel_rfl) (by kernel_rfl) (by kernel_rfl) (by kernel_rfl) ?_;refine jw _ _ _ _ fun g=>?_
 have h:=GQ hx hl
 have e:decide (0≤tV l 0) = !l.all sO:=by
  have:=Hq l 0
  cases h:l.all sO<;>simp[h]at this ⊢ <;> omega
 simp[af,ah,ad,ae,aa, *,fQ,hx.r]
theorem xt:limf env 159 [x]=some (aI (rowE l)):=by
 refine aG (fn:=Tryz.f159) (c:=sd) rfl (by kernel_rfl) (by kernel_rfl) (by kernel_rfl) (by kernel_rfl) ?_;refine yS _ _ _ fun g=>?_
 have h:=LM hx hl
 have h2:=hx.len
 by_cases h64:64<l.length
 ·have:(64:Int)<l.length:=by omega
  simp[af,ah,ad,ae,aa, *,ow,rowE,hx.r]
 ·have : ¬(64:Int)<l.length:=by omega
  cases hb:l.all sO<;>simp[af,ah,ad,ae,aa, *,ow,rowE,hx.r]
end
theorem HE{x0 x1:AV}{Q:AV→Heap→Prop}{l m:List Int}(hx:Sl 1 (rows l) x0)(hy:Sl 1 (rows m) x1)(hl:l.length<4611686018427387904)(hlm:m.length=l.length) : ∀(s t:List Int)(k:Nat)(i:Int)(H:Heap),l.drop k=s→m.drop k=t→k≤l.length→i=k →
 (∀y H',y=aB (decide (s=t))→Q y H') →
 GoL env Tryz.f128 0 dH [(13,aI i),(1,x1),(0,x0),(12,aI l.length)] H Q:=by
 intro s
 induction s with
 | nil =>
  rintro t k i H hs ht hk rfl hQ
  obtain rfl:=drop_nil hs hk
  rw[←hlm,List.drop_length]at ht
  subst ht
  refine gM _ _ _ _ _ _ fun g=>?_
  simp[af,ah,ad,ae,aa, *,dJ]
  all_goals exact hQ _ _ rfl
 | cons b s ih =>
  rintro t k i H hs ht hk rfl hQ
  obtain⟨hlt,hg,hs',hg'⟩:=drop_cons hs
  cases t with
  | nil=>have:=congrArg List.length ht;simp at this;omega
  | cons c t =>
  obtain⟨hlt2,hg2,ht',hg2'⟩:=drop_cons ht
  refine gM _ _ _ _ _ _ fun g=>?_
  have e3:=IntWalk.i64_in ((k:Int)+1) (by omega)
  by_cases hb:b=c
  ·subst hb
   simp[af,ah,ad,ae,aa, *,dJ,hx.idx,hy.idx,rows,aR]
   exact ih t (k+1) _ _ hs' ht' (by omega) (by simp) (fun y H' e=>hQ y H' (by simp[e]))
  ·simp[af,ah,ad,ae,aa, *,dJ,hx.idx,hy.idx,rows,aR]
   all_goals exact hQ _ _ (by simp[hb])
theorem ID{x0 x1:AV}{Q:AV→Heap→Prop}{l m:List Int}(hx:Sl 1 (rows l) x0)(hy:Sl 1 (rows m) x1)(hl:l.length<4611686018427387904)(hlm:m.length=l.length) : ∀(s t:List Int)(k:Nat)(i:Int)(H:Heap),l.drop k=s→m.drop k=t→k≤l.length→i=k →
 (∀y H',y=aB (decide (s=t))→Q y H') →
 GoL env Tryz.f127 0 fh [(5,aI i),(1,x1),(0,x0)] H Q:=by
 intro s
 induction s with
 | nil =>
  rintro t k i H hs ht hk rfl hQ
  obtain rfl:=drop_nil hs hk
  rw[←hlm,List.drop_length]at ht
  subst ht
  refine jx _ _ _ _ _ fun g=>?_
  simp[af,ah,ad,ae,aa, *,fk,hx.len]
  all_goals exact hQ _ _ rfl
 | cons b s ih =>
  rintro t k i H hs ht hk rfl hQ
  obtain⟨hlt,hg,hs',hg'⟩:=drop_cons hs
  cases t with
  | nil=>have:=congrArg List.length ht;simp at this;omega
  | cons c t =>
  obtain⟨hlt2,hg2,ht',hg2'⟩:=drop_cons ht
  refine jx _ _ _ _ _ fun g=>?_
  have e3:=IntWalk.i64_in ((k:Int)+1) (by omega)
  by_cases hb:b=c
  ·subst hb
   simp[af,ah,ad,ae,aa, *,fk,hx.idx,hy.idx,hx.len,rows,aR]
   exact ih t (k+1) _ _ hs' ht' (by omega) (by simp) (fun y H' e=>hQ y H' (by simp[e]))
  ·simp[af,ah,ad,ae,aa, *,fk,hx.idx,hy.idx,hx.len,rows,aR]
   all_goals exact hQ _ _ (by simp[hb])
section
variable{x y:AV}{l m:List Int}(hx:Sl 1 (rows l) x)(hy:Sl 1 (rows m) y)(hl:l.length<4611686018427387904)
include hx hy hl
theorem IV:limf env 128 [x,y]=some (aB (decide (l=m))):=by
 refine aG (fn:=Tryz.f128) (c:=fm) rfl (by kernel_rfl) (by kernel_rfl) (by kernel_rfl) (by kernel_rfl) ?_;refine lF _ _ _ _ fun g=>?_
 have h1:=hx.len
 have h2:=hy.len
 by_cases h:m.length=l.length
 ·have h':(m.length:Int)=l.length:=by omega
  simp[af,ah,ad,ae,aa, *,fp]
  exact HE hx hy hl h l m 0 0 _ rfl rfl (by omega) rfl (fun y H' e=>by simp[e])
 ·have h' : ¬(l.length:Int)=m.length:=by omega
  have hne:l≠m:=fun e=>h (by rw[e])
  have h'' : ¬(m.length:Int)=l.length:=by omega
  simp[af,ah,ad,ae,aa, *,fp]
theorem LC:limf env 127 [x,y]=some (aB (decide (l=m))):=by
 refine aG (fn:=Tryz.f127) (c:=iC) rfl (by kernel_rfl) (by kernel_rfl) (by kernel_rfl) (by kernel_rfl) ?_;refine pb _ _ _ _ fun g=>?_
 have h1:=hx.len
 have h2:=hy.len
 by_cases h:m.length=l.length
 ·have h':(m.length:Int)=l.length:=by omega
  simp[af,ah,ad,ae,aa, *,iD]
  exact ID hx hy hl h l m 0 0 _ rfl rfl (by omega) rfl (fun y H' e=>by simp[e])
 ·have h' : ¬(l.length:Int)=m.length:=by omega
  have hne:l≠m:=fun e=>h (by rw[e])
  have h'' : ¬(m.length:Int)=l.length:=by omega
  simp[af,ah,ad,ae,aa, *,iD]
end
end Go.Proofs.YtiidajnodhkidaaGreat
