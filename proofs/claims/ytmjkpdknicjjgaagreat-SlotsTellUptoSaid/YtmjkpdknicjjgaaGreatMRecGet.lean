/-
  Operations: whether they may be. No statement of a seat is proved here.
-/
import Derived.Test.YtmjkpdknicjjgaaGreatMDtRef4
set_option linter.unusedVariables false
set_option linter.unusedSimpArgs false
set_option linter.unusedSectionVars false
set_option linter.unnecessarySimpa false
set_option maxRecDepth 100000
set_option linter.defProp false
namespace Go.Proofs.YtmjkpdknicjjgaaGreat
open Go.Ab
section
attribute [local simp] aK az ak ay ax bD kj aM aq aA bA bw aJ aL af aW dq
def Ly:AV := .agg [.v .nilFunc,.v .nilFunc,.fn (.func 139) [] [.iptr 1 [.fn (.func 138) [] []] 0 0],.fn (.func 140) [] [],
 .fn (.func 141) [] [.iptr 1 [.fn (.func 138) [] []] 0 0,.iptr 1 [.fn (.func 137) [] []] 0 0],.fn (.func 142) [] [],.fn (.func 143) [] [.iptr 1 [.fn (.func 137) [] []] 0 0],.fn (.func 144) [] []]
def YO:ar env 121 []=some Ly:=Nw (n:=2000) (by kernel_rfl)
@[simp] def ait:ar env 125 []=some (.agg [a8 0,bR 0]):=by
 refine aF rfl (by kernel_rfl) (Hm _ _ λg=>?_);simp[aj, *,Bl]
section
variable(m:UInt8)(q:UInt8)(a_3:UInt32)(u:UInt8)(o:Int)(s:UInt8)(p:UInt32)(t:UInt8)(w:Int)(k:Int)(c:UInt8)(f:UInt32)(a:UInt8)(d:Int)(i:UInt8)(j:UInt32){x:AV}{l:List Int}(y:Sl 1 (rows l) x)(z:l.length<2000000)
include y z
theorem Vt:ar env 137 [.agg [a8 m,a8 q,bR a_3,a8 u,aI o,a8 s,bR p,a8 t,aI w,aI k,a8 c,bR f,a8 a,aI d,a8 i,bR j,x]]=some (aB (Bf (⟨m,⟨q,a_3,u⟩,o,⟨⟨⟨s,p,t⟩,w⟩,k⟩,⟨⟨c,f,a⟩,d⟩,⟨i,j⟩,l⟩:fX))):=by
 refine aF rfl (by kernel_rfl) (Ju _ _ _ λg=>?_);unfold Bf;cases b:kR (⟨⟨c,f,a⟩,d⟩:Au) with
 | true=>unfold kR at b;simp[aj, *,xL,y.r,od,gz]
 | false=>unfold kR at b;simp[aj, *,xL,y.r,od,gz]
theorem Rm:ar env 138 [.agg [a8 m,a8 q,bR a_3,a8 u,aI o,a8 s,bR p,a8 t,aI w,aI k,a8 c,bR f,a8 a,aI d,a8 i,bR j,x]]=some (aB (wP (⟨i,j⟩:Lab))):=by
 refine aF rfl (by kernel_rfl) (Jt _ _ _ λg=>?_);simp[aj, *,Cy,y.r,od,gz,wP]
theorem Vs:ar env 141 [.agg [a8 m,a8 q,bR a_3,a8 u,aI o,a8 s,bR p,a8 t,aI w,aI k,a8 c,bR f,a8 a,aI d,a8 i,bR j,x],.iptr 1 [.fn (.func 138) [] []] 0 0,.iptr 1 [.fn (.func 137) [] []] 0 0]=some (aB (Qr (⟨m,⟨q,a_3,u⟩,o,⟨⟨⟨s,p,t⟩,w⟩,k⟩,⟨⟨c,f,a⟩,d⟩,⟨i,j⟩,l⟩:fX))):=by
 refine aF rfl (by kernel_rfl) (Jr _ _ _ _ _ λg=>?_);have h:=Vt m q a_3 u o s p t w k c f a d i j y z;have b:=Rm m q a_3 u o s p t w k c f a d i j y z;unfold Qr;cases e:wP (⟨i,j⟩:Lab)<;>simp[aj, *,Cx,y.r]
theorem YN:ar env 143 [.agg [a8 m,a8 q,bR a_3,a8 u,aI o,a8 s,bR p,a8 t,aI w,aI k,a8 c,bR f,a8 a,aI d,a8 i,bR j,x],.iptr 1 [.fn (.func 137) [] []] 0 0]=some (aB (Lu (⟨m,⟨q,a_3,u⟩,o,⟨⟨⟨s,p,t⟩,w⟩,k⟩,⟨⟨c,f,a⟩,d⟩,⟨i,j⟩,l⟩:fX))):=by
 refine aF rfl (by kernel_rfl) (Jq _ _ _ _ λg=>?_);have b:=Vt m q a_3 u o s p t w k c f a d i j y z;unfold Lu;cases e:Bf (⟨m,⟨q,a_3,u⟩,o,⟨⟨⟨s,p,t⟩,w⟩,k⟩,⟨⟨c,f,a⟩,d⟩,⟨i,j⟩,l⟩:fX)<;>simp[aj, *,Cw,y.r]
theorem Vq:ar env 139 [.agg [a8 m,a8 q,bR a_3,a8 u,aI o,a8 s,bR p,a8 t,aI w,aI k,a8 c,bR f,a8 a,aI d,a8 i,bR j,x],.iptr 1 [.fn (.func 138) [] []] 0 0]=some (aB (JJ (⟨m,⟨q,a_3,u⟩,o,⟨⟨⟨s,p,t⟩,w⟩,k⟩,⟨⟨c,f,a⟩,d⟩,⟨i,j⟩,l⟩:fX))):=by
 refine aF rfl (by kernel_rfl) (Js _ _ _ _ λg=>?_);have D:=Rm m q a_3 u o s p t w k c f a d i j y z;have B:=EH y (by omega);have A:=EL l;unfold JJ;cases v:wP (⟨i,j⟩:Lab) with
 | false=>
  cases e:kR (⟨⟨c,f,a⟩,d⟩:Au) with| false=>unfold kR at e;simp[aj, *,jQ,y.r,od,gz]| true=>unfold kR at e;simp[aj, *,jQ,y.r,od,gz]
 | true=>
  have key : ∀b:Bool,(kR (⟨⟨c,f,a⟩,d⟩:Au)||Al (⟨⟨c,f,a⟩,d⟩:Au))=b->True:=λ_ _=>trivial;cases h:HG ⟨s,p,t⟩ ⟨q,a_3,u⟩ with
  | false=>
   unfold HG at h;cases e:kR (⟨⟨c,f,a⟩,d⟩:Au) with
   | false=>unfold kR at e;cases n:Al (⟨⟨c,f,a⟩,d⟩:Au)<;>simp[aj, *,jQ,y.r,od,gz]
   | true=>unfold kR at e;simp[aj, *,jQ,y.r,od,gz]
  | true=>
   unfold HG at h;by_cases C:(l.length:Int)=k
   ·cases e:kR (⟨⟨c,f,a⟩,d⟩:Au) with| false=>unfold kR at e;cases n:Al (⟨⟨c,f,a⟩,d⟩:Au)<;>simp[aj, *,jQ,y.r,od,gz]| true=>unfold kR at e;simp[aj, *,jQ,y.r,od,gz]
   cases e:kR (⟨⟨c,f,a⟩,d⟩:Au) with| false=>unfold kR at e;cases n:Al (⟨⟨c,f,a⟩,d⟩:Au)<;>simp[aj, *,jQ,y.r,od,gz]| true=>unfold kR at e;simp[aj, *,jQ,y.r,od,gz]
theorem tk:ar env 99 [.agg [a8 m,a8 q,bR a_3,a8 u,aI o,a8 s,bR p,a8 t,aI w,aI k,a8 c,bR f,a8 a,aI d,a8 i,bR j,x]]=some (aI (bad (rG (⟨m,⟨q,a_3,u⟩,o,⟨⟨⟨s,p,t⟩,w⟩,k⟩,⟨⟨c,f,a⟩,d⟩,⟨i,j⟩,l⟩:fX)))):=by
 refine aF rfl (by kernel_rfl) (MA _ _ _ λg=>?_);have K:=Vq m q a_3 u o s p t w k c f a d i j y z;have M:=Vs m q a_3 u o s p t w k c f a d i j y z;have H:=YN m q a_3 u o s p t w k c f a d i j y z;have G:=YO;unfold rG DH;by_cases A:m=0;·subst A;simp[aj, *,kY,y.r]
 by_cases b:4<=m
 ·have n1 : ¬m=1:=by rintro rfl;exact absurd b (by decide)
  have n2 : ¬m=2:=by rintro rfl;exact absurd b (by decide)
  have F : ¬m=3:=by rintro rfl;exact absurd b (by decide)
  simp[aj, *,kY,y.r]
 cases J:fT ⟨q,a_3,u⟩ with| false=>simp[aj, *,kY,y.r]| true=>
 rcases GD o 1 with v | D
 ·have D : ¬1<=o:=by omega
  simp[aj, *,kY,y.r]
 have v : ¬o<1:=by omega
 rcases GD o 16777216 with C | n
 rotate_left
 ·have C : ¬o<16777216:=by omega
  simp[aj, *,kY,y.r]
 have n : ¬16777216<=o:=by omega
 cases I:ov ⟨⟨⟨s,p,t⟩,w⟩,k⟩ with| false=>simp[aj, *,kY,y.r]| true=>
 have E:m=1\/m=2\/m=3:=by
  have e:m.toNat<4:=by have:=UInt8.not_le.1 b;exact this
  have L:m.toNat≠0:=λh=>A (z9.1 h);rcases(show m.toNat=1\/m.toNat=2\/m.toNat=3 by omega)with h | h | h
  ·exact .inl (z9.1 h)
  ·exact .inr (.inl (z9.1 h))
  exact .inr (.inr (z9.1 h))
 rcases E with rfl | rfl | rfl
 ·cases B:JJ (⟨1,⟨q,a_3,u⟩,o,⟨⟨⟨s,p,t⟩,w⟩,k⟩,⟨⟨c,f,a⟩,d⟩,⟨i,j⟩,l⟩:fX)<;>simp[aj, *,kY,y.r,Ly,EO,Io]
 ·cases B:Qr (⟨2,⟨q,a_3,u⟩,o,⟨⟨⟨s,p,t⟩,w⟩,k⟩,⟨⟨c,f,a⟩,d⟩,⟨i,j⟩,l⟩:fX)<;>simp[aj, *,kY,y.r,Ly,EO,Io]
 cases B:Lu (⟨3,⟨q,a_3,u⟩,o,⟨⟨⟨s,p,t⟩,w⟩,k⟩,⟨⟨c,f,a⟩,d⟩,⟨i,j⟩,l⟩:fX)<;>simp[aj, *,kY,y.r,Ly,EO,Io]
end
def IF(t:Int):List Int->Nat->Int
 | [],_ => -1
 | a :: l,k=>if t=a then k else IF t l (k+1)
def WX(t:Int)(l:List Int) : ∀k:Nat,(0<=IF t l k↔t∈l):=by
 induction l with| nil=>intro k;simp[IF]| cons a l b=>
  intro k;unfold IF;by_cases h:t=a;·simp[h]
  rw[if_neg h,b];simp[h]
def NG{x0:AV}{Q:AV->aa->Prop}{l:List Int}(c:Sl 1 (rows l) x0)(d:l.length<4611686018427387904){t:Int}{H:aa} :
 ∀(s:List Int)(k:Nat)(i:Int),l.drop k=s->k<=l.length->i=k->(∀y,y=aI (IF t s k)->Q y H) ->
 bS env Tryz.f124 0 fx [(8,aI i),(0,x0),(1,aR t),(7,aI l.length)] H Q:=by
 intro s;induction s with
 | nil=>rintro k i hs hk rfl hQ;obtain rfl:=drop_nil hs hk;refine lS _ _ _ _ _ _ λg=>?_;simp[aj, *,fB];all_goals exact hQ _ rfl
 | cons a s j=>
  rintro k i hs hk rfl hQ;obtain⟨n,p,b,m⟩:=drop_cons hs;refine lS _ _ _ _ _ _ λg=>?_;have q:=iQa ((k:Int)+1) (by omega);by_cases h:t=a
  ·have e:IF t (a :: s) k=k:=by unfold IF;rw[if_pos h]
   simp[aj, *,fB,c.idx,rows,aR];all_goals exact hQ _ (by simp[e])
  have e:IF t (a :: s) k=IF t s (k+1):=(by rw[IF,if_neg h]);have f:=j (k+1) ((k:Int)+1) b (by omega) (by simp) (λy o=>hQ y (by rw[o,e]));clear j hQ e;simp[aj, *,fB,c.idx,rows,aR];exact f
section
variable{x:AV}{l:List Int}(c:Sl 1 (rows l) x)(d:l.length<4611686018427387904)
include c d
theorem VN(t:Int):ar env 124 [x,aR t]=some (aI (IF t l 0)):=by
 refine aF rfl (by kernel_rfl) (te _ _ _ _ λg=>?_);have h:=c.len;simp[aj, *,mY];exact NG c d l 0 _ rfl (by omega) rfl (λy e=>by simp[e])
theorem MX(t:Int):ar env 102 [x,aR t]=some (aB (decide (t∈l))):=by
 refine aF rfl (by kernel_rfl) (rE _ _ _ _ λg=>?_);have h:=VN c d t;have a:=c.r;have e:=WX t l 0;simp[aj, *,lF]
end
def S0(q:UInt8)(m:UInt8)(a_3:UInt32)(u:UInt8)(p:Int)(n:UInt8)(o:UInt32)(s:UInt8)(t:Int)(k:Int)(b:UInt8)(j:UInt32)(f:UInt8)(i:Int)(a:UInt8)(e:UInt32){x:AV}{l:List Int}(c:Sl 1 (rows l) x)(d:l.length<4611686018427387904):ar env 68 [.agg [a8 q,a8 m,bR a_3,a8 u,aI p,a8 n,bR o,a8 s,aI t,aI k,a8 b,bR j,a8 f,aI i,a8 a,bR e,x]]=some (aB (!decide (-1∈l))):=by
 refine aF rfl (by kernel_rfl) (Mz _ _ _ λg=>?_);have h:=MX c d (-1);have v:=c.r;unfold aR at h;simp[aj, *,FQ]
def oI(a b:fX):Bool:=decide (a.kind=b.kind)&&((decide (a.h.lv=b.h.lv)&&decide (a.h.cats=b.h.cats)&&decide (a.h.num=b.h.num))&&(decide (a.serial=b.serial) &&
 ((decide (a.s.f.h.lv=b.s.f.h.lv)&&decide (a.s.f.h.cats=b.s.f.h.cats)&&decide (a.s.f.h.num=b.s.f.h.num)&&decide (a.s.f.n=b.s.f.n)&&decide (a.s.many=b.s.many)) &&
 ((decide (a.a.h.lv=b.a.h.lv)&&decide (a.a.h.cats=b.a.h.cats)&&decide (a.a.h.num=b.a.h.num)&&decide (a.a.n=b.a.n))&&((decide (a.to.lv=b.to.lv)&&decide (a.to.cats=b.to.cats))&&decide (a.l=b.l))))))
def VH(B:UInt8)(F:UInt8)(a_3:UInt32)(E:UInt8)(L:Int)(v:UInt8)(w:UInt32)(C:UInt8)(D:Int)(j:Int)(k:UInt8)(q:UInt32)(o:UInt8)(i:Int)(b:UInt8)(n:UInt32)(I:UInt8)(J:UInt8)(M:UInt32)(u:UInt8)(G:Int)(A:UInt8)(H:UInt32)(z:UInt8)(K:Int)(s:Int)(a:UInt8)(e:UInt32)(h:UInt8)(p:Int)(f:UInt8)(t:UInt32){x y:AV}{l m:List Int}(c:Sl 1 (rows l) x)(N:Sl 1 (rows m) y)(d:l.length<1000000000):ar env 104 [.agg [a8 B,a8 F,bR a_3,a8 E,aI L,a8 v,bR w,a8 C,aI D,aI j,a8 k,bR q,a8 o,aI i,a8 b,bR n,x],.agg [a8 I,a8 J,bR M,a8 u,aI G,a8 A,bR H,a8 z,aI K,aI s,a8 a,bR e,a8 h,aI p,a8 f,bR t,y]]=some (aB (oI (⟨B,⟨F,a_3,E⟩,L,⟨⟨⟨v,w,C⟩,D⟩,j⟩,⟨⟨k,q,o⟩,i⟩,⟨b,n⟩,l⟩:fX) (⟨I,⟨J,M,u⟩,G,⟨⟨⟨A,H,z⟩,K⟩,s⟩,⟨⟨a,e,h⟩,p⟩,⟨f,t⟩,m⟩:fX))):=by
 refine aF rfl (by kernel_rfl) (O7 _ _ _ _ λg=>?_);have U:=SI c N (by omega);have V:=c.r;have O:=N.r;unfold oI;cases T:decide (B=I) with
 | false=>simp[aj, *,oV,od,gz]
 | true=>
 cases P:(decide (F=J)&&decide (a_3=M)&&decide (E=u)) with| false=>simp[aj, *,oV,od,gz]| true=>
 cases S:decide (L=G) with| false=>simp[aj, *,oV,od,gz]| true=>
 cases Q:(decide (v=A)&&decide (w=H)&&decide (C=z)&&decide (D=K)&&decide (j=s)) with| false=>simp[aj, *,oV,od,gz]| true=>
 cases R:(decide (k=a)&&decide (q=e)&&decide (o=h)&&decide (i=p)) with| false=>simp[aj, *,oV,od,gz]| true=>
 cases W:(decide (b=f)&&decide (n=t)) with| false=>simp[aj, *,oV,od,gz]| true=>simp[aj, *,oV,od,gz]
end
section
attribute [local simp] aK az ak ay ax bD kj aM aq aA bA bw aJ aL af aW dq
def bsO(z:Nat)(zz:AV)(H:aa)(r:Ref)(n:Nat)(a:List (Nat × AV))(refs:List Ref):cR:=match hY (List.replicate n zz) a with
 | some es=>some (.bk r 0 n (some n),(r,some ⟨z,es,true,false⟩) :: cg H refs)
 | none=>none
def BJ{P:Program}{a:Bool}{t:TypeId}(m:oT P t=true)(H:aa)(d h i:Nat)(n:Nat)(ps:List (Nat × AV))(f:n * jw P t<=16777216)(s:(dp H.get ps).isSome=true)
 (o:((dp H.get ps).getD []).all (λp=>p.2.cells.length == jw P t&&p.2.cells.all AV.one)=true) (b:(hY (List.replicate n (eT P t)) ((dp H.get ps).getD [])).isSome=true) (g:mV H.get (ct H.get (ps.map (·.2)))=false) :
 lb P a true H ⟨d,h,i,0⟩ t n (some ps)=bsO (jw P t) (eT P t) H ⟨d,h,i,0⟩ n ((dp H.get ps).getD []) (ct H.get (ps.map (·.2))):=by
 obtain⟨ws,hw⟩:=gT.1 s;rw[hw,cB]at o b ⊢;obtain⟨es,b⟩:=gT.1 b;unfold oT at m;obtain⟨e,zz,l,x,y,k,u,q,w,z⟩:=gJ m;have j:eT P t=zz:=by unfold eT;rw[l,eD,k];rfl
 rw[j]at b ⊢;have c:mkSlice P H.get t n ps=some ⟨jw P t,es,true,false⟩:=by
  simp only[mkSlice,l,hw,k,x];rw[if_pos ⟨Aa w,f,u,q,by simpa using o⟩,b];rfl
 have v:gx P a H.get ⟨d,h,i,0⟩ t n (some ps)=none:=by
  simp only[gx,g,eW,iQe]
 unfold lb bsO;rw[v,b];simp only[lY,EU,iQp,jV,c,Option.map_some]
attribute [local simp] BJ bsO dp
def oz(o:fX):List UInt8:=[o.kind]++(cE o.h++(be 3 o.serial++(dW o.s.f++[u8 o.s.many])))
def QG(n:Int):be 3 n=[u8 (n / 65536),u8 (n / 256),u8 n]:=by simp[L4]
def HI(c:UInt8)(h:R9)(a:Int)(f:Au)(b:Int):ar env 43 [.bg 1 [.bg 1 [a8 c] (some 1),.bg 1 (au (cE h)) none,.bg 1 [a8 (u8 (a / 65536)),a8 (u8 (a / 256)),a8 (u8 a)] (some 3),.bg 1 (au (dW f)) none,.bg 1 [a8 (u8 b)] (some 1)] (some 5)] =
 some (.fsl 1 (au ([c]++(cE h++(be 3 a++(dW f++[u8 b]))))) none):=by
 have e:la [([c],AV.bg 1 [a8 c] (some 1)),(cE h,.bg 1 (au (cE h)) none),(be 3 a,.bg 1 [a8 (u8 (a / 65536)),a8 (u8 (a / 256)),a8 (u8 a)] (some 3)),(dW f,.bg 1 (au (dW f)) none),([u8 b],.bg 1 [a8 (u8 b)] (some 1))]=[c]++(cE h++(be 3 a++(dW f++[u8 b]))):=by
  simp only[la,mz,Er,rI]
 rw[<-e];refine HP (ps:=[([c],AV.bg 1 [a8 c] (some 1)),(cE h,.bg 1 (au (cE h)) none),(be 3 a,.bg 1 [a8 (u8 (a / 65536)),a8 (u8 (a / 256)),a8 (u8 a)] (some 3)),(dW f,.bg 1 (au (dW f)) none),([u8 b],.bg 1 [a8 (u8 b)] (some 1))]) (.inr ⟨some 5,rfl,by simp⟩) ?_ (by simp) (by rw[e];simp) (by rw[e];simp);intro p hp;simp only[fh,zi,iQu]at hp;rcases hp with rfl | rfl | rfl | rfl | rfl
 ·exact .inr ⟨some 1,rfl,by simp⟩
 ·exact Sl.mk _ _
 ·exact .inr ⟨some 3,by rw[QG];rfl,by simp⟩
 ·exact Sl.mk _ _
 exact .inr ⟨some 1,rfl,by simp⟩
def VK(q:UInt8)(i:UInt8)(a_3:UInt32)(o:UInt8)(p:Int)(j:UInt8)(k:UInt32)(m:UInt8)(n:Int)(a:Int)(c:UInt8)(h:UInt32)(e:UInt8)(f:Int)(b:UInt8)(d:UInt32){x:AV}{l:List Int}(t:Sl 1 (rows l) x)(w:l.length<2000000)(s:rG (⟨q,⟨i,a_3,o⟩,p,⟨⟨⟨j,k,m⟩,n⟩,a⟩,⟨⟨c,h,e⟩,f⟩,⟨b,d⟩,l⟩:fX)=true)(v:q=2):ar env 67 [.agg [a8 q,a8 i,bR a_3,a8 o,aI p,a8 j,bR k,a8 m,aI n,aI a,a8 c,bR h,a8 e,aI f,a8 b,bR d,x]]=some (.tup [.bg 1 (au (oz (⟨q,⟨i,a_3,o⟩,p,⟨⟨⟨j,k,m⟩,n⟩,a⟩,⟨⟨c,h,e⟩,f⟩,⟨b,d⟩,l⟩:fX))) none,aI 0]):=by
 refine aF rfl (by kernel_rfl) (Br _ _ _ λg=>?_);have u:=tk q i a_3 o p j k m n a c h e f b d t w;rw[s]at u;have A:fT ⟨i,a_3,o⟩=true:=by simp only[rG,bo]at s;exact s.1
 have y:Al ⟨⟨j,k,m⟩,n⟩=true:=by
  simp only[rG,bo]at s;have:=s.2.2.2.1;simp only[ov,bo]at this;exact this.1
 clear s;subst v;have z:=HI 2 ⟨i,a_3,o⟩ p ⟨⟨j,k,m⟩,n⟩ a;unfold oz;simp[aj, *,vC,t.r,bad,cK,cF]
def VJ(s:UInt8)(d:UInt8)(a_3:UInt32)(k:UInt8)(m:Int)(f:UInt8)(h:UInt32)(i:UInt8)(j:Int)(c:Int)(n:UInt8)(q:UInt32)(o:UInt8)(p:Int)(b:UInt8)(a:UInt32){x:AV}{l:List Int}(w:Sl 1 (rows l) x)(E:l.length<2000000)(t:rG (⟨s,⟨d,a_3,k⟩,m,⟨⟨⟨f,h,i⟩,j⟩,c⟩,⟨⟨n,q,o⟩,p⟩,⟨b,a⟩,l⟩:fX)=true)(D:s=3):ar env 67 [.agg [a8 s,a8 d,bR a_3,a8 k,aI m,a8 f,bR h,a8 i,aI j,aI c,a8 n,bR q,a8 o,aI p,a8 b,bR a,x]]=some (.tup [.bg 1 (au (oz (⟨s,⟨d,a_3,k⟩,m,⟨⟨⟨f,h,i⟩,j⟩,c⟩,⟨⟨n,q,o⟩,p⟩,⟨b,a⟩,l⟩:fX)++(b :: be 4 a.toNat))) none,aI 0]):=by
 refine aF rfl (by kernel_rfl) (Br _ _ _ λg=>?_);have B:=tk s d a_3 k m f h i j c n q o p b a w E;rw[t]at B;subst D;have H:fT ⟨d,a_3,k⟩=true:=by simp only[rG,bo]at t;exact t.1
 have F:Al ⟨⟨f,h,i⟩,j⟩=true:=by
  simp only[rG,bo]at t;have:=t.2.2.2.1;simp only[ov,bo]at this;exact this.1
 have y:fT ⟨b,a,0⟩=true:=by
  simp only[rG,bo]at t;have:=t.2.2.2.2;simp only[DH,Lu]at this;simp at this;simp[fT,this]
 clear t;have G:=HI 3 ⟨d,a_3,k⟩ m ⟨⟨f,h,i⟩,j⟩ c;unfold oz;have z:cE ⟨b,a,0⟩=b :: (be 4 a.toNat++[0]):=rfl;have u:(au ([(3:UInt8)]++(cE ⟨d,a_3,k⟩++(be 3 m++(dW ⟨⟨f,h,i⟩,j⟩++[u8 c]))))).length=24:=by simp
 have v:=MW b a 0;rw[if_pos y,z,uu]at v;rw[uu];rw[show au (([(3:UInt8)]++(cE ⟨d,a_3,k⟩++(be 3 m++(dW ⟨⟨f,h,i⟩,j⟩++[u8 c]))))++[b,u8 (↑a.toNat / 16777216),u8 (↑a.toNat / 65536),u8 (↑a.toNat / 256),u8 ↑a.toNat])=au ([(3:UInt8)]++(cE ⟨d,a_3,k⟩++(be 3 m++(dW ⟨⟨f,h,i⟩,j⟩++[u8 c]))))++[a8 b,a8 (u8 (↑a.toNat / 16777216)),a8 (u8 (↑a.toNat / 65536)),a8 (u8 (↑a.toNat / 256)),a8 (u8 ↑a.toNat)] from zh ..];have A:au ([(3:UInt8)]++(cE ⟨d,a_3,k⟩++(be 3 m++(dW ⟨⟨f,h,i⟩,j⟩++[u8 c]))))≠[]:=by intro e;rw[e]at u;cases u
 generalize au ([(3:UInt8)]++(cE ⟨d,a_3,k⟩++(be 3 m++(dW ⟨⟨f,h,i⟩,j⟩++[u8 c]))))=C at *;clear y z;simp[aj, *,vC,w.r,bad,cK,cF];rfl
def Rk(C A R:List UInt8)(a:Option Nat)(b:A.length<=a.getD A.length)(c:0<C.length)(d:C.length+A.length+R.length<1000000):ar env 43 [.bg 1 [.bg 1 (au C) none,.bg 1 (au A) a,.bg 1 (au R) none] (some 3)]=some (.fsl 1 (au (C++(A++R))) none):=by
 have e:la [(C,AV.bg 1 (au C) none),(A,.bg 1 (au A) a),(R,.bg 1 (au R) none)]=C++(A++R):=by
  simp only[la,mz,Er,rI]
 rw[<-e];refine HP (ps:=[(C,AV.bg 1 (au C) none),(A,.bg 1 (au A) a),(R,.bg 1 (au R) none)]) (.inr ⟨some 3,rfl,by simp⟩) ?_ (by simp) (by rw[e];simp;omega) (by rw[e];simp;omega);intro p hp;simp only[fh,zi,iQu]at hp;rcases hp with rfl | rfl | rfl
 ·exact Sl.mk _ _
 ·exact .inr ⟨a,rfl,by simpa using b⟩
 exact Sl.mk _ _
def VI(n:UInt8)(i:UInt8)(a_3:UInt32)(q:UInt8)(m:Int)(j:UInt8)(k:UInt32)(o:UInt8)(p:Int)(h:Int)(b:UInt8)(f:UInt32)(d:UInt8)(e:Int)(a:UInt8)(c:UInt32){x:AV}{l:List Int}(t:Sl 1 (rows l) x)(v:l.length<2000000)(s:rG (⟨n,⟨i,a_3,q⟩,m,⟨⟨⟨j,k,o⟩,p⟩,h⟩,⟨⟨b,f,d⟩,e⟩,⟨a,c⟩,l⟩:fX)=false):ar env 67 [.agg [a8 n,a8 i,bR a_3,a8 q,aI m,a8 j,bR k,a8 o,aI p,aI h,a8 b,bR f,a8 d,aI e,a8 a,bR c,x]]=some (.tup [aO,aI 8]):=by
 refine aF rfl (by kernel_rfl) (Br _ _ _ λg=>?_);have u:=tk n i a_3 q m j k o p h b f d e a c t v;rw[s]at u;clear s;simp[aj, *,vC,t.r,bad]
@[simp] def ajr(r:Ref):yL env.P r 57 (some (.v (.int .i64 13))) (some (.v (.int .i64 13)))=some (.bk r 0 13 none,[⟨1,[a8 0,a8 0,a8 0,a8 0,a8 0,a8 0,a8 0,a8 0,a8 0,a8 0,a8 0,a8 0,a8 0],true,false⟩]):=by kernel_rfl
def Tr{o:fX}(h:rG o=true):ov o.s=true:=by
 simp only[rG,bo]at h;exact h.2.2.2.1
def Pw{l:List Int}(h:HX l=true):yG l=0/\l.length<=64 /\∀n∈l, -2147483648<=n/\n<=2147483647:=by
 simp only[HX,bo,iQb]at h;refine⟨by unfold yG;rw[if_neg (by omega),if_pos h.2],h.1,λn a=>?_⟩;have:=gf.1 h.2 n a;simp only[iC,jH,bo,iQb]at this;omega
def oU(a:Au):List UInt8:=if kR a then List.replicate 13 0 else dW a
def VL(t:UInt8)(h:UInt8)(a_3:UInt32)(n:UInt8)(p:Int)(i:UInt8)(j:UInt32)(k:UInt8)(m:Int)(f:Int)(a:UInt8)(d:UInt32)(b:UInt8)(c:Int)(q:UInt8)(s:UInt32){x:AV}{l:List Int}(A:Sl 1 (rows l) x)(M:l.length<2000000)(w:rG (⟨t,⟨h,a_3,n⟩,p,⟨⟨⟨i,j,k⟩,m⟩,f⟩,⟨⟨a,d,b⟩,c⟩,⟨q,s⟩,l⟩:fX)=true)(O:t=1):ar env 67 [.agg [a8 t,a8 h,bR a_3,a8 n,aI p,a8 i,bR j,a8 k,aI m,aI f,a8 a,bR d,a8 b,aI c,a8 q,bR s,x]]=some (.tup [.bg 1 (au (oz (⟨t,⟨h,a_3,n⟩,p,⟨⟨⟨i,j,k⟩,m⟩,f⟩,⟨⟨a,d,b⟩,c⟩,⟨q,s⟩,l⟩:fX)++(oU ⟨⟨a,d,b⟩,c⟩++bh l))) none,aI 0]):=by
 refine aF rfl (by kernel_rfl) (Br _ _ _ λg=>?_);have N:=tk t h a_3 n p i j k m f a d b c q s A M;rw[w]at N;subst O;have S:fT ⟨h,a_3,n⟩=true:=by simp only[rG,bo]at w;exact w.1
 have y:=Tr w;have P:Al ⟨⟨i,j,k⟩,m⟩=true:=by
  have:=y;simp only[ov,bo]at this;exact this.1
 obtain⟨D,hlen,u⟩:(kR ⟨⟨a,d,b⟩,c⟩||Al ⟨⟨a,d,b⟩,c⟩)=true/\(l.length:Int)=f/\HX l=true:=by
  simp only[rG,bo]at w;have:=w.2.2.2.2;simp[DH,JJ]at this;refine⟨by simpa using this.2.1,this.2.2.2.1,this.2.2.2.2⟩
 obtain⟨G,K,H⟩:=Pw u;have E:=Rg y;simp only at E;have v:=YU A (by omega) H;rw[if_pos G]at v;have J:=nF l;have B:au (bh l)≠[]:=by
  intro e;have:=iQg List.length e;have Q:(au (bh l)).length=(bh l).length:=by simp
  simp only[kS]at this;omega
 rw[tH 1 B]at v;clear w u G H E;have T:=HI 1 ⟨h,a_3,n⟩ p ⟨⟨i,j,k⟩,m⟩ f;unfold oz;have L:([(1:UInt8)]++(cE ⟨h,a_3,n⟩++(be 3 p++(dW ⟨⟨i,j,k⟩,m⟩++[u8 f])))).length=24:=by simp
 generalize ([(1:UInt8)]++(cE ⟨h,a_3,n⟩++(be 3 p++(dW ⟨⟨i,j,k⟩,m⟩++[u8 f]))))=C at *;generalize bh l=R at *;cases o:kR ⟨⟨a,d,b⟩,c⟩ with
 | true=>
  have F:=Rk C (List.replicate 13 0) R none (by simp) (by omega) (by simp;omega);rw[show oU ⟨⟨a,d,b⟩,c⟩=List.replicate 13 0 by unfold oU;rw[if_pos o]];obtain⟨⟨⟨rfl,rfl⟩,rfl⟩,rfl⟩:((a=0/\d=0)/\b=0)/\c=0:=by simpa [kR] using o
  have z:au (List.replicate 13 0)=[a8 0,a8 0,a8 0,a8 0,a8 0,a8 0,a8 0,a8 0,a8 0,a8 0,a8 0,a8 0,a8 0]:=rfl;rw[z]at F;generalize au (C++(List.replicate 13 0++R))=W at *;clear o D hlen;simp[aj, *,vC,A.r,bad,cK,cF,od,gz]
 | false=>rw[o,ze]at D;have F:=Rk C (dW ⟨⟨a,d,b⟩,c⟩) R none (by simp) (by omega) (by simp;omega);rw[show oU ⟨⟨a,d,b⟩,c⟩=dW ⟨⟨a,d,b⟩,c⟩ by unfold oU;rw[if_neg (by rw[o];decide)]];generalize au (C++(dW ⟨⟨a,d,b⟩,c⟩++R))=W at *;have I:(decide (a=0)&&decide (d=0)&&decide (b=0)&&decide (c=0))=false:=o;clear o hlen;simp[aj, *,vC,A.r,bad,cK,cF,od,gz]
end
section
attribute [local simp] aK az ak ay ax bD kj aM aq aA bA bw aJ aL af aW dq
def S3(c:Option Nat)(b1 b2 b3 b4 b5:UInt8):ar env 132 [.bg 1 [a8 b1,a8 b2,a8 b3,a8 b4,a8 b5] c]=some (.fsl 1 [a8 b1,a8 b2,a8 b3,a8 b4,a8 b5] none):=by
 refine aF rfl (by kernel_rfl) (Hr _ _ _ λg=>?_);simp[aj, *,Bo]
def HQ{x y:AV}{l m:List UInt8}(f:Sl 1 (au l) x)(d:Sl 1 (au m) y):ar env 63 [x,y]=some (aB (decide (l=m))):=by
 refine aF rfl (by kernel_rfl) (Hq _ _ _ _ λg=>?_);have e : ∀l:List UInt8,au l=[]->l=[]:=λl h=>by simpa [au] using h
 rcases f with ⟨rfl,a⟩ | ⟨c,rfl,a⟩<;>rcases d with ⟨rfl,b⟩ | ⟨c',rfl,b⟩
 ·obtain rfl:=e l a;obtain rfl:=e m b;simp[aj, *,oX]
 ·obtain rfl:=e l a;simp[aj, *,oX];try exact⟨λh=>h.symm,λh=>h.symm⟩
 ·obtain rfl:=e m b;simp[aj, *,oX]
 simp[aj, *,oX]
def E8{f:FuncId}(a:(env.mode f == 2)=true)(dep:Nat)(H:aa)(r:Ref)(first args captured:List AV) :
 bm env true (ar env) (dg env dep) H r (some (.fn (.func f) first captured)) args=dg env dep (.fn f) (first++args++captured) H:=by
 have h:env.mode f=2:=by simpa using a
 simp[bm,k9,nn,lY,EU,h]
def iD(l:List UInt8):R9:=⟨l.getD 0 0,u32 (val ((l.drop 1).take 4)),l.getD 5 0⟩
def jY(l:List UInt8):Au:=⟨iD l,val (l.drop 6)⟩
def Ll{l:List UInt8}(h:l.length=6) : ∃a b c d e f,l=[a,b,c,d,e,f]:=by
 match l,h with
 | [a,b,c,d,e,f],_=>exact⟨a,b,c,d,e,f,rfl⟩
def AL{l:List UInt8}(h:l.length=13) : ∃a b c d e f g i j k m n o,l=[a,b,c,d,e,f,g,i,j,k,m,n,o]:=by
 match l,h with
 | [a,b,c,d,e,f,g,i,j,k,m,n,o],_=>exact⟨a,b,c,d,e,f,g,i,j,k,m,n,o,rfl⟩
def nC{z:Nat}{es:List AV}{x:AV}(h:Sl z es x)(a:0<es.length) : ∃c,x = .bg z es c/\es.length<=c.getD es.length:=by
 rcases h with ⟨rfl,rfl⟩ | ⟨c,rfl,h⟩
 ·simp at a
 exact⟨c,rfl,h⟩
def NM{v:AV}{l:List UInt8}(g:Sl 1 (au l) v)(i:l.length=6):ar env 111 [v] =
 some (if fT (iD l) then .tup [.agg [a8 (iD l).lv,bR (iD l).cats,a8 (iD l).num],aI 0] else .tup [.agg [a8 0,bR 0,a8 0],aI 8]):=by
 obtain⟨a,b,c,d,e,f,rfl⟩:=Ll i;obtain⟨j,rfl,h⟩:=nC g (by simp[au]);exact Fu (by simpa [au] using h)
def adF{v:AV}{l:List UInt8}(p:Sl 1 (au l) v)(s:l.length=13):ar env 149 [v] =
 some (if Al (jY l) then .tup [.agg [a8 (jY l).h.lv,bR (jY l).h.cats,a8 (jY l).h.num,aI (jY l).n],aI 0] else .tup [.agg [a8 0,bR 0,a8 0,aI 0],aI 8]):=by
 obtain⟨a,b,c,d,e,f,g,i,j,k,m,n,o,rfl⟩:=AL s;obtain⟨t,rfl,q⟩:=nC p (by simp[au]);exact acD (by simpa [au] using q)
def Cc(l:List UInt8)(a:Nat)(b:Bool)(n:Nat):Bool:=b||decide (l.length<a+n)
def Fq(l:List UInt8)(a:Nat)(b:Bool)(n:Nat):Nat:=if Cc l a b n then a else a+n
def xQ(l:List UInt8)(a:Nat)(b:Bool)(n:Nat):List UInt8:=if Cc l a b n then List.replicate n 0 else (l.drop a).take n
def EF{l:List UInt8}{a:Nat}(b:Bool)(n:Nat)(h:a<=l.length):Fq l a b n<=l.length:=by
 unfold Fq Cc;split;·exact h
 rename_i c;simp at c;omega
def zE{l:List UInt8}{a:Nat}(b:Bool)(n:Nat):(xQ l a b n).length=n:=by
 unfold xQ;split;·simp
 rename_i c;simp[Cc]at c;simp;omega
def wZ(x:AV)(a:Nat)(b:Bool):bj:=⟨3,[.agg [x,aI a,aB b]],false,false⟩
structure Tk (H H':aa) (r:Ref) (x:AV) (l bs:List UInt8) (a:Nat) (b:Bool) (y v:AV):Prop where
 seen:nY 1 (au bs) H' y v
 fr:Fr H'
 box:H'.get r=some (wZ x a b)
 old : ∀q c,q≠r->H.get q=some c->H'.get q=some c
 spot : ∀q,y.at?=some q->q.t=31
def U5(d:Nat){H:aa}{r:Ref}{x:AV}{l:List UInt8}{a n:Nat}{c:bj}(f:Fr H)(i:H.get r=some c) :
 ∃v,Tk H ((⟨d,31,H.gen d 31,0⟩,some ⟨1,List.replicate n (a8 0),true,false⟩) :: H.put r (some ⟨3,[.agg [x,aI a,aB true]],false,false⟩)) r x l (List.replicate n 0) a true (.bk ⟨d,31,H.gen d 31,0⟩ 0 n none) v:=by
 have j:(H.get r).isSome=true:=by rw[i];rfl
 have b:au (List.replicate n 0)=List.replicate n (a8 0):=by simp[au]
 refine⟨.bg 1 (au (List.replicate n 0)) none,?_,by simp(maxDischargeDepth:=12) [dU, *],?_,?_,?_⟩
 ·refine .inr ⟨⟨d,31,H.gen d 31,0⟩,none,false,?_,?_,rfl,?_⟩;·rw[b];simp
  ·rw[b];simp
  simp
 ·rw[aa.cL,if_neg (qA f j _ _ _),aa.ab,if_pos rfl];rfl
 ·intro q c' h g;rw[aa.cL,if_neg (qA f (by rw[g];rfl) _ _ _),aa.ab,if_neg (λe=>h e)];exact g
 intro q e;cases e;rfl
def acg{H:aa}{r:Ref}{x y:AV}{l bs:List UInt8}{a:Nat}{c:bj}{b1 b2:Option bj}(m:Fr H)(i:H.get r=some c)(f:Sl 1 (au bs) y)(d : ∃g,b1=some g)(b:b2=some ⟨3,[.agg [x,aI a,aB false]],false,false⟩) :
 ∃v,Tk H ((H.put r b1).put r b2) r x l bs a false y v:=by
 have k:(H.get r).isSome=true:=by rw[i];rfl
 subst b;refine⟨y,nY.of f _,?_,?_,?_,?_⟩;·obtain⟨g,rfl⟩:=d;simp(maxDischargeDepth:=12) [dU, *]
 ·rw[aa.ab,if_pos rfl];rfl
 ·intro q c' h j;rw[aa.ab,if_neg (λe=>h e),aa.ab,if_neg (λe=>h e)];exact j
 intro q e;rcases f with ⟨rfl,_⟩ | ⟨c,rfl,_⟩<;>cases e
def Yz(dep:Nat){H:aa}{r:Ref}{x:AV}{l:List UInt8}{a:Nat}{b:Bool}(n:Nat)(j:Fr H)(o:Sl 1 (au l) x)(e:H.get r=some (wZ x a b))(I:a<=l.length)(K:l.length<1000000000)(G:n<1000000) :
 ∃y H',dg env dep (.fn 129) [.ptr r 0 0,aI n] H=some (y,H') /\∃v,Tk H H' r x l (xQ l a b n) (Fq l a b n) (Cc l a b n) y v:=by
 refine qn (fn:=Tryz.f129) (c:=sM) (by kernel_rfl) (by kernel_rfl) (by kernel_rfl) (by kernel_rfl) (by kernel_rfl) ?_;refine sI _ _ _ _ _ λg=>?_;unfold wZ at e;have s:=o.len;have D:=iQa ((l.length:Int) - a) (by omega);have J:=λr=>yK (P:=env.P) (r:=r) (t:=57) (z:=1) (by':=1) (zz:=a8 0) (by kernel_rfl) (by kernel_rfl) (n:=n) (by unfold aJ;omega) (by omega);have B:au (List.replicate n 0)=List.replicate n (a8 0):=by simp[au]
 cases b with| true=>have f:Cc l a true n=true:=rfl;have i:Fq l a true n=a:=rfl;have m:xQ l a true n=List.replicate n 0:=rfl;simp[aj, *,fP,e];exact U5 _ j e| false=>
  by_cases d:(l.length:Int) - a<n
  ·have f:Cc l a false n=true:=by simp only[Cc,ze,iQb];omega
   have i:Fq l a false n=a:=by unfold Fq;rw[f];rfl
   have m:xQ l a false n=List.replicate n 0:=by unfold xQ;rw[f];rfl
   have hd:decide ((l.length:Int) - a<n)=true:=iQh d;clear d;simp[aj, *,fP,e];exact U5 _ j e
  have f:Cc l a false n=false:=by simp only[Cc,ze,iQc];omega
  have i:Fq l a false n=a+n:=by unfold Fq;rw[f];rfl
  have m:xQ l a false n=(l.drop a).take n:=by unfold xQ;rw[f];rfl
  have hd:decide ((l.length:Int) - a<n)=false:=iQi d;have F:=iQa ((a:Int)+n) (by omega);have E:=iQa (a:Int) (by omega);have w:=iQa ((a:Int)+n - n) (by omega);have u:(a:Int)+n - n=a:=by omega
  rw[u]at w;have q:a+n<=l.length:=by omega
  have h:=λg=>EG (P:=env.P) (t:=57) (z:=1) (by kernel_rfl) g o (lo:=(a:Int)) (hi:=(a:Int)+n) (by omega) (by omega) (by simp;omega);have p:((a:Int)+n).toNat - (a:Int).toNat=n:=by omega
  rw[p,KP]at h;clear d p u;simp[aj, *,fP,e];obtain⟨y,A,k⟩:=h _;refine adS A ?_;have C:Sl 1 (au ((l.drop a).take n)) y:=by simpa [au] using k
  rw[i,f,m];exact acg j e C ⟨_,rfl⟩ rfl
end
section
def Q8{a b:Int}(h:a % 256=b % 256):u8 a=u8 b:=by
 apply z9.1;have d:=CM a;have c:=CM b;omega
def UF(n:Int) : ∃j,IntKind.i32.wrap n=n+4294967296 * j /\ -2147483648<=IntKind.i32.wrap n/\IntKind.i32.wrap n<=2147483647:=by
 rw[iQv];exact⟨-((n+2147483648) / 4294967296),by omega,by omega,by omega⟩
def word(a b c d:UInt8):Int:=IntKind.i32.wrap (val [a,b,c,d])
def words:List UInt8->List Int
 | a :: b :: c :: d :: l=>word a b c d :: words l
 | _=>[]
def R5(n j:Int):be 4 (n+4294967296 * j)=be 4 n:=by
 rw[uu,uu,Q8 (a:=(n+4294967296 * j) / 16777216) (b:=n / 16777216) (by omega),Q8 (a:=(n+4294967296 * j) / 65536) (b:=n / 65536) (by omega),
  Q8 (a:=(n+4294967296 * j) / 256) (b:=n / 256) (by omega),Q8 (a:=n+4294967296 * j) (b:=n) (by omega)]
def R4(a b c d:UInt8):be 4 (word a b c d)=[a,b,c,d]:=by
 obtain⟨j,h,_⟩:=UF (val [a,b,c,d]);unfold word;rw[h,R5];exact Gr rfl
def NQ{P:List UInt8->Prop}(g:P [])(f : ∀a b c d l,P l->P (a :: b :: c :: d :: l)) : ∀(n:Nat)(l:List UInt8),l.length=4 * n->P l:=by
 intro n;induction n with
 | zero=>intro l h;obtain rfl:l=[]:=wU.1 (by omega);exact g
 | succ n e=>
  intro l h;match l,h with
  | a :: b :: c :: d :: l,h=>exact f a b c d l (e l (by simp only[gD]at h;omega))
def vh(n:Nat)(l:List UInt8)(h:l.length=4 * n):bh (words l)=l/\(words l).length=n:=by
 constructor
 ·exact NQ (P:=λl=>bh (words l)=l) rfl (λa b c d l e=>by
   show be 4 (word a b c d)++bh (words l)=_;rw[e,R4];rfl) n l h
 have:=nF (words l);rw[NQ (P:=λl=>bh (words l)=l) rfl (λa b c d l e=>by
  show be 4 (word a b c d)++bh (words l)=_;rw[e,R4];rfl) n l h]at this
 omega
def Yc{n:Int}(c : -2147483648<=n)(b:n<=2147483647):word (u8 (n / 16777216)) (u8 (n / 65536)) (u8 (n / 256)) (u8 n)=n:=by
 obtain⟨j,h,d,f⟩:=UF (val [u8 (n / 16777216),u8 (n / 65536),u8 (n / 256),u8 n]);unfold word;rw[<-uu]at *;have e:val (be 4 n)=n\/val (be 4 n)=n+4294967296:=by
  rcases GD n 0 with a | a
  ·right;have:=R5 n 1;rw[<-this];exact CK (by omega) (by omega)
  exact .inl (CK a (by omega))
 omega
def K4(l:List Int)(h : ∀n∈l, -2147483648<=n/\n<=2147483647):words (bh l)=l:=by
 induction l with| nil=>rfl| cons n l b=>have a:=h n (j6 ..);show words (be 4 n++bh l)=_;rw[uu];show word _ _ _ _ :: words (bh l)=_;rw[Yc a.1 a.2,b λm c=>h m (j7 _ c)]
def CN(c:UInt32):u32 (val (be 4 (c.toNat:Int)))=c:=by
 have:=c.toNat_lt;rw[CK (by omega) (by omega)];simp
def I3(l:List UInt8)(h:l.length=4):be 4 ((u32 (val l)).toNat:Int)=l:=by
 have a:=yy l;rw[h]at a;have e:((u32 (val l)).toNat:Int)=val l:=by
  rw[vP];omega
 rw[e];exact Gr h
def zS(h:R9):iD (cE h)=h:=by
 obtain⟨a,b,c⟩:=h;have:=CN b;rw[uu]at this;simp[iD,cE,uu];simpa using this
def DT{l:List UInt8}(h:l.length=6):cE (iD l)=l:=by
 obtain⟨a,b,c,d,e,f,rfl⟩:=Ll h;have:=I3 [b,c,d,e] rfl;simp[iD,cE,this]
def DS{i:Au}(f:0<=i.n)(e:i.n<72057594037927936):jY (dW i)=i:=by
 obtain⟨h,n⟩:=i;have d:iD (cE h++be 7 n)=h:=by
  have:=zS h;obtain⟨a,b,c⟩:=h;simp only[iD,cE,uu]at *;simpa using this
 have g:(cE h++be 7 n).drop 6=be 7 n:=BU (CW h);unfold jY dW;rw[d,g,CK f (by simpa using e)]
def zR{l:List UInt8}(h:l.length=13):dW (jY l)=l:=by
 have p:iD l=iD (l.take 6):=by
  obtain⟨a,b,c,d,e,f,g,i,j,k,m,n,o,rfl⟩:=AL h;rfl
 unfold dW jY;rw[p,DT (by simp;omega),Gr (by simp;omega),BY]
def IG{l:List UInt8}(h:l.length=13):kR (jY l)=decide (l=List.replicate 13 0):=by
 rw[Bool.eq_iff_iff,xU,iQb];constructor;·intro e;rw[<-zR h,e];rfl
 rintro rfl;rfl
def fv(o:fX):List UInt8:=oz o++(if o.kind=1 then oU o.a++bh o.l else if o.kind=3 then o.to.lv :: be 4 o.to.cats.toNat else [])
def oc(l:List UInt8):fX:=⟨l.headD 0,iD ((l.drop 1).take 6),val ((l.drop 7).take 3),⟨jY ((l.drop 10).take 13),(((l.drop 23).headD 0).toNat:Int)⟩,
 if l.headD 0=1 then jY ((l.drop 24).take 13) else nm,if l.headD 0=3 then ⟨(l.drop 24).headD 0,u32 (val ((l.drop 25).take 4))⟩ else ⟨0,0⟩,
 if l.headD 0=1 then words ((l.drop 37).take (4 * ((l.drop 23).headD 0).toNat)) else []⟩
def kV(k m:UInt8):Nat:=if k=1 then 37+4 * m.toNat else if k=3 then 29 else 24
def qV(l:List UInt8):Nat:=kV (l.headD 0) ((l.drop 23).headD 0)
def nA(l:List UInt8):Bool:=decide (24<=l.length)&&(decide (qV l<=l.length)&&rG (oc l))
def Re{l:List UInt8}(h:24<=l.length) : ∃k d b a m rest,l=k :: (d++(b++(a++(m :: rest))))/\d.length=6/\b.length=3/\a.length=13:=by
 match l,h with
 | k :: l,h=>
  simp only[gD]at h;refine⟨k,l.take 6,(l.drop 6).take 3,(l.drop 9).take 13,(l.drop 22).headD 0,l.drop 23,?_,by simp;omega,by simp;omega,by simp;omega⟩;have f:l.drop 22=(l.drop 22).headD 0 :: l.drop 23:=by
   match c:l.drop 22 with
   | []=>have:=iQg List.length c;simp at this;omega
   | m :: t=>have:l.drop 23=(l.drop 22).drop 1:=(by rw[po]);rw[this,c];rfl
  rw[<-f];have g:(l.drop 9).take 13++l.drop 22=l.drop 9:=(by have:l.drop 22=(l.drop 9).drop 13:=(by rw[po]);rw[this,BY]);have e:(l.drop 6).take 3++l.drop 9=l.drop 6:=(by have:l.drop 9=(l.drop 6).drop 3:=(by rw[po]);rw[this,BY]);rw[g,e,BY]
def Ci(k:UInt8)(c b a:List UInt8)(m:UInt8)(rest:List UInt8):fX:=⟨k,iD c,val b,⟨jY a,(m.toNat:Int)⟩,
 if k=1 then jY (rest.take 13) else nm,if k=3 then ⟨rest.headD 0,u32 (val ((rest.drop 1).take 4))⟩ else ⟨0,0⟩,
 if k=1 then words ((rest.drop 13).take (4 * m.toNat)) else []⟩
def Ic(k:UInt8)(c b a:List UInt8)(m:UInt8)(rest:List UInt8)(n:c.length=6)(o:b.length=3)(g:a.length=13):oc (k :: (c++(b++(a++(m :: rest)))))=Ci k c b a m rest/\qV (k :: (c++(b++(a++(m :: rest)))))=kV k m:=by
 have d1:(k :: (c++(b++(a++(m :: rest))))).drop 1=c++(b++(a++(m :: rest))):=rfl;have d7:(k :: (c++(b++(a++(m :: rest))))).drop 7=b++(a++(m :: rest)):=by
  show(c++(b++(a++(m :: rest)))).drop 6=_;exact BU n
 have e:(k :: (c++(b++(a++(m :: rest))))).drop 10=a++(m :: rest):=by
  have:(k :: (c++(b++(a++(m :: rest))))).drop 10=((k :: (c++(b++(a++(m :: rest))))).drop 7).drop 3:=(by rw[po]);rw[this,d7];exact BU o
 have d:(k :: (c++(b++(a++(m :: rest))))).drop 23=m :: rest:=by
  have:(k :: (c++(b++(a++(m :: rest))))).drop 23=((k :: (c++(b++(a++(m :: rest))))).drop 10).drop 13:=(by rw[po]);rw[this,e];exact BU g
 have l : ∀j,(k :: (c++(b++(a++(m :: rest))))).drop (24+j)=rest.drop j:=by
  intro j;have:(k :: (c++(b++(a++(m :: rest))))).drop (24+j)=((k :: (c++(b++(a++(m :: rest))))).drop 23).drop (1+j):=by rw[po];congr 1;omega
  rw[this,d,Nat.add_comm];rfl
 have i:=l 0;have h:=l 1;have f:=l 13;simp only[uE,En,Nat.reduceAdd]at i h f;constructor;·unfold oc Ci;rw[d1,d7,e,d,i,h,f,xW n,xW o,xW g];rfl
 unfold qV;rw[d];rfl
def Xx{a:List UInt8}(h:a.length=3):be 3 (val a)=a:=Gr h
def UT(m:UInt8):u8 (m.toNat:Int)=m:=by simp
def Ua{l:List UInt8}(h:nA l=true):fv (oc l)=l.take (qV l)/\rG (oc l)=true/\qV l<=l.length/\24<=qV l:=by
 simp only[nA,bo,iQb]at h;obtain⟨p,g,u⟩:=h;refine⟨?_,u,g,by unfold qV kV;split<;>first | omega | (split<;>omega)⟩;obtain⟨k,d,c,b,m,rest,rfl,s,v,n⟩:=Re p;obtain⟨A,C⟩:=Ic k d c b m rest s v n;rw[C]at g ⊢;rw[A]at u ⊢;have o:(k :: (d++(c++(b++(m :: rest))))).length=24+rest.length:=by simp only[gD,ja];omega
 have B:oz (Ci k d c b m rest)=k :: (d++(c++(b++[m]))):=by
  unfold oz Ci;simp only[DT s,Xx v,zR n,UT];rfl
 have i : ∀j,(k :: (d++(c++(b++(m :: rest))))).take (24+j)=(k :: (d++(c++(b++[m]))))++rest.take j:=by
  intro j;have:k :: (d++(c++(b++(m :: rest))))=(k :: (d++(c++(b++[m]))))++rest:=by simp
  rw[this,List.take_append];have e:(k :: (d++(c++(b++[m])))).length=24:=by simp only[gD,ja,kS];omega
  rw[e,dq (by omega)];congr 2;omega
 unfold fv;rw[B];have x:(Ci k d c b m rest).kind=k:=rfl;rw[x];rw[o]at g;by_cases k1:k=1
 ·subst k1;have f:kV 1 m=24+(13+4 * m.toNat):=by unfold kV;rw[if_pos rfl];omega
  rw[f]at g ⊢;rw[i,if_pos rfl];congr 1;have y:(Ci 1 d c b m rest).a=jY (rest.take 13):=rfl;have z:(Ci 1 d c b m rest).l=words ((rest.drop 13).take (4 * m.toNat)):=rfl;rw[y,z,(vh m.toNat _ (by simp;omega)).1,List.take_add];congr 1;unfold oU;rw[IG (by simp;omega)];split;·rename_i e;simp only[iQb]at e;rw[e]
  exact zR (by simp;omega)
 rw[if_neg k1];by_cases q:k=3
 ·subst q;have f:kV 3 m=24+5:=by unfold kV;rfl
  rw[f]at g ⊢;rw[i,if_pos rfl];congr 1;match rest,g with
  | t :: rest,g=>simp only[gD]at g;have w:(Ci 3 d c b m (t :: rest)).to=⟨t,u32 (val (rest.take 4))⟩:=rfl;rw[w];simp only[I3 _ (show(rest.take 4).length=4 by simp;omega)];rfl
 have f:kV k m=24+0:=by unfold kV;rw[if_neg k1,if_neg q]
 rw[f,i,if_neg q];simp
def Oh(o:fX):(oz o).length=24:=by simp[oz]
def tq{o:fX}(h:rG o=true):1<=o.serial/\o.serial<16777216/\(1<=o.s.f.n/\o.s.f.n<=1099511627776)/\1<=o.s.many/\o.s.many<=64 /\
 ((o.kind=1/\o.to=⟨0,0⟩/\(o.a=nm\/(1<=o.a.n/\o.a.n<=1099511627776))/\(o.l.length:Int)=o.s.many/\HX o.l=true)\/(o.kind=2/\o.to=⟨0,0⟩/\o.a=nm/\o.l=[])\/(o.kind=3/\o.a=nm/\o.l=[]/\o.to.lv<=15)):=by
 simp only[rG,bo,iQb]at h;obtain⟨p,i,k,d,hm⟩:=h;have g:=Rg d;have hi:=Kp (Ve d);refine⟨i,k,hi,g.2.1,g.2.2.1,?_⟩;have c : ∀t:Lab,wP t=true->t=⟨0,0⟩:=by
  rintro⟨a,b⟩ h;simp[wP]at h;rw[h.1,h.2]
 unfold DH at hm;split at hm
 ·rename_i k1;simp only[JJ,bo,jH,iQb]at hm;refine .inl ⟨k1,c _ hm.1,?_,hm.2.2.2.1,hm.2.2.2.2⟩;rcases hm.2.1 with e | e
  ·exact .inl ((xU _).1 e)
  exact .inr (Kp e)
 split at hm;·rename_i m;simp only[Qr,Bf,bo,iQb]at hm;exact .inr (.inl ⟨m,c _ hm.1,(xU _).1 hm.2.1,hm.2.2⟩)
 split at hm;·rename_i j;simp only[Lu,Bf,bo,iQb]at hm;exact .inr (.inr ⟨j,(xU _).1 hm.1.1,hm.1.2,hm.2⟩)
 cases hm
def Ce(o:fX):Nat:=if o.kind=1 then 37+4 * o.s.many.toNat else if o.kind=3 then 29 else 24
def C4(a:Au):(oU a).length=13:=by unfold oU;split<;>simp
def xe{o:fX}(h:rG o=true):(fv o).length=Ce o:=by
 have hp:=tq h;unfold fv Ce;rw[ja,Oh];rcases hp.2.2.2.2.2 with ⟨k,_,_,a,_⟩ | ⟨k,_⟩ | ⟨k,_⟩
 ·rw[if_pos k,if_pos k,ja,C4,nF];omega
 ·rw[k];rfl
 rw[k];simp
end
section
attribute [local simp] aK az ak ay ax bD kj aM aq aA bA bw aJ aL af aW dq
def vS{o:fX}(h:rG o=true):24<=Ce o/\Ce o<=293:=by
 have hp:=tq h;unfold Ce;split;·omega
 split<;>omega
def ac2(o:fX):AV:=if rG o then .tup [.bg 1 (au (fv o)) none,aI 0] else .tup [aO,aI 8]
def Y4(m:UInt8)(h:UInt8)(a_3:UInt32)(p:UInt8)(k:Int)(i:UInt8)(j:UInt32)(n:UInt8)(o:Int)(g:Int)(b:UInt8)(f:UInt32)(d:UInt8)(e:Int)(a:UInt8)(c:UInt32){x:AV}{l:List Int}(t:Sl 1 (rows l) x)(u:l.length<2000000):ar env 67 [.agg [a8 m,a8 h,bR a_3,a8 p,aI k,a8 i,bR j,a8 n,aI o,aI g,a8 b,bR f,a8 d,aI e,a8 a,bR c,x]]=some (ac2 (⟨m,⟨h,a_3,p⟩,k,⟨⟨⟨i,j,n⟩,o⟩,g⟩,⟨⟨b,f,d⟩,e⟩,⟨a,c⟩,l⟩:fX)):=by
 unfold ac2;cases s:rG (⟨m,⟨h,a_3,p⟩,k,⟨⟨⟨i,j,n⟩,o⟩,g⟩,⟨⟨b,f,d⟩,e⟩,⟨a,c⟩,l⟩:fX) with
 | false=>rw[VI m h a_3 p k i j n o g b f d e a c t u s];rfl
 | true=>
  have hp:=tq s;rw[if_pos rfl];unfold fv;rcases hp.2.2.2.2.2 with ⟨q,_⟩ | ⟨q,_⟩ | ⟨q,_⟩
  ·rw[VL m h a_3 p k i j n o g b f d e a c t u s q,if_pos q]
  ·simp only at q;rw[VK m h a_3 p k i j n o g b f d e a c t u s q,if_neg (by simp[q]),if_neg (by simp[q]),rI]
  simp only at q;rw[VJ m h a_3 p k i j n o g b f d e a c t u s q,if_neg (by simp[q]),if_pos q]
end
section
def Tb{o:fX}(h:rG o=true)(b:List UInt8):oc (fv o++b)=o/\qV (fv o++b)=Ce o/\nA (fv o++b)=true:=by
 have hp:=tq h;have i:=xe h;obtain⟨k,hd,e,⟨f,m⟩,a,to,l⟩:=o;simp only at hp;obtain⟨v,w,⟨D,u⟩,z,y,x⟩:=hp;have E:((u8 m).toNat:Int)=m:=by rw[CM];omega
 have j:(u8 m).toNat=m.toNat:=by omega
 have d:fv ⟨k,hd,e,⟨f,m⟩,a,to,l⟩++b=k :: (cE hd++(be 3 e++(dW f++(u8 m :: ((if k=1 then oU a++bh l else if k=3 then to.lv :: be 4 to.cats.toNat else [])++b))))):=by
  simp[fv,oz]
 obtain⟨C,F⟩:=Ic k (cE hd) (be 3 e) (dW f) (u8 m) ((if k=1 then oU a++bh l else if k=3 then to.lv :: be 4 to.cats.toNat else [])++b) (by simp) (by simp) (by simp);have q:oc (fv ⟨k,hd,e,⟨f,m⟩,a,to,l⟩++b)=⟨k,hd,e,⟨f,m⟩,a,to,l⟩:=by
  rw[d,C];unfold Ci;rw[zS,CK (by omega) (by omega),DS (by omega) (by omega),E,j];rcases x with ⟨rfl,rfl,s,G,g⟩ | ⟨rfl,rfl,rfl,rfl⟩ | ⟨rfl,rfl,rfl,_⟩
  ·have p:(bh l).length=4 * m.toNat:=by rw[nF];omega
   simp only[if_true];rw[qP,xW (C4 a),BU (C4 a),xW p,K4 _ (Pw g).2.2];have:jY (oU a)=a:=by
    unfold oU;rcases s with rfl | s
    ·rfl
    split;·rename_i n;rw[(xU _).1 n];rfl
    exact DS (by omega) (by omega)
   rw[this];rfl
  ·rfl
  obtain⟨t,c⟩:=to;have B:((t :: be 4 (c.toNat:Int))++b).drop 1=be 4 (c.toNat:Int)++b:=rfl;have A:((t :: be 4 (c.toNat:Int))++b).headD 0=t:=rfl;simp only[show ¬(3:UInt8)=1 by decide,iQe,if_true];rw[B,A,xW (Fa _ _),CN]
 have n:qV (fv ⟨k,hd,e,⟨f,m⟩,a,to,l⟩++b)=Ce ⟨k,hd,e,⟨f,m⟩,a,to,l⟩:=by
  rw[d,F];unfold kV Ce;rw[j]
 refine⟨q,n,?_⟩;simp only[nA,bo,iQb];rw[q,n,ja,i];exact⟨by unfold Ce;split<;>first | omega | (split<;>omega),by omega,h⟩
end
section
attribute [local simp] aK az ak ay ax bD kj aM aq aA bA bw aJ aL af aW dq
def TJ(bs:List UInt8):Au:=if Al (jY bs) then jY bs else nm
def AX(bs:List UInt8)(zero:Bool):Bool := !Al (jY bs) && !(zero&&decide (bs=List.replicate 13 0))
structure Ti (H H':aa) (r:Ref) (x:AV) (bs:List UInt8) (a:Nat) (b:Bool) (y:AV):Prop where
 val:y = .agg [a8 (TJ bs).h.lv,bR (TJ bs).h.cats,a8 (TJ bs).h.num,aI (TJ bs).n]
 fr:Fr H'
 box:H'.get r=some (wZ x a b)
 old : ∀q c,q≠r->H.get q=some c->H'.get q=some c
def CQ(dep:Nat){H:aa}{r:Ref}{x:AV}{l:List UInt8}{a:Nat}{b:Bool}(n:Nat){i:Int}{K:AV->aa->Prop}{m:Mk K}(hi:i=n)(d:Sl 1 (au l) x)(k:a<=l.length)(o:l.length<1000000000)(g:n<1000000)
 (e:Fr H) (j:H.get r=some (wZ x a b)) (h : ∀y v H',Tk H H' r x l (xQ l a b n) (Fq l a b n) (Cc l a b n) y v->K y H'):iE (dg env dep (.fn 129) [.ptr r 0 0,aI i] H) K m:=by
 subst hi;obtain⟨y,H',c,v,f⟩:=Yz dep n e d j k o g;exact wq c (h y v H' f)
def ag7(dep:Nat){H:aa}{r:Ref}{x:AV}{l:List UInt8}{a:Nat}{b:Bool}(zero:Bool)(A:Fr H)(O:Sl 1 (au l) x)(J:H.get r=some (wZ x a b))(N:a<=l.length)(V:l.length<1000000000) :
 ∃y H',dg env dep (.fn 130) [.ptr r 0 0,aB zero] H=some (y,H')/\Ti H H' r x (xQ l a b 13) (Fq l a b 13) (Cc l a b 13||AX (xQ l a b 13) zero) y:=by
 refine qn (fn:=Tryz.f130) (c:=uw) (by kernel_rfl) (by kernel_rfl) (by kernel_rfl) (by kernel_rfl) (by kernel_rfl) ?_;refine tY _ _ _ _ _ λg=>?_;have E:(H.get r).isSome=true:=by rw[J];rfl
 have R:=E8 (f:=129) (by kernel_rfl);simp[aj, *,gy,R, -az];refine CQ (dep+1) 13 rfl O N V (by omega) (by simp(maxDischargeDepth:=12) [dU, *]) (by rw[aa.cL,if_neg (qA A E _ _ _)];exact J) λy v p Q=>?_;obtain⟨s,fr,k,old,spot⟩:=Q;have u:=zE (l:=l) (a:=a) b 13;have hG:=adF s.sl u;have Z:ar env 63 [v,.bg 1 [a8 0,a8 0,a8 0,a8 0,a8 0,a8 0,a8 0,a8 0,a8 0,a8 0,a8 0,a8 0,a8 0] none]=some (aB (decide (xQ l a b 13=List.replicate 13 0))):=HQ s.sl (Sl.mk 1 (au (List.replicate 13 0)));have P:=old ⟨dep+1,4,H.gen (dep+1) 4,0⟩ ⟨4,[.agg [a8 0,bR 0,a8 0,aI 0]],false,false⟩ (qA A E _ _ _) (by simp);have n1:(⟨dep+1,4,H.gen (dep+1) 4,0⟩:Ref)≠r:=qA A E _ _ _;have n2:=n1.symm;have Y:(p.get r).isSome=true:=by rw[k];rfl
 have l3:(p.get ⟨dep+1,4,H.gen (dep+1) 4,0⟩).isSome=true:=by rw[P];rfl
 unfold wZ at k;have d : ∀(t:aa)(y:AV)(z:Bool),y = .agg [a8 (TJ (xQ l a b 13)).h.lv,bR (TJ (xQ l a b 13)).h.cats,a8 (TJ (xQ l a b 13)).h.num,aI (TJ (xQ l a b 13)).n]->Fr t->t.get r=some ⟨3,[.agg [x,aI (Fq l a b 13),aB z]],false,false⟩ ->
  (∀q c,q≠r->q≠⟨dep+1,4,H.gen (dep+1) 4,0⟩->p.get q=some c->t.get q=some c)->Ti H t r x (xQ l a b 13) (Fq l a b 13) z y:=by
  intro t y z S C F T;refine⟨S,C,F,λq c j m=>?_⟩;have M:q≠⟨dep+1,4,H.gen (dep+1) 4,0⟩:=λe=>qA A (by rw[m];rfl) _ _ _ e.symm;exact T q c j M (old q c j (by rw[aa.cL,if_neg (λe=>M e.symm)];exact m))
 have K:TJ (xQ l a b 13)=if Al (jY (xQ l a b 13)) then jY (xQ l a b 13) else nm:=rfl
 have X:AX (xQ l a b 13) zero=(!Al (jY (xQ l a b 13)) && !(zero&&decide (xQ l a b 13=List.replicate 13 0))):=rfl;generalize xQ l a b 13=bs at *;generalize Fq l a b 13=a' at *;generalize Cc l a b 13=b' at *;clear N old;generalize decide (bs=List.replicate 13 0)=dz at *;generalize hi:jY bs=i at *;obtain⟨⟨k1,I,L⟩,G⟩:=i;rcases s with ⟨rfl,s⟩ | ⟨q,c,fz,rfl,j,rfl,m⟩
 ·have hr:=s.r;cases B:Al ⟨⟨k1,I,L⟩,G⟩<;>cases zero<;>cases b';all_goals simp[aj, *,gy,nm]
  all_goals
   refine d _ _ _ ?_ (by simp(maxDischargeDepth:=12) [dU, *]) ?_ ?_;·simp[K,B,nm]
   ·simp[aa.ab,vZ,wa, *]
   intro q c j o m
   have U:(p.get q).isSome=true:=by rw[m];rfl
   have D:=j.symm
   have w:=o.symm
   simp[aa.ab,vZ,wa, *]
 have W:(p.get q).isSome=true:=by rw[j];rfl
 cases B:Al ⟨⟨k1,I,L⟩,G⟩<;>cases zero<;>cases b';all_goals simp[aj, *,gy,nm]
 all_goals
  refine d _ _ _ ?_ (by simp(maxDischargeDepth:=12) [dU, *]) ?_ ?_;·simp[K,B,nm]
  ·simp[aa.ab,vZ,wa, *]
  intro q c j o m
  have U:(p.get q).isSome=true:=by rw[m];rfl
  have D:=j.symm
  have w:=o.symm
  simp[aa.ab,vZ,wa, *]
@[simp] def ais(a:UInt8)(b:UInt32):ar env 78 [.agg [a8 a,bR b]]=some (aB (decide (a<=15))):=by
 refine aF rfl (by kernel_rfl) (zB _ _ _ λg=>?_);simp[aj, *,sE]
@[simp] def Dq(a:UInt8)(b:UInt32)(n:UInt8):ar env 51 [.agg [a8 a,bR b,a8 n]]=some (aB (fT ⟨a,b,n⟩)):=by
 refine aF rfl (by kernel_rfl) (uF _ _ _ λg=>?_);simp[aj, *,nX,fT];repeat' ((first | apply si<;>intro h | apply nL<;>intro h | apply nM<;>intro h | apply nJ<;>intro h | apply nK<;>intro h)<;>(try simp only[iQb,iQc,iB,qQ,bo,jH]at h)<;>(try simp[aj, *]))
@[simp] def air(a:UInt8)(b:UInt32)(n:UInt8)(k:Int):ar env 81 [.agg [a8 a,bR b,a8 n,aI k]]=some (aB (Al ⟨⟨a,b,n⟩,k⟩)):=by
 refine aF rfl (by kernel_rfl) (zy _ _ _ λg=>?_);simp[aj, *,sC,Al];repeat' ((first | apply si<;>intro h | apply nL<;>intro h | apply nM<;>intro h | apply nJ<;>intro h | apply nK<;>intro h)<;>(try simp only[iQb,iQc,iB,qQ,bo,jH]at h)<;>(try simp[aj, *]))
@[simp] def acx(a:UInt8)(b:UInt32)(n:UInt8)(k m:Int):ar env 79 [.agg [a8 a,bR b,a8 n,aI k,aI m]]=some (aB (ov ⟨⟨⟨a,b,n⟩,k⟩,m⟩)):=by
 refine aF rfl (by kernel_rfl) (vN _ _ _ λg=>?_);cases c:Al ⟨⟨a,b,n⟩,k⟩ with
 | false=>simp[aj, *,fV,ov]
 | true=>
  have d:=Kp c;simp only at d;by_cases i:1<=m
  ·by_cases j:m<=64
   ·have f:=iQa (1099511627777 - m) (by omega);have e:decide (k+m - 1<=1099511627776)=decide (k<=1099511627777 - m):=by
     by_cases h:k<=1099511627777 - m;·rw[iQh h,iQh (by omega)]
     rw[iQi h,iQi (by omega)]
    simp[aj, *,fV,ov]
   simp[aj, *,fV,ov]
  simp[aj, *,fV,ov]
@[simp] def agp(a:UInt8)(b:UInt32)(n:UInt8)(k:Int):ar env 80 [.agg [a8 a,bR b,a8 n,aI k]]=some (aB (kR ⟨⟨a,b,n⟩,k⟩)):=by
 refine aF rfl (by kernel_rfl) (yt _ _ _ λg=>?_);simp[aj, *,rB,od,gz,kR]
@[simp] def VB(n:Int):ar env 107 [aI n]=some (aB (uH n)):=by
 refine aF rfl (by kernel_rfl) (As _ _ _ λg=>?_);have e:uH n=(decide (0<=n)&&(decide (n<=1114111)&&(decide (n<55296)||decide (57343<n)))):=by
  unfold uH;rw[Bool.eq_iff_iff];simp only[jH,bo,iQb];omega
 rw[e];simp[aj, *,s8];repeat' ((first | apply si<;>intro h | apply nL<;>intro h | apply nM<;>intro h | apply nJ<;>intro h | apply nK<;>intro h)<;>(try simp only[iQb,iQc,iB,qQ,bo,jH]at h)<;>(try simp[aj, *]))
def Lv{l:List Int}{x0:AV}(d:Sl 1 (rows l) x0)(w:l.length<4611686018427387904)(o : ∀a∈l, -2147483648<=a/\a<=2147483647){Q:AV->aa->Prop}{H:aa} :
 ∀(s:List Int)(k:Nat)(i:Int),l.drop k=s->k<=l.length->i=k->(∀y,y=aI (bad (s.all iC))->Q y H) ->
 bS env Tryz.f82 0 iS [(3,aI i),(0,x0)] H Q:=by
 intro s;induction s with
 | nil=>rintro k i hs hk rfl hQ;obtain rfl:=drop_nil hs hk;refine oH _ _ _ _ λg=>?_;simp[aj, *,fW,d.r];all_goals exact hQ _ rfl
 | cons a s m=>
  rintro k i hs hk rfl hQ;obtain⟨q,n,f,p⟩:=drop_cons hs;have v:=o a (by rw[<-n];exact eE _);refine oH _ _ _ _ λg=>?_;have u:=iQa ((k:Int)+1) (by omega);have t:=iQa a (by omega);have c:iC a=(decide (a = -1)||uH a):=by simp[iC,uH,Bool.or_assoc]
  by_cases j:a = -1;·subst j;have b : ∀y,y=aI (bad (s.all iC))->Q y H:=λy e=>hQ y (by rw[e];simp[iC]);clear hQ;simp[aj, *,fW,d.r,d.idx,aR];exact m (k+1) _ f (by omega) (by simp) b
  cases h:uH a with| true=>have b : ∀y,y=aI (bad (s.all iC))->Q y H:=λy e=>hQ y (by rw[e];simp[c,h]);clear hQ c;simp[aj, *,fW,d.r,d.idx,aR];exact m (k+1) _ f (by omega) (by simp) b| false=>have b : ∀y,y=aI 8->Q y H:=λy e=>hQ y (by rw[e];simp[c,h,j]);clear hQ c;simp[aj, *,fW,d.r,d.idx,aR];all_goals exact b _ rfl
def SQ{l:List Int}{x:AV}(b:Sl 1 (rows l) x)(f:l.length<4611686018427387904)(d : ∀a∈l, -2147483648<=a/\a<=2147483647):ar env 82 [x]=some (aI (yG l)):=by
 refine aF rfl (by kernel_rfl) (xC _ _ _ λg=>?_);by_cases c:64<l.length
 ·have:(64:Int)<l.length:=by omega
  simp[aj, *,mm,yG,b.r]
 have : ¬(64:Int)<l.length:=by omega
 have e:yG l=bad (l.all iC):=by unfold yG bad;rw[if_neg c]
 simp[aj, *,mm,b.r];exact Lv b f d l 0 _ rfl (by omega) rfl (λy e=>by simp[e])
def Gg(m:UInt8)(n:UInt8)(a_3:UInt32)(s:UInt8)(i:Int)(o:UInt8)(p:UInt32)(q:UInt8)(t:Int)(j:Int)(b:UInt8)(e:UInt32)(c:UInt8)(d:Int)(f:UInt8)(h:UInt32){x:AV}{l:List Int}(k:Sl 1 (rows l) x)(P:l.length<2000000)(J : ∀a∈l, -2147483648<=a/\a<=2147483647):ar env 52 [.agg [a8 m,a8 n,bR a_3,a8 s,aI i,a8 o,bR p,a8 q,aI t,aI j,a8 b,bR e,a8 c,aI d,a8 f,bR h,x]]=some (aB (rG (⟨m,⟨n,a_3,s⟩,i,⟨⟨⟨o,p,q⟩,t⟩,j⟩,⟨⟨b,e,c⟩,d⟩,⟨f,h⟩,l⟩:fX))):=by
 refine aF rfl (by kernel_rfl) (zr _ _ _ λg=>?_);have M:=SQ k (by omega) J;have L:=EL l;unfold rG;cases O:fT ⟨n,a_3,s⟩ with
 | false=>simp[aj, *,aU,k.r]
 | true=>
 rcases GD i 1 with A | G
 ·have G : ¬1<=i:=by omega
  simp[aj, *,aU,k.r]
 have A : ¬i<1:=by omega
 rcases GD i 16777216 with F | C
 rotate_left
 ·have F : ¬i<16777216:=by omega
  simp[aj, *,aU,k.r]
 have C : ¬16777216<=i:=by omega
 cases N:ov ⟨⟨⟨o,p,q⟩,t⟩,j⟩ with| false=>simp[aj, *,aU,k.r]| true=>
 by_cases k1:m=1
 ·subst k1;unfold DH;simp only[JJ,if_true];cases y:wP (⟨f,h⟩:Lab) with
  | false=>unfold wP at y;simp[aj, *,aU,k.r,od,gz]
  | true=>
   unfold wP at y;cases D:HG ⟨o,p,q⟩ ⟨n,a_3,s⟩ with
   | false=>
    unfold HG at D;cases v:kR (⟨⟨b,e,c⟩,d⟩:Au) with
    | false=>cases E:Al (⟨⟨b,e,c⟩,d⟩:Au)<;>simp[aj, *,aU,k.r,od,gz]
    | true=>simp[aj, *,aU,k.r,od,gz]
   | true=>
    unfold HG at D;by_cases Q:(l.length:Int)=j
    ·cases v:kR (⟨⟨b,e,c⟩,d⟩:Au) with| false=>cases E:Al (⟨⟨b,e,c⟩,d⟩:Au)<;>simp[aj, *,aU,k.r,od,gz]| true=>simp[aj, *,aU,k.r,od,gz]
    cases v:kR (⟨⟨b,e,c⟩,d⟩:Au) with| false=>cases E:Al (⟨⟨b,e,c⟩,d⟩:Au)<;>simp[aj, *,aU,k.r,od,gz]| true=>simp[aj, *,aU,k.r,od,gz]
 by_cases u:Bf (⟨m,⟨n,a_3,s⟩,i,⟨⟨⟨o,p,q⟩,t⟩,j⟩,⟨⟨b,e,c⟩,d⟩,⟨f,h⟩,l⟩:fX)=true
 ·have w:=u;simp only[Bf,bo,iQb]at w;obtain⟨v,z⟩:=w;subst z;unfold DH;by_cases I:m=2
  ·subst I;simp only[Qr,if_true];cases y:wP (⟨f,h⟩:Lab) with
   | false=>unfold wP at y;simp[aj, *,aU,k.r,od,gz]
   | true=>unfold wP at y;simp[aj, *,aU,k.r,od,gz]
  by_cases K:m=3;·subst K;simp only[Lu,if_true];simp[aj, *,aU,k.r,od,gz]
  simp[aj, *,aU,k.r,od,gz]
 have R:DH (⟨m,⟨n,a_3,s⟩,i,⟨⟨⟨o,p,q⟩,t⟩,j⟩,⟨⟨b,e,c⟩,d⟩,⟨f,h⟩,l⟩:fX)=false:=(by have B:Bf (⟨m,⟨n,a_3,s⟩,i,⟨⟨⟨o,p,q⟩,t⟩,j⟩,⟨⟨b,e,c⟩,d⟩,⟨f,h⟩,l⟩:fX)=false:=(by simpa using u);unfold DH Qr Lu;rw[B];simp[k1]);simp only[Bf,bo,iQb,not_and]at u;cases v:kR (⟨⟨b,e,c⟩,d⟩:Au) with
 | false=>clear u;simp[aj, *,aU,k.r,od,gz]
 | true=>have z:0<l.length:=Da.2 (u v);have H : ¬l=[]:=u v;clear u;simp[aj, *,aU,k.r,od,gz]
@[simp] def aaV(g:cV)(k:Nat)(n:Int):ah g k (aR n)=[]:=by cases k<;>rfl
def PL{P:Program}{g:cV}{r:Ref}{src dst:TypeId}(a:(P.underlying src).isNone=false)(hd:intKind P dst=some .i32)(x:UInt32) :
 bY P g r src dst (some (bR x))=some (aR (IntKind.i32.wrap x.toNat),[]):=by
 unfold bR;rw[o5 P .i32 a hd];rfl
def Sc(a b c d:UInt8):(((((a.toUInt32 <<< 24) ||| (b.toUInt32 <<< 16)) ||| (c.toUInt32 <<< 8)) ||| d.toUInt32).toNat:Int)=val [a,b,c,d]:=by
 have q:=a.toNat_lt;have o:=b.toNat_lt;have p:=c.toNat_lt;have hd:=d.toNat_lt;have l:(a.toUInt32 <<< 24).toNat=a.toNat * 16777216:=by
  rw[KU];simp[KN];omega
 have n:(b.toUInt32 <<< 16).toNat=b.toNat * 65536:=by
  rw[KU];simp[KN];omega
 have i:(c.toUInt32 <<< 8).toNat=c.toNat * 256:=by
  rw[KU];simp[KN];omega
 have g:d.toUInt32.toNat=d.toNat:=by simp
 have e : ∀(x k y:Nat),y<2 ^ k->(x * 2 ^ k) ||| y=x * 2 ^ k+y:=by
  intro x k y h;rw[KE,Uy h]
 simp only[UInt32.toNat_or,l,n,i,g];have j:a.toNat * 16777216 ||| b.toNat * 65536=(a.toNat * 256+b.toNat) * 65536:=by
  have:=e a.toNat 24 (b.toNat * 65536) (by omega);simp only[Nat.reducePow]at this;rw[this];omega
 have m:(a.toNat * 256+b.toNat) * 65536 ||| c.toNat * 256=((a.toNat * 256+b.toNat) * 256+c.toNat) * 256:=by
  have:=e (a.toNat * 256+b.toNat) 16 (c.toNat * 256) (by omega);simp only[Nat.reducePow]at this;rw[this];omega
 have f:((a.toNat * 256+b.toNat) * 256+c.toNat) * 256 ||| d.toNat=(((a.toNat * 256+b.toNat) * 256+c.toNat) * 256+d.toNat):=by
  have:=e ((a.toNat * 256+b.toNat) * 256+c.toNat) 8 d.toNat (by omega);simp only[Nat.reducePow]at this;rw[this]
 rw[j,m,f];simp[val,vc];omega
structure Um (r r2:Ref) (info:AV) (H:aa) (out:List Int):Prop where
 fr:Fr H
 mark:H.get r=some (ei 0 info)
 n1:r2≠r
 box:(H.get r2=some ⟨1,[aO],false,false⟩/\out=[]) \/∃q:Ref,q.d=2/\q.t=43/\q.k=0/\q≠r/\q≠r2/\H.get r2=some ⟨1,[.bk q 0 out.length none],false,false⟩/\H.get q=some ⟨1,rows out,true,false⟩/\0<out.length
def TP{r r2:Ref}{tm:List AV}{H:aa}{out:List Int}{ps:List Tmp}(j:ps=[17])(i:df tm 2 = .ptr r2 0 0)(o:Um r r2 (.lp 0 50 ps eS eR tm) H out)(u:out.length<60000000)(a b c d:UInt8)(f:Option Nat)(C:4<=f.getD 4) :
 ∃y H',dg env 1 (.yld r) [.bg 1 [a8 a,a8 b,a8 c,a8 d] f] H=some (y,H')/\(y=aB true/\Um r r2 (.lp 0 50 ps eS eR tm) H' (out++[word a b c d])):=by
 subst j;refine Kk (fn:=Tryz.f131) (dep:=1) o.mark (by kernel_rfl) rfl rfl (by kernel_rfl) (by kernel_rfl) ?_;rw[<-Dz (s:=df (vT tm [17] [.bg 1 [a8 a,a8 b,a8 c,a8 d] f])) (l:=[(2,.ptr r2 0 0),(17,.bg 1 [a8 a,a8 b,a8 c,a8 d] f)]) (by
  intro p hp;simp only[fh,zi,iQu]at hp;rcases hp with rfl | rfl
  ·show df (CP tm 17 _) 2=_;rw[ti];simpa using i
  show df (CP tm 17 _) 17=_;rw[ti];simp)]
 refine(CI r _ _ _ _ λg=>?_).h _;obtain⟨fr,mark,n1,box⟩:=o;have D:=n1.symm;have I:(H.get r).isSome=true:=by rw[mark];rfl
 have e:=λ(g:cV)(r:Ref)=>PL (P:=env.P) (g:=g) (r:=r) (src:=25) (dst:=21) (by kernel_rfl) (by kernel_rfl) ((((a.toUInt32 <<< 24) ||| (b.toUInt32 <<< 16)) ||| (c.toUInt32 <<< 8)) ||| d.toUInt32);rw[Sc]at e;have t:IntKind.i32.wrap (val [a,b,c,d])=word a b c d:=rfl;rw[t]at e;clear t;rcases box with ⟨k,rfl⟩ | ⟨q,n,v,m,n2,w,k,B,M⟩
 ·have x:(H.get r2).isSome=true:=by rw[k];rfl
  simp[aj, *,qK,rY,aa.ab];refine⟨_,rfl,⟨by simp(maxDischargeDepth:=12) [dU, *],by simp(maxDischargeDepth:=12) [dU, *],n1,.inr ⟨⟨2,43,H.gen 2 43,0⟩,rfl,rfl,rfl,by simp(maxDischargeDepth:=12) [dU, *],by simp(maxDischargeDepth:=12) [dU, *],by simp(maxDischargeDepth:=12) [dU, *],?_,by simp⟩⟩⟩;simp[aa.ab,rows,vZ,wa, *]
 have x:(H.get r2).isSome=true:=by rw[k];rfl
 have N:(H.get q).isSome=true:=by rw[B];rfl
 have z:=n2.symm;have A:=w.symm;obtain⟨F,G,K,E⟩:=q;simp only at n v m;subst n v m;have J:out.length+1<=17592186044416:=by omega
 have L:(out.length+1) * 4<=140737488355328:=(by omega);simp[aj, *,qK,rY,aa.ab];refine⟨_,rfl,⟨by simp(maxDischargeDepth:=12) [dU, *],by simp(maxDischargeDepth:=12) [dU, *],n1,.inr ⟨⟨2,43,H.gen 2 43,0⟩,rfl,rfl,rfl,by simp(maxDischargeDepth:=12) [dU, *],by simp(maxDischargeDepth:=12) [dU, *],by simp(maxDischargeDepth:=12) [dU, *],?_,by simp⟩⟩⟩;simp[aa.ab,rows,vZ,wa, *]
def Qt{r r2:Ref}{tm:List AV}(l:df tm 2 = .ptr r2 0 0){bs:List UInt8}{x:AV}(p:Sl 1 (au bs) x)(E:bs.length<60000000){Q:AV->aa->Prop} :
 ∀(m k:Nat)(s:List UInt8)(i:Int)(out:List Int)(H:aa),bs.drop k=s->s.length=4 * m->k<=bs.length->i=k->out.length<=k ->
 Um r r2 (.lp 0 50 [17] eS eR tm) H out ->
 (∀y H',Um r r2 (.lp 0 50 [17] eS eR tm) H' (out++words s)->Q y H') ->
 bS env Tryz.f71 (0+1) cW [(2,.iptr 1 [aI 4] 0 0),(4,aI i),(1,.iptr 1 [x] 0 0),(0,.yld r)] H Q:=by
 intro m;induction m with
 | zero=>
  rintro k s i out H hs hm hk rfl ho hI hQ;obtain rfl:s=[]:=wU.1 (by omega);have hd:=iQg List.length hs;rw[oD,kS]at hd;have v : ¬(k:Int)<bs.length:=by omega
  have q:=p.r;refine dR _ _ _ _ _ _ _ λg=>?_;simp[aj, *,cX];exact hQ _ _ (by simpa [words] using hI)
 | succ m w=>
  rintro k s i out H hs hm hk rfl ho hI hQ;match s,hm with
  | a :: b :: c :: d :: s,hm=>
  simp only[gD]at hm;have hd:=iQg List.length hs;rw[oD]at hd;simp only[gD]at hd;have n:0<(au bs).length:=by simp;omega
  obtain⟨z,rfl,e⟩:=nC p n;have f:bs.drop (k+4)=s:=(by rw[<-po,hs];rfl);have F:(k:Int)<bs.length:=(by omega);have B:=iQa ((k:Int)) (by omega);have D:=iQa ((k:Int)+4) (by omega);have G:(au bs).drop k=a8 a :: a8 b :: a8 c :: a8 d :: au s:=(by have:(au bs).drop k=au (bs.drop k):=(by simp[au]);rw[this,hs];rfl);have C : ¬(4 * ((m:Int)+1)<4):=(by omega);have t:((k:Int)+4).toNat - k=4:=(by omega);have u:(k:Int)<=k+4/\(k:Int)+4<=z.getD bs.length/\(k:Int)+4<=bs.length:=(by have:(au bs).length=bs.length:=(by simp);rw[this]at e;omega);obtain⟨y,H',A,rfl,j⟩:=TP rfl l hI (by omega) a b c d (some 4) (by simp);have o:words (a :: b :: c :: d :: s)=word a b c d :: words s:=rfl;rw[o]at hQ;clear o e;refine dR _ _ _ _ _ _ _ λg=>?_;simp[aj, *,cX,Bb];exact w (k+4) s ((k:Int)+4) (out++[word a b c d]) H' f (by omega) (by omega) (by simp) (by simp;omega) j (λy H' h=>hQ y H' (by simpa using h))
def T4{r r2:Ref}{tm:List AV}(a:df tm 2 = .ptr r2 0 0){bs:List UInt8}{x:AV}(b:Sl 1 (au bs) x)(f:bs.length<60000000){m:Nat}(e:bs.length=4 * m){H:aa}
 (d:Um r r2 (.lp 0 50 [17] eS eR tm) H []) :
 ∃y H',dg env 0 (.fn 71) [.yld r,.iptr 1 [x] 0 0,.iptr 1 [aI 4] 0 0] H=some (y,H')/\Um r r2 (.lp 0 50 [17] eS eR tm) H' (words bs):=by
 refine qn (fn:=Tryz.f71) (c:=mU) (by kernel_rfl) (by kernel_rfl) (by kernel_rfl) (by kernel_rfl) (by kernel_rfl) ?_;refine mD _ _ _ _ _ _ λg=>?_;simp[aj, *,jF];exact Qt a b f m 0 bs _ [] H rfl e (by omega) rfl (by simp) d (λy H' h=>by simpa using h)
def acI:k8 = .code (.rangeFunc (.tmp 16) #[17] eS eR) :: vV:=by kernel_rfl
def Y8{bs:List UInt8}{x:AV}(a:Sl 1 (au bs) x):ar env 42 [x,aI 4]=some (.fn (.func 71) [] [.iptr 1 [x] 0 0,.iptr 1 [aI 4] 0 0]):=by
 refine aF rfl (by kernel_rfl) (nQ _ _ _ _ λg=>?_);have b:=a.r;simp[aj, *,kp]
def gw(l:List Int):AV:=if l=[] then aO else .bg 1 (rows l) none
def jj(l:List Int):Sl 1 (rows l) (gw l):=by
 unfold gw;split;·rename_i h;subst h;exact .inl ⟨rfl,rfl⟩
 exact .inr ⟨_,rfl,by simp⟩
def YV{bs:List UInt8}{x:AV}(c:Sl 1 (au bs) x){m:Nat}(a:bs.length=4 * m)(u:m<=64) :
 ar env 131 [x]=some (if yG (words bs)=0 then .tup [F5 1 (rows (words bs)),aI 0] else .tup [aO,aI (yG (words bs))]):=by
 refine aF rfl (by kernel_rfl) (K9 _ _ _ λg=>?_);have G:=c.r;have L:=Y8 c;have K : ¬((256:Int)<4 * m):=by omega
 have F:((4:Int) * m).tmod 4=0:=by rw[wV (by omega)];omega
 have k:(words bs).length<4611686018427387904:=by have:=(vh m bs a).2;omega
 have b:=EH (jj (words bs)) k;have f:=λt xo yo=>gE env.P t xo yo .i64 (4 * (m:Int)) 4 (by decide);simp[aj, *,Ea];rw[acI];refine⟨λJ=>IJ (gi:=71) (first:=[]) (captured:=[.iptr 1 [x] 0 0,.iptr 1 [aI 4] 0 0]) rfl ?_⟩;intro tm A;have M:df tm 2 = .ptr ⟨0,2,0,0⟩ 0 0:=(A 2).trans rfl;rw[show Tryz.f131.ntmps=50 from by kernel_rfl];obtain⟨y,H',B,a⟩:=T4 (r:=⟨0,50,0,0⟩) (r2:=⟨0,2,0,0⟩) (tm:=tm)
  (H:=(⟨0,50,0,0⟩,some (ei 0 (.lp 0 50 [17] eS eR tm))) :: [(⟨0,2,0,0⟩,some ⟨1,[aO],false,false⟩)])
  M c (by omega) a ⟨by simp(maxDischargeDepth:=12) [Ek, *],by simp,by decide,.inl ⟨by simp,rfl⟩⟩
 refine⟨y,H',0,_,by simpa using B,by simp only[aa.nU,aa.RP];rw[rY];exact(iQg lpO a.mark).trans (AW _ _),.inl ⟨rfl,?_⟩⟩;have o:=Dz (s:=OE J [(16,AV.fn (.func 71) [] [.iptr 1 [x] 0 0,.iptr 1 [aI 4] 0 0]),(2,AV.ptr ⟨0,2,0,0⟩ 0 0)]) (l:=[(2,AV.ptr ⟨0,2,0,0⟩ 0 0)]) (by
  intro p hp;simp only[fh,zi,iQu]at hp;subst hp;rfl)
 rw[<-o];refine(BM _ _ _ λg=>?_).h _;have n1:(⟨0,2,0,0⟩:Ref)≠⟨0,50,0,0⟩:=a.n1;have n:=a.box;clear o f K F L G A;generalize words bs=ws at *;rcases n with ⟨I,rfl⟩ | ⟨q,O,R,N,n2,C,I,Q,z⟩
 ·have d:gw []=aO:=rfl;have w:yG []=0:=rfl;rw[d,w]at b;simp[aj, *,pS,aa.ab];all_goals rfl
 have d:gw ws = .bg 1 (rows ws) none:=by unfold gw;rw[if_neg (by rintro rfl;simp at z)]
 have i:rows ws≠[]:=by intro e;have:=iQg List.length e;simp at this;subst this;simp at z
 rw[d]at b;rw[RA 1 i];generalize j:rows ws=rw' at *;have v:rw'.length=ws.length:=by rw[<-j];simp
 have D:=n2.symm;have E:=C.symm;by_cases w:yG ws=0<;>simp[aj, *,pS,aa.ab]
def ag6(dep:Nat){H:aa}{r:Ref}{x:AV}{l:List UInt8}{a:Nat}{b:Bool}(zero:Bool){K:AV->aa->Prop}{m:Mk K}(d:Sl 1 (au l) x)(i:a<=l.length)(j:l.length<1000000000)
 (e:Fr H) (g:H.get r=some (wZ x a b)) (h : ∀y H',Ti H H' r x (xQ l a b 13) (Fq l a b 13) (Cc l a b 13||AX (xQ l a b 13) zero) y->K y H'):iE (dg env dep (.fn 130) [.ptr r 0 0,.v (.bool zero)] H) K m:=by
 obtain⟨y,H',c,f⟩:=ag7 dep zero e d g i j;exact wq c (h y H' f)
def Tk.pick{H H':aa}{r:Ref}{x:AV}{l bs:List UInt8}{a:Nat}{b:Bool}{y v:AV}(k:Tk H H' r x l bs a b y v)(i:Nat){j:Int}(m:j=i)(hi:i<bs.length) :
 ∃p,bH env.P H'.get 57 (some y) (some (.v (.int .i64 j)))=some (p,[])/\ow env.P H'.get 5 (some p)=some (a8 (bs.getD i 0),[])/\(∀r i j,r.t≠31->rP p (.ptr r i j)=true)/\(∀r i j,r.t≠31->rP y (.ptr r i j)=true):=by
 subst m;obtain⟨seen,fr,box,old,spot⟩:=k;have o:bs[i]?=some (bs.getD i 0):=by simp[hi]
 have h:(i:Int)<bs.length:=by omega
 rcases seen with ⟨rfl,g⟩ | ⟨q,c,fz,rfl,f,rfl,n⟩
 ·obtain⟨s,rfl,n⟩:=nC g (by simp;omega);refine⟨.iptr 1 (au bs) i 0,?_,?_,λ_ _ _ _=>rfl,λ_ _ _ _=>rfl⟩;·simp[hi]
  simp[au,hi]
 have d:=spot q rfl;refine⟨.ptr q i 0,?_,?_,λr i j e=>?_,λr i j e=>?_⟩;·simp[f,hi]
 ·simp[au,hi,f]
 ·simp;rintro rfl;exact e d
 simp;rintro rfl;exact e d
def gps(H:aa)(r:Ref)(c:bj):(H.put r (some c)).get r=some c:=by rw[aa.ab,if_pos rfl]
def E0(bs:List UInt8):R9:=if fT (iD bs) then iD bs else ⟨0,0,0⟩
def Qh{v:AV}{l:List UInt8}(a:Sl 1 (au l) v)(b:l.length=6):ar env 111 [v]=some (.tup [.agg [a8 (E0 l).lv,bR (E0 l).cats,a8 (E0 l).num],aI (bad (fT (iD l)))]):=by
 rw[NM a b];unfold E0;cases fT (iD l)<;>rfl
def YH(a b c:UInt8):orI (orI ((a.toNat:Int) * 65536) ((b.toNat:Int) * 256)) (c.toNat:Int)=val [a,b,c]:=by
 have i:=a.toNat_lt;have g:=b.toNat_lt;have h:=c.toNat_lt;have d:=LA (a:=(a.toNat:Int)) (b:=(b.toNat:Int) * 256) (k:=16) (by omega) (by omega) (by omega) (by omega) (by omega);simp only[Nat.reducePow,Int.reducePow]at d;rw[d];have e:=LA (a:=(a.toNat:Int) * 256+b.toNat) (b:=(c.toNat:Int)) (k:=8) (by omega) (by omega) (by omega) (by omega) (by omega);simp only[Nat.reducePow,Int.reducePow]at e;have f:(a.toNat:Int) * 65536+b.toNat * 256=((a.toNat:Int) * 256+b.toNat) * 256:=by omega
 rw[f,e];simp[val,vc];omega
def pf:AV := .tup [.agg [a8 0,a8 0,bR 0,a8 0,aI 0,a8 0,bR 0,a8 0,aI 0,aI 0,a8 0,bR 0,a8 0,aI 0,a8 0,bR 0,aO],aI 0,aI 8]
def BP(o:fX):List AV:=[a8 o.kind,a8 o.h.lv,bR o.h.cats,a8 o.h.num,aI o.serial,a8 o.s.f.h.lv,bR o.s.f.h.cats,a8 o.s.f.h.num,aI o.s.f.n,aI o.s.many,a8 o.a.h.lv,bR o.a.h.cats,a8 o.a.h.num,aI o.a.n,a8 o.to.lv,bR o.to.cats]
def pR(l:List UInt8):AV:=if nA l then .tup [.agg (BP (oc l)++[F5 1 (rows (oc l).l)]),aI (qV l),aI 0] else pf
def D7{l:List UInt8}(h:24<=l.length->qV l<=l.length->rG (oc l)=false):pR l=pf:=by
 unfold pR;rw[if_neg];intro a;simp only[nA,bo,iQb]at a;rw[h a.1 a.2.1]at a;exact absurd a.2.2 (by decide)
def p9{l:List UInt8}{a n:Nat}{b:Bool}(h:Cc l a b n=false):b=false/\a+n<=l.length/\Fq l a b n=a+n/\xQ l a b n=(l.drop a).take n:=by
 unfold Fq xQ;rw[h];simp only[Cc,OP,iQc]at h;exact⟨h.1,by omega,rfl,rfl⟩
def zD{l:List UInt8}{a n:Nat}(h:a+n<=l.length):Cc l a false n=false/\Fq l a false n=a+n/\xQ l a false n=(l.drop a).take n:=by
 have e:Cc l a false n=false:=by simp only[Cc,ze,iQc];omega
 obtain⟨_,_,b,c⟩:=p9 e;exact⟨e,b,c⟩
def II(l:List UInt8)(n:Nat):((l.drop n).take 1).getD 0 0=(l.drop n).headD 0:=by
 cases l.drop n<;>rfl
def Zx{o:fX}(h:fT o.h=false):rG o=false:=by simp[rG,h]
def RC{o:fX}(h:ov o.s=false):rG o=false:=by simp[rG,h]
def ade{o:fX}(h:Al o.s.f=false):rG o=false:=RC (by simp[ov,h])
def LC{o:fX}(h:DH o=false):rG o=false:=by simp[rG,h]
def HU(l:List Int):(F5 1 (rows l)=aO/\gw l=aO)\/(F5 1 (rows l) = .fsl 1 (rows l) none/\gw l = .bg 1 (rows l) none):=by
 by_cases h:l=[];·subst h;exact .inl ⟨rfl,rfl⟩
 exact .inr ⟨RA 1 (by simpa using h),by unfold gw;rw[if_neg h]⟩
def Y5{l:List UInt8}{x:AV}(hx:Sl 1 (au l) x)(hl:l.length<60000000):ar env 112 [x]=some (pR l):=by
 refine aF rfl (by kernel_rfl) (Si _ _ _ λg=>?_);have hr:=hx.r;have hT:=E8 (f:=129) (by kernel_rfl);have hTi:=E8 (f:=130) (by kernel_rfl);simp[aj, *,KC,hT,hTi];refine CQ 0 (a:=0) (b:=false) 1 rfl hx (uD _) (by omega) (by omega) (by simp(maxDischargeDepth:=12) [dU, *]) (by simp[wZ]) λy1 v1 H1 F=>?_;obtain⟨p1,hp1,hl1,_⟩:=F.pick (j:=0) 0 rfl (by rw[zE];omega);have hb1:=F.old ⟨0,2,0,0⟩ _ (by decide) rfl;have hF1:=F.fr;have hr1:=F.box;have ha1:=EF (l:=l) (a:=0) false 1 (uD _);clear F;generalize hA1:Fq l 0 false 1=A1 at *;generalize hB1:Cc l 0 false 1=B1 at *;generalize hk0:(xQ l 0 false 1).getD 0 0=k at *;simp[aj, *,aa.ab];have s1:(H1.get ⟨0,2,0,0⟩).isSome=true:=by rw[hb1];rfl
 refine CQ 0 (a:=A1) (b:=B1) 6 rfl hx ha1 (by omega) (by omega) (by simp(maxDischargeDepth:=12) [dU, *]) (by simp(maxDischargeDepth:=12) [dU, *]) λy2 v2 H2 hk2=>?_;have hb2:=hk2.old ⟨0,2,0,0⟩ _ (by decide) (gps _ _ _);have hG:=Qh hk2.seen.sl (zE _ _);have hs2:=hk2.seen.r;have hF2:=hk2.fr;have hr2:=hk2.box;have ha2:=EF (l:=l) B1 6 ha1;clear hk2 hb1 hr1 hp1 hl1;generalize hA2:Fq l A1 B1 6=A2 at *;generalize hB2:Cc l A1 B1 6=B2 at *;generalize hh2:E0 (xQ l A1 B1 6)=hh at *;obtain⟨J,E,H⟩:=hh;have s2:(H2.get ⟨0,2,0,0⟩).isSome=true:=by rw[hb2];rfl
 have s2r:(H2.get ⟨0,17,0,0⟩).isSome=true:=by rw[hr2];rfl
 generalize hf2:bad (fT (iD (xQ l A1 B1 6)))=f at *;simp[aj, *,aa.ab];refine CQ 0 (a:=A2) (b:=B2) 3 rfl hx ha2 (by omega) (by omega) (by simp(maxDischargeDepth:=12) [dU, *]) (by simp(maxDischargeDepth:=12) [dU, *]) λy3 v3 H3 B=>?_;have hb3:=B.old ⟨0,2,0,0⟩ _ (by decide) (by rw[aa.cL,if_neg (by simp)];exact hb2);have hb8:=B.old ⟨0,8,H2.gen 0 8,0⟩ ⟨3,[.agg [a8 J,bR E,a8 H]],false,false⟩ (by simp) (by simp);have hl3:=zE (l:=l) (a:=A2) B2 3;obtain⟨p30,hp30,hv30,hn30,hny3⟩:=B.pick (j:=0) 0 rfl (by omega);obtain⟨p31,hp31,hv31,hn31,_⟩:=B.pick (j:=1) 1 rfl (by omega);obtain⟨p32,hp32,hv32,hn32,_⟩:=B.pick (j:=2) 2 rfl (by omega);have hF3:=B.fr;have hr3:=B.box;have ha3:=EF (l:=l) B2 3 ha2;clear B hb2 hr2 hs2 hG;generalize hA3:Fq l A2 B2 3=A3 at *;generalize hB3:Cc l A2 B2 3=B3 at *;have s3:(H3.get ⟨0,2,0,0⟩).isSome=true:=by rw[hb3];rfl
 have s3r:(H3.get ⟨0,17,0,0⟩).isSome=true:=by rw[hr3];rfl
 obtain⟨b30,b31,b32,e3⟩ : ∃a b c,xQ l A2 B2 3=[a,b,c]:=by
  match h:xQ l A2 B2 3,hl3 with
  | [a,b,c],_=>exact⟨a,b,c,rfl⟩
 rw[e3]at hv30 hv31 hv32;simp only[List.getD_cons_zero,List.getD_cons_succ]at hv30 hv31 hv32;have w30:IntKind.i64.wrap ((b30.toNat:Int) * 65536)=(b30.toNat:Int) * 65536:=iQa _ (by have:=b30.toNat_lt;omega);have w31:IntKind.i64.wrap ((b31.toNat:Int) * 256)=(b31.toNat:Int) * 256:=iQa _ (by have:=b31.toNat_lt;omega);have wsr:=YH b30 b31 b32;simp[aj, *,aa.ab,yM];refine⟨⟨rfl,rfl,rfl⟩,?_⟩;refine ag6 0 (a:=A3) (b:=B3) false hx ha3 (by omega) (by simp(maxDischargeDepth:=12) [dU, *]) (by simp(maxDischargeDepth:=12) [dU, *]) λy4 H4 hk4=>?_;have hb4:=hk4.old ⟨0,2,0,0⟩ _ (by decide) (gps _ _ _);have hF4:=hk4.fr;have hr4:=hk4.box;have hy4:=hk4.val;have ha4:=EF (l:=l) B3 13 ha3;clear hk4 hb3 hr3 hb8 hp30 hp31 hp32 hv30 hv31 hv32 w30 w31 wsr hn30 hn31 hn32 hny3;subst hy4;generalize hA4:Fq l A3 B3 13=A4 at *;generalize hB4:(Cc l A3 B3 13||AX (xQ l A3 B3 13) false)=B4 at *;generalize hi4:TJ (xQ l A3 B3 13)=fi at *;obtain⟨⟨M,N,O⟩,P⟩:=fi;have s4:(H4.get ⟨0,2,0,0⟩).isSome=true:=by rw[hb4];rfl
 have s4r:(H4.get ⟨0,17,0,0⟩).isSome=true:=by rw[hr4];rfl
 generalize hsr:val [b30,b31,b32]=sr at *;simp[aj, *,aa.ab];refine CQ 0 (a:=A4) (b:=B4) 1 rfl hx ha4 (by omega) (by omega) (by simp(maxDischargeDepth:=12) [dU, *]) (by simp(maxDischargeDepth:=12) [dU, *]) λy5 v5 H5 hk5=>?_;have hb5:=hk5.old ⟨0,2,0,0⟩ _ (by decide) (gps _ _ _);obtain⟨p5,hp5,hv5,_⟩:=hk5.pick (j:=0) 0 rfl (by rw[zE];omega);have hF5:=hk5.fr;have hr5:=hk5.box;have ha5:=EF (l:=l) B4 1 ha4;clear hk5 hb4 hr4;generalize hA5:Fq l A4 B4 1=A5 at *;generalize hB5:Cc l A4 B4 1=B5 at *;generalize hm5:(xQ l A4 B4 1).getD 0 0=m at *;have s5:(H5.get ⟨0,2,0,0⟩).isSome=true:=by rw[hb5];rfl
 have s5r:(H5.get ⟨0,17,0,0⟩).isSome=true:=by rw[hr5];rfl
 have hmI:IntKind.i64.wrap (m.toNat:Int)=m.toNat:=iQa _ (by have:=m.toNat_lt;omega);unfold wZ at hr5;clear s1 s2 s2r s3 s3r s4 s4r hF1 hF2 hF3 hF4;have hnz:=λn:Int=>show(aI n).at?=none from rfl
 cases B5 with
 | true=>
  have i:pR l=pf:=by
   refine D7 λh24 _=>ade ?_;obtain⟨w,C,D⟩:=zD (l:=l) (a:=0) (n:=1) (by omega);rw[w]at hB1;rw[C]at hA1;subst hB1;subst hA1;obtain⟨w,C,D⟩:=zD (l:=l) (a:=0+1) (n:=6) (by omega);rw[w]at hB2;rw[C]at hA2;subst hB2;subst hA2;obtain⟨w,C,D⟩:=zD (l:=l) (a:=0+1+6) (n:=3) (by omega);rw[w]at hB3;rw[C]at hA3;subst hB3;subst hA3;obtain⟨w,C,D⟩:=zD (l:=l) (a:=0+1+6+3) (n:=13) (by omega);rw[w,D]at hB4;rw[C]at hA4;subst hA4;cases B4 with
   | true=>show Al (jY ((l.drop 10).take 13))=false;simpa [AX] using hB4
   | false=>obtain⟨w,C,D⟩:=zD (l:=l) (a:=0+1+6+3+13) (n:=1) (by omega);rw[w]at hB5;cases hB5
  unfold pf at i;simp[aj, *,aa.ab]
 | false=>
  obtain⟨rfl,t5,u5,d5⟩:=p9 hB5;obtain⟨t4,hid⟩:Cc l A3 B3 13=false/\AX (xQ l A3 B3 13) false=false:=by simpa using hB4
  obtain⟨rfl,q4,u4,d4⟩:=p9 t4;obtain⟨rfl,q3,u3,d3⟩:=p9 hB3;obtain⟨rfl,q2,u2,d2⟩:=p9 hB2;obtain⟨_,q1,u1,d1⟩:=p9 hB1;rw[u1]at hA1;subst hA1;rw[u2]at hA2;subst hA2;rw[u3]at hA3;subst hA3;rw[u4]at hA4;subst hA4;rw[u5]at hA5;subst hA5;simp only[vG,Nat.reduceAdd]at *;have hk:l.headD 0=k:=by rw[<-hk0,d1];exact(II l 0).symm
  have hm:(l.drop 23).headD 0=m:=by rw[<-hm5,d5];exact(II l 23).symm
  rw[d2]at hh2 hf2;rw[d3]at e3;rw[d4]at hi4 hid;have hidt:Al (jY ((l.drop 10).take 13))=true:=by simpa [AX] using hid
  rw[TJ,if_pos hidt]at hi4;rw[<-e3]at hsr;clear d1 d2 d3 d4 d5 u1 u2 u3 u4 u5 hB1 hB2 hB3 hB4 hB5 hid t4 hl3 hk0 hm5 q1 q2 q3 q4 ha1 ha2 ha3 ha4 e3;cases hHB:fT (iD ((l.drop 1).take 6)) with
  | false=>have i:pR l=pf:=D7 λ_ _=>Zx hHB;rw[hHB]at hf2;subst hf2;unfold pf at i;clear hHB hidt hi4 hsr hh2 hk hm;simp[aj, *,aa.ab,Kz]
  | true=>
   rw[hHB]at hf2;subst hf2;rw[E0,if_pos hHB]at hh2;have o:oc l=⟨k,⟨J,E,H⟩,sr,⟨⟨⟨M,N,O⟩,P⟩,(m.toNat:Int)⟩,if k=1 then jY ((l.drop 24).take 13) else nm,if k=3 then ⟨(l.drop 24).headD 0,u32 (val ((l.drop 25).take 4))⟩ else ⟨0,0⟩,
    if k=1 then words ((l.drop 37).take (4 * m.toNat)) else []⟩:=by
    unfold oc;rw[hk,hm,hh2,hi4,hsr]
   have I:qV l=kV k m:=by unfold qV;rw[hk,hm]
   clear hHB hidt hi4 hsr hh2 hk hm;by_cases h64:64<(m.toNat:Int);·have i:pR l=pf:=D7 λ_ _=>RC (by rw[o];simp only[ov,Gv,iQc];exact .inr (.inr (.inl (by omega))));unfold pf at i;clear o I;simp[aj, *,aa.ab,D5]
   have K:m.toNat<=64:=(by omega);by_cases F:k=1
   ·subst F;simp[aj, *,aa.ab,D5];refine ag6 0 (a:=24) (b:=false) true hx t5 (by omega) (by simp(maxDischargeDepth:=12) [dU, *]) (by simp[aa.ab,wZ, *]) λy6 H6 A=>?_;have hb6:=A.old ⟨0,2,0,0⟩ _ (by decide) (gps _ _ _);have hF6:=A.fr;have hr6:=A.box;have hy6:=A.val;have ha6:=EF (l:=l) false 13 t5;clear A hb5 hr5 hp5 hv5 s5 s5r hF5;subst hy6;generalize Y:xQ l 24 false 13=L6 at *;generalize Q:Fq l 24 false 13=A6 at *;generalize L:(Cc l 24 false 13||AX L6 true)=B6 at *;generalize hi6:TJ L6=ai at *;obtain⟨⟨a_1,a_2,a_3⟩,a_4⟩:=ai;have s6:(H6.get ⟨0,2,0,0⟩).isSome=true:=by rw[hb6];rfl
    have s6r:(H6.get ⟨0,17,0,0⟩).isSome=true:=by rw[hr6];rfl
    have w4:IntKind.i64.wrap (4 * (m.toNat:Int))=4 * (m.toNat:Int):=iQa _ (by omega);simp[aj, *,aa.ab];refine CQ 0 (a:=A6) (b:=B6) (4 * m.toNat) (by simp) hx ha6 (by omega) (by omega) (by simp(maxDischargeDepth:=12) [dU, *]) (by simp[aa.ab, *]) λy7 v7 H7 X=>?_;have hb7:=X.old ⟨0,2,0,0⟩ _ (by decide) (gps _ _ _);have hl7:=zE (l:=l) (a:=A6) B6 (4 * m.toNat);have hF7:=X.fr;have hr7:=X.box;have u:=X.seen;have G:=X.spot;have T:=YV X.seen.sl hl7 K;clear X hb6 hr6 s6 s6r hF6 w4;unfold wZ at hr7;generalize hL7:xQ l A6 B6 (4 * m.toNat)=L7 at *;generalize hA7:Fq l A6 B6 (4 * m.toNat)=A7 at *;generalize hB7:Cc l A6 B6 (4 * m.toNat)=B7 at *;have s7:(H7.get ⟨0,2,0,0⟩).isSome=true:=by rw[hb7];rfl
    have s7r:(H7.get ⟨0,17,0,0⟩).isSome=true:=by rw[hr7];rfl
    have Z:qV l=37+4 * m.toNat:=by rw[I];rfl
    rw[if_pos rfl,if_neg (by decide),if_pos rfl]at o;have p:=HU (words L7);cases B7 with
    | true=>
     have i:pR l=pf:=D7 λ_ hh=>by
      rw[Z]at hh;obtain⟨w,C,D⟩:=zD (l:=l) (a:=24) (n:=13) (by omega);rw[w,ze]at L;rw[C]at Q;subst Q;rw[D]at Y;cases B6 with
      | false=>obtain⟨w,C,D⟩:=zD (l:=l) (a:=24+13) (n:=4 * m.toNat) (by omega);rw[w]at hB7;cases hB7
      | true=>simp only[AX,iZ,bo,iB,iQc]at L;refine LC ?_;rw[o,Y];have hz:=IG (l:=L6) (by rw[<-Y];simp;omega);rw[iQi L.2]at hz;simp[DH,JJ,hz,L.1]
     unfold pf at i;clear o I Z L hB7 Q hA7 Y hL7 K ha6;by_cases hE:yG (words L7)=0
     ·rw[if_pos hE]at T;clear hE;generalize words L7=ws at *;rcases u with ⟨rfl,u⟩ | ⟨q,cq,fz,rfl,hq,rfl,U⟩
      ·have hr7':=u.r;rcases p with p | p<;>rw[p.1]at T<;>simp[aj, *,aa.ab]
      have V:q≠⟨0,2,0,0⟩:=by intro e;have:=G q rfl;rw[e]at this;cases this
      have s:q≠⟨0,17,0,0⟩:=by intro e;have:=G q rfl;rw[e]at this;cases this
      have R:=V.symm;have z:=s.symm;rcases p with p | p<;>rw[p.1]at T<;>cases fz<;>simp[aj, *,aa.ab]
     rw[if_neg hE]at T;clear hE p;generalize words L7=ws at *;rcases u with ⟨rfl,u⟩ | ⟨q,cq,fz,rfl,hq,rfl,U⟩
     ·have hr7':=u.r;simp[aj, *,aa.ab]
     have V:q≠⟨0,2,0,0⟩:=by intro e;have:=G q rfl;rw[e]at this;cases this
     have s:q≠⟨0,17,0,0⟩:=by intro e;have:=G q rfl;rw[e]at this;cases this
     have R:=V.symm;have z:=s.symm;cases fz<;>simp[aj, *,aa.ab]
    | false=>
     obtain⟨rfl,q7,u7,d7⟩:=p9 hB7;obtain⟨t6,hid6⟩:Cc l 24 false 13=false/\AX L6 true=false:=by simpa using L
     obtain⟨_,q6,u6,d6⟩:=p9 t6;rw[u6]at Q;subst Q;rw[u7]at hA7;subst hA7;rw[d7]at hL7;rw[d6]at Y;have i:pR l=if rG (oc l) then .tup [.agg (BP (oc l)++[F5 1 (rows (oc l).l)]),aI (37+4 * m.toNat:Nat),aI 0] else pf:=by
      unfold pR nA;rw[Z];have h1:decide (24<=l.length)=true:=by simpa using t5
      have h2:decide (37+4 * m.toNat<=l.length)=true:=by simp only[iQb];omega
      rw[h1,h2,iZ,iZ]
     have hai:jY L6=⟨⟨a_1,a_2,a_3⟩,a_4⟩:=by
      rw[<-hi6,TJ];split;·rfl
      rename_i hn;have hn':Al (jY L6)=false:=by simpa using hn
      simp only[AX,hn',zg,iZ,qQ,iQb]at hid6;rw[hid6];rfl
     rw[Y,hai,hL7]at o;rw[o]at i;clear o I Z L hB7 Y hL7 K ha6 hid6 hai d6 d7 u6 u7 t6 hi6;by_cases hE:yG (words L7)=0
     ·rw[if_pos hE]at T;have hwl:(words L7).length<2000000:=by have:=(vh _ L7 hl7).2;have:=m.toNat_lt;omega
      have hC:=tk 1 J E H sr M N O P m.toNat a_1 a_2 a_3 a_4 0 0 (jj (words L7)) hwl;clear hE hwl;generalize words L7=ws at *;cases hO:rG ⟨1,⟨J,E,H⟩,sr,⟨⟨⟨M,N,O⟩,P⟩,(m.toNat:Int)⟩,⟨⟨a_1,a_2,a_3⟩,a_4⟩,⟨0,0⟩,ws⟩ with
      | true=>
       simp only[hO,BP,if_true]at i;rcases p with p | p<;>rw[p.1]at T i<;>rw[p.2]at hC
       all_goals
        rcases u with ⟨rfl,u⟩ | ⟨q,cq,fz,rfl,hq,rfl,U⟩
        ·have hr7':=u.r
         simp[aj, *,aa.ab]
        have V:q≠⟨0,2,0,0⟩:=by intro e;have:=G q rfl;rw[e]at this;cases this
        have s:q≠⟨0,17,0,0⟩:=by intro e;have:=G q rfl;rw[e]at this;cases this
        have R:=V.symm
        have z:=s.symm
        cases fz<;>simp[aj, *,aa.ab]
      | false=>
       simp only[hO,pf]at i;rcases p with p | p<;>rw[p.1]at T<;>rw[p.2]at hC
       all_goals
        rcases u with ⟨rfl,u⟩ | ⟨q,cq,fz,rfl,hq,rfl,U⟩
        ·have hr7':=u.r
         simp[aj, *,aa.ab]
        have V:q≠⟨0,2,0,0⟩:=by intro e;have:=G q rfl;rw[e]at this;cases this
        have s:q≠⟨0,17,0,0⟩:=by intro e;have:=G q rfl;rw[e]at this;cases this
        have R:=V.symm
        have z:=s.symm
        cases fz<;>simp[aj, *,aa.ab]
     rw[if_neg hE]at T;have hz:rG ⟨1,⟨J,E,H⟩,sr,⟨⟨⟨M,N,O⟩,P⟩,(m.toNat:Int)⟩,⟨⟨a_1,a_2,a_3⟩,a_4⟩,⟨0,0⟩,words L7⟩=false:=LC (by
      have:HX (words L7)=false:=(by rw[Bool.eq_false_iff];intro h;exact hE ((EL _).2 h));simp[DH,JJ,this])
     rw[hz,if_neg (by decide)]at i;unfold pf at i;clear p hz;generalize words L7=ws at *;rcases u with ⟨rfl,u⟩ | ⟨q,cq,fz,rfl,hq,rfl,U⟩
     ·have hr7':=u.r;simp[aj, *,aa.ab]
     have V:q≠⟨0,2,0,0⟩:=by intro e;have:=G q rfl;rw[e]at this;cases this
     have s:q≠⟨0,17,0,0⟩:=by intro e;have:=G q rfl;rw[e]at this;cases this
     have R:=V.symm;have z:=s.symm;cases fz<;>simp[aj, *,aa.ab]
   by_cases B:k=3
   ·subst B;simp[aj, *,aa.ab,D5];refine CQ 0 (a:=24) (b:=false) 5 rfl hx t5 (by omega) (by omega) (by simp(maxDischargeDepth:=12) [dU, *]) (by simp[aa.ab,wZ, *]) λy6 v6 H6 A=>?_;have hb6:=A.old ⟨0,2,0,0⟩ _ (by decide) (gps _ _ _);have hl6:=zE (l:=l) (a:=24) false 5;obtain⟨w,C,D,c4,c5,e6⟩ : ∃a b c d e,xQ l 24 false 5=[a,b,c,d,e]:=by
     match h:xQ l 24 false 5,hl6 with
     | [a,b,c,d,e],_=>exact⟨a,b,c,d,e,rfl⟩
    have hF6:=A.fr;have hr6:=A.box;have y:=A.seen;have S:=A.spot;clear A hb5 hr5 hp5 hv5 s5 s5r hF5;rw[e6]at y;unfold wZ at hr6;have s6:(H6.get ⟨0,2,0,0⟩).isSome=true:=by rw[hb6];rfl
    have s6r:(H6.get ⟨0,17,0,0⟩).isSome=true:=by rw[hr6];rfl
    have hBC:=λcp=>S3 cp w C D c4 c5;have hG6:=Qh (v := .bg 1 [a8 w,a8 C,a8 D,a8 c4,a8 c5,a8 0] none) (l:=[w,C,D,c4,c5,0]) (Sl.mk _ _) rfl;have hho:iD [w,C,D,c4,c5,0]=⟨w,u32 (val [C,D,c4,c5]),0⟩:=rfl;have hgo:E0 [w,C,D,c4,c5,0]=if w<=15 then ⟨w,u32 (val [C,D,c4,c5]),0⟩ else ⟨0,0,0⟩:=(by unfold E0;rw[hho];simp[fT])
    have hhb:fT ⟨w,u32 (val [C,D,c4,c5]),0⟩=decide (w<=15):=(by simp[fT]);rw[hho,hhb]at hG6;have hdr:Cc l 24 false 5=false->(l.drop 24).headD 0=w/\(l.drop 25).take 4=[C,D,c4,c5]/\29<=l.length:=by
     intro hB;obtain⟨_,q,_,d⟩:=p9 hB;rw[d]at e6;have:l.drop 25=(l.drop 24).drop 1:=by rw[po]
     rw[this];match hd:l.drop 24,e6 with
     | a :: t,e6=>
      have e7:a :: t.take 4=w :: [C,D,c4,c5]:=e6;injection e7 with e8 e9
      exact⟨e8,e9,q⟩
    have hbad:Cc l 24 false 5=true->pR l=pf:=λhB=>D7 λ_ hh=>by
     rw[I]at hh;have:kV 3 m=29:=rfl;simp only[Cc,ze,iQb]at hB;omega
    generalize L:Cc l 24 false 5=B6 at *;have Q:B6=false->Fq l 24 false 5=29:=λe=>(p9 (L.trans e)).2.2.1;generalize Fq l 24 false 5=A6 at *;cases B6 with
    | true=>
     have i:=hbad rfl;unfold pf at i;clear o I hdr hbad K;rcases y with ⟨rfl,y⟩ | ⟨q,cq,fz,rfl,hq,rfl,U⟩
     ·obtain⟨cp,rfl,hcp⟩:=nC y (by simp);simp[aj, *,aa.ab,au]
     have V:q≠⟨0,2,0,0⟩:=by intro e;have:=S q rfl;rw[e]at this;cases this
     have s:q≠⟨0,17,0,0⟩:=by intro e;have:=S q rfl;rw[e]at this;cases this
     have R:=V.symm;have z:=s.symm;cases fz<;>simp[aj, *,aa.ab,au]
    | false=>
     obtain⟨d1,d2,d3⟩:=hdr rfl;obtain rfl:=Q rfl;have i:pR l=if rG (oc l) then .tup [.agg (BP (oc l)++[F5 1 (rows (oc l).l)]),aI 29,aI 0] else pf:=by
      have hs24:qV l=29:=by rw[I];rfl
      unfold pR nA;rw[hs24];have h1:decide (24<=l.length)=true:=by simpa using t5
      have h2:decide (29<=l.length)=true:=(by simpa using d3);rw[h1,h2,iZ,iZ];rfl
     rw[d1,d2,if_neg (by decide),if_pos rfl,if_neg (by decide)]at o;rw[o]at i;clear o I hdr hbad K d1 d2 d3 Q;by_cases W:w<=15
     ·rw[if_pos W]at hgo;rw[hgo,iQh W,D5]at hG6;clear hgo hho hhb W;generalize u32 (val [C,D,c4,c5])=cc at *;have hC:=tk 3 J E H sr M N O P m.toNat 0 0 0 0 w cc (l:=[]) (x:=aO) (.inl ⟨rfl,rfl⟩) (by simp);cases hO:rG ⟨3,⟨J,E,H⟩,sr,⟨⟨⟨M,N,O⟩,P⟩,(m.toNat:Int)⟩,⟨⟨0,0,0⟩,0⟩,⟨w,cc⟩,[]⟩ with
      | true=>
       simp only[nm,hO,BP,show F5 1 (rows [])=aO from rfl,if_true]at i;rcases y with ⟨rfl,y⟩ | ⟨q,cq,fz,rfl,hq,rfl,U⟩
       ·obtain⟨cp,rfl,hcp⟩:=nC y (by simp);simp[aj, *,aa.ab,au]
       have V:q≠⟨0,2,0,0⟩:=by intro e;have:=S q rfl;rw[e]at this;cases this
       have s:q≠⟨0,17,0,0⟩:=by intro e;have:=S q rfl;rw[e]at this;cases this
       have R:=V.symm;have z:=s.symm;cases fz<;>simp[aj, *,aa.ab,au]
      | false=>
       simp only[nm,hO,pf]at i;rcases y with ⟨rfl,y⟩ | ⟨q,cq,fz,rfl,hq,rfl,U⟩
       ·obtain⟨cp,rfl,hcp⟩:=nC y (by simp);simp[aj, *,aa.ab,au]
       have V:q≠⟨0,2,0,0⟩:=by intro e;have:=S q rfl;rw[e]at this;cases this
       have s:q≠⟨0,17,0,0⟩:=by intro e;have:=S q rfl;rw[e]at this;cases this
       have R:=V.symm;have z:=s.symm;cases fz<;>simp[aj, *,aa.ab,au]
     have hz:rG ⟨3,⟨J,E,H⟩,sr,⟨⟨⟨M,N,O⟩,P⟩,(m.toNat:Int)⟩,nm,⟨w,u32 (val [C,D,c4,c5])⟩,[]⟩=false:=LC (by simp[DH,Lu,W]);rw[hz,if_neg (by decide)]at i;unfold pf at i;rw[if_neg W]at hgo;rw[hgo,iQi W,Kz]at hG6;clear hgo hho hhb W hz;rcases y with ⟨rfl,y⟩ | ⟨q,cq,fz,rfl,hq,rfl,U⟩
     ·obtain⟨cp,rfl,hcp⟩:=nC y (by simp);simp[aj, *,aa.ab,au]
     have V:q≠⟨0,2,0,0⟩:=by intro e;have:=S q rfl;rw[e]at this;cases this
     have s:q≠⟨0,17,0,0⟩:=by intro e;have:=S q rfl;rw[e]at this;cases this
     have R:=V.symm;have z:=s.symm;cases fz<;>simp[aj, *,aa.ab,au]
   have i:pR l=if rG (oc l) then .tup [.agg (BP (oc l)++[F5 1 (rows (oc l).l)]),aI 24,aI 0] else pf:=by
    have hs24:qV l=24:=by rw[I];unfold kV;rw[if_neg F,if_neg B]
    unfold pR nA;rw[hs24];have:decide (24<=l.length)=true:=by simpa using t5
    rw[this,iZ,iZ];rfl
   rw[if_neg F,if_neg B,if_neg F]at o;rw[o]at i;clear o I K;have hC:=tk k J E H sr M N O P m.toNat 0 0 0 0 0 0 (l:=[]) (x:=aO) (.inl ⟨rfl,rfl⟩) (by simp);cases hO:rG ⟨k,⟨J,E,H⟩,sr,⟨⟨⟨M,N,O⟩,P⟩,(m.toNat:Int)⟩,⟨⟨0,0,0⟩,0⟩,⟨0,0⟩,[]⟩ with
   | true=>simp only[nm,hO,BP,show F5 1 (rows [])=aO from rfl,if_true]at i;simp[aj, *,aa.ab]
   | false=>simp only[nm,hO,pf]at i;simp[aj, *,aa.ab]
def xJ(v:UInt8)(c:UInt32)(ok:Bool):Bool:=decide (v<=15)&&(ok||(decide (v=0)&&decide (c=0)))
def sK(a:Int)(v:UInt8)(c:UInt32)(ok:Bool):Bool:=decide (0<=a)&&decide (a<8)&&xJ v c ok
@[simp] def agt(a:Int)(v:UInt8)(c:UInt32)(ok:Bool):ar env 103 [.agg [aI a,a8 v,bR c,aB ok]]=some (aI (bad (sK a v c ok))):=by
 refine aF rfl (by kernel_rfl) (Ho _ _ _ λg=>?_);cases ok
 ·simp[aj, *,wB,od,gz];repeat' ((first | apply si<;>intro h | apply nL<;>intro h | apply nM<;>intro h | apply nJ<;>intro h | apply nK<;>intro h)<;>(try simp only[iQb,iQc,iB,qQ,bo,jH]at h)<;>(try simp[aj, *,od,gz,sK,xJ,bad]))
  all_goals (try grind)
 simp[aj, *,wB,od,gz];repeat' ((first | apply si<;>intro h | apply nL<;>intro h | apply nM<;>intro h | apply nJ<;>intro h | apply nK<;>intro h)<;>(try simp only[iQb,iQc,iB,qQ,bo,jH]at h)<;>(try simp[aj, *,od,gz,sK,xJ,bad]))
 all_goals (try grind)
def kK(a:Int)(v:UInt8)(c:UInt32)(ok:Bool):List UInt8:=u8 a :: (if ok then 1 else 0) :: v :: be 4 c.toNat
@[simp] def ajk(a:Int)(v:UInt8)(c:UInt32)(ok:Bool):ar env 69 [.agg [aI a,a8 v,bR c,aB ok]]=some (if sK a v c ok then .tup [.bg 1 (au (kK a v c ok)) none,aI 0] else .tup [aO,aI 8]):=by
 refine aF rfl (by kernel_rfl) (Ld _ _ _ λg=>?_);by_cases h:sK a v c ok=true
 ·have b:v<=15:=by simp[sK,xJ]at h;exact h.2.1
  have d:fT ⟨v,c,0⟩=true:=(by simp[fT,b]);cases ok<;>simp[aj, *,zZ,bad,kK,cE,au,uu]
 simp at h;simp[aj, *,zZ,bad]
structure dw where
 kind:UInt8
 user:Int
 op:fX
 code:Int
 gu:Int
 gv:UInt8
 gc:UInt32
 gok:Bool
def nw(a b:dw):Bool:=decide (a.kind=b.kind)&&(decide (a.user=b.user)&&(oI a.op b.op&&(decide (a.code=b.code)&&(decide (a.gu=b.gu)&&(decide (a.gv=b.gv)&&decide (a.gc=b.gc)&&decide (a.gok=b.gok))))))
def SJ(k1 N:UInt8)(M O:Int)(z:UInt8)(D:UInt8)(a_3:UInt32)(C:UInt8)(J:Int)(t:UInt8)(u:UInt32)(A:UInt8)(B:Int)(h:Int)(i:UInt8)(o:UInt32)(k:UInt8)(f:Int)(b:UInt8)(j:UInt32)(G:UInt8)(H:UInt8)(K:UInt32)(s:UInt8)(E:Int)(w:UInt8)(F:UInt32)(v:UInt8)(I:Int)(p:Int)(a:UInt8)(c:UInt32)(e:UInt8)(n:Int)(d:UInt8)(q:UInt32)(P L Z V:Int)(T X:UInt8)(R W:UInt32)(S Y:Bool){x y:AV}{l m:List Int}(Q:Sl 1 (rows l) x)(U:Sl 1 (rows m) y)(hl:l.length<1000000000) :
 ar env 70 [.agg [a8 k1,aI M,a8 z,a8 D,bR a_3,a8 C,aI J,a8 t,bR u,a8 A,aI B,aI h,a8 i,bR o,a8 k,aI f,a8 b,bR j,x,aI P,aI Z,a8 T,bR R,aB S],.agg [a8 N,aI O,a8 G,a8 H,bR K,a8 s,aI E,a8 w,bR F,a8 v,aI I,aI p,a8 a,bR c,a8 e,aI n,a8 d,bR q,y,aI L,aI V,a8 X,bR W,aB Y]] =
  some (aB (nw ⟨k1,M,(⟨z,⟨D,a_3,C⟩,J,⟨⟨⟨t,u,A⟩,B⟩,h⟩,⟨⟨i,o,k⟩,f⟩,⟨b,j⟩,l⟩:fX),P,Z,T,R,S⟩ ⟨N,O,(⟨G,⟨H,K,s⟩,E,⟨⟨⟨w,F,v⟩,I⟩,p⟩,⟨⟨a,c,e⟩,n⟩,⟨d,q⟩,m⟩:fX),L,V,X,W,Y⟩)):=by
 refine aF rfl (by kernel_rfl) (Hk _ _ _ _ λg=>?_);have hq:=VH z D a_3 C J t u A B h i o k f b j G H K s E w F v I p a c e n d q Q U hl;have hr:=Q.r;have hr2:=U.r;unfold nw;cases e1:decide (k1=N) with
 | false=>simp[aj, *,mZ,od,gz]
 | true=>
 cases e2:decide (M=O) with| false=>simp[aj, *,mZ,od,gz]| true=>
 cases e3:oI (⟨z,⟨D,a_3,C⟩,J,⟨⟨⟨t,u,A⟩,B⟩,h⟩,⟨⟨i,o,k⟩,f⟩,⟨b,j⟩,l⟩:fX) (⟨G,⟨H,K,s⟩,E,⟨⟨⟨w,F,v⟩,I⟩,p⟩,⟨⟨a,c,e⟩,n⟩,⟨d,q⟩,m⟩:fX) with| false=>simp[aj, *,mZ,od,gz]| true=>
 cases e4:decide (P=L) with| false=>simp[aj, *,mZ,od,gz]| true=>simp[aj, *,mZ,od,gz]
def dB:fX:=⟨0,⟨0,0,0⟩,0,⟨⟨⟨0,0,0⟩,0⟩,0⟩,⟨⟨0,0,0⟩,0⟩,⟨0,0⟩,[]⟩
def G8(r:dw):dw:=if r.kind=1 then ⟨1,r.user, { dB with h:=r.op.h},0,0,0,0,false⟩ else if r.kind=2 then ⟨2,0,r.op,r.code,0,0,0,false⟩ else ⟨r.kind,0,dB,0,r.gu,r.gv,r.gc,r.gok⟩
def mH(r:dw):List UInt8:=r.kind :: (if r.kind=1 then cE r.op.h++[u8 r.user] else if r.kind=2 then [u8 (r.code / 256),u8 r.code]++fv r.op else kK r.gu r.gv r.gc r.gok)
def bT(r:dw):Bool:=if r.kind=1 then (decide (0<=r.user)&&decide (r.user<=255))&&(fT r.op.h&&nw r (G8 r)) else if r.kind=2 then (!decide (-1∈r.op.l)&&decide (0<=r.code)&&decide (r.code<65536))&&(rG r.op&&nw r (G8 r)) else if r.kind=3 then sK r.gu r.gv r.gc r.gok&&nw r (G8 r) else false
def F4(r:dw):AV:=if r.kind=1 then .bg 1 (au (r.kind :: ((if fT r.op.h then cE r.op.h else [])++[u8 r.user]))) none
 else if r.kind=2 then .bg 1 (au (r.kind :: ([u8 (r.code / 256),u8 r.code]++(if rG r.op then fv r.op else [])))) none
 else if r.kind=3 then (if sK r.gu r.gv r.gc r.gok then .bg 1 (au (r.kind :: kK r.gu r.gv r.gc r.gok)) none else .bg 1 [a8 r.kind] (some 1)) else .bg 1 [a8 r.kind] (some 1)
set_option maxHeartbeats 800000 in
def HK(k:UInt8)(u:Int)(t:UInt8)(p:UInt8)(a_3:UInt32)(n:UInt8)(B:Int)(q:UInt8)(s:UInt32)(z:UInt8)(A:Int)(d:Int)(e:UInt8)(j:UInt32)(i:UInt8)(b:Int)(a:UInt8)(f:UInt32)(c C:Int)(v:UInt8)(w:UInt32)(o:Bool){x:AV}{l:List Int}(I:Sl 1 (rows l) x)(hl:l.length<2000000) :
 ar env 39 [.agg [a8 k,aI u,a8 t,a8 p,bR a_3,a8 n,aI B,a8 q,bR s,a8 z,aI A,aI d,a8 e,bR j,a8 i,aI b,a8 a,bR f,x,aI c,aI C,a8 v,bR w,aB o]]=some (.tup [F4 ⟨k,u,(⟨t,⟨p,a_3,n⟩,B,⟨⟨⟨q,s,z⟩,A⟩,d⟩,⟨⟨e,j,i⟩,b⟩,⟨a,f⟩,l⟩:fX),c,C,v,w,o⟩,aB (bT ⟨k,u,(⟨t,⟨p,a_3,n⟩,B,⟨⟨⟨q,s,z⟩,A⟩,d⟩,⟨⟨e,j,i⟩,b⟩,⟨a,f⟩,l⟩:fX),c,C,v,w,o⟩)]):=by
 refine aF rfl (by kernel_rfl) (rF _ _ _ λg=>?_);have hr:=I.r;have D:=λk' u' (Y:UInt8) (Z:UInt8) (b_3:UInt32) (Q:UInt8) (W:Int) (T:UInt8) (X:UInt32) (S:UInt8) (b_9:Int) (O:Int) (H:UInt8) (J:UInt32) (L:UInt8) (N:Int) (K:UInt8) (P:UInt32) c' g' v' w' o' (y:AV) (m:List Int) (hy:Sl 1 (rows m) y)=>SJ k k' u u' t p a_3 n B q s z A d e j i b a f Y Z b_3 Q W T X S b_9 O H J L N K P c c' C g' v v' w w' o o' I hy (by omega);by_cases k1:k=1;·subst k1;have hs:=D 1 u 0 p a_3 n 0 0 0 0 0 0 0 0 0 0 0 0 0 0 0 0 false aO [] (.inl ⟨rfl,rfl⟩);have E:bT ⟨1,u,(⟨t,⟨p,a_3,n⟩,B,⟨⟨⟨q,s,z⟩,A⟩,d⟩,⟨⟨e,j,i⟩,b⟩,⟨a,f⟩,l⟩:fX),c,C,v,w,o⟩=((decide (0<=u)&&decide (u<=255))&&(fT ⟨p,a_3,n⟩&&nw ⟨1,u,(⟨t,⟨p,a_3,n⟩,B,⟨⟨⟨q,s,z⟩,A⟩,d⟩,⟨⟨e,j,i⟩,b⟩,⟨a,f⟩,l⟩:fX),c,C,v,w,o⟩ ⟨1,u,⟨0,⟨p,a_3,n⟩,0,⟨⟨⟨0,0,0⟩,0⟩,0⟩,⟨⟨0,0,0⟩,0⟩,⟨0,0⟩,[]⟩,0,0,0,0,false⟩)):=rfl;have F:F4 ⟨1,u,(⟨t,⟨p,a_3,n⟩,B,⟨⟨⟨q,s,z⟩,A⟩,d⟩,⟨⟨e,j,i⟩,b⟩,⟨a,f⟩,l⟩:fX),c,C,v,w,o⟩ = .bg 1 (au (1 :: ((if fT ⟨p,a_3,n⟩ then cE ⟨p,a_3,n⟩ else [])++[u8 u]))) none:=rfl;rw[E,F];clear D E F;generalize nw ⟨1,u,(⟨t,⟨p,a_3,n⟩,B,⟨⟨⟨q,s,z⟩,A⟩,d⟩,⟨⟨e,j,i⟩,b⟩,⟨a,f⟩,l⟩:fX),c,C,v,w,o⟩ ⟨1,u,⟨0,⟨p,a_3,n⟩,0,⟨⟨⟨0,0,0⟩,0⟩,0⟩,⟨⟨0,0,0⟩,0⟩,⟨0,0⟩,[]⟩,0,0,0,0,false⟩=sm at *;cases M:fT ⟨p,a_3,n⟩<;>by_cases c0:0<=u<;>by_cases c2:u<=255;all_goals simp[aj, *,cN,cE,au,uu]
 by_cases R:k=2
 ·subst R;have hs:=D 2 0 t p a_3 n B q s z A d e j i b a f c 0 0 0 false x l I;have E:bT ⟨2,u,(⟨t,⟨p,a_3,n⟩,B,⟨⟨⟨q,s,z⟩,A⟩,d⟩,⟨⟨e,j,i⟩,b⟩,⟨a,f⟩,l⟩:fX),c,C,v,w,o⟩=((!decide (-1∈l)&&decide (0<=c)&&decide (c<65536))&&(rG (⟨t,⟨p,a_3,n⟩,B,⟨⟨⟨q,s,z⟩,A⟩,d⟩,⟨⟨e,j,i⟩,b⟩,⟨a,f⟩,l⟩:fX)&&nw ⟨2,u,(⟨t,⟨p,a_3,n⟩,B,⟨⟨⟨q,s,z⟩,A⟩,d⟩,⟨⟨e,j,i⟩,b⟩,⟨a,f⟩,l⟩:fX),c,C,v,w,o⟩ ⟨2,0,(⟨t,⟨p,a_3,n⟩,B,⟨⟨⟨q,s,z⟩,A⟩,d⟩,⟨⟨e,j,i⟩,b⟩,⟨a,f⟩,l⟩:fX),c,0,0,0,false⟩)):=rfl;have F:F4 ⟨2,u,(⟨t,⟨p,a_3,n⟩,B,⟨⟨⟨q,s,z⟩,A⟩,d⟩,⟨⟨e,j,i⟩,b⟩,⟨a,f⟩,l⟩:fX),c,C,v,w,o⟩ = .bg 1 (au (2 :: ([u8 (c / 256),u8 c]++(if rG (⟨t,⟨p,a_3,n⟩,B,⟨⟨⟨q,s,z⟩,A⟩,d⟩,⟨⟨e,j,i⟩,b⟩,⟨a,f⟩,l⟩:fX) then fv (⟨t,⟨p,a_3,n⟩,B,⟨⟨⟨q,s,z⟩,A⟩,d⟩,⟨⟨e,j,i⟩,b⟩,⟨a,f⟩,l⟩:fX) else [])))) none:=rfl;have hP:=S0 t p a_3 n B q s z A d e j i b a f I (by omega);have U:=Y4 t p a_3 n B q s z A d e j i b a f I hl;rw[E,F];unfold ac2 at U;have G:rG (⟨t,⟨p,a_3,n⟩,B,⟨⟨⟨q,s,z⟩,A⟩,d⟩,⟨⟨e,j,i⟩,b⟩,⟨a,f⟩,l⟩:fX)=true->(fv (⟨t,⟨p,a_3,n⟩,B,⟨⟨⟨q,s,z⟩,A⟩,d⟩,⟨⟨e,j,i⟩,b⟩,⟨a,f⟩,l⟩:fX)).length<=293/\24<=(fv (⟨t,⟨p,a_3,n⟩,B,⟨⟨⟨q,s,z⟩,A⟩,d⟩,⟨⟨e,j,i⟩,b⟩,⟨a,f⟩,l⟩:fX)).length:=λh=>by rw[xe h];exact⟨(vS h).2,(vS h).1⟩
  clear D E F;generalize nw ⟨2,u,(⟨t,⟨p,a_3,n⟩,B,⟨⟨⟨q,s,z⟩,A⟩,d⟩,⟨⟨e,j,i⟩,b⟩,⟨a,f⟩,l⟩:fX),c,C,v,w,o⟩ ⟨2,0,(⟨t,⟨p,a_3,n⟩,B,⟨⟨⟨q,s,z⟩,A⟩,d⟩,⟨⟨e,j,i⟩,b⟩,⟨a,f⟩,l⟩:fX),c,0,0,0,false⟩=sm at *;generalize fv (⟨t,⟨p,a_3,n⟩,B,⟨⟨⟨q,s,z⟩,A⟩,d⟩,⟨⟨e,j,i⟩,b⟩,⟨a,f⟩,l⟩:fX)=bs at *;generalize decide (-1∈l)=pl at *;cases M:rG (⟨t,⟨p,a_3,n⟩,B,⟨⟨⟨q,s,z⟩,A⟩,d⟩,⟨⟨e,j,i⟩,b⟩,⟨a,f⟩,l⟩:fX) with
  | false=>rw[M,if_neg (by decide)]at U;clear G;cases pl<;>by_cases c0:0<=c<;>by_cases c2:c<65536;all_goals simp[aj, *,cN,au,cK,cF]
  | true=>
   rw[M,if_pos rfl]at U;have hl2:=G M;have f1:bs.length+1<=140737488355328/\bs.length+1+1<=140737488355328/\bs.length+1+1+1<=140737488355328:=by omega
   have f0:2+bs.length=bs.length+1+1:=(by omega);have f3:1+(bs.length+1+1)<=140737488355328/\1+(bs.length+1+1)=bs.length+1+1+1:=(by omega);have f2:2+bs.length<=140737488355328/\1+(2+bs.length)<=140737488355328/\2<2+bs.length/\0<bs.length:=(by omega);have hne:bs≠[]:=by rintro rfl;simp at f2
   clear G;cases pl<;>by_cases c0:0<=c<;>by_cases c2:c<65536;all_goals simp[aj, *,cN,au,cK,cF]
 by_cases V:k=3
 ·subst V;have hs:=D 3 0 0 0 0 0 0 0 0 0 0 0 0 0 0 0 0 0 0 C v w o aO [] (.inl ⟨rfl,rfl⟩);have E:bT ⟨3,u,(⟨t,⟨p,a_3,n⟩,B,⟨⟨⟨q,s,z⟩,A⟩,d⟩,⟨⟨e,j,i⟩,b⟩,⟨a,f⟩,l⟩:fX),c,C,v,w,o⟩=(sK C v w o&&nw ⟨3,u,(⟨t,⟨p,a_3,n⟩,B,⟨⟨⟨q,s,z⟩,A⟩,d⟩,⟨⟨e,j,i⟩,b⟩,⟨a,f⟩,l⟩:fX),c,C,v,w,o⟩ ⟨3,0,⟨0,⟨0,0,0⟩,0,⟨⟨⟨0,0,0⟩,0⟩,0⟩,⟨⟨0,0,0⟩,0⟩,⟨0,0⟩,[]⟩,0,C,v,w,o⟩):=rfl;have F:F4 ⟨3,u,(⟨t,⟨p,a_3,n⟩,B,⟨⟨⟨q,s,z⟩,A⟩,d⟩,⟨⟨e,j,i⟩,b⟩,⟨a,f⟩,l⟩:fX),c,C,v,w,o⟩=if sK C v w o then .bg 1 (au (3 :: kK C v w o)) none else .bg 1 [a8 3] (some 1):=rfl
  rw[E,F];clear D E F;generalize nw ⟨3,u,(⟨t,⟨p,a_3,n⟩,B,⟨⟨⟨q,s,z⟩,A⟩,d⟩,⟨⟨e,j,i⟩,b⟩,⟨a,f⟩,l⟩:fX),c,C,v,w,o⟩ ⟨3,0,⟨0,⟨0,0,0⟩,0,⟨⟨⟨0,0,0⟩,0⟩,0⟩,⟨⟨0,0,0⟩,0⟩,⟨0,0⟩,[]⟩,0,C,v,w,o⟩=sm at *;cases M:sK C v w o;all_goals simp[aj, *,cN,kK,au,uu]
 have E:bT ⟨k,u,(⟨t,⟨p,a_3,n⟩,B,⟨⟨⟨q,s,z⟩,A⟩,d⟩,⟨⟨e,j,i⟩,b⟩,⟨a,f⟩,l⟩:fX),c,C,v,w,o⟩=false:=by unfold bT;rw[if_neg k1,if_neg R,if_neg V]
 have F:F4 ⟨k,u,(⟨t,⟨p,a_3,n⟩,B,⟨⟨⟨q,s,z⟩,A⟩,d⟩,⟨⟨e,j,i⟩,b⟩,⟨a,f⟩,l⟩:fX),c,C,v,w,o⟩ = .bg 1 [a8 k] (some 1):=by unfold F4;rw[if_neg k1,if_neg R,if_neg V]
 rw[E,F];clear D E F;simp[aj, *,cN]
def nE(t:TypeId)(xo yo:Operand){n:Int}(h:0<=n):bC env.P .rem t xo yo (some (.v (.int .i64 n))) (some (.v (.int .i64 256)))=some (.v (.int .i64 (n % 256)),[]):=by
 rw[gE env.P t xo yo .i64 _ _ (by decide),wV h]
def nG(t:TypeId)(xo yo:Operand){n:Int}(k:Int)(a:1<k)(h:0<=n)(c:n<9223372036854775808):bC env.P .quo t xo yo (some (.v (.int .i64 n))) (some (.v (.int .i64 k)))=some (.v (.int .i64 (n / k)),[]):=by
 rw[lX env.P t xo yo .i64 _ _ (by omega),GY h,iQa];have d:0<=n / k:=Int.ediv_nonneg h (by omega);have b:n / k<=n:=Int.ediv_le_self _ h;constructor<;>omega
@[simp] def YJ(n:Int)(j:0<=n)(i:n<9223372036854775808):ar env 108 [aI n,aI 4]=some (.bg 1 (au (be 4 n)) none):=by
 refine aF rfl (by kernel_rfl) (qT _ _ _ _ λg=>?_);have h:=λt xo yo=>nE t xo yo (n:=n) (by omega);have k:=λt xo yo=>nG t xo yo (n:=n) 256 (by decide) (by omega) (by omega);have f:n / 256 / 256=n / 65536:=by omega
 have r1:=λt xo yo=>nE t xo yo (n:=(n / 256)) (by omega);have e:=λt xo yo=>nG t xo yo (n:=(n / 256)) 256 (by decide) (by omega) (by omega);rw[f]at e;have c:n / 65536 / 256=n / 16777216:=by omega
 have r2:=λt xo yo=>nE t xo yo (n:=(n / 65536)) (by omega);have d:=λt xo yo=>nG t xo yo (n:=(n / 65536)) 256 (by decide) (by omega) (by omega);rw[c]at d;have b:n / 16777216 / 256=n / 4294967296:=by omega
 have r3:=λt xo yo=>nE t xo yo (n:=(n / 16777216)) (by omega);have a:=λt xo yo=>nG t xo yo (n:=(n / 16777216)) 256 (by decide) (by omega) (by omega);rw[b]at a;simp[aj, *,ng];refine bn _ _ _ _ _ _ λg=>?_;simp[aj, *,bc,lJ];refine bn _ _ _ _ _ _ λg=>?_;simp[aj, *,bc,lJ];refine bn _ _ _ _ _ _ λg=>?_;simp[aj, *,bc,lJ];refine bn _ _ _ _ _ _ λg=>?_;simp[aj, *,bc,lJ];refine bn _ _ _ _ _ _ λg=>?_;simp[aj, *,bc,lJ,uu,au]
@[simp] def YI(n:Int)(q:0<=n)(p:n<9223372036854775808):ar env 108 [aI n,aI 7]=some (.bg 1 (au (be 7 n)) none):=by
 refine aF rfl (by kernel_rfl) (qT _ _ _ _ λg=>?_);have o:=λt xo yo=>nE t xo yo (n:=n) (by omega);have s:=λt xo yo=>nG t xo yo (n:=n) 256 (by decide) (by omega) (by omega);have l:n / 256 / 256=n / 65536:=by omega
 have r1:=λt xo yo=>nE t xo yo (n:=(n / 256)) (by omega);have k:=λt xo yo=>nG t xo yo (n:=(n / 256)) 256 (by decide) (by omega) (by omega);rw[l]at k;have h:n / 65536 / 256=n / 16777216:=by omega
 have r2:=λt xo yo=>nE t xo yo (n:=(n / 65536)) (by omega);have j:=λt xo yo=>nG t xo yo (n:=(n / 65536)) 256 (by decide) (by omega) (by omega);rw[h]at j;have e:n / 16777216 / 256=n / 4294967296:=by omega
 have r3:=λt xo yo=>nE t xo yo (n:=(n / 16777216)) (by omega);have d:=λt xo yo=>nG t xo yo (n:=(n / 16777216)) 256 (by decide) (by omega) (by omega);rw[e]at d;have c:n / 4294967296 / 256=n / 1099511627776:=by omega
 have r4:=λt xo yo=>nE t xo yo (n:=(n / 4294967296)) (by omega);have a:=λt xo yo=>nG t xo yo (n:=(n / 4294967296)) 256 (by decide) (by omega) (by omega);rw[c]at a;have i:n / 1099511627776 / 256=n / 281474976710656:=by omega
 have r5:=λt xo yo=>nE t xo yo (n:=(n / 1099511627776)) (by omega);have f:=λt xo yo=>nG t xo yo (n:=(n / 1099511627776)) 256 (by decide) (by omega) (by omega);rw[i]at f;have m:n / 281474976710656 / 256=n / 72057594037927936:=by omega
 have r6:=λt xo yo=>nE t xo yo (n:=(n / 281474976710656)) (by omega);have b:=λt xo yo=>nG t xo yo (n:=(n / 281474976710656)) 256 (by decide) (by omega) (by omega);rw[m]at b;simp[aj, *,ng];refine bn _ _ _ _ _ _ λg=>?_;simp[aj, *,bc,lJ];refine bn _ _ _ _ _ _ λg=>?_;simp[aj, *,bc,lJ];refine bn _ _ _ _ _ _ λg=>?_;simp[aj, *,bc,lJ];refine bn _ _ _ _ _ _ λg=>?_;simp[aj, *,bc,lJ];refine bn _ _ _ _ _ _ λg=>?_;simp[aj, *,bc,lJ];refine bn _ _ _ _ _ _ λg=>?_;simp[aj, *,bc,lJ];refine bn _ _ _ _ _ _ λg=>?_;simp[aj, *,bc,lJ];refine bn _ _ _ _ _ _ λg=>?_;simp[aj, *,bc,lJ,QF,au]
@[simp] def J7(a:UInt8)(b:UInt32)(n:UInt8):ar env 85 [.agg [a8 a,bR b,a8 n]]=some (.fsl 1 (au (cE ⟨a,b,n⟩)) none):=by
 refine aF rfl (by kernel_rfl) (xA _ _ _ λg=>?_);have d:=b.toNat_lt;have c:=YJ (b.toNat:Int) (by omega) (by omega);simp[aj, *,qy,cE,au]
def J8(a:UInt8)(b:UInt32)(n:UInt8)(k:Int)(d:0<=k)(c:k<9223372036854775808):ar env 109 [.agg [a8 a,bR b,a8 n,aI k]]=some (.bg 1 (au (dW ⟨⟨a,b,n⟩,k⟩)) none):=by
 refine aF rfl (by kernel_rfl) (xB _ _ _ λg=>?_);have e:=YI k d c;simp[aj, *,qz,dW,au]
def Ru{r:dw}(h:bT r=true):F4 r = .bg 1 (au (mH r)) none:=by
 unfold bT at h;unfold F4 mH;split at h;·rename_i k1;simp only[bo]at h;rw[if_pos k1,if_pos k1,if_pos h.2.1]
 rename_i k1;rw[if_neg k1,if_neg k1];split at h;·rename_i a;simp only[bo]at h;rw[if_pos a,if_pos a,if_pos h.2.1]
 rename_i a;rw[if_neg a,if_neg a];split at h;·rename_i b;simp only[bo]at h;rw[if_pos b,if_pos h.1]
 cases h
def HZ{r:dw}(h:bT r=true):(r.kind=1/\(mH r).length=8)\/(r.kind=2/\(mH r).length=3+Ce r.op/\rG r.op=true)\/(r.kind=3/\(mH r).length=8):=by
 unfold bT at h;unfold mH;split at h;·rename_i k1;refine .inl ⟨k1,?_⟩;rw[if_pos k1];simp
 rename_i k1;rw[if_neg k1];split at h;·rename_i a;simp only[bo]at h;refine .inr (.inl ⟨a,?_,h.2.1⟩);rw[if_pos a];simp[xe h.2.1];omega
 rename_i a;rw[if_neg a];split at h;·rename_i b;refine .inr (.inr ⟨b,?_⟩);simp[kK]
 cases h
def fj(r:dw):Nat:=((mH r).length+118) / 119
def vf{r:dw}(h:bT r=true):1<=fj r/\fj r<=3/\(r.kind=2\/fj r=1):=by
 unfold fj;rcases HZ h with ⟨k,e⟩ | ⟨k,e,a⟩ | ⟨k,e⟩
 ·rw[e];simp
 ·rw[e];have:=vS a;exact⟨by omega,by omega,.inl k⟩
 rw[e];simp
def HJ(k:UInt8)(u:Int)(p:UInt8)(A:UInt8)(a_3:UInt32)(y:UInt8)(B:Int)(m:UInt8)(n:UInt32)(q:UInt8)(s:Int)(d:Int)(f:UInt8)(j:UInt32)(i:UInt8)(b:Int)(a:UInt8)(h:UInt32)(c C:Int)(v:UInt8)(w:UInt32)(o:Bool){x:AV}{l:List Int}(I:Sl 1 (rows l) x)(R:l.length<2000000) :
 ar env 40 [.agg [a8 k,aI u,a8 p,a8 A,bR a_3,a8 y,aI B,a8 m,bR n,a8 q,aI s,aI d,a8 f,bR j,a8 i,aI b,a8 a,bR h,x,aI c,aI C,a8 v,bR w,aB o]]=some (if bT ⟨k,u,(⟨p,⟨A,a_3,y⟩,B,⟨⟨⟨m,n,q⟩,s⟩,d⟩,⟨⟨f,j,i⟩,b⟩,⟨a,h⟩,l⟩:fX),c,C,v,w,o⟩ then .tup [aI (fj ⟨k,u,(⟨p,⟨A,a_3,y⟩,B,⟨⟨⟨m,n,q⟩,s⟩,d⟩,⟨⟨f,j,i⟩,b⟩,⟨a,h⟩,l⟩:fX),c,C,v,w,o⟩),aI 0] else .tup [aI 0,aI 8]):=by
 refine aF rfl (by kernel_rfl) (FY _ _ _ λg=>?_);have J:=HK k u p A a_3 y B m n q s d f j i b a h c C v w o I R;have U:=I.r;have H := @Ru ⟨k,u,(⟨p,⟨A,a_3,y⟩,B,⟨⟨⟨m,n,q⟩,s⟩,d⟩,⟨⟨f,j,i⟩,b⟩,⟨a,h⟩,l⟩:fX),c,C,v,w,o⟩;have D := @HZ ⟨k,u,(⟨p,⟨A,a_3,y⟩,B,⟨⟨⟨m,n,q⟩,s⟩,d⟩,⟨⟨f,j,i⟩,b⟩,⟨a,h⟩,l⟩:fX),c,C,v,w,o⟩;have G:fj ⟨k,u,(⟨p,⟨A,a_3,y⟩,B,⟨⟨⟨m,n,q⟩,s⟩,d⟩,⟨⟨f,j,i⟩,b⟩,⟨a,h⟩,l⟩:fX),c,C,v,w,o⟩=((mH ⟨k,u,(⟨p,⟨A,a_3,y⟩,B,⟨⟨⟨m,n,q⟩,s⟩,d⟩,⟨⟨f,j,i⟩,b⟩,⟨a,h⟩,l⟩:fX),c,C,v,w,o⟩).length+118) / 119:=rfl;cases F:bT ⟨k,u,(⟨p,⟨A,a_3,y⟩,B,⟨⟨⟨m,n,q⟩,s⟩,d⟩,⟨⟨f,j,i⟩,b⟩,⟨a,h⟩,l⟩:fX),c,C,v,w,o⟩ with
 | false=>
  rw[F]at J;generalize E:F4 ⟨k,u,(⟨p,⟨A,a_3,y⟩,B,⟨⟨⟨m,n,q⟩,s⟩,d⟩,⟨⟨f,j,i⟩,b⟩,⟨a,h⟩,l⟩:fX),c,C,v,w,o⟩=z at *;clear H D G;have L:z = .bg 1 [a8 k] (some 1) \/∃es,z = .bg 1 es none:=by
   rw[<-E];unfold F4;split;·exact .inr ⟨_,rfl⟩
   split;·exact .inr ⟨_,rfl⟩
   split
   ·split;·exact .inr ⟨_,rfl⟩
    exact .inl rfl
   exact .inl rfl
  clear E;rcases L with rfl | ⟨es,rfl⟩<;>simp[aj, *,uP]
 | true=>
  rw[H F,F]at J;have T:(mH ⟨k,u,(⟨p,⟨A,a_3,y⟩,B,⟨⟨⟨m,n,q⟩,s⟩,d⟩,⟨⟨f,j,i⟩,b⟩,⟨a,h⟩,l⟩:fX),c,C,v,w,o⟩).length<=1000:=by
   rcases D F with ⟨_,e⟩ | ⟨_,e,N⟩ | ⟨_,e⟩
   ·omega
   ·have:=vS N;omega
   omega
  rw[G];clear H D G;generalize mH ⟨k,u,(⟨p,⟨A,a_3,y⟩,B,⟨⟨⟨m,n,q⟩,s⟩,d⟩,⟨⟨f,j,i⟩,b⟩,⟨a,h⟩,l⟩:fX),c,C,v,w,o⟩=bs at *;have S:=iQa ((bs.length:Int)+119) (by omega);have O:=iQa ((bs.length:Int)+119 - 1) (by omega);have K:((bs.length:Int)+119 - 1)=bs.length+118:=by omega
  have Q:=λt xo yo=>lX env.P t xo yo .i64 ((bs.length:Int)+118) 119 (by decide);have M:((bs.length:Int)+118).tdiv 119=(((bs.length+118) / 119:Nat):Int):=(by rw[GY (by omega)];omega);rw[M,iQa _ (by omega)]at Q;rw[K]at O;simp[aj, *,uP]
def Mb{P:Program}{t t':TypeId}(s:oT P t=true)(b:isInt P t'=true)(o:(eT P t).cells.all AV.one=true)(H:aa)(r q:Ref)(n:Int)(m:Nat){es:List AV}{fz:Bool}(v:H.get q=some ⟨jw P t,es,true,fz⟩)(E:m=es.length)(G:0<n)(C:n<=aJ)(x:(m+n.toNat) * oe P t<=aJ) :
 dm P true H r (some t) (some t') (.bk q 0 m none) (aI n)=some (.bk ⟨q.d,q.t,H.gen q.d q.t,0⟩ 0 (m+n.toNat) none,(⟨q.d,q.t,H.gen q.d q.t,0⟩,some ⟨jw P t,es++List.replicate n.toNat (eT P t),true,fz⟩) :: H.put q none):=by
 subst E;unfold oT at s;obtain⟨e,zz,k,l,y,c,p,F,B,u⟩:=gJ s;have D:eT P t=zz:=by unfold eT;rw[k,eD,c];rfl
 rw[D]at o ⊢;have g:(P.underlying t').isNone=false:=by
  unfold isInt at b;cases h:P.underlying t' with
  | none=>rw[h]at b;cases b
  | some d=>rfl
 have A : ¬((P.underlying t').isNone=true\/isInt P t'≠isNum (aI n)):=by rw[g,b];simp[isNum]
 have hd : ¬(jw P t≠jw P t\/jw P t=0\/oe P t=0\/zz.cells.length≠jw P t):=by simp[p,B,u]
 have a:mK P H.get e (aI n)=some (jw P t,List.replicate n.toNat zz):=by
  show(match eu P e,aE P e with | some w,some z=>if 0<=n/\n<=aJ/\w.cells.length=z/\w.cells.all AV.one then some (z,List.replicate n.toNat w) else none | _,_=>none)=_;rw[c,l];exact if_pos ⟨by omega,C,by simp[p,B,u],o⟩
 have j:List.replicate n.toNat zz≠[]:=by
  intro h;have:=iQg List.length h;simp only[AA,kS]at this;omega
 have i : ¬(jw P t≠jw P t\/jw P t=0\/oe P t=0\/List.replicate n.toNat zz=[]\/zz.cells.length≠jw P t):=by simp only[j,false_or];exact hd
 have f:eG P H.get r (some t) (some t') (.bk q 0 es.length none) (aI n)=none:=by
  simp only[eG,eD,k,Option.map_some,cB,if_neg A,l,y,c,a,if_neg hd,if_neg j,v];simp[j]
 simp only[dm,f];simp only[lY,EU,AG,j9,eD,k,Option.map_some,cB,if_neg A,l,y,c,a,if_neg i,v,AA];unfold aJ at x;simp[x]
def Pt{l:List Int}{x0:AV}(j:Sl 1 (rows l) x0)(hl:l.length<100000)(O : ∀n∈l,iC n=true){Q:AV->aa->Prop} :
 ∀(s:List Int)(k:Nat)(i:Int)(a:List Int)(A:AV)(H:aa),l.drop k=s->k<=l.length->i=k->a.length=k->Fr H->fG [35] 1 (au (bh a)) H A->(a=[]->A=aO) ->
 (∀y H',fG [35] 1 (au (bh (a++s))) H' y->(a++s=[]->y=aO)->Q y H') ->
 bS env Tryz.f110 0 gm [(4,aI i),(3,A),(0,x0)] H Q:=by
 intro s;induction s with
 | nil=>rintro k i a x5 H hs hk rfl ha hF hO hN hQ;obtain rfl:=drop_nil hs hk;refine pw _ _ _ _ _ λg=>?_;have f:=hQ x5 H (by simpa using hO) (by simpa using hN);clear hQ hO hN;simp[aj, *,eP,j.len];all_goals exact f
 | cons n s I=>
  rintro k i a x5 H hs hk rfl ha hF hO hN hQ;obtain⟨Y,S,B,F⟩:=drop_cons hs;have G:=O n (by rw[<-S];exact eE _);have e3:=iQa ((k:Int)+1) (by omega);refine pw _ _ _ _ _ λg=>?_;have P:bF (rows l) k 0 1 false=some (.v (.int .i32 n)):=by simp[rows,F,aR]
  have o:=λx H'=>I (k+1) ((k:Int)+1) (a++[n]) x H' B (by omega) (by simp) (by simp;omega);have f : ∀y H',fG [35] 1 (au (bh ((a++[n])++s))) H' y->((a++[n])++s=[]->y=aO)->Q y H':=λy H' h G=>hQ y H' (by simpa using h) (λe=>by simp at e);have u:=nF a;have b:(au (bh a)).length=4 * a.length:=by rw[show(au (bh a)).length=(bh a).length from by simp,u]
  have d : ∀(g m:Nat)(H':aa),m=4 * a.length+4->H'.get ⟨0,35,g,0⟩=some ⟨1,au (bh a)++[a8 (u8 (n / 16777216)),a8 (u8 (n / 65536)),a8 (u8 (n / 256)),a8 (u8 n)],true,false⟩->fG [35] 1 (au (bh (a++[n]))) H' (.bk ⟨0,35,g,0⟩ 0 m none):=by
   intro g m H' R h;subst R;have e:au (bh (a++[n]))=au (bh a)++[a8 (u8 (n / 16777216)),a8 (u8 (n / 65536)),a8 (u8 (n / 256)),a8 (u8 n)]:=by simp[bh,uu,au]
   rw[e];exact .inr ⟨35,g,by simp,by rw[ja,b];rfl,h⟩
  clear hQ hN I;have p:n = -1\/(0<=n/\n<=1114111):=by
   simp only[iC,jH,bo,iQb]at G;omega
  have N:=λt xo yo=>nG t xo yo (n:=4294967295) 16777216 (by decide) (by omega) (by omega);have X:=λt xo yo=>nG t xo yo (n:=4294967295) 65536 (by decide) (by omega) (by omega);have L:=λt xo yo=>nG t xo yo (n:=4294967295) 256 (by decide) (by omega) (by omega);have V:=λt xo yo=>nE t xo yo (n:=4294967295) (by omega);have M:=λt xo yo=>nE t xo yo (n:=65535) (by omega);have J:=λt xo yo=>nE t xo yo (n:=16777215) (by omega);simp only[show(4294967295:Int) / 16777216=255 by decide,show(4294967295:Int) / 65536=65535 by decide,show(4294967295:Int) / 256=16777215 by decide,show(4294967295:Int) % 256=255 by decide,show(65535:Int) % 256=255 by decide,show(16777215:Int) % 256=255 by decide]at N X L V M J;have hu:u8 255=255:=rfl;have D:u8 (-1)=255:=rfl;rcases p with rfl | ⟨p0,p1⟩
  ·have d1:(-1:Int) / 16777216 = -1:=(by decide);have d2:(-1:Int) / 65536 = -1:=(by decide);have d3:(-1:Int) / 256 = -1:=(by decide);rw[d1,d2,d3,D]at d;have K:IntKind.i64.wrap (-1) = -1:=rfl;rcases hO with ⟨rfl,z⟩ | ⟨t,C,w,rfl,E⟩
   ·have q:a=[]:=(by have:=iQg List.length z;rw[b]at this;simp only[kS]at this;exact Ad (by omega));subst q;have c:=d (H.gen 0 35) 4;clear d;simp[aj, *,eP,j.r,j.idx];exact o _ _ (by simp(maxDischargeDepth:=12) [dU, *]) (c _ rfl (by simp[bh])) (λe=>by simp at e) f
   rw[mA]at w;subst w;have T:(H.get ⟨0,35,C,0⟩).isSome=true:=by rw[E];rfl
   have W:kL 1 1 (au (bh a)).length true none (some ⟨1,au (bh a),true,false⟩) (some [a8 255,a8 255,a8 255,a8 255]):=(by rw[aq,b];refine⟨rfl,b.symm ▸ rfl,.inr ⟨?_,rfl⟩⟩;simp;omega);have c:=λH'=>d (H.gen 0 35) ((au (bh a)).length+4) H' (by rw[b]);clear d ha b u;generalize au (bh a)=bs at *;simp[aj, *,eP,j.r,j.idx];exact o _ _ (by simp(maxDischargeDepth:=12) [dU, *]) (c _ (by simp)) (λe=>by simp at e) f
  have K:=iQa n (by omega);have U : ¬n<0:=by omega
  have p2:0<=n / 65536:=(by omega);have p3:0<=n / 256:=(by omega);have t1:=λt xo yo=>nG t xo yo (n:=n) 16777216 (by decide) (by omega) (by omega);have t2:=λt xo yo=>nG t xo yo (n:=n) 65536 (by decide) (by omega) (by omega);have t3:=λt xo yo=>nG t xo yo (n:=n) 256 (by decide) (by omega) (by omega);have Z:=λt xo yo=>nE t xo yo (n:=n) (by omega);have t5:=λt xo yo=>nE t xo yo (n:=n / 65536) (by omega);have t6:=λt xo yo=>nE t xo yo (n:=n / 256) (by omega);rcases hO with ⟨rfl,z⟩ | ⟨t,C,w,rfl,E⟩
  ·have q:a=[]:=(by have:=iQg List.length z;rw[b]at this;simp only[kS]at this;exact Ad (by omega));subst q;have c:=d (H.gen 0 35) 4;clear d;simp[aj, *,eP,j.r,j.idx,lJ];exact o _ _ (by simp(maxDischargeDepth:=12) [dU, *]) (c _ rfl (by simp[bh])) (λe=>by simp at e) f
  rw[mA]at w;subst w;have T:(H.get ⟨0,35,C,0⟩).isSome=true:=by rw[E];rfl
  have W:kL 1 1 (au (bh a)).length true none (some ⟨1,au (bh a),true,false⟩) (some [a8 (u8 (n / 16777216)),a8 (u8 (n / 65536)),a8 (u8 (n / 256)),a8 (u8 n)]):=(by rw[aq,b];refine⟨rfl,b.symm ▸ rfl,.inr ⟨?_,rfl⟩⟩;simp;omega);have c:=λH'=>d (H.gen 0 35) ((au (bh a)).length+4) H' (by rw[b]);clear d ha b u;generalize au (bh a)=bs at *;simp[aj, *,eP,j.r,j.idx,lJ];exact o _ _ (by simp(maxDischargeDepth:=12) [dU, *]) (c _ (by simp)) (λe=>by simp at e) f
def VA{l:List Int}{x:AV}(h:Sl 1 (rows l) x)(o:l.length<100000)(k : ∀n∈l,iC n=true):ar env 110 [x]=some (kn 1 (au (bh l))):=by
 refine aF rfl (by kernel_rfl) (yw _ _ _ λg=>?_);have b:=λH Q=>Pt h o k (H:=H) (Q:=Q) l 0 0 [] aO rfl (by omega) rfl rfl;have c : ∀y H',fG [35] 1 (au (bh ([]++l))) H' y->([]++l=[]->y=aO)->view H'.get 8 y=some (kn 1 (au (bh l))):=by
  intro y H' f a;rw[sO]at f a;rcases f with ⟨rfl,i⟩ | ⟨t,q,u,rfl,j⟩
  ·rw[i];simp[kn]
  have d:au (bh l)≠[]:=by
   intro e;have m:=iQg List.length e;have s:=nF l;have p:(au (bh l)).length=(bh l).length:=by simp
   simp only[kS]at m;have:l=[]:=Ad (by omega);cases a this
  rw[tH 1 d];generalize au (bh l)=bs at *;simp[j]
 simp[aj, *,rC];exact b _ _ Fr.nil (.inl ⟨rfl,rfl⟩) (λ_=>rfl) c
def XE(H:aa)(r q:Ref){es:List AV}{fz:Bool}(a:H.get q=some ⟨1,es,true,fz⟩)(b:es.length=24) :
 dm env.P true H r (some 57) (some 3) (.bk q 0 24 none) (aI 13)=some (.bk ⟨q.d,q.t,H.gen q.d q.t,0⟩ 0 37 none,(⟨q.d,q.t,H.gen q.d q.t,0⟩,some ⟨1,es++[a8 0,a8 0,a8 0,a8 0,a8 0,a8 0,a8 0,a8 0,a8 0,a8 0,a8 0,a8 0,a8 0],true,fz⟩) :: H.put q none):=by
 have h:=Mb (P:=env.P) (t:=57) (t':=3) (by kernel_rfl) (by kernel_rfl) (by kernel_rfl) H r q 13 24 (es:=es) (fz:=fz) (by rw[Qq];exact a) b.symm (by decide) (by decide) (by simp);rw[Qq]at h;rw[h];have e:eT env.P 57=a8 0:=by kernel_rfl
 rw[e];rfl
def Bx(w:UInt8)(q:UInt8)(a_3:UInt32)(p:UInt8)(a:Int)(j:UInt8)(k:UInt32)(m:UInt8)(o:Int)(i:Int)(c:UInt8)(f:UInt32)(d:UInt8)(b:Int)(s:UInt8)(u:UInt32){x:AV}{l:List Int}(J:Sl 1 (rows l) x)(hl:l.length<100000)(L:rG (⟨w,⟨q,a_3,p⟩,a,⟨⟨⟨j,k,m⟩,o⟩,i⟩,⟨⟨c,f,d⟩,b⟩,⟨s,u⟩,l⟩:fX)=true):ar env 86 [.agg [a8 w,a8 q,bR a_3,a8 p,aI a,a8 j,bR k,a8 m,aI o,aI i,a8 c,bR f,a8 d,aI b,a8 s,bR u,x]]=some (.bg 1 (au (fv (⟨w,⟨q,a_3,p⟩,a,⟨⟨⟨j,k,m⟩,o⟩,i⟩,⟨⟨c,f,d⟩,b⟩,⟨s,u⟩,l⟩:fX))) none):=by
 refine aF rfl (by kernel_rfl) (xy _ _ _ λg=>?_);have hr:=J.r;have hp:=tq L;simp only at hp;obtain⟨U,V,⟨R,S⟩,Z,P,O⟩:=hp;have t1:=λt xo yo=>nG t xo yo (n:=a) 65536 (by decide) (by omega) (by omega);have t2:=λt xo yo=>nG t xo yo (n:=a) 256 (by decide) (by omega) (by omega);have t3:=λt xo yo=>nE t xo yo (n:=a / 256) (by omega);have t4:=λt xo yo=>nE t xo yo (n:=a) (by omega);have b1:=J8 j k m o (by omega) (by omega);have hC:oz (⟨w,⟨q,a_3,p⟩,a,⟨⟨⟨j,k,m⟩,o⟩,i⟩,⟨⟨c,f,d⟩,b⟩,⟨s,u⟩,l⟩:fX)=w :: (cE ⟨q,a_3,p⟩++([u8 (a / 65536),u8 (a / 256),u8 a]++(dW ⟨⟨j,k,m⟩,o⟩++[u8 i]))):=by simp[oz,QG]
 unfold fv;rw[hC];have lh:=CW ⟨q,a_3,p⟩;have li:=P5 ⟨⟨j,k,m⟩,o⟩;rcases O with ⟨rfl,I,E,C,v⟩ | ⟨rfl,I,E,C⟩ | ⟨rfl,E,C,Q⟩
 ·obtain⟨Y,X,H⟩:=Pw v;have K : ∀n∈l,iC n=true:=(by have:=v;simp only[HX,bo,gf]at this;exact this.2);have N:=VA J hl K;have B:=nF l;have G:au (bh l)≠[]:=(by intro e;have:=iQg List.length e;rw[fN,kS]at this;omega);rw[tH 1 G]at N;have M:(au (bh l)).length=4 * l.length:=by rw[fN,B]
  have F : ∀A:List UInt8,au (A++bh l)=au A++au (bh l):=λA=>by simp[au]
  rw[if_pos rfl];have f1:37+4 * l.length<=140737488355328:=by omega
  clear Y H v B K L;rcases Bool.eq_false_or_eq_true (kR ⟨⟨c,f,d⟩,b⟩)with y | y
  ·have z:oU ⟨⟨c,f,d⟩,b⟩=List.replicate 13 0:=by unfold oU;rw[if_pos y]
   rw[z];have D:au (1 :: (cE ⟨q,a_3,p⟩++([u8 (a / 65536),u8 (a / 256),u8 a]++(dW ⟨⟨j,k,m⟩,o⟩++[u8 i])))++(List.replicate 13 0++bh l))=au (1 :: (cE ⟨q,a_3,p⟩++([u8 (a / 65536),u8 (a / 256),u8 a]++(dW ⟨⟨j,k,m⟩,o⟩++[u8 i])))++List.replicate 13 0)++au (bh l):=by rw[<-qP,F]
   rw[D];clear F D;generalize au (bh l)=W at *;simp[aj, *,gM,au,lJ,cE,dW,uu,QF];refine wq (XE _ _ _ rfl rfl) ?_;simp[*];refine⟨by omega,?_⟩;rw[dq];·simp[uu,QF]
   simp only[gD];omega
  have z:oU ⟨⟨c,f,d⟩,b⟩=dW ⟨⟨c,f,d⟩,b⟩:=by unfold oU;rw[if_neg (by rw[y];decide)]
  rw[z];have D:au (1 :: (cE ⟨q,a_3,p⟩++([u8 (a / 65536),u8 (a / 256),u8 a]++(dW ⟨⟨j,k,m⟩,o⟩++[u8 i])))++(dW ⟨⟨c,f,d⟩,b⟩++bh l))=au (1 :: (cE ⟨q,a_3,p⟩++([u8 (a / 65536),u8 (a / 256),u8 a]++(dW ⟨⟨j,k,m⟩,o⟩++[u8 i])))++dW ⟨⟨c,f,d⟩,b⟩)++au (bh l):=by rw[<-qP,F]
  rw[D];have T:=J8 c f d b (by
   rcases E with h | h;· rw[h]at y;cases y
   omega) (by
    rcases E with h | h;· rw[h]at y;cases y
    omega)
  clear F D;generalize au (bh l)=W at *;simp[aj, *,gM,au,lJ,cE,dW,uu,QF];exact⟨by omega,dq (by simp;omega)⟩
 ·simp[aj, *,gM,au,lJ,cE,dW,uu,QF]
 simp[aj, *,gM,au,lJ,cE,dW,uu,QF]
def Fs(k:UInt8)(m:Int):Int:=if m<1 then 0 else if 64<m then 0 else if k=1 then 37+4 * m else if k=2 then 24 else if k=3 then 29 else 0
def Vy(k:UInt8)(m:Int):ar env 151 [a8 k,aI m]=some (aI (Fs k m)):=by
 refine aF rfl (by kernel_rfl) (yu _ _ _ _ λg=>?_);unfold Fs;by_cases a:m<1;·simp[aj, *,fK]
 by_cases f:64<m;·simp[aj, *,fK]
 have c:=iQa (4 * m) (by omega);have d:=iQa (37+4 * m) (by omega);by_cases k1:k=1;·simp[aj, *,fK]
 by_cases e:k=2;·simp[aj, *,fK]
 by_cases b:k=3<;>simp[aj, *,fK]
def PQ{l:List Int}{x:AV}(m:Sl 1 (rows l) x)(N:l.length<100000)(B:UInt8)(p:UInt8)(a_3:UInt32)(E:UInt8)(w:Int)(t:UInt8)(u:UInt32)(C:UInt8)(D:Int)(d:Int)(b:UInt8)(j:UInt32)(e:UInt8)(f:Int)(a:UInt8)(c:UInt32){r:Ref}{H:aa}(M:H.get r=some ⟨17,[.agg [a8 B,a8 p,bR a_3,a8 E,aI w,a8 t,bR u,a8 C,aI D,aI d,a8 b,bR j,a8 e,aI f,a8 a,bR c,x]],false,false⟩){Q:AV->aa->Prop} :
 ∀(s:List Int)(k:Nat)(i:Int),l.drop k=s->k<=l.length->i=k->(∀y,y=aB (!decide (-1∈s))->Q y H) ->
 bS env Tryz.f53 0 iR [(3,aI i),(1,.ptr r 0 0)] H Q:=by
 intro s;induction s with
 | nil=>rintro k i hs hk rfl hQ;obtain rfl:=drop_nil hs hk;refine oG _ _ _ _ λg=>?_;have J:=m.r;simp[aj, *,iW];all_goals exact hQ _ (by simp)
 | cons n s z=>
  rintro k i hs hk rfl hQ;obtain⟨I,L,o,K⟩:=drop_cons hs;refine oG _ _ _ _ λg=>?_;have O:=iQa ((k:Int)+1) (by omega);have J:=m.r;by_cases F:n = -1;·have v:=hQ (aB false) (by simp[F]);clear hQ z;simp[aj, *,iW,m.idx,rows,aR];all_goals exact v
  have A : ¬ -1=n:=λh=>F h.symm;have q:=z (k+1) ((k:Int)+1) o (by omega) (by simp) (λy G=>hQ y (by rw[G];simp[A]));clear z hQ;simp[aj, *,iW,m.idx,rows,aR];all_goals exact q
def SO(o:UInt8)(j:UInt8)(a_3:UInt32)(s:UInt8)(n:Int)(k:UInt8)(m:UInt32)(p:UInt8)(q:Int)(i:Int)(b:UInt8)(h:UInt32)(d:UInt8)(f:Int)(a:UInt8)(c:UInt32){x:AV}{l:List Int}(t:Sl 1 (rows l) x)(u:l.length<100000):ar env 53 [.agg [a8 o,a8 j,bR a_3,a8 s,aI n,a8 k,bR m,a8 p,aI q,aI i,a8 b,bR h,a8 d,aI f,a8 a,bR c,x]]=some (aB (!decide (-1∈l))):=by
 refine aF rfl (by kernel_rfl) (xw _ _ _ λg=>?_);have v:=t.r;simp[aj, *,qx];exact PQ t u o j a_3 s n k m p q i b h d f a c (by simp) l 0 _ rfl (by omega) rfl (λy e=>by simp[e])
def EI(z:UInt8)(D:UInt8)(a_3:UInt32)(C:UInt8)(J:Int)(t:UInt8)(u:UInt32)(A:UInt8)(B:Int)(h:Int)(i:UInt8)(o:UInt32)(k:UInt8)(f:Int)(b:UInt8)(j:UInt32)(G:UInt8)(H:UInt8)(K:UInt32)(s:UInt8)(E:Int)(w:UInt8)(F:UInt32)(v:UInt8)(I:Int)(p:Int)(a:UInt8)(c:UInt32)(e:UInt8)(n:Int)(d:UInt8)(q:UInt32){x y:AV}{l m:List Int}(L:Sl 1 (rows l) x)(M:Sl 1 (rows m) y)(X:l.length<1000000000)(R:m.length<1000000000):ar env 54 [.agg [a8 z,a8 D,bR a_3,a8 C,aI J,a8 t,bR u,a8 A,aI B,aI h,a8 i,bR o,a8 k,aI f,a8 b,bR j,x],.agg [a8 G,a8 H,bR K,a8 s,aI E,a8 w,bR F,a8 v,aI I,aI p,a8 a,bR c,a8 e,aI n,a8 d,bR q,y]]=some (aB (oI (⟨z,⟨D,a_3,C⟩,J,⟨⟨⟨t,u,A⟩,B⟩,h⟩,⟨⟨i,o,k⟩,f⟩,⟨b,j⟩,l⟩:fX) (⟨G,⟨H,K,s⟩,E,⟨⟨⟨w,F,v⟩,I⟩,p⟩,⟨⟨a,c,e⟩,n⟩,⟨d,q⟩,m⟩:fX))):=by
 refine aF rfl (by kernel_rfl) (yv _ _ _ _ λg=>?_);have U:=Vu L M (by omega);have V:=L.r;have N:=M.r;unfold oI;cases T:decide (z=G) with
 | false=>simp[aj, *,dF,od,gz]
 | true=>
 cases O:(decide (D=H)&&decide (a_3=K)&&decide (C=s)) with| false=>simp[aj, *,dF,od,gz]| true=>
 cases S:decide (J=E) with| false=>simp[aj, *,dF,od,gz]| true=>
 cases P:(decide (t=w)&&decide (u=F)&&decide (A=v)&&decide (B=I)&&decide (h=p)) with| false=>simp[aj, *,dF,od,gz]| true=>
 cases Q:(decide (i=a)&&decide (o=c)&&decide (k=e)&&decide (f=n)) with| false=>simp[aj, *,dF,od,gz]| true=>
 cases W:(decide (b=d)&&decide (j=q)) with| false=>simp[aj, *,dF,od,gz]| true=>simp[aj, *,dF,od,gz]
def CR{v:AV}{l:List UInt8}(j:Sl 1 (au l) v)(k:l.length=6):ar env 152 [v]=some (.agg [a8 (iD l).lv,bR (iD l).cats,a8 (iD l).num]):=by
 obtain⟨a,b,c,d,e,f,rfl⟩:=Ll k;obtain⟨t,rfl,x⟩:=nC j (by simp[au]);refine aF rfl (by kernel_rfl) (wK _ _ _ λg=>?_);have A:=b.toNat_lt;have z:=c.toNat_lt;have s:=d.toNat_lt;have o:=e.toNat_lt;have p:=iQa ((b.toNat:Int)) (by omega);have y:=iQa (256 * (b.toNat:Int)) (by omega);have m:=iQa (256 * (b.toNat:Int)+c.toNat) (by omega);have q:=iQa (256 * (256 * (b.toNat:Int)+c.toNat)) (by omega);have u:=iQa (256 * (256 * (b.toNat:Int)+c.toNat)+d.toNat) (by omega);have n:=iQa (256 * (256 * (256 * (b.toNat:Int)+c.toNat)+d.toNat)) (by omega);have w:=iQa (256 * (256 * (256 * (b.toNat:Int)+c.toNat)+d.toNat)+e.toNat) (by omega);have h:val [b,c,d,e]=256 * (256 * (256 * (b.toNat:Int)+c.toNat)+d.toNat)+e.toNat:=by simp[val,vc]
 have i:iD [a,b,c,d,e,f]=⟨a,u32 (val [b,c,d,e]),f⟩:=rfl;rw[i,h];simp[aj, *,pK];refine fq _ _ _ _ _ _ λg=>?_;simp[aj, *,dZ,au];refine fq _ _ _ _ _ _ λg=>?_;simp[aj, *,dZ,au];refine fq _ _ _ _ _ _ λg=>?_;simp[aj, *,dZ,au];refine fq _ _ _ _ _ _ λg=>?_;simp[aj, *,dZ,au];refine fq _ _ _ _ _ _ λg=>?_;simp[aj, *,dZ,au]
def VT{x0:AV}{l:List UInt8}(h:Sl 1 (au l) x0)(j:l.length=13){r:Ref}{c0:bj}{H:aa}(w:H.get r=some ⟨4,[.agg [a8 0,bR 0,a8 0,aI 0]],false,false⟩){Q:AV->aa->Prop}
 (e : ∀n,n=val (l.drop 6)->bS env Tryz.f153 0 hU [(4,aI 13),(0,x0),(3,aI n),(2,.ptr r 0 0)] H Q) :
 ∀(s:List UInt8)(k:Nat)(i a:Int),l.drop k=s->k<=l.length->i=k->6<=k->0<=a->a<256 ^ (k - 6)->vc a s=val (l.drop 6) ->
 bS env Tryz.f153 0 hU [(4,aI i),(0,x0),(3,aI a),(2,.ptr r 0 0)] H Q:=by
 intro s;induction s with
 | nil=>rintro k i a hs hk rfl h6 h0 h1 hV;obtain rfl:=drop_nil hs hk;rw[j];exact e a hV
 | cons b s f=>
  rintro k i a hs hk rfl h6 h0 h1 hV;obtain⟨o,t,c,m⟩:=drop_cons hs;have v:=b.toNat_lt;have x:(256:Int) ^ (k - 6)<=256 ^ 6:=by
   have:=qX (k:=k - 6) 6 (by omega);exact this
  refine qS _ _ _ _ _ _ λg=>?_;have q:=iQa (256 * a) (by omega);have u:=iQa (256 * a+b.toNat) (by omega);have p:=iQa ((k:Int)+1) (by omega);have lt:(k:Int)<13:=by omega
  have d:=f (k+1) ((k:Int)+1) (256 * a+b.toNat) c (by omega) (by simp) (by omega) (by omega) (by
   rw[show k+1 - 6=(k - 6)+1 by omega,vI];omega) (by rw[<-hV];rfl)
  clear f e;simp[aj, *,nf,h.idx];all_goals exact d
def Vx{v:AV}{l:List UInt8}(u:Sl 1 (au l) v)(t:l.length=13):ar env 153 [v]=some (.agg [a8 (jY l).h.lv,bR (jY l).h.cats,a8 (jY l).h.num,aI (jY l).n]):=by
 refine aF rfl (by kernel_rfl) (Ar _ _ _ λg=>?_);simp[aj, *,sZ];refine VT u t (c0:=default) (by simp) (λn w=>?_) (l.drop 6) 6 6 0 rfl (by omega) rfl (by omega) (by omega) (by simp) rfl;refine qS _ _ _ _ _ _ λg=>?_;have e:jY l=⟨iD l,n⟩:=by rw[w];rfl
 have z:iD (l.take 6)=iD l:=by
  obtain⟨a,b,c,d,e,f,g,i,j,k,m,n,o,rfl⟩:=AL t;rfl
 rw[e];clear w e;obtain⟨x,rfl,q⟩:=nC u (by simp;omega);have s:=λc q=>CR (v := .bg 1 (au (l.take 6)) c) (l:=l.take 6) (.inr ⟨c,rfl,q⟩) (by simp;omega);rw[z]at s;have A:au (l.take 6)=(au l).take 6:=by simp[au]
 rw[A]at s;have p:(au l).length=13:=by rw[fN,t]
 have y:=s x (by rw[p]at q;rw[ku,p];cases x with | none=>simp | some c=>simp at q ⊢;omega);clear s;generalize iD l=ha at *;simp[aj, *,nf]
def Sb(a b c d:UInt8):word a b c d=(if val [a,b,c,d]=4294967295 then -1 else if val [a,b,c,d]<2147483648 then val [a,b,c,d] else val [a,b,c,d] - 4294967296)/\0<=val [a,b,c,d]/\val [a,b,c,d]<4294967296:=by
 have h:=yy [a,b,c,d];simp only[gD,kS]at h;have e:val [a,b,c,d]<4294967296:=by have:=h.2;simpa using this
 refine⟨?_,h.1,e⟩;unfold word;rw[iQv];split;·omega
 split<;>omega
def adH(a b c d:UInt8):IntKind.i64.wrap (16777216 * (a.toNat:Int))=16777216 * (a.toNat:Int)/\IntKind.i64.wrap (65536 * (b.toNat:Int))=65536 * (b.toNat:Int) /\
 IntKind.i64.wrap (16777216 * (a.toNat:Int)+65536 * (b.toNat:Int))=16777216 * (a.toNat:Int)+65536 * (b.toNat:Int)/\IntKind.i64.wrap (256 * (c.toNat:Int))=256 * (c.toNat:Int) /\
 IntKind.i64.wrap (16777216 * (a.toNat:Int)+65536 * (b.toNat:Int)+256 * (c.toNat:Int))=16777216 * (a.toNat:Int)+65536 * (b.toNat:Int)+256 * (c.toNat:Int) /\
 16777216 * (a.toNat:Int)+65536 * (b.toNat:Int)+256 * (c.toNat:Int)+(d.toNat:Int)=val [a,b,c,d]/\IntKind.i64.wrap (val [a,b,c,d])=val [a,b,c,d]:=by
 have i:=a.toNat_lt;have f:=b.toNat_lt;have h:=c.toNat_lt;have g:=d.toNat_lt;have e:16777216 * (a.toNat:Int)+65536 * (b.toNat:Int)+256 * (c.toNat:Int)+(d.toNat:Int)=val [a,b,c,d]:=by simp[val,vc];omega
 exact⟨iQa _ (by omega),iQa _ (by omega),iQa _ (by omega),iQa _ (by omega),iQa _ (by omega),e,iQa _ (by omega)⟩
def PH{bs:List UInt8}{x0:AV}(B:Sl 1 (au bs) x0)(hl:bs.length<1000000)(h4:bs.length % 4=0){Q:AV->aa->Prop} :
 ∀(m k:Nat)(s:List UInt8)(i:Int)(out:List Int)(K:AV)(H:aa),bs.drop k=s->s.length=4 * m->k<=bs.length->i=k->out.length<=k->Fr H->fG [50,57] 1 (rows out) H K->(out=[]->K=aO) ->
 (∀y H',(words s).all iC=true->fG [50,57] 1 (rows (out++words s)) H' y->(out++words s=[]->y=aO)->Q (.tup [y,aI 0]) H')->((words s).all iC=false ->∀H',Q (.tup [aO,aI 8]) H') ->
 bS env Tryz.f154 0 fe [(5,aI i),(4,K),(0,x0)] H Q:=by
 intro m;induction m with
 | zero=>
  rintro k s i out K H hs G hk rfl ho hF hO hN hQ hQ2;obtain rfl:s=[]:=wU.1 (by omega);have hd:=iQg List.length hs;rw[oD,kS]at hd;have e1 : ¬((k:Int)+3<bs.length):=by omega
  have w1:=iQa ((k:Int)+3) (by omega);have e2:(bs.length:Int).tmod 4=0:=by rw[wV (by omega)];omega
  have W:=λt xo yo=>gE env.P t xo yo .i64 (bs.length:Int) 4 (by decide);rw[e2]at W;have hr:=B.r;have D:=hQ K H rfl (by simpa [words] using hO) (by simpa [words] using hN);refine jK _ _ _ _ _ λg=>?_;clear hQ hQ2 hO hN;simp[aj, *,dY];all_goals exact D
 | succ m ih=>
  rintro k s i out K H hs G hk rfl ho hF hO hN hQ hQ2;match s,G with
  | a :: b :: c :: d :: s,G=>
  simp only[gD]at G;have hd:=iQg List.length hs;rw[oD]at hd;simp only[gD]at hd;have N:bs.drop (k+4)=s:=by rw[<-po,hs];rfl
  have hw:words (a :: b :: c :: d :: s)=word a b c d :: words s:=rfl;rw[hw]at hQ hQ2;have J : ∀j,(bs.drop k)[j]?=bs[k+j]?:=λj=>Ac;rw[hs]at J;have ga:bs[k]?=some a:=(J 0).symm;have gb:bs[k+1]?=some b:=(J 1).symm;have gc:bs[k+2]?=some c:=(J 2).symm;have gd:bs[k+3]?=some d:=(J 3).symm;clear J;have w1:=iQa ((k:Int)+1) (by omega);have w2:=iQa ((k:Int)+2) (by omega);have w3:=iQa ((k:Int)+3) (by omega);have w4:=iQa ((k:Int)+4) (by omega);have l1:(k:Int)<bs.length/\(k:Int)+1<bs.length/\(k:Int)+2<bs.length/\(k:Int)+3<bs.length:=by omega
  have l2:0<=(k:Int)/\0<=(k:Int)+1/\0<=(k:Int)+2/\0<=(k:Int)+3:=(by omega);have l3:((k:Int)+1).toNat=k+1/\((k:Int)+2).toNat=k+2/\((k:Int)+3).toNat=k+3:=(by omega);have f1:out.length+1<=35184372088832:=(by omega);have f2:(out.length+1) * 4<=140737488355328:=(by omega);have a1:k+4<=bs.length:=(by omega);have a2:(out++[word a b c d]).length<=k+4:=by simp;omega
  have a3:s.length=4 * m:=(by omega);obtain⟨v1,v2,v3,v4,v5,eV,v6⟩:=adH a b c d;obtain⟨u,u0,u1⟩:=Sb a b c d;have l1:(k:Int)<bs.length/\(k:Int)+1<bs.length/\(k:Int)+2<bs.length/\(k:Int)+3<bs.length:=by omega
  have l2:0<=(k:Int)/\0<=(k:Int)+1/\0<=(k:Int)+2/\0<=(k:Int)+3:=(by omega);have l3:((k:Int)+1).toNat=k+1/\((k:Int)+2).toNat=k+2/\((k:Int)+3).toNat=k+3:=(by omega);have hr:=B.r;have S:=λq H'=>ih (k+4) s ((k:Int)+4) (out++[word a b c d]) q H' N a3 a1 (by simp) a2;have o : ∀(t g m:Nat)(H':aa),t=50\/t=57->m=out.length+1->H'.get ⟨0,t,g,0⟩=some ⟨1,rows out++[aR (word a b c d)],true,false⟩->fG [50,57] 1 (rows (out++[word a b c d])) H' (.bk ⟨0,t,g,0⟩ 0 m none):=by
   intro t g m H' x G h;subst G;have e:rows (out++[word a b c d])=rows out++[aR (word a b c d)]:=by simp[rows]
   rw[e];exact .inr ⟨t,g,by simpa using x,by simp,h⟩
  have n:iC (word a b c d)=true ->∀q H',Fr H'->fG [50,57] 1 (rows (out++[word a b c d])) H' q->bS env Tryz.f154 0 fe [(5,aI ((k:Int)+4)),(4,q),(0,x0)] H' Q:=λz q H' U hO'=>S q H' U hO' (λe=>by simp at e)
   (λy H' V h2 h3=>hQ y H' (by simp[z,V]) (by simpa using h2) (λe=>by simp at e)) (λV H'=>hQ2 (by simp[z,V]) H')
  have f:iC (word a b c d)=false ->∀H',Q (.tup [aO,aI 8]) H':=λz H'=>hQ2 (by simp[z]) H';clear a1 a2 a3 S hQ hQ2 ih hs N hw hd G hl;generalize words s=ws at *;by_cases C:val [a,b,c,d]=4294967295
  ·have T:word a b c d = -1:=(by rw[u,if_pos C]);rw[T]at o n f;have p:=n (by decide);clear n f u;refine jK _ _ _ _ _ λg=>?_;rcases hO with ⟨rfl,Y⟩ | ⟨t,Z,x,rfl,F⟩
   ·have E:out=[]:=(by simpa using Y);subst E;have l:=o 50 (H.gen 0 50) 1;clear o;simp[aj, *,dY,B.idx];exact p _ _ (by simp(maxDischargeDepth:=12) [dU, *]) (l _ (.inl rfl) rfl (by simp[aR]))
   have l6:(H.get ⟨0,t,Z,0⟩).isSome=true:=by rw[F];rfl
   have A:t=50\/t=57:=(by simpa using x);have I:t≠49:=by rintro rfl;simp at x
   have L : ¬49=t:=λe=>I e.symm;have f4:kL 1 4 out.length true none (some ⟨1,rows out,true,false⟩) (some [.v (.int .i32 (-1))]):=(by rw[aq];refine⟨rfl,by simp,.inr ⟨?_,rfl⟩⟩;simpa using f2);have l:=λm H'=>o t (H.gen 0 t) m H' A;clear o x;simp[aj, *,dY,B.idx];exact p _ _ (by simp(maxDischargeDepth:=12) [dU, *]) (l _ _ (by simp) (by simp[aR]))
  cases O:uH (val [a,b,c,d]) with| false=>have hq:iC (word a b c d)=false:=(by rw[u,if_neg C];simp only[uH,OP,Gv,iQc]at O;simp only[iC,OP,Gv,iQc];split<;>omega);have D:=f hq H;have X:=VB (val [a,b,c,d]);rw[O]at X;clear n o f u hq hO hN;refine jK _ _ _ _ _ λg=>?_;simp[aj, *,dY,B.idx];all_goals exact D| true=>
   have z:val [a,b,c,d]<2147483648/\iC (val [a,b,c,d])=true:=(by simp only[uH,jH,bo,iQb]at O;simp only[iC,jH,bo,iQb];omega);have T:word a b c d=val [a,b,c,d]:=(by rw[u,if_neg C,if_pos z.1]);rw[T]at o n f;have p:=n z.2;have X:=VB (val [a,b,c,d]);rw[O]at X;have M:IntKind.i32.wrap (val [a,b,c,d])=val [a,b,c,d]:=by rw[iQv];omega
   have R:=λ(g:cV)(r:Ref)=>o5 (P:=env.P) (g:=g) (r:=r) (src:=3) (dst:=21) .i32 (k' := .i64) (by kernel_rfl) (by kernel_rfl) (val [a,b,c,d]);rw[M]at R;clear n f u z T O M;generalize val [a,b,c,d]=w at *;refine jK _ _ _ _ _ λg=>?_;rcases hO with ⟨rfl,Y⟩ | ⟨t,Z,x,rfl,F⟩
   ·have E:out=[]:=(by simpa using Y);subst E;have l:=o 57 (H.gen 0 57) 1;clear o;simp[aj, *,dY,B.idx];exact p _ _ (by simp(maxDischargeDepth:=12) [dU, *]) (l _ (.inr rfl) rfl (by simp[aR]))
   have l6:(H.get ⟨0,t,Z,0⟩).isSome=true:=by rw[F];rfl
   have A:t=50\/t=57:=(by simpa using x);have I:t≠56:=by rintro rfl;simp at x
   have L : ¬56=t:=λe=>I e.symm;have f4:kL 1 4 out.length true none (some ⟨1,rows out,true,false⟩) (some [.v (.int .i32 w)]):=(by rw[aq];refine⟨rfl,by simp,.inr ⟨?_,rfl⟩⟩;simpa using f2);have l:=λm H'=>o t (H.gen 0 t) m H' A;clear o x;simp[aj, *,dY,B.idx];exact p _ _ (by simp(maxDischargeDepth:=12) [dU, *]) (l _ _ (by simp) (by simp[aR]))
end
section
attribute [local simp] aK az ak ay ax bD kj aM aq aA bA bw aJ aL af aW dq
attribute [local simp] BJ bsO dp
@[simp] def YL(n:Int)(b:0<=n):ar env 44 [aI n,aI 4]=some (.bg 1 (au (be 4 n)) none):=by
 refine aF rfl (by kernel_rfl) (ye _ _ _ _ λg=>?_);have a:IntKind.i64.wrap (-1) = -1:=rfl;have c:IntKind.i64.wrap 0=0:=rfl;simp[aj, *,tE];refine eQ _ _ _ _ _ λg=>?_;simp[aj, *,dX,cK,cF];refine eQ _ _ _ _ _ λg=>?_;simp[aj, *,dX,cK,cF];refine eQ _ _ _ _ _ λg=>?_;simp[aj, *,dX,cK,cF];refine eQ _ _ _ _ _ λg=>?_;simp[aj, *,dX,cK,cF];refine eQ _ _ _ _ _ λg=>?_;simp[aj, *,dX,uu,au]
@[simp] def YM(n:Int)(b:0<=n):ar env 44 [aI n,aI 3]=some (.bg 1 (au (be 3 n)) none):=by
 refine aF rfl (by kernel_rfl) (ye _ _ _ _ λg=>?_);have a:IntKind.i64.wrap (-1) = -1:=rfl;have c:IntKind.i64.wrap 0=0:=rfl;simp[aj, *,tE];refine eQ _ _ _ _ _ λg=>?_;simp[aj, *,dX,cK,cF];refine eQ _ _ _ _ _ λg=>?_;simp[aj, *,dX,cK,cF];refine eQ _ _ _ _ _ λg=>?_;simp[aj, *,dX,cK,cF];refine eQ _ _ _ _ _ λg=>?_;simp[aj, *,dX,QG,au]
def Pv{d:AV}{Q:AV->aa->Prop}{l:List UInt8}(f:Sl 1 (au l) d)(u:l.length<=7) : ∀(s:List UInt8)(k:Nat)(i a:Int)(H:aa),l.drop k=s->k<=l.length->i=k->0<=a->a<256 ^ k ->
 (∀y H',y=aI (vc a s)->Q y H') ->
 bS env Tryz.f90 0 o9 [(7,aI i),(2,aI a),(5,d),(6,aI l.length)] H Q:=by
 intro s;induction s with
 | nil=>rintro k i a H hs hk rfl h0 h1 hQ;obtain rfl:=drop_nil hs hk;refine yd _ _ _ _ _ _ λg=>?_;simp[aj, *,tD];exact hQ _ _ rfl
 | cons b s h=>rintro k i a H hs hk rfl h0 h1 hQ;obtain⟨m,o,c,j⟩:=drop_cons hs;refine yd _ _ _ _ _ _ λg=>?_;have n:=b.toNat_lt;have q:=qX (k:=k) 6 (by omega);have e:=Gk h0 (by omega) b;have t:=iQa (a * 256) (by omega);have p:=iQa ((k:Int)+1) (by omega);simp[aj, *,tD,yM,f.idx];exact h (k+1) _ _ _ c (by omega) (by simp) (by omega) (by rw[vI];omega) hQ
@[simp] def Ln{x:AV}{l:List UInt8}(a:Sl 1 (au l) x)(b:l.length<=7):ar env 90 [x]=some (aI (val l)):=by
 refine aF rfl (by kernel_rfl) (Hj _ _ _ λg=>?_);have h:=a.len;simp[aj, *,Bk];exact Pv a b l 0 _ _ _ rfl (by omega) rfl (by omega) (by simp) (λy H' e=>by simp[e,val])
def kW(st nu a of:Int):Bool:=decide (1<=st)&&decide (st<2147483648)&&decide (1<=nu)&&decide (nu<16777216)&&decide (1<=of)&&decide (of<=4)&&decide (0<=a)&&decide (a<of)
@[simp] def agl(st nu a of:Int):ar env 41 [.agg [aI st,aI nu,aI a,aI of]]=some (aB (kW st nu a of)):=by
 refine aF rfl (by kernel_rfl) (Jn _ _ _ λg=>?_);simp[aj, *,Cv];repeat' ((first | apply si<;>intro h | apply nL<;>intro h | apply nM<;>intro h | apply nJ<;>intro h | apply nK<;>intro h)<;>(try simp only[iQb,iQc,iB,qQ,bo,jH]at h)<;>(try simp[aj, *,kW]))
 all_goals (try (simp[kW];omega))
structure Hd where
 st:Int
 nu:Int
 ix:Int
 of:Int
deriving DecidableEq
def Hd.val(h:Hd):AV := .agg [aI h.st,aI h.nu,aI h.ix,aI h.of]
def dk(b:List UInt8):Hd:=⟨Ab.val (b.take 4),Ab.val ((b.drop 4).take 3),(b.getD 7 0).toNat,(b.getD 8 0).toNat⟩
def iy(b:List UInt8):Bool:=decide (b.length=128)&&kW (dk b).st (dk b).nu (dk b).ix (dk b).of
def J6{x:AV}{b:List UInt8}(f:Sl 1 (au b) x):ar env 60 [x]=some (if iy b then .tup [(dk b).val,aI 0] else .tup [(⟨0,0,0,0⟩:Hd).val,aI 8]):=by
 refine aF rfl (by kernel_rfl) (Hl _ _ _ λg=>?_);have k:=f.r;unfold iy;by_cases n:b.length=128
 ·have e:(b.length:Int)=128:=by omega
  obtain⟨d,rfl,a⟩:=nC f (by simp;omega);rw[fN]at a;have r4:=λc=>Ln (x := .bg 1 (au (b.take 4)) c) (l:=b.take 4);have r3:=λc=>Ln (x := .bg 1 (au ((b.drop 4).take 3)) c) (l:=(b.drop 4).take 3);have r4:=r4 d (by rw[XL];cases d<;>simp at a ⊢ <;> omega) (by simp;omega);have r3:=r3 (d.map (· - 4)) (by rw[XL];cases d<;>simp at a ⊢ <;> omega) (by simp;omega);have i:b.getD 7 0=b[7]'(by omega):=by rw[iQy,dI (by omega)];rfl
  have h:b.getD 8 0=b[8]'(by omega):=by rw[iQy,dI (by omega)];rfl
  unfold Hd.val dk;rw[i,h];clear i h;have j:(4:Int)<=d.getD b.length:=by omega
  cases m:kW (Ab.val (b.take 4)) (Ab.val ((b.drop 4).take 3)) (b[7]'(by omega)).toNat (b[8]'(by omega)).toNat with| false=>simp[aj, *,su,IY,D3]| true=>simp[aj, *,su,IY,D3]
 have e : ¬(b.length:Int)=128:=by omega
 simp[aj, *,su,Hd.val]
def FP{P:Program}{t t':TypeId}(u:oT P t=true)(c:isInt P t'=true)(p:(eT P t).cells.all AV.one=true){H:aa}{r q:Ref}{es:List AV}{fz:Bool}(v:H.get q=some ⟨jw P t,es,true,fz⟩)(n:Nat)(B:(n:Int)<=aJ)(x:(es.length+n) * oe P t<=aJ) :
 dm P true H r (some t) (some t') (.bk q 0 es.length none) (aI n)=if n=0 then some (.bk q 0 es.length none,H) else some (.bk ⟨q.d,q.t,H.gen q.d q.t,0⟩ 0 (es.length+n) none,(⟨q.d,q.t,H.gen q.d q.t,0⟩,some ⟨jw P t,es++List.replicate n (eT P t),true,fz⟩) :: H.put q none):=by
 unfold oT at u;obtain⟨e,zz,l,m,y,f,g,F,o,k⟩:=gJ u;have D:eT P t=zz:=by unfold eT;rw[l,eD,f];rfl
 rw[D]at p ⊢;have i:(P.underlying t').isNone=false:=by
  unfold isInt at c;cases h:P.underlying t' with
  | none=>rw[h]at c;cases c
  | some d=>rfl
 have A : ¬((P.underlying t').isNone=true\/isInt P t'≠isNum (aI n)):=by rw[i,c];simp[isNum]
 have hd : ¬(jw P t≠jw P t\/jw P t=0\/oe P t=0\/zz.cells.length≠jw P t):=by simp[g,o,k]
 have a:mK P H.get e (aI n)=some (jw P t,List.replicate n zz):=by
  show(match eu P e,aE P e with | some w,some z=>if 0<=(n:Int)/\(n:Int)<=aJ/\w.cells.length=z/\w.cells.all AV.one then some (z,List.replicate (n:Int).toNat w) else none | _,_=>none)=_;rw[f,m];exact if_pos ⟨by omega,B,by simp[g,o,k],p⟩
 have s : ¬(jw P t≠jw P t\/true=false):=by simp
 by_cases b:n=0;·subst b;simp only[dm,eG,eD,l,Option.map_some,cB,if_neg A,m,y,f,a,if_neg hd,v,if_neg s,KR,if_true];rfl
 have C:List.replicate n zz≠[]:=(by intro h;have:=iQg List.length h;simp only[AA,kS]at this;omega);have j : ¬(jw P t≠jw P t\/jw P t=0\/oe P t=0\/List.replicate n zz=[]\/zz.cells.length≠jw P t):=(by simp[g,o,k,b]);have E:(0=0/\true=true/\jw P t=jw P t/\es.length=es.length/\(es.length+(List.replicate n zz).length) * oe P t<=aJ):=⟨rfl,rfl,rfl,rfl,by rw[AA];exact x⟩;rw[if_neg b];simp only[dm,eG,j9,eD,l,Option.map_some,cB,if_neg A,m,y,f,a,if_neg hd,if_neg j,if_neg C,v,if_neg s,AA,iQs,if_pos x];rfl
def nk(st nu of i:Int)(x:List UInt8):List UInt8:=be 4 st++(be 3 nu++([u8 i,u8 of]++(x++List.replicate (119 - x.length) 0)))
def qW(st nu of:Int):Int->List (List UInt8)->List (List UInt8)
 | _,[]=>[]
 | i,x :: xs=>nk st nu of i x :: qW st nu of (i+1) xs
def ES:Nat->List UInt8->List (List UInt8)
 | 0,_=>[]
 | m+1,s=>if s=[] then [] else s.take 119 :: ES m (s.drop 119)
def I2(b:List UInt8):AV := .bg 1 (au b) none
def dE(l:List (List UInt8)):List AV:=l.map I2
@[simp] def vA(l:List (List UInt8)):(dE l).length=l.length:=by simp[dE]
def C2(l:List (List UInt8))(b:List UInt8):dE l++[AV.bg 1 (au b) none]=dE (l++[b]):=by simp[dE,I2]
def YR(st nu of i:Int)(x:List UInt8)(a:Option Nat)(b:x.length<=a.getD x.length)(c:x.length<=119):ar env 43 [.bg 1 [.bg 1 (au (be 4 st)) none,.bg 1 (au (be 3 nu)) none,.bg 1 [a8 (u8 i),a8 (u8 of)] (some 2),.bg 1 (au x) a] (some 4)] =
 some (.fsl 1 (au (be 4 st++(be 3 nu++([u8 i,u8 of]++x)))) none):=by
 have e:la [(be 4 st,AV.bg 1 (au (be 4 st)) none),(be 3 nu,.bg 1 (au (be 3 nu)) none),([u8 i,u8 of],.bg 1 [a8 (u8 i),a8 (u8 of)] (some 2)),(x,.bg 1 (au x) a)]=be 4 st++(be 3 nu++([u8 i,u8 of]++x)):=by
  simp only[la,mz,Er,rI]
 rw[<-e];refine HP (ps:=[(be 4 st,AV.bg 1 (au (be 4 st)) none),(be 3 nu,.bg 1 (au (be 3 nu)) none),([u8 i,u8 of],.bg 1 [a8 (u8 i),a8 (u8 of)] (some 2)),(x,.bg 1 (au x) a)]) (.inr ⟨some 4,rfl,by simp⟩) ?_ (by simp) (by rw[e];simp;omega) (by rw[e];simp;omega);intro p hp;simp only[fh,zi,iQu]at hp;rcases hp with rfl | rfl | rfl | rfl
 ·exact Sl.mk _ _
 ·exact Sl.mk _ _
 ·exact .inr ⟨some 2,rfl,by simp⟩
 exact Sl.ZD (by simpa using b)
structure Jc (r r6 r10 r5 r4:Ref) (info:AV) (st nu of:Int) (H:aa) (out:List (List UInt8)):Prop where
 fr:Fr H
 mark:H.get r=some (ei 0 info)
 ne:r6≠r/\r10≠r/\r5≠r/\r4≠r/\r10≠r6/\r5≠r6/\r4≠r6
 b10:H.get r10=some ⟨1,[aI of],false,false⟩
 b5:H.get r5=some ⟨1,[aI nu],false,false⟩
 b4:H.get r4=some ⟨1,[aI st],false,false⟩
 box:(H.get r6=some ⟨1,[aO],false,false⟩/\out=[]) \/∃q:Ref,q.d=2/\q.t=56/\q.k=0/\q≠r/\q≠r6/\q≠r10/\q≠r5/\q≠r4/\H.get r6=some ⟨1,[.bk q 0 out.length none],false,false⟩/\H.get q=some ⟨1,dE out,true,false⟩/\0<out.length
def Zk(st nu of i:Int)(x:List UInt8):be 4 st++(be 3 nu++([u8 i,u8 of]++x))++List.replicate (119 - x.length) 0=nk st nu of i x:=by
 simp[nk]
def Tj{r r6 r10 r5 r4:Ref}{tm:List AV}{H:aa}{st nu of:Int}{out:List (List UInt8)}(h0:0<=st)(U:0<=nu)(t6:df tm 6 = .ptr r6 0 0)(Y:df tm 10 = .ptr r10 0 0)(t5:df tm 5 = .ptr r5 0 0)(t4:df tm 4 = .ptr r4 0 0)
 (L:Jc r r6 r10 r5 r4 (.lp 0 58 [35] bt bq tm) st nu of H out) (R:out.length<1000000) (x:List UInt8) (T:x.length<=119) (i:Option Nat) (j:x.length<=i.getD x.length) :
 ∃y H',dg env 1 (.yld r) [.bg 1 (au x) i] H=some (y,H')/\(y=aB true/\Jc r r6 r10 r5 r4 (.lp 0 58 [35] bt bq tm) st nu of H' (out++[nk st nu of out.length x])):=by
 refine Kk (fn:=Tryz.f22) (dep:=1) L.mark (by kernel_rfl) rfl rfl (by kernel_rfl) (by kernel_rfl) ?_;rw[<-Dz (s:=df (vT tm [35] [.bg 1 (au x) i])) (l:=[(6,.ptr r6 0 0),(10,.ptr r10 0 0),(5,.ptr r5 0 0),(4,.ptr r4 0 0),(35,.bg 1 (au x) i)]) (by
  intro p hp;simp only[fh,zi,iQu]at hp;rcases hp with rfl | rfl | rfl | rfl | rfl<;>(show df (CP tm 35 _) _=_;rw[ti];simp[*]))]
 refine(BN r _ _ _ _ _ _ _ λg=>?_).h _;obtain⟨fr,mark,⟨n1,n2,z,v,D,u,A⟩,b10,b5,b4,box⟩:=L;have m1:=n1.symm;have m2:=n2.symm;have m3:=z.symm;have m4:=v.symm;have m5:=D.symm;have m6:=u.symm;have m7:=A.symm;have l1:(H.get r).isSome=true:=by rw[mark];rfl
 have l10:(H.get r10).isSome=true:=by rw[b10];rfl
 have l5:(H.get r5).isSome=true:=by rw[b5];rfl
 have l4:(H.get r4).isSome=true:=by rw[b4];rfl
 have k4:=YL st h0;have k3:=YM nu U;have k:=YR st nu of out.length x i j T;have M:=Zk st nu of out.length x;have f:(be 4 st++(be 3 nu++([u8 (out.length:Int),u8 of]++x))).length=9+x.length:=by simp;omega
 generalize be 4 st++(be 3 nu++([u8 (out.length:Int),u8 of]++x))=B at *;have N:IntKind.i64.wrap (128 - (9+(x.length:Int)))=((119 - x.length:Nat):Int):=by rw[iQa _ (by omega)];omega
 have e:=FP (P:=env.P) (t:=57) (t':=3) (by kernel_rfl) (by kernel_rfl) (by kernel_rfl) (H:=({ d:=2,t:=48,g:=H.gen 2 48},some { esz:=1,es:=au B,arr:=true,gR:=false}) :: H.put r (some (ei 1 (AV.lp 0 58 [35] bt bq tm)))) (r:=⟨2,54,H.gen 2 54,0⟩) (q:=⟨2,48,H.gen 2 48,0⟩) (es:=au B) (fz:=false) (by simp) (119 - x.length) (by simp[aJ];omega) (by rw[show oe env.P 57=1 from by kernel_rfl];simp[aJ];omega);rw[fN,f,show jw env.P 57=1 from by kernel_rfl,show eT env.P 57=a8 0 from by kernel_rfl]at e;have a:au B++List.replicate (119 - x.length) (a8 0)=au (nk st nu of out.length x):=by rw[<-M];simp[au]
 clear M j;rcases box with ⟨w,rfl⟩ | ⟨q,K,S,J,W,p2,p3,V,X,w,hq,Q⟩
 ·have Z:(H.get r6).isSome=true:=by rw[w];rfl
  rw[show u8 (([]:List (List UInt8)).length:Int)=0 from rfl]at k;have O:dE ([]++[nk st nu of ((([]:List (List UInt8)).length:Nat):Int) x])=[AV.bg 1 (au (nk st nu of ((([]:List (List UInt8)).length:Nat):Int) x)) none]:=rfl;have b : ∀H':aa,Fr H'->H'.get r=some (ei 0 (AV.lp 0 58 [35] bt bq tm))->H'.get r10=some ⟨1,[aI of],false,false⟩->H'.get r5=some ⟨1,[aI nu],false,false⟩->H'.get r4=some ⟨1,[aI st],false,false⟩ ->
   H'.get r6=some ⟨1,[.bk ⟨2,56,H.gen 2 56,0⟩ 0 1 none],false,false⟩->H'.get ⟨2,56,H.gen 2 56,0⟩=some ⟨1,[AV.bg 1 (au (nk st nu of ((([]:List (List UInt8)).length:Nat):Int) x)) none],true,false⟩ ->
   Jc r r6 r10 r5 r4 (AV.lp 0 58 [35] bt bq tm) st nu of H' ([]++[nk st nu of ((([]:List (List UInt8)).length:Nat):Int) x]):=λH' o F I n G E C=>
   ⟨o,F,⟨n1,n2,z,v,D,u,A⟩,I,n,G,.inr ⟨⟨2,56,H.gen 2 56,0⟩,rfl,rfl,rfl,by simp(maxDischargeDepth:=12) [dU, *],by simp(maxDischargeDepth:=12) [dU, *],by simp(maxDischargeDepth:=12) [dU, *],by simp(maxDischargeDepth:=12) [dU, *],by simp(maxDischargeDepth:=12) [dU, *],E,by rw[O];exact C,by simp⟩⟩
  clear O;by_cases c:x.length=119;·rw[if_pos (by omega),c,show 9+119=128 from rfl,show(((119 - 119:Nat)):Int)=0 from rfl]at e;rw[c]at f N;rw[c,pV,KR,rI]at a;rw[<-a]at b;clear a;simp[aj, *,kC,rY,aa.ab];refine⟨_,rfl,b _ ?_ ?_ ?_ ?_ ?_ ?_ ?_⟩<;>simp(maxDischargeDepth:=12) [dU, *]
  rw[if_neg (by omega),a,show 9+x.length+(119 - x.length)=128 by omega]at e;have m:(au (nk st nu of ((([]:List (List UInt8)).length:Nat):Int) x)).length=128:=by rw[<-a];simp;omega
  clear a;generalize au (nk st nu of ((([]:List (List UInt8)).length:Nat):Int) x)=BB at *;simp[aj, *,kC,rY,aa.ab];refine⟨_,rfl,b _ ?_ ?_ ?_ ?_ ?_ ?_ ?_⟩<;>simp(maxDischargeDepth:=12) [dU, *]
 have Z:(H.get r6).isSome=true:=by rw[w];rfl
 have l7:(H.get q).isSome=true:=by rw[hq];rfl
 have s1:=W.symm;have s2:=p2.symm;have s3:=p3.symm;have s4:=V.symm;have s5:=X.symm;obtain⟨qd,qt,qg,qk⟩:=q;simp only at K S J;subst K S J;have f1:out.length+1<=17592186044416:=by omega
 have f2:(out.length+1) * 24<=140737488355328:=(by omega);have b : ∀H':aa,Fr H'->H'.get r=some (ei 0 (AV.lp 0 58 [35] bt bq tm))->H'.get r10=some ⟨1,[aI of],false,false⟩->H'.get r5=some ⟨1,[aI nu],false,false⟩->H'.get r4=some ⟨1,[aI st],false,false⟩ ->
  H'.get r6=some ⟨1,[.bk ⟨2,56,H.gen 2 56,0⟩ 0 (out.length+1) none],false,false⟩->H'.get ⟨2,56,H.gen 2 56,0⟩=some ⟨1,dE out++[AV.bg 1 (au (nk st nu of out.length x)) none],true,false⟩ ->
  Jc r r6 r10 r5 r4 (AV.lp 0 58 [35] bt bq tm) st nu of H' (out++[nk st nu of out.length x]):=λH' o F I n G E C=>
  ⟨o,F,⟨n1,n2,z,v,D,u,A⟩,I,n,G,.inr ⟨⟨2,56,H.gen 2 56,0⟩,rfl,rfl,rfl,by simp(maxDischargeDepth:=12) [dU, *],by simp(maxDischargeDepth:=12) [dU, *],by simp(maxDischargeDepth:=12) [dU, *],by simp(maxDischargeDepth:=12) [dU, *],by simp(maxDischargeDepth:=12) [dU, *],by rw[E];simp,by rw[C,C2],by simp⟩⟩
 by_cases c:x.length=119;·rw[if_pos (by omega),c,show 9+119=128 from rfl,show(((119 - 119:Nat)):Int)=0 from rfl]at e;rw[c]at f N;rw[c,pV,KR,rI]at a;rw[<-a]at b;clear a;simp[aj, *,kC,rY,aa.ab];refine⟨_,rfl,b _ ?_ ?_ ?_ ?_ ?_ ?_ ?_⟩<;>simp(maxDischargeDepth:=12) [dU, *]
 rw[if_neg (by omega),a,show 9+x.length+(119 - x.length)=128 by omega]at e;have m:(au (nk st nu of out.length x)).length=128:=by rw[<-a];simp;omega
 clear a;generalize au (nk st nu of out.length x)=BB at *;simp[aj, *,kC,rY,aa.ab];refine⟨_,rfl,b _ ?_ ?_ ?_ ?_ ?_ ?_ ?_⟩<;>simp(maxDischargeDepth:=12) [dU, *]
end
section
attribute [local simp] aK az ak ay ax bD kj aM aq aA bA bw aJ aL af aW dq
@[simp] def aiy(m:Nat):ES m []=[]:=by cases m<;>rfl
def Nm{r r6 r10 r5 r4:Ref}{tm:List AV}{st nu of:Int}(N:0<=st)(G:0<=nu)(I:df tm 6 = .ptr r6 0 0)(u:df tm 10 = .ptr r10 0 0)(J:df tm 5 = .ptr r5 0 0)(E:df tm 4 = .ptr r4 0 0)
 {bs:List UInt8} {x:AV} (v:Sl 1 (au bs) x) (Z:bs.length<100000) {Q:AV->aa->Prop} :
 ∀(m k:Nat)(s:List UInt8)(i:Int)(out:List (List UInt8)) (H:aa),bs.drop k=s->s.length<=119 * m->k<200000->i=k->out.length<=k ->
 Jc r r6 r10 r5 r4 (.lp 0 58 [35] bt bq tm) st nu of H out ->
 (∀y H',Jc r r6 r10 r5 r4 (.lp 0 58 [35] bt bq tm) st nu of H' (out++qW st nu of out.length (ES m s))->Q y H') ->
 bS env Tryz.f71 (0+1) cW [(2,.iptr 1 [aI 119] 0 0),(4,aI i),(1,.iptr 1 [x] 0 0),(0,.yld r)] H Q:=by
 intro m;have nil : ∀(m k:Nat)(out:List (List UInt8)) (H:aa),bs.drop k=[] ->
  (∀y H',Jc r r6 r10 r5 r4 (.lp 0 58 [35] bt bq tm) st nu of H' (out++qW st nu of out.length (ES m []))->Q y H')->Jc r r6 r10 r5 r4 (.lp 0 58 [35] bt bq tm) st nu of H out ->
  bS env Tryz.f71 (0+1) cW [(2,.iptr 1 [aI 119] 0 0),(4,aI k),(1,.iptr 1 [x] 0 0),(0,.yld r)] H Q:=by
  intro m k out H c d f;have hd:=iQg List.length c;rw[oD,kS]at hd;have F : ¬(k:Int)<bs.length:=by omega
  have C:=v.r;refine dR _ _ _ _ _ _ _ λg=>?_;simp[aj, *,cX];exact d _ _ (by simpa [qW] using f)
 induction m with
 | zero=>rintro k s i out H c hm hk rfl ho f d;obtain rfl:s=[]:=wU.1 (by omega);exact nil 0 k out H c d f
 | succ m D=>
  rintro k s i out H c hm hk rfl ho f d;by_cases j:s=[];·subst j;exact nil (m+1) k out H c d f
  have hd:=iQg List.length c;rw[oD]at hd;have B:0<s.length:=Da.2 j;have q:0<(au bs).length:=by simp;omega
  obtain⟨z,rfl,l⟩:=nC v q;rw[fN]at l;have t:bs.drop (k+119)=s.drop 119:=by rw[<-po,c]
  have S:(k:Int)<bs.length:=(by omega);have n:ES (m+1) s=s.take 119 :: ES m (s.drop 119):=(by rw[ES,if_neg j]);rw[n]at d;clear nil n;have K:(au bs).drop k=au s:=by rw[D3,c]
  have V:=iQa ((k:Int)+119) (by omega);obtain⟨y,H',A,rfl,o⟩:=Tj N G I u J E f (by omega) (s.take 119) (by simp;omega) (some (min 119 s.length)) (by simp);have e : ∀(y:AV)(b:aa),Jc r r6 r10 r5 r4 (.lp 0 58 [35] bt bq tm) st nu of b ((out++[nk st nu of out.length (s.take 119)])++qW st nu of (out++[nk st nu of out.length (s.take 119)]).length (ES m (s.drop 119)))->Q y b:=λy b h=>d y b (by
   rw[qP,ja]at h;simpa [qW] using h)
  have M:=D (k+119) (s.drop 119) ((k:Int)+119) (out++[nk st nu of out.length (s.take 119)]) H' t (by rw[oD];omega) (by omega) (by simp) (by simp;omega) o e;clear D d e f o;by_cases w:s.length<119
  ·have a:min 119 s.length=s.length:=(by omega);have p:s.take 119=s:=dq (by omega);rw[a,p]at A;have c0:k<=bs.length:=by omega
   have U:(s.length:Int)<119:=(by omega);have O:IntKind.i64.wrap ((k:Int)+(s.length:Int))=bs.length:=by rw[iQa _ (by omega)];omega
   have P:(k:Int)<=bs.length:=(by omega);have L:(bs.length:Int)<=z.getD bs.length:=(by omega);refine dR _ _ _ _ _ _ _ λg=>?_;clear l;simp[aj, *,cX,Bb]
  have a:min 119 s.length=119:=(by omega);rw[a]at A;have c0:k<=bs.length:=by omega
  have L : ¬(s.length:Int)<119:=(by omega);have R:(k:Int)+119<=z.getD bs.length:=(by omega);have T:(k:Int)+119<=bs.length:=(by omega);have Y:((k:Int)+119).toNat - k=119:=(by omega);have W:List.take 119 (au s)=au (s.take 119):=IY _ _;have X:(k:Int)<=k+119:=by omega
  refine dR _ _ _ _ _ _ _ λg=>?_;clear l;simp[aj, *,cX,Bb]
def PR{r r6 r10 r5 r4:Ref}{tm:List AV}{st nu of:Int}(j:0<=st)(e:0<=nu)(i:df tm 6 = .ptr r6 0 0)(a:df tm 10 = .ptr r10 0 0)(k:df tm 5 = .ptr r5 0 0)(d:df tm 4 = .ptr r4 0 0)
 {bs:List UInt8} {x:AV} (b:Sl 1 (au bs) x) (n:bs.length<100000) {m:Nat} (l:bs.length<=119 * m) {H:aa}
 (f:Jc r r6 r10 r5 r4 (.lp 0 58 [35] bt bq tm) st nu of H []) :
 ∃y H',dg env 0 (.fn 71) [.yld r,.iptr 1 [x] 0 0,.iptr 1 [aI 119] 0 0] H=some (y,H')/\Jc r r6 r10 r5 r4 (.lp 0 58 [35] bt bq tm) st nu of H' (qW st nu of 0 (ES m bs)):=by
 refine qn (fn:=Tryz.f71) (c:=mU) (by kernel_rfl) (by kernel_rfl) (by kernel_rfl) (by kernel_rfl) (by kernel_rfl) ?_;refine mD _ _ _ _ _ _ λg=>?_;simp[aj, *,jF];exact Nm j e i a k d b n m 0 bs _ [] H rfl l (by omega) rfl (by simp) f (λy H' h=>by simpa using h)
def acH:kz = .code (.rangeFunc (.tmp 34) #[35] bt bq) :: uV:=by kernel_rfl
def Ps{bs:List UInt8}{x:AV}(a:Sl 1 (au bs) x):ar env 42 [x,aI 119]=some (.fn (.func 71) [] [.iptr 1 [x] 0 0,.iptr 1 [aI 119] 0 0]):=by
 refine aF rfl (by kernel_rfl) (nQ _ _ _ _ λg=>?_);have b:=a.r;simp[aj, *,kp]
def dw.val(r:dw)(x:AV):AV := .agg [a8 r.kind,aI r.user,a8 r.op.kind,a8 r.op.h.lv,bR r.op.h.cats,a8 r.op.h.num,aI r.op.serial,a8 r.op.s.f.h.lv,bR r.op.s.f.h.cats,a8 r.op.s.f.h.num,aI r.op.s.f.n,aI r.op.s.many,
 a8 r.op.a.h.lv,bR r.op.a.h.cats,a8 r.op.a.h.num,aI r.op.a.n,a8 r.op.to.lv,bR r.op.to.cats,x,aI r.code,aI r.gu,a8 r.gv,bR r.gc,aB r.gok]
def bK(r:dw)(st nu:Int):List (List UInt8):=qW st nu (fj r) 0 (ES 3 (mH r))
def Rv(r:dw)(st nu:Int):AV:=if bT r then (if kW st nu 0 (fj r) then .tup [.bg 1 (dE (bK r st nu)) none,aI 0] else .tup [aO,aI 2]) else .tup [aO,aI 8]
def zH{r:dw}(h:bT r=true):(mH r).length<=119 * 3/\8<=(mH r).length:=by
 rcases HZ h with ⟨_,e⟩ | ⟨_,e,a⟩ | ⟨_,e⟩
 ·omega
 ·have:=vS a;omega
 omega
def VZ{st nu of i:Int}{l:List (List UInt8)}(h:l≠[]):qW st nu of i l≠[]:=by
 cases l with| nil=>exact absurd rfl h| cons a l=>simp[qW]
def I0{r:dw}(h:bT r=true)(st nu:Int):bK r st nu≠[]:=by
 refine VZ ?_;have:=(zH h).2;rw[ES,if_neg (by intro e;rw[e]at this;simp at this)];simp
def MS(r:dw){x:AV}(Q:Sl 1 (rows r.op.l) x)(W:r.op.l.length<2000000)(st nu:Int):ar env 22 [r.val x,aI st,aI nu]=some (Rv r st nu):=by
 refine aF rfl (by kernel_rfl) (Jo _ _ _ _ _ λg=>?_);obtain⟨k,u,⟨t,⟨D,a_3,C⟩,E,⟨⟨⟨m,n,A⟩,B⟩,d⟩,⟨⟨e,j,i⟩,b⟩,⟨a,f⟩,l⟩,c,I,v,w,o⟩:=r;simp only at Q W;have R:=HK k u t D a_3 C E m n A B d e j i b a f c I v w o Q W;have U:=HJ k u t D a_3 C E m n A B d e j i b a f c I v w o Q W;have hr:=Q.r;unfold dw.val Rv;simp only;have G := @zH ⟨k,u,(⟨t,⟨D,a_3,C⟩,E,⟨⟨⟨m,n,A⟩,B⟩,d⟩,⟨⟨e,j,i⟩,b⟩,⟨a,f⟩,l⟩:fX),c,I,v,w,o⟩;have F := @I0 ⟨k,u,(⟨t,⟨D,a_3,C⟩,E,⟨⟨⟨m,n,A⟩,B⟩,d⟩,⟨⟨e,j,i⟩,b⟩,⟨a,f⟩,l⟩:fX),c,I,v,w,o⟩;have T := @Ru ⟨k,u,(⟨t,⟨D,a_3,C⟩,E,⟨⟨⟨m,n,A⟩,B⟩,d⟩,⟨⟨e,j,i⟩,b⟩,⟨a,f⟩,l⟩:fX),c,I,v,w,o⟩;have K:bK ⟨k,u,(⟨t,⟨D,a_3,C⟩,E,⟨⟨⟨m,n,A⟩,B⟩,d⟩,⟨⟨e,j,i⟩,b⟩,⟨a,f⟩,l⟩:fX),c,I,v,w,o⟩ st nu=qW st nu (fj ⟨k,u,(⟨t,⟨D,a_3,C⟩,E,⟨⟨⟨m,n,A⟩,B⟩,d⟩,⟨⟨e,j,i⟩,b⟩,⟨a,f⟩,l⟩:fX),c,I,v,w,o⟩) 0 (ES 3 (mH ⟨k,u,(⟨t,⟨D,a_3,C⟩,E,⟨⟨⟨m,n,A⟩,B⟩,d⟩,⟨⟨e,j,i⟩,b⟩,⟨a,f⟩,l⟩:fX),c,I,v,w,o⟩)):=rfl;cases J:bT ⟨k,u,(⟨t,⟨D,a_3,C⟩,E,⟨⟨⟨m,n,A⟩,B⟩,d⟩,⟨⟨e,j,i⟩,b⟩,⟨a,f⟩,l⟩:fX),c,I,v,w,o⟩ with
 | false=>
  rw[J]at R;generalize M:F4 ⟨k,u,(⟨t,⟨D,a_3,C⟩,E,⟨⟨⟨m,n,A⟩,B⟩,d⟩,⟨⟨e,j,i⟩,b⟩,⟨a,f⟩,l⟩:fX),c,I,v,w,o⟩=z at *;have S:z = .bg 1 [a8 k] (some 1) \/∃es,z = .bg 1 es none:=by
   rw[<-M];unfold F4;split;·exact .inr ⟨_,rfl⟩
   split;·exact .inr ⟨_,rfl⟩
   split
   ·split;·exact .inr ⟨_,rfl⟩
    exact .inl rfl
   exact .inl rfl
  clear M T G F K U;rcases S with rfl | ⟨es,rfl⟩<;>simp[aj, *,tO]
 | true=>
  rw[T J,J]at R;rw[J,if_pos rfl]at U;have G:=G J;have F:=F J st nu;rw[K]at F ⊢;clear T K;generalize (fj ⟨k,u,(⟨t,⟨D,a_3,C⟩,E,⟨⟨⟨m,n,A⟩,B⟩,d⟩,⟨⟨e,j,i⟩,b⟩,⟨a,f⟩,l⟩:fX),c,I,v,w,o⟩:Int)=N at *;generalize mH ⟨k,u,(⟨t,⟨D,a_3,C⟩,E,⟨⟨⟨m,n,A⟩,B⟩,d⟩,⟨⟨e,j,i⟩,b⟩,⟨a,f⟩,l⟩:fX),c,I,v,w,o⟩=bs at *;clear J;cases hh:kW st nu 0 N with
  | false=>clear F G;simp[aj, *,tO]
  | true=>
   have S:=Ps (bs:=bs) (x := .bg 1 (au bs) none) (Sl.mk _ _);have h0:0<=st/\0<=nu:=by simp[kW]at hh;omega
   simp[aj, *,tO];rw[acH];refine⟨λg'=>IJ (gi:=71) (first:=[]) (captured:=[.iptr 1 [.bg 1 (au bs) none] 0 0,.iptr 1 [aI 119] 0 0]) rfl ?_⟩;intro tm P;have Z:df tm 6 = .ptr ⟨0,6,0,0⟩ 0 0:=(P 6).trans rfl;have O:df tm 10 = .ptr ⟨0,10,0,0⟩ 0 0:=(P 10).trans rfl;have t5:df tm 5 = .ptr ⟨0,5,0,0⟩ 0 0:=(P 5).trans rfl;have Y:df tm 4 = .ptr ⟨0,4,0,0⟩ 0 0:=(P 4).trans rfl;rw[show Tryz.f22.ntmps=58 from by kernel_rfl];generalize L:[AV.agg [a8 k,aI u,a8 t,a8 D,bR a_3,a8 C,aI E,a8 m,bR n,a8 A,aI B,aI d,a8 e,bR j,a8 i,aI b,a8 a,bR f,x,aI c,aI I,a8 v,bR w,aB o]]=cell;obtain⟨y,H',hy,hm⟩:=PR (r:=⟨0,58,0,0⟩) (r6:=⟨0,6,0,0⟩) (r10:=⟨0,10,0,0⟩) (r5:=⟨0,5,0,0⟩) (r4:=⟨0,4,0,0⟩) (tm:=tm) (of:=N) h0.1 h0.2 Z O t5 Y (bs:=bs) (x := .bg 1 (au bs) none) (Sl.mk _ _) (by omega) G.1
    (H:=(⟨0,58,0,0⟩,some (ei 0 (.lp 0 58 [35] bt bq tm))) :: [(⟨0,10,0,0⟩,some ⟨1,[aI N],false,false⟩),(⟨0,6,0,0⟩,some ⟨1,[aO],false,false⟩),(⟨0,5,0,0⟩,some ⟨1,[aI nu],false,false⟩),(⟨0,4,0,0⟩,some ⟨1,[aI st],false,false⟩),(⟨0,3,0,0⟩,some ⟨24,cell,false,false⟩)])
    ⟨by simp(maxDischargeDepth:=12) [Ek, *],by simp,by simp,by simp,by simp,by simp,.inl ⟨by simp,rfl⟩⟩
   refine⟨y,H',0,_,by simpa using hy,by simp only[aa.nU,aa.RP];rw[rY];exact(iQg lpO hm.mark).trans (AW _ _),.inl ⟨rfl,?_⟩⟩;have X:=Dz (s:=OE g' [(34,AV.fn (.func 71) [] [.iptr 1 [.bg 1 (au bs) none] 0 0,.iptr 1 [aI 119] 0 0]),(6,AV.ptr ⟨0,6,0,0⟩ 0 0),(10,AV.ptr ⟨0,10,0,0⟩ 0 0),(5,AV.ptr ⟨0,5,0,0⟩ 0 0),(4,AV.ptr ⟨0,4,0,0⟩ 0 0)]) (l:=[(6,AV.ptr ⟨0,6,0,0⟩ 0 0)]) (by
    intro p hp;simp only[fh,zi,iQu]at hp;subst hp;rfl)
   rw[<-X];refine(AJ _ _ _ λg=>?_).h _;obtain⟨fr,mark,⟨n1,_⟩,b10,b5,b4,V⟩:=hm;clear X hy P Z O t5 Y U R S G L b10 b5 b4;generalize qW st nu N 0 (ES 3 bs)=ws at *;rcases V with ⟨hb,rfl⟩ | ⟨q,q1,q2,q3,p1,p2,p3,p4,p5,hb,hq,hpos⟩
   ·exact absurd rfl F
   have s1:=p1.symm;have s2:=p2.symm;simp[aj, *,uA,aa.ab]
def Y0{bs:List UInt8}{x:AV}(n:Sl 1 (au bs) x){m:Nat}(q:bs.length=4 * m)(o:m<=64) :
 ar env 154 [x]=some (if (words bs).all iC then .tup [gw (words bs),aI 0] else .tup [aO,aI 8]):=by
 refine aF rfl (by kernel_rfl) (zA _ _ _ λg=>?_);have p:=n.r;have u : ¬((256:Int)<4 * m):=by omega
 obtain⟨b,a⟩ : ∃b,b=(if (words bs).all iC then AV.tup [gw (words bs),aI 0] else AV.tup [aO,aI 8]):=⟨_,rfl⟩;rw[<-a];have d:=λH Q=>PH n (by omega) (by omega) (H:=H) (Q:=Q) m 0 bs 0 [] aO rfl q (by omega) rfl (by simp);have h : ∀y H',(words bs).all iC=true->fG [50,57] 1 (rows ([]++words bs)) H' y->([]++words bs=[]->y=aO)->view H'.get 8 (.tup [y,aI 0])=some b:=by
  intro y H' k l c;rw[sO]at l c;rw[a,if_pos k];rcases l with ⟨rfl,i⟩ | ⟨t,s,v,rfl,p⟩
  ·have:words bs=[]:=(by simpa using i);rw[this];rfl
  have j:words bs≠[]:=λe=>by cases c e
  have i:gw (words bs) = .bg 1 (rows (words bs)) none:=by unfold gw;rw[if_neg j]
  rw[i];generalize words bs=ws at *;simp[p]
 have f:(words bs).all iC=false ->∀H':aa,view H'.get 8 (.tup [aO,aI 8])=some b:=by
  intro k H';rw[a,if_neg (by rw[k];decide)];simp
 clear a;simp[aj, *,sD];exact d _ _ Fr.nil (.inl ⟨rfl,rfl⟩) (λ_=>rfl) h f
def Ys(a b c:UInt8):IntKind.i64.wrap (65536 * (a.toNat:Int))=65536 * (a.toNat:Int)/\IntKind.i64.wrap (256 * (b.toNat:Int))=256 * (b.toNat:Int) /\
 IntKind.i64.wrap (65536 * (a.toNat:Int)+256 * (b.toNat:Int))=65536 * (a.toNat:Int)+256 * (b.toNat:Int) /\
 65536 * (a.toNat:Int)+256 * (b.toNat:Int)+(c.toNat:Int)=val [a,b,c]/\IntKind.i64.wrap (val [a,b,c])=val [a,b,c]:=by
 have f:=a.toNat_lt;have g:=b.toNat_lt;have e:=c.toNat_lt;have d:65536 * (a.toNat:Int)+256 * (b.toNat:Int)+(c.toNat:Int)=val [a,b,c]:=by simp[val,vc];omega
 exact⟨iQa _ (by omega),iQa _ (by omega),iQa _ (by omega),d,iQa _ (by omega)⟩
def Vj{k m:UInt8}(h:Fs k (m.toNat:Int)≠0):Fs k (m.toNat:Int)=(kV k m:Int)/\1<=m.toNat/\m.toNat<=64/\(k=1\/k=2\/k=3):=by
 unfold Fs at h ⊢;unfold kV;split at h;·exact absurd rfl h
 rename_i c;rw[if_neg c];split at h;·exact absurd rfl h
 rename_i d;rw[if_neg d];split at h;·rename_i k1;rw[if_pos k1,if_pos k1];exact⟨by omega,by omega,by omega,.inl k1⟩
 rename_i k1;rw[if_neg k1,if_neg k1];split at h;·rename_i a;rw[if_pos a,if_neg (by rw[a];decide)];exact⟨rfl,by omega,by omega,.inr (.inl a)⟩
 rename_i a;rw[if_neg a];split at h;·rename_i b;rw[if_pos b,if_pos b];exact⟨rfl,by omega,by omega,.inr (.inr b)⟩
 exact absurd rfl h
def Vi{k m:UInt8}(b:1<=m.toNat)(c:m.toNat<=64)(a:k=1\/k=2\/k=3):Fs k (m.toNat:Int)≠0:=by
 unfold Fs;rw[if_neg (by omega),if_neg (by omega)];rcases a with rfl | rfl | rfl
 ·rw[if_pos rfl];omega
 ·rw[if_neg (by decide),if_pos rfl];omega
 rw[if_neg (by decide),if_neg (by decide),if_pos rfl];omega
def sg(l:List UInt8):AV:=if nA l then .tup [.agg (BP (oc l)++[gw (oc l).l]),aI (qV l),aI 0] else pf
def YX{l:List UInt8}{x:AV}(hx:Sl 1 (au l) x)(hl:l.length<1000000):ar env 135 [x]=some (sg l):=by
 refine aF rfl (by kernel_rfl) (zt _ _ _ λg=>?_);have hr:=hx.r;by_cases h24:(l.length:Int)<24;·have i:sg l=pf:=(by unfold sg;rw[if_neg];intro h;simp only[nA,bo,iQb]at h;omega);unfold pf at i;simp[aj, *,cf]
 obtain⟨W,rfl,hc⟩:=nC hx (by simp;omega);have O:24<=l.length:=by omega
 obtain⟨k,hh,ss,ff,m,rest,D,h6,h3,R⟩:=Re O;obtain⟨A,e2⟩:=Ic k hh ss ff m rest h6 h3 R;rw[<-D]at A e2;obtain⟨s1,s2,s3,rfl⟩ : ∃a b c,ss=[a,b,c]:=by
  match ss,h3 with
  | [a,b,c],_=>exact⟨a,b,c,rfl⟩
 have hlr:l.length=24+rest.length:=by rw[D];simp;omega
 have hrest:rest.length=l.length - 24:=(by omega);clear hlr;have d1:l.drop 1=hh++([s1,s2,s3]++(ff++(m :: rest))):=by rw[D];rfl
 have d7:l.drop 7=[s1,s2,s3]++(ff++(m :: rest)):=(by have:l.drop 7=(l.drop 1).drop 6:=(by rw[po]);rw[this,d1];exact BU h6);have T:l.drop 10=ff++(m :: rest):=(by have:l.drop 10=(l.drop 7).drop 3:=(by rw[po]);rw[this,d7];rfl);have U:l.drop 23=m :: rest:=(by have:l.drop 23=(l.drop 10).drop 13:=(by rw[po]);rw[this,T];exact BU R);have N:l.drop 24=rest:=(by have:l.drop 24=(l.drop 23).drop 1:=(by rw[po]);rw[this,U];rfl);have gd : ∀a j,(l.drop a)[j]?=l[a+j]?:=λa j=>Ac;have g0:l[0]?=some k:=by rw[D];rfl
 have g7:l[7]?=some s1:=by rw[<-gd 7 0,d7];rfl
 have g8:l[8]?=some s2:=by rw[<-gd 7 1,d7];rfl
 have g9:l[9]?=some s3:=by rw[<-gd 7 2,d7];rfl
 have g23:l[23]?=some m:=by rw[<-gd 23 0,U];rfl
 have z : ∀a,(au l).drop a=au (l.drop a):=λa=>by simp[au]
 have w : ∀a (q:List UInt8),(au q).take a=au (q.take a):=λa q=>by simp[au]
 have t1:List.take 6 (List.drop 1 (au l))=au hh:=(by rw[z,w,d1,xW h6]);rw[iQR]at t1;have t2:List.take 13 (List.drop 10 (au l))=au ff:=by rw[z,w,T,xW R]
 have t3:List.take 13 (List.drop 24 (au l))=au (rest.take 13):=(by rw[z,w,N]);have t4 : ∀n,List.take n (List.drop 37 (au l))=au ((rest.drop 13).take n):=λn=>by
  have:l.drop 37=(l.drop 24).drop 13:=(by rw[po]);rw[z,w,this,N]
 have t5:List.take 5 (List.drop 24 (au l))=au (rest.take 5):=(by rw[z,w,N]);have hH:=λc hc=>CR (v := .bg 1 (au hh) c) (l:=hh) (.inr ⟨c,rfl,hc⟩) h6;have hI:=λc hc=>Vx (v := .bg 1 (au ff) c) (l:=ff) (.inr ⟨c,rfl,hc⟩) R;have hS:=Vy k (m.toNat:Int);have qm:=m.toNat_lt;have wm:=iQa (m.toNat:Int) (by omega);obtain⟨v1,v2,v3,eV,v4⟩:=Ys s1 s2 s3;have u : ∀a n,a+n<=(au l).length->n<=(W.map (· - a)).getD n:=by
  intro a n h;cases W with
  | none=>simp
  | some c=>simp at hc ⊢;simp at h;omega
 have X:(au l).length=l.length:=(by simp);have p0:0<l.length:=(by omega);have g0' : ∀h:0<l.length,l[0]'h=k:=λh=>by have:=g0;rw[dI h]at this;exact GM this
 have l0:(0:Int)<l.length/\(7:Int)<l.length/\(8:Int)<l.length/\(9:Int)<l.length/\(23:Int)<l.length/\(7:Int)<=l.length/\(23:Int)<=l.length:=(by omega);have B:(oc l).kind=k:=by rw[A];rfl
 have C:(oc l).s.many=m.toNat:=by rw[A];rfl
 by_cases hz:Fs k (m.toNat:Int)=0
 ·have i:sg l=pf:=by
   unfold sg;rw[if_neg];intro h;simp only[nA,bo,iQb]at h;have hp:=tq h.2.2;rw[B,C]at hp;refine Vi (k:=k) (m:=m) (by omega) (by omega) ?_ hz;rcases hp.2.2.2.2.2 with ⟨h,_⟩ | ⟨h,_⟩ | ⟨h,_⟩
   ·exact .inl h
   ·exact .inr (.inl h)
   exact .inr (.inr h)
  rw[hz]at hS;unfold pf at i;clear hH hI t1 t2 t3 t4 t5 d1 d7 T U N A e2 D gd z w u B C hz;simp[aj, *,cf]
 obtain⟨z1,z2,z3,z4⟩:=Vj hz;have hz0 : ¬(kV k m=0):=λe=>hz (by rw[z1,e];rfl);rw[z1]at hS;by_cases hlt:l.length<kV k m;·have i:sg l=pf:=(by unfold sg;rw[if_neg];intro h;simp only[nA,bo,iQb]at h;rw[e2]at h;omega);have M:(l.length:Int)<(kV k m:Int):=(by omega);unfold pf at i;clear hH hI t1 t2 t3 t4 t5 d1 d7 T U N A e2 D gd z w u B C hz z1;simp[aj, *,cf]
 have M : ¬(l.length:Int)<(kV k m:Int):=(by omega);have i:sg l=if rG (oc l) then .tup [.agg (BP (oc l)++[gw (oc l).l]),aI (kV k m:Nat),aI 0] else pf:=by
  unfold sg nA;rw[e2];have h1:decide (24<=l.length)=true:=by simpa using O
  have h2:decide (kV k m<=l.length)=true:=by simp only[iQb];omega
  rw[h1,h2,iZ,iZ]
 have o:rG (oc l)=true->fv (oc l)=l.take (kV k m):=λp=>by
  have hg:nA l=true:=(by simp only[nA,bo,iQb];rw[e2];exact⟨O,by omega,p⟩);have:=(Ua hg).1;rw[e2]at this;exact this
 have hle:(kV k m:Int)<=l.length:=(by omega);have hcv:=λ(g:cV)(r:Ref)=>Sl.conv (P:=env.P) (src:=57) (dst:=9) (l:=l.take (kV k m)) (x := .bg 1 (List.take (kV k m) (au l)) W) (by
  rw[w];refine .inr ⟨W,rfl,?_⟩;rw[fN,ku];cases W with
  | none=>simp
  | some c=>simp at hc ⊢;omega) (by kernel_rfl) (by kernel_rfl) g r
 have hH':=hH (W.map (· - 1)) (by rw[fN,h6];exact u 1 6 (by rw[X];omega));have hI':=hI (W.map (· - 10)) (by rw[fN,R];exact u 10 13 (by rw[X];omega));clear hH hI d1 d7 T U N e2 D gd z w B C hz z1;obtain⟨⟨L,G,J⟩,hh0⟩ : ∃h:R9,iD hh=h:=⟨_,rfl⟩;obtain⟨⟨⟨E,F,H⟩,I⟩,ff0⟩ : ∃f:Au,jY ff=f:=⟨_,rfl⟩;rw[hh0]at hH';rw[ff0]at hI';unfold Ci at A;rw[hh0,ff0]at A;generalize val [s1,s2,s3]=sr at *;rcases z4 with rfl | rfl | rfl
 ·rw[if_pos rfl,if_neg (by decide),if_pos rfl]at A;have Q:kV 1 m=37+4 * m.toNat:=rfl;have l13:(rest.take 13).length=13:=by rw[ku];omega
  have Z:((rest.drop 13).take (4 * m.toNat)).length=4 * m.toNat:=by rw[ku,oD];omega
  have t4':List.take (kV 1 m - 37) (List.drop 37 (au l))=au ((rest.drop 13).take (4 * m.toNat)):=by rw[t4,Q];congr 2;omega
  have hI2:=Vx (v := .bg 1 (au (rest.take 13)) (W.map (· - 24))) (l:=rest.take 13) (.inr ⟨_,rfl,by rw[fN,l13];exact u 24 13 (by rw[X];omega)⟩) l13;have hR4:=Y0 (bs:=(rest.drop 13).take (4 * m.toNat)) (x := .bg 1 (au ((rest.drop 13).take (4 * m.toNat))) (W.map (· - 37))) (.inr ⟨_,rfl,by rw[fN,Z];exact u 37 (4 * m.toNat) (by rw[X];omega)⟩) Z z3;have hwl:=(vh m.toNat _ Z).2;have S1:(37:Int)<=(kV 1 m:Int)/\37<=kV 1 m:=by rw[Q];omega
  have S2:(37:Int)<=l.length:=(by omega);obtain⟨⟨⟨a_1,a_2,a_3⟩,a_4⟩,aa0⟩ : ∃f:Au,jY (rest.take 13)=f:=⟨_,rfl⟩;rw[aa0]at hI2 A;clear u t4 t5 Z l13 aa0 Q;generalize kV 1 m=S at *;generalize words ((rest.drop 13).take (4 * m.toNat))=ws at *;generalize (rest.drop 13).take (4 * m.toNat)=rb at *;generalize rest.take 13=ra at *;cases K:ws.all iC with
  | false=>
   have p:rG (oc l)=false:=LC (by
    rw[A];have:HX ws=false:=by simp[HX,K]
    simp[DH,JJ,this])
   rw[p]at i;simp only[pf,eW,iQe]at i;rw[K,if_neg (by decide)]at hR4;clear A o p K;simp[aj, *,cf]
  | true=>
   rw[K,if_pos rfl]at hR4;have hRr : ∀a∈ws, -2147483648<=a/\a<=2147483647:=(by intro a ha;have:=gf.1 K a ha;simp only[iC,jH,bo,iQb]at this;omega);have hM:=Gg 1 L G J sr E F H I m.toNat a_1 a_2 a_3 a_4 0 0 (jj ws) (by omega) hRr;have hg:=(jj ws).r;cases p:rG (oc l) with
   | false=>rw[p]at i;simp only[pf,eW,iQe]at i;rw[A]at p;rw[p]at hM;clear A o K hRr;simp[aj, *,cf]
   | true=>rw[p]at i;have y:=o p;rw[A]at p y i;simp only[BP,if_true]at i;have hB:=Bx 1 L G J sr E F H I m.toNat a_1 a_2 a_3 a_4 0 0 (jj ws) (by omega) p;rw[p]at hM;rw[y]at hB;clear A o y K hRr;simp[aj, *,cf]
 ·rw[if_neg (by decide),if_neg (by decide),if_neg (by decide)]at A;have V:kV 2 m=24:=rfl;have l24:(24:Int)<=l.length:=by omega
  rw[V]at hS M hlt i o hcv hle hz0;have hM:=Gg 2 L G J sr E F H I m.toNat 0 0 0 0 0 0 (l:=[]) (x:=aO) (.inl ⟨rfl,rfl⟩) (by simp) (by simp);cases p:rG (oc l) with
  | false=>rw[p]at i;simp only[pf,eW,iQe]at i;rw[A]at p;unfold nm at p;rw[p]at hM;clear A o u t3 t4 t5;simp[aj, *,cf]
  | true=>rw[p]at i;have y:=o p;rw[A]at p y i;simp only[BP,nm,show gw []=aO from rfl,if_true]at i;unfold nm at p y;have hB:=Bx 2 L G J sr E F H I m.toNat 0 0 0 0 0 0 (l:=[]) (x:=aO) (.inl ⟨rfl,rfl⟩) (by simp) p;rw[p]at hM;rw[y]at hB;clear A o y u t3 t4 t5;simp[aj, *,cf]
 rw[if_neg (by decide),if_pos rfl,if_neg (by decide)]at A;have V:kV 3 m=29:=rfl;rw[V]at hS M hlt i o hcv hle hz0;obtain⟨c1,c2,c3,c4,c5,rest',hr5⟩ : ∃a b c d e t,rest=a :: b :: c :: d :: e :: t:=by
  match rest,(show 5<=rest.length by omega) with
  | a :: b :: c :: d :: e :: t,_=>exact⟨a,b,c,d,e,t,rfl⟩
 rw[hr5]at A t5;have Y:oc l=⟨3,⟨L,G,J⟩,sr,⟨⟨⟨E,F,H⟩,I⟩,(m.toNat:Int)⟩,nm,⟨c1,u32 (val [c2,c3,c4,c5])⟩,[]⟩:=A;have t5':List.take 5 (List.drop 24 (au l))=[a8 c1,a8 c2,a8 c3,a8 c4,a8 c5]:=t5;have l29:(29:Int)<=l.length:=hle;have q29 : ¬(l.length:Int)<29:=M;have hT:=CR (v := .bg 1 [a8 c1,a8 c2,a8 c3,a8 c4,a8 c5,a8 0] none) (l:=[c1,c2,c3,c4,c5,0]) (Sl.mk _ _) rfl;have hT':iD [c1,c2,c3,c4,c5,0]=⟨c1,u32 (val [c2,c3,c4,c5]),0⟩:=rfl;rw[hT']at hT;generalize u32 (val [c2,c3,c4,c5])=cc at *;have hM:=Gg 3 L G J sr E F H I m.toNat 0 0 0 0 c1 cc (l:=[]) (x:=aO) (.inl ⟨rfl,rfl⟩) (by simp) (by simp);clear A t5 hT' hr5;cases p:rG (oc l) with
 | false=>rw[p]at i;simp only[pf,eW,iQe]at i;rw[Y]at p;unfold nm at p;rw[p]at hM;clear Y o u t3 t4;simp[aj, *,cf]
 | true=>rw[p]at i;have y:=o p;rw[Y]at p y i;simp only[BP,nm,show gw []=aO from rfl,if_true]at i;unfold nm at p y;have hB:=Bx 3 L G J sr E F H I m.toNat 0 0 0 0 c1 cc (l:=[]) (x:=aO) (.inl ⟨rfl,rfl⟩) (by simp) p;rw[p]at hM;rw[y]at hB;clear Y o y u t3 t4;simp[aj, *,cf]
def bV(l:List (List UInt8 × AV)):List AV:=l.map (·.2)
def okB(l:List (List UInt8 × AV)):Prop :=∀p∈l,Sl 1 (au p.1) p.2
def gA(l:List (List UInt8 × AV)):List (List UInt8):=l.map (·.1)
@[simp] def ajC(l:List (List UInt8 × AV)):(bV l).length=l.length:=by simp[bV]
@[simp] def ai1(l:List (List UInt8 × AV)):(gA l).length=l.length:=by simp[gA]
def Xe{x y:AV}{l m:List (List UInt8 × AV)}(A:Sl 1 (bV l) x)(w:Sl 1 (bV m) y)(K:okB l)(J:okB m)(o:l.length=m.length)(C:l.length<1000000){Q:AV->aa->Prop}{H:aa} :
 ∀(s:List (List UInt8 × AV)) (k:Nat) (i:Int),l.drop k=s->k<=l.length->i=k->gA (l.take k)=gA (m.take k)->(Q (aB (decide (gA l=gA m))) H) ->
 bS env Tryz.f92 0 bN [(17,aI i),(2,.fn (.func 63) [] []),(1,y),(15,x),(16,aI l.length)] H Q:=by
 intro s;induction s with
 | nil=>rintro k i hs hk rfl he hQ;obtain rfl:=drop_nil hs hk;rw[BW,o,BW]at he;rw[he]at hQ;refine cZ _ _ _ _ _ _ _ λg=>?_;simp[aj, *,bP];all_goals simpa using hQ
 | cons p s v=>
  rintro k i hs hk rfl he hQ;obtain⟨G,E,t,j⟩:=drop_cons hs;have n:k<m.length:=by omega
  have b:=K p (E ▸ eE _);have f:=J (m[k]) (eE _);have B:=HQ b f;have L:=iQa ((k:Int)+1) (by omega);have c:m[k]?=some m[k]:=dI n;generalize F:m[k]=q at *;have D:=b.r;have I:=f.r;by_cases a:p.1=q.1;·have h:gA (l.take (k+1))=gA (m.take (k+1)):=(by unfold gA at he ⊢;rw[Es,Es,j,c,zh,zh,he];simp[a]);have u:=v (k+1) ((k:Int)+1) t (by omega) (by simp) h hQ;clear v hQ he h;have hd:decide (p.1=q.1)=true:=iQh a;rw[hd]at B;refine cZ _ _ _ _ _ _ _ λg=>?_;clear a;rw[o]at u;simp[aj, *,bP,A.idx,w.idx,bV]
  have d : ¬gA l=gA m:=(by intro e;have:=iQg (λz=>z[k]?) e;simp only[gA,mr,j,c,Option.map_some,ef]at this;exact a this);rw[iQi d]at hQ;rw[iQi a]at B;clear v a d;refine cZ _ _ _ _ _ _ _ λg=>?_;simp[aj, *,bP,A.idx,w.idx,bV]
def agu{x y:AV}{l m:List (List UInt8 × AV)}(h:Sl 1 (bV l) x)(f:Sl 1 (bV m) y)(j:okB l)(k:okB m)(c:l.length<1000000) :
 ar env 92 [x,y,.fn (.func 63) [] []]=some (aB (decide (gA l=gA m))):=by
 refine aF rfl (by kernel_rfl) (kF _ _ _ _ _ λg=>?_);have n:=h.r;have o:=f.r;by_cases a:l.length=m.length
 ·have i:=Xe h f j k a c (Q:=λv H=>cU env 92 v H (aB (decide (gA l=gA m)))) (H:=[]) l 0 0 rfl (by omega) rfl (by simp) (by simp);have d:(l.length:Int)=m.length:=by omega
  clear j k;simp[aj, *,du];all_goals (first | exact i | simpa [a] using i)
 have d : ¬(l.length:Int)=m.length:=by omega
 have b : ¬gA l=gA m:=by intro e;exact a (by simpa using iQg List.length e)
 rw[iQi b];clear b a;simp[aj, *,du]
def pQ(b:List UInt8):dw:=if decide (b.getD 1 0<=1)&&sK (b.getD 0 0).toNat (b.getD 2 0) (u32 (val ((b.drop 3).take 4))) (decide (b.getD 1 0=1)) then ⟨0,0,dB,0,(b.getD 0 0).toNat,b.getD 2 0,u32 (val ((b.drop 3).take 4)),decide (b.getD 1 0=1)⟩ else ⟨0,0,dB,0,0,0,0,false⟩
def Y7{c:Option Nat}{b0 b1 b2 b3 b4 b5 b6:UInt8}(k:7<=c.getD 7) : ∃e,ar env 113 [.bg 1 [a8 b0,a8 b1,a8 b2,a8 b3,a8 b4,a8 b5,a8 b6] c] =
 some (.tup [.agg [aI (pQ [b0,b1,b2,b3,b4,b5,b6]).gu,a8 (pQ [b0,b1,b2,b3,b4,b5,b6]).gv,bR (pQ [b0,b1,b2,b3,b4,b5,b6]).gc,aB (pQ [b0,b1,b2,b3,b4,b5,b6]).gok],aI e]):=by
 have i:pQ [b0,b1,b2,b3,b4,b5,b6]=if decide (b1<=1)&&sK b0.toNat b2 (u32 (val [b3,b4,b5,b6])) (decide (b1=1)) then ⟨0,0,dB,0,b0.toNat,b2,u32 (val [b3,b4,b5,b6]),decide (b1=1)⟩ else ⟨0,0,dB,0,0,0,0,false⟩:=rfl
 rw[i];clear i;have l:(7:Int)<=c.getD 7:=by omega
 have j:=Fu (c:=none) (a:=b2) (n:=0) (b1:=b3) (b2:=b4) (b3:=b5) (b4:=b6) (by simp);generalize u32 (val [b3,b4,b5,b6])=cats at *;by_cases f:b1<=1
 ·by_cases h:sK b0.toNat b2 cats (decide (b1=1))=true
  ·refine⟨0,?_⟩;refine aF rfl (by kernel_rfl) (zl _ _ _ λg=>?_);have d:fT ⟨b2,cats,0⟩=true:=by simp[sK,xJ]at h;simp[fT,h.2.1]
   have b : ¬1<b1:=UInt8.not_lt.2 f;simp[aj, *,vm,bad]
  refine⟨8,?_⟩;refine aF rfl (by kernel_rfl) (zl _ _ _ λg=>?_);have b : ¬1<b1:=UInt8.not_lt.2 f;simp only[Bool.not_eq_true]at h;cases d:fT ⟨b2,cats,0⟩<;>simp[aj, *,vm,bad]
 refine⟨8,?_⟩;refine aF rfl (by kernel_rfl) (zl _ _ _ λg=>?_);have b:1<b1:=UInt8.not_le.1 f;simp[aj, *,vm]
def PU(b:List UInt8):fX:=if nA b then oc b else dB
def bJ(b:List UInt8):dw:=if b.getD 0 0=1 then ⟨1,(b.getD 7 0).toNat, { dB with h:=E0 ((b.drop 1).take 6)},0,0,0,0,false⟩
 else if b.getD 0 0=2 then ⟨2,0,PU (b.drop 3),val ((b.drop 1).take 2),0,0,0,false⟩
 else if b.getD 0 0=3 then { pQ ((b.drop 1).take 7)with kind:=3}
 else ⟨b.getD 0 0,0,dB,0,0,0,0,false⟩
def AZ(b:List UInt8):(pQ b).user=0/\(pQ b).op=dB/\(pQ b).code=0:=by
 unfold pQ;split<;>exact⟨rfl,rfl,rfl⟩
def uc:gw []=aO:=rfl
def YP{b:List UInt8}{x:AV}(s:Sl 1 (au b) x)(A:8<=b.length)(E:b.length<50000000):ar env 91 [x]=some ((bJ b).val (gw (bJ b).op.l)):=by
 refine aF rfl (by kernel_rfl) (FX _ _ _ λg=>?_);match b,A with
 | b0 :: b1 :: b2 :: b3 :: b4 :: b5 :: b6 :: a :: t,_=>
 obtain⟨d,rfl,f⟩:=nC s (by simp);rw[fN]at f;simp only[gD]at f E;have k:t.length+7<=(d.map (· - 1)).getD (t.length+7):=by cases d<;>simp at f ⊢ <;> omega
 have F:(6:Int)<=(d.map (· - 1)).getD (t.length+7):=by omega
 have y:(6:Int)<=((t.length+7:Nat):Int):=by omega
 have P:(7:Int)<=(d.map (· - 1)).getD (t.length+7):=by omega
 have Q:(2:Int)<=(d.map (· - 1)).getD (t.length+7):=by omega
 have K:(0:Int) < ↑t.length+1+1+1+1+1+1+1+1:=by omega
 have O:(1:Int) <= ↑t.length+1+1+1+1+1+1+1+1:=by omega
 have L:((t.length:Int)+1+1+1+1+1+1+1+1).toNat - 1=t.length+7:=by omega
 have I:List.take (t.length+7) (a8 b1 :: a8 b2 :: a8 b3 :: a8 b4 :: a8 b5 :: a8 b6 :: a8 a :: List.map a8 t)=a8 b1 :: a8 b2 :: a8 b3 :: a8 b4 :: a8 b5 :: a8 b6 :: a8 a :: List.map a8 t:=dq (by simp);have N:Option.map ((λx:Nat=>x) ∘ λx=>x - 1) d=Option.map (λx=>x - 1) d:=rfl;have u:6<=(d.map (· - 1)).getD 6:=by cases d<;>simp at f ⊢ <;> omega
 have B:7<=(d.map (· - 1)).getD 7:=by cases d<;>simp at f ⊢ <;> omega
 have C:2<=(d.map (· - 1)).getD 2:=by cases d<;>simp at f ⊢ <;> omega
 have H:(2:Int) <= ↑t.length+1+1+1+1+1+1+1:=by omega
 have G:((t.length:Int)+1+1+1+1+1+1+1).toNat - 2=t.length+5:=by omega
 have M:List.take (t.length+5) (a8 b3 :: a8 b4 :: a8 b5 :: a8 b6 :: a8 a :: List.map a8 t)=a8 b3 :: a8 b4 :: a8 b5 :: a8 b6 :: a8 a :: List.map a8 t:=dq (by simp);clear k;by_cases k1:b0=1;·subst k1;have e:bJ (1 :: b1 :: b2 :: b3 :: b4 :: b5 :: b6 :: a :: t)=⟨1,a.toNat, { dB with h:=E0 [b1,b2,b3,b4,b5,b6]},0,0,0,0,false⟩:=rfl;rw[e];have w:=Qh (v := .bg 1 [a8 b1,a8 b2,a8 b3,a8 b4,a8 b5,a8 b6] (d.map (· - 1))) (l:=[b1,b2,b3,b4,b5,b6]) (by rw[show[a8 b1,a8 b2,a8 b3,a8 b4,a8 b5,a8 b6]=au [b1,b2,b3,b4,b5,b6] from rfl];exact Sl.ZD (by simpa using u)) rfl;unfold dw.val dB;simp only[uc];generalize E0 [b1,b2,b3,b4,b5,b6]=hh at *;simp[aj, *,nW,au];omega
 by_cases p:b0=2
 ·subst p;have e:bJ (2 :: b1 :: b2 :: b3 :: b4 :: b5 :: b6 :: a :: t)=⟨2,0,PU (b3 :: b4 :: b5 :: b6 :: a :: t),val [b1,b2],0,0,0,false⟩:=rfl;rw[e];have D:=Ln (l:=[b1,b2]) (x := .bg 1 [a8 b1,a8 b2] (d.map (· - 1))) (by rw[show[a8 b1,a8 b2]=au [b1,b2] from rfl];exact Sl.ZD (by simpa using C)) (by simp);have j:Sl 1 (au (b3 :: b4 :: b5 :: b6 :: a :: t)) (.bg 1 (a8 b3 :: a8 b4 :: a8 b5 :: a8 b6 :: a8 a :: List.map a8 t) (Option.map ((λx=>x - 2) ∘ λx=>x - 1) d)):=by
   rw[show a8 b3 :: a8 b4 :: a8 b5 :: a8 b6 :: a8 a :: List.map a8 t=au (b3 :: b4 :: b5 :: b6 :: a :: t) from rfl];exact Sl.ZD (by cases d<;>simp at f ⊢ <;> omega)
  have i:=Y5 j (by simp only[gD];omega);have n:pR (b3 :: b4 :: b5 :: b6 :: a :: t) = .tup [.agg (BP (PU (b3 :: b4 :: b5 :: b6 :: a :: t))++[F5 1 (rows (PU (b3 :: b4 :: b5 :: b6 :: a :: t)).l)]),aI (if nA (b3 :: b4 :: b5 :: b6 :: a :: t) then qV (b3 :: b4 :: b5 :: b6 :: a :: t) else 0),aI (if nA (b3 :: b4 :: b5 :: b6 :: a :: t) then 0 else 8)]:=(by unfold pR PU pf;split<;>rfl);rw[n]at i;unfold dw.val;generalize PU (b3 :: b4 :: b5 :: b6 :: a :: t)=o at *;simp only[BP]at i;have z:=(jj o.l).r;have m:=HU o.l;generalize gw o.l=ro at *;generalize F5 1 (rows o.l)=rq at *;generalize rows o.l=rw' at *;generalize val [b1,b2]=cd at *;clear n j;rcases m with ⟨rfl,rfl⟩ | ⟨rfl,rfl⟩<;>simp[aj, *,nW,au]
 by_cases q:b0=3;·subst q;have e:bJ (3 :: b1 :: b2 :: b3 :: b4 :: b5 :: b6 :: a :: t) = { pQ [b1,b2,b3,b4,b5,b6,a]with kind:=3}:=rfl;rw[e];obtain⟨J,w⟩:=Y7 (c:=d.map (· - 1)) (b0:=b1) (b1:=b2) (b2:=b3) (b3:=b4) (b4:=b5) (b5:=b6) (b6:=a) B;obtain⟨f1,f2,f3⟩:=AZ [b1,b2,b3,b4,b5,b6,a];unfold dw.val;simp only[f1,f2,f3];unfold dB;simp only[uc];generalize pQ [b1,b2,b3,b4,b5,b6,a]=gg at *;simp[aj, *,nW,au];omega
 have e:bJ (b0 :: b1 :: b2 :: b3 :: b4 :: b5 :: b6 :: a :: t)=⟨b0,0,dB,0,0,0,0,false⟩:=(by unfold bJ;simp[k1,p,q]);rw[e];unfold dw.val dB;simp only[uc];simp[aj, *,nW,au]
def ib(l:List (List UInt8)):List UInt8:=l.flatMap (·.drop 9)
def jT:dw:=⟨0,0,dB,0,0,0,0,false⟩
def y9:AV := .tup [jT.val aO,(⟨0,0,0,0⟩:Hd).val,aI 8]
def yV(l:List (List UInt8))(h:Hd)(b:List UInt8):Bool:=decide (8<=b.length)&&(bT (bJ b)&&kW h.st h.nu 0 (fj (bJ b))&&decide (bK (bJ b) h.st h.nu=l))
def DV(l:List (List UInt8))(h:Hd)(b:List UInt8):AV:=if yV l h b then .tup [(bJ b).val (gw (bJ b).op.l),h.val,aI 0] else y9
def zT(l:List (List UInt8)):Option (dw × Hd):=if iy (l.headD [])&&yV l (dk (l.headD [])) (ib l) then some (bJ (ib l),dk (l.headD [])) else none
def Cq(l:List (List UInt8)):AV:=match zT l with
 | some (r,h) => .tup [r.val (gw r.op.l),h.val,aI 0]
 | none=>y9
def ZA(b:List UInt8):(PU b).l.length<=64:=by
 unfold PU;split
 ·rename_i h;unfold nA at h;simp only[bo,iQb]at h;have hp:=tq h.2.2;rcases hp.2.2.2.2.2 with ⟨_,_,_,e,_⟩ | ⟨_,_,_,e⟩ | ⟨_,_,e,_⟩
  ·have:=hp.2.2.2.2.1;omega
  ·rw[e];simp
  rw[e];simp
 exact uD _
def zK(b:List UInt8):(bJ b).op.l.length<=64:=by
 unfold bJ;split;·exact uD _
 split;·exact ZA _
 split;·show(pQ _).op.l.length<=64;rw[(AZ _).2.1];exact uD _
 exact uD _
def Gp(l:List (List UInt8)):okB (l.map λb=>(b,I2 b)):=λp hp=>by
 obtain⟨b,_,rfl⟩:=nO.1 hp;exact Sl.mk _ _
def Gq(l:List (List UInt8)):bV (l.map λb=>(b,I2 b))=dE l:=by simp[bV,dE]
def Bd(l:List (List UInt8)):gA (l.map λb=>(b,I2 b))=l:=by
 unfold gA;rw[GG];exact List.map_id' _
def EM(st nu of:Int) : ∀(l:List (List UInt8)) (i:Int),(qW st nu of i l).length=l.length
 | [],_=>rfl
 | _ :: l,i=>by simp only[qW,gD,EM st nu of l (i+1)]
def Rx : ∀(m:Nat)(s:List UInt8),(ES m s).length<=m
 | 0,_=>cG _
 | m+1,s=>by
  rw[ES];split;·simp
  have:=Rx m (s.drop 119);simp only[gD];omega
def Y9(l:List Int):gw l=aO\/gw l = .bg 1 (rows l) none:=by
 unfold gw;split;·exact .inl rfl
 exact .inr rfl
def Z1{x0:AV}{l:List (List UInt8 × AV)}(C:Sl 1 (bV l) x0)(P:okB l)(U:l.length<100000){B:List UInt8}(L:B.length<50000000)(h:Hd){t:AV}{H:aa}{r2 r3:Ref}
 (A:Ej 1 (au B) H t) (S:Fr H) (O:H.get r2=some ⟨24,[jT.val aO],false,false⟩) (D:H.get r3=some ⟨4,[h.val],false,false⟩) (u:r2≠r3) (o:t.at?≠some r2) (p:t.at?≠some r3) {Q:AV->aa->Prop} (c : ∀H',Q (DV (gA l) h B) H') :
 bS env Tryz.f61 0 lO [(29,aI l.length),(5,t),(27,x0),(2,.ptr r2 0 0),(3,.ptr r3 0 0),(0,x0),(28,aI l.length)] H Q:=by
 have F:=u.symm;have E:=C.r;have R:(H.get r2).isSome=true:=by rw[O];rfl
 have V:(H.get r3).isSome=true:=by rw[D];rfl
 unfold Hd.val at D;by_cases s:8<=B.length
 ·have v:au B≠[]:=by intro e;have:=iQg List.length e;simp at this;rw[this]at s;simp at s
  obtain⟨q,rfl,J⟩:=A.bk v;have G:q≠r2:=λe=>o (by rw[e];rfl);have I:q≠r3:=λe=>p (by rw[e];rfl);have N:=G.symm;have K:=I.symm;clear o p;rw[fN];have T:(H.get q).isSome=true:=by rw[J];rfl
  have hp:=YP (b:=B) (x := .bg 1 (au B) none) (Sl.mk _ _) s L;have a:=MS (bJ B) (x:=gw (bJ B).op.l) (jj _) (by have:=zK B;omega) h.st h.nu;have w : ¬(B.length:Int)<8:=by omega
  have n:DV (gA l) h B=if (bT (bJ B)&&kW h.st h.nu 0 (fj (bJ B))&&decide (bK (bJ B) h.st h.nu=gA l)) then .tup [(bJ B).val (gw (bJ B).op.l),h.val,aI 0] else y9:=(by unfold DV yV;rw[iQh s,iZ])
  rw[n]at c;have j:=agu (x := .bg 1 (dE (bK (bJ B) h.st h.nu)) none) (y:=x0) (l:=(bK (bJ B) h.st h.nu).map λb=>(b,I2 b)) (m:=l) (by rw[Gq];exact Sl.mk _ _) C (Gp _) P (by
   rw[AF,bK,EM];have:=Rx 3 (mH (bJ B));omega)
  rw[Bd]at j;clear n;have M:=(jj (bJ B).op.l).r;have f:=Y9 (bJ B).op.l;have z:DV (gA l) h B=DV (gA l) h B:=rfl;clear z;generalize gw (bJ B).op.l=ro at *;generalize bJ B=r at *;unfold Rv at a;unfold y9 jT dw.val Hd.val dB at c;unfold dw.val jT dB at *;cases d:bT r with
  | false=>
   rw[d,if_neg (by decide)]at a;rw[d]at c;simp only[qO,eW,iQe]at c;clear j d;refine nR _ _ _ _ _ _ _ _ _ λg=>?_;rcases f with rfl | rfl
   ·simp[aj, *,fa,aa.ab]
   simp[aj, *,fa,aa.ab]
  | true=>
   cases k:kW h.st h.nu 0 (fj r) with
   | false=>
    rw[d,k,if_pos rfl,if_neg (by decide)]at a;rw[d,k]at c;simp only[qO,Eo,eW,iQe]at c;clear j d k;refine nR _ _ _ _ _ _ _ _ _ λg=>?_;rcases f with rfl | rfl
    ·simp[aj, *,fa,aa.ab]
    simp[aj, *,fa,aa.ab]
   | true=>
    rw[d,k,if_pos rfl,if_pos rfl]at a;rw[d,k,Em,iZ]at c;clear d k;generalize decide (bK r h.st h.nu=gA l)=db at *;refine nR _ _ _ _ _ _ _ _ _ λg=>?_;rcases f with rfl | rfl
    ·cases db;·simp only[eW,iQe]at c;simp[aj, *,fa,aa.ab]
     simp only[if_true]at c;simp[aj, *,fa,aa.ab]
    cases db;·simp only[eW,iQe]at c;simp[aj, *,fa,aa.ab]
    simp only[if_true]at c;simp[aj, *,fa,aa.ab]
 have w:(B.length:Int)<8:=by omega
 have i:=A.len;have n:DV (gA l) h B=y9:=(by unfold DV yV;rw[iQi s,qO];rfl);rw[n]at c;unfold y9 jT dw.val Hd.val dB at c;unfold dw.val jT dB at *;clear n;rw[fN]at i;refine nR _ _ _ _ _ _ _ _ _ λg=>?_;simp[aj, *,fa,aa.ab]
def W4{x0:AV}{l:List (List UInt8 × AV)}(y:Sl 1 (bV l) x0)(E:okB l)(M:l.length<100000)(N:(ib (gA l)).length<50000000)(h:Hd){r2 r3:Ref}(o:r2≠r3){Q:AV->aa->Prop}(K : ∀H',Q (DV (gA l) h (ib (gA l))) H') :
 ∀(s:List (List UInt8 × AV)) (k:Nat) (i:Int) (c:AV) (H:aa),l.drop k=s->k<=l.length->i=k->Ej 1 (au (ib (gA (l.take k)))) H c->Fr H->H.get r2=some ⟨24,[jT.val aO],false,false⟩->H.get r3=some ⟨4,[h.val],false,false⟩->c.at?≠some r2->c.at?≠some r3 ->
 bS env Tryz.f61 0 lO [(29,aI i),(5,c),(27,x0),(2,.ptr r2 0 0),(3,.ptr r3 0 0),(0,x0),(28,aI l.length)] H Q:=by
 intro s;induction s with
 | nil=>rintro k i c H hs hk rfl ho hF h2 h3 n52 n53;obtain rfl:=drop_nil hs hk;rw[BW]at ho;exact Z1 y E M N h ho hF h2 h3 o n52 n53 K
 | cons p s D=>
  rintro k i c H hs hk rfl ho hF h2 h3 n52 n53;obtain⟨O,G,j,q⟩:=drop_cons hs;have hp:=E p (G ▸ eE _);have F:=hp.r;have a:ib (gA (l.take (k+1)))=ib (gA (l.take k))++p.1.drop 9:=by
   unfold ib gA;rw[Es,q];simp
  have b:(ib (gA (l.take (k+1)))).length<=(ib (gA l)).length:=by
   have e:gA l=gA (l.take (k+1))++gA (l.drop (k+1)):=by unfold gA;rw[<-zh,BY]
   rw[e];unfold ib;rw[Fl,ja];omega
  rw[a]at b;have R:=iQa ((k:Int)+1) (by omega);have key : ∀(n:Nat)(v:AV),n=min p.1.length 9->(∃S:aa,v=v)->Sl 1 ((au p.1).drop n) v ->∃d H',dm env.P true H ⟨0,39,H.gen 0 39,0⟩ (some 57) (some 57) c v=some (d,H') /\
   bS env Tryz.f61 0 lO [(29,aI ((k:Int)+1)),(5,d),(27,x0),(2,.ptr r2 0 0),(3,.ptr r3 0 0),(0,x0),(28,aI l.length)] H' Q:=by
   intro n v L _ B;have hd:(au p.1).drop n=au (p.1.drop 9):=by
    rw[D3,L];congr 1;by_cases C:p.1.length<=9;·rw[Aw C,KH,ya C]
    rw[KJ (by omega)]
   rw[hd]at B;have u:=Oq (P:=env.P) (t:=57) (t':=57) (z:=1) (by':=1) (by kernel_rfl) (by kernel_rfl) H 0 39 ho (B.Jh _) (by rw[fN,fN];rw[ja]at b;show(_+_) * 1<=140737488355328;omega) hF;obtain⟨d,H',A,x,I,f⟩:=u;rw[Qx,<-a]at x;exact⟨d,H',A,D (k+1) _ d H' j (by omega) (by simp) x I (f _ _ h2 n52).1 (f _ _ h3 n53).1 (f _ _ h2 n52).2 (f _ _ h3 n53).2⟩
  clear D b a;refine nR _ _ _ _ _ _ _ _ _ λg=>?_;have w:=Pk (P:=env.P) (t:=57) (z:=1) (by kernel_rfl) H.get hp (n:=if 9<(p.1.length:Int) then 9 else (p.1.length:Int)) (by split<;>omega) (by rw[fN];split<;>omega);obtain⟨v,J,m⟩:=w;obtain⟨d,H',A,x⟩:=key _ v (by split<;>omega) ⟨H,rfl⟩ m;clear key;simp[aj, *,fa,y.idx,bV]
def Vv{x0:AV}{l:List (List UInt8 × AV)}(a:Sl 1 (bV l) x0)(c:okB l)(m:l.length<100000)(j:(ib (gA l)).length<50000000):ar env 61 [x0]=some (Cq (gA l)):=by
 refine aF rfl (by kernel_rfl) (Jp _ _ _ λg=>?_);have n:=a.r;cases l with
 | nil=>unfold gA Cq zT y9 jT dw.val Hd.val dB;simp[aj, *,tP,iy]
 | cons p l=>
  have hp:=c p (j6 ..);have f:=J6 hp;have k:=hp.r;have q : ¬((l.length:Int)+1=0):=by omega
  have o:(0:Int)<(l.length:Int)+1:=(by omega);have hd:(gA (p :: l)).headD []=p.1:=rfl;unfold Cq zT;rw[hd];cases e:iy p.1 with
  | false=>rw[e,if_neg (by decide)]at f;unfold y9 jT dw.val Hd.val dB;unfold Hd.val at f;simp[aj, *,tP,a.idx,bV]
  | true=>
   rw[e,if_pos rfl]at f;rw[iZ];have i:(match (if yV (gA (p :: l)) (dk p.1) (ib (gA (p :: l)))=true then some (bJ (ib (gA (p :: l))),dk p.1) else none)with | some (r,h)=>AV.tup [r.val (gw r.op.l),h.val,aI 0] | none=>y9)=DV (gA (p :: l)) (dk p.1) (ib (gA (p :: l))):=(by unfold DV;cases yV (gA (p :: l)) (dk p.1) (ib (gA (p :: l)))<;>rfl);have b:=λ(H:aa)=>W4 a c m j (dk p.1) (r2:=⟨0,2,0,0⟩) (r3:=⟨0,3,0,0⟩) (by decide) (Q:=λv H=>view H.get 8 v=some (DV (gA (p :: l)) (dk p.1) (ib (gA (p :: l))))) (by
    intro H';unfold DV;generalize yV (gA (p :: l)) (dk p.1) (ib (gA (p :: l)))=eo;generalize bJ (ib (gA (p :: l)))=r;have d:=(jj r.op.l).r;unfold y9 jT dw.val Hd.val dB;cases eo<;>simp[uc,d]) (p :: l) 0 0 aO H rfl (by omega) rfl (Gj _ _)
   rw[show(match (if yV (gA (p :: l)) (dk p.1) (ib (gA (p :: l)))=true then some (bJ (ib (gA (p :: l))),dk p.1) else none)with | some (r,h)=>AV.tup [r.val (gw r.op.l),h.val,aI 0] | none=>y9)=DV (gA (p :: l)) (dk p.1) (ib (gA (p :: l))) from i];generalize DV (gA (p :: l)) (dk p.1) (ib (gA (p :: l)))=ans at *;unfold jT dw.val dB at b;generalize dk p.1=hd0 at *;unfold Hd.val at *;clear c i j hd e;rw[show(((p :: l).length:Nat):Int)=(l.length:Int)+1 from by simp]at b;simp[aj, *,tP,a.idx,bV];exact b _ (by simp(maxDischargeDepth:=12) [Ek, *]) rfl rfl (by simp[AV.at?]) (by simp[AV.at?])
end
end Go.Proofs.YtmjkpdknicjjgaaGreat
