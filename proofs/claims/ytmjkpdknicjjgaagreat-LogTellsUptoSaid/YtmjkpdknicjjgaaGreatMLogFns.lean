/-
  Operations: whether they may be. No statement of a seat is proved here.
-/
import Derived.Test.YtmjkpdknicjjgaaGreatMDtEnv
set_option linter.unusedVariables false
set_option linter.unusedSimpArgs false
set_option linter.unusedSectionVars false
set_option linter.unnecessarySimpa false
set_option maxRecDepth 100000
set_option linter.defProp false
namespace Go.Proofs.YtmjkpdknicjjgaaGreat
open Go.Ab
section
attribute [local simp] aC aw ah aq ao bk jE aE ar ax bo bn aG aD ae aN cN
def JU:AV := .agg [.v .nilFunc,.v .nilFunc,.fn (.func 139) [] [.iptr 1 [.fn (.func 138) [] []] 0 0],.fn (.func 140) [] [],
 .fn (.func 141) [] [.iptr 1 [.fn (.func 138) [] []] 0 0,.iptr 1 [.fn (.func 137) [] []] 0 0],.fn (.func 142) [] [],.fn (.func 143) [] [.iptr 1 [.fn (.func 137) [] []] 0 0],.fn (.func 144) [] []]
def WR:ay env 121 []=some JU:=LJ (n:=2000) (by kernel_rfl)
@[simp] def agy:ay env 125 []=some (.agg [a8 0,bO 0]):=by
 refine aM rfl (by kernel_rfl) (FP _ _ λg=>?_);simp[an, *,zT]
section
variable(m:UInt8)(p:UInt8)(a_3:UInt32)(q:UInt8)(o:Int)(t:UInt8)(u:UInt32)(s:UInt8)(w:Int)(k:Int)(c:UInt8)(a:UInt32)(d:UInt8)(f:Int)(i:UInt8)(j:UInt32){x:AV}{l:List Int}(y:Sl 1 (rows l) x)(z:l.length<2000000)
include y z
theorem Tv:ay env 137 [.agg [a8 m,a8 p,bO a_3,a8 q,aI o,a8 t,bO u,a8 s,aI w,aI k,a8 c,bO a,a8 d,aI f,a8 i,bO j,x]]=some (aB (zR (⟨m,⟨p,a_3,q⟩,o,⟨⟨⟨t,u,s⟩,w⟩,k⟩,⟨⟨c,a,d⟩,f⟩,⟨i,j⟩,l⟩:fG))):=by
 refine aM rfl (by kernel_rfl) (HL _ _ _ λg=>?_);unfold zR;cases b:kE (⟨⟨c,a,d⟩,f⟩:yY) with
 | true=>unfold kE at b;simp[an, *,wb,y.r,nG,gm]
 | false=>unfold kE at b;simp[an, *,wb,y.r,nG,gm]
theorem Pz:ay env 138 [.agg [a8 m,a8 p,bO a_3,a8 q,aI o,a8 t,bO u,a8 s,aI w,aI k,a8 c,bO a,a8 d,aI f,a8 i,bO j,x]]=some (aB (vi (⟨i,j⟩:ZY))):=by
 refine aM rfl (by kernel_rfl) (HK _ _ _ λg=>?_);simp[an, *,Bc,y.r,nG,gm,vi]
theorem Tu:ay env 141 [.agg [a8 m,a8 p,bO a_3,a8 q,aI o,a8 t,bO u,a8 s,aI w,aI k,a8 c,bO a,a8 d,aI f,a8 i,bO j,x],.iptr 1 [.fn (.func 138) [] []] 0 0,.iptr 1 [.fn (.func 137) [] []] 0 0]=some (aB (OJ (⟨m,⟨p,a_3,q⟩,o,⟨⟨⟨t,u,s⟩,w⟩,k⟩,⟨⟨c,a,d⟩,f⟩,⟨i,j⟩,l⟩:fG))):=by
 refine aM rfl (by kernel_rfl) (HI _ _ _ _ _ λg=>?_);have e:=Tv m p a_3 q o t u s w k c a d f i j y z;have b:=Pz m p a_3 q o t u s w k c a d f i j y z;unfold OJ;cases h:vi (⟨i,j⟩:ZY)<;>simp[an, *,Bb,y.r]
theorem WQ:ay env 143 [.agg [a8 m,a8 p,bO a_3,a8 q,aI o,a8 t,bO u,a8 s,aI w,aI k,a8 c,bO a,a8 d,aI f,a8 i,bO j,x],.iptr 1 [.fn (.func 137) [] []] 0 0]=some (aB (JR (⟨m,⟨p,a_3,q⟩,o,⟨⟨⟨t,u,s⟩,w⟩,k⟩,⟨⟨c,a,d⟩,f⟩,⟨i,j⟩,l⟩:fG))):=by
 refine aM rfl (by kernel_rfl) (HH _ _ _ _ λg=>?_);have e:=Tv m p a_3 q o t u s w k c a d f i j y z;unfold JR;cases b:zR (⟨m,⟨p,a_3,q⟩,o,⟨⟨⟨t,u,s⟩,w⟩,k⟩,⟨⟨c,a,d⟩,f⟩,⟨i,j⟩,l⟩:fG)<;>simp[an, *,Ba,y.r]
theorem Ts:ay env 139 [.agg [a8 m,a8 p,bO a_3,a8 q,aI o,a8 t,bO u,a8 s,aI w,aI k,a8 c,bO a,a8 d,aI f,a8 i,bO j,x],.iptr 1 [.fn (.func 138) [] []] 0 0]=some (aB (Ia (⟨m,⟨p,a_3,q⟩,o,⟨⟨⟨t,u,s⟩,w⟩,k⟩,⟨⟨c,a,d⟩,f⟩,⟨i,j⟩,l⟩:fG))):=by
 refine aM rfl (by kernel_rfl) (HJ _ _ _ _ λg=>?_);have A:=Pz m p a_3 q o t u s w k c a d f i j y z;have v:=Ds y (by omega);have C:=Dx l;unfold Ia;cases D:vi (⟨i,j⟩:ZY) with
 | false=>
  cases e:kE (⟨⟨c,a,d⟩,f⟩:yY) with| false=>unfold kE at e;simp[an, *,jC,y.r,nG,gm]| true=>unfold kE at e;simp[an, *,jC,y.r,nG,gm]
 | true=>
  have key : ∀b:Bool,(kE (⟨⟨c,a,d⟩,f⟩:yY)||yP (⟨⟨c,a,d⟩,f⟩:yY))=b->True:=λ_ _=>trivial;cases n:Ge ⟨t,u,s⟩ ⟨p,a_3,q⟩ with
  | false=>
   unfold Ge at n;cases e:kE (⟨⟨c,a,d⟩,f⟩:yY) with
   | false=>unfold kE at e;cases h:yP (⟨⟨c,a,d⟩,f⟩:yY)<;>simp[an, *,jC,y.r,nG,gm]
   | true=>unfold kE at e;simp[an, *,jC,y.r,nG,gm]
  | true=>
   unfold Ge at n;by_cases B:(l.length:Int)=k
   ·cases e:kE (⟨⟨c,a,d⟩,f⟩:yY) with| false=>unfold kE at e;cases h:yP (⟨⟨c,a,d⟩,f⟩:yY)<;>simp[an, *,jC,y.r,nG,gm]| true=>unfold kE at e;simp[an, *,jC,y.r,nG,gm]
   cases e:kE (⟨⟨c,a,d⟩,f⟩:yY) with| false=>unfold kE at e;cases h:yP (⟨⟨c,a,d⟩,f⟩:yY)<;>simp[an, *,jC,y.r,nG,gm]| true=>unfold kE at e;simp[an, *,jC,y.r,nG,gm]
theorem rW:ay env 99 [.agg [a8 m,a8 p,bO a_3,a8 q,aI o,a8 t,bO u,a8 s,aI w,aI k,a8 c,bO a,a8 d,aI f,a8 i,bO j,x]]=some (aI (bad (qj (⟨m,⟨p,a_3,q⟩,o,⟨⟨⟨t,u,s⟩,w⟩,k⟩,⟨⟨c,a,d⟩,f⟩,⟨i,j⟩,l⟩:fG)))):=by
 refine aM rfl (by kernel_rfl) (KM _ _ _ λg=>?_);have M:=Ts m p a_3 q o t u s w k c a d f i j y z;have I:=Tu m p a_3 q o t u s w k c a d f i j y z;have H:=WQ m p a_3 q o t u s w k c a d f i j y z;have L:=WR;unfold qj Cu;by_cases B:m=0;·subst B;simp[an, *,kI,y.r]
 by_cases b:4<=m
 ·have n1 : ¬m=1:=by rintro rfl;exact absurd b (by decide)
  have n2 : ¬m=2:=by rintro rfl;exact absurd b (by decide)
  have J : ¬m=3:=by rintro rfl;exact absurd b (by decide)
  simp[an, *,kI,y.r]
 cases K:fA ⟨p,a_3,q⟩ with| false=>simp[an, *,kI,y.r]| true=>
 rcases Fl o 1 with n | D
 ·have D : ¬1<=o:=by omega
  simp[an, *,kI,y.r]
 have n : ¬o<1:=by omega
 rcases Fl o 16777216 with C | v
 rotate_left
 ·have C : ¬o<16777216:=by omega
  simp[an, *,kI,y.r]
 have v : ¬16777216<=o:=by omega
 cases G:nD ⟨⟨⟨t,u,s⟩,w⟩,k⟩ with| false=>simp[an, *,kI,y.r]| true=>
 have E:m=1\/m=2\/m=3:=by
  have e:m.toNat<4:=by have:=UInt8.not_le.1 b;exact this
  have F:m.toNat≠0:=λh=>B (yC.1 h);rcases(show m.toNat=1\/m.toNat=2\/m.toNat=3 by omega)with h | h | h
  ·exact .inl (yC.1 h)
  ·exact .inr (.inl (yC.1 h))
  exact .inr (.inr (yC.1 h))
 rcases E with rfl | rfl | rfl
 ·cases A:Ia (⟨1,⟨p,a_3,q⟩,o,⟨⟨⟨t,u,s⟩,w⟩,k⟩,⟨⟨c,a,d⟩,f⟩,⟨i,j⟩,l⟩:fG)<;>simp[an, *,kI,y.r,JU,DA,GF]
 ·cases A:OJ (⟨2,⟨p,a_3,q⟩,o,⟨⟨⟨t,u,s⟩,w⟩,k⟩,⟨⟨c,a,d⟩,f⟩,⟨i,j⟩,l⟩:fG)<;>simp[an, *,kI,y.r,JU,DA,GF]
 cases A:JR (⟨3,⟨p,a_3,q⟩,o,⟨⟨⟨t,u,s⟩,w⟩,k⟩,⟨⟨c,a,d⟩,f⟩,⟨i,j⟩,l⟩:fG)<;>simp[an, *,kI,y.r,JU,DA,GF]
end
def GU(t:Int):List Int->Nat->Int
 | [],_ => -1
 | a :: l,k=>if t=a then k else GU t l (k+1)
def U1(t:Int)(l:List Int) : ∀k:Nat,(0<=GU t l k↔t∈l):=by
 induction l with| nil=>intro k;simp[GU]| cons a l b=>
  intro k;unfold GU;by_cases h:t=a;·simp[h]
  rw[if_neg h,b];simp[h]
def LP{x0:AV}{Q:AV->aa->Prop}{l:List Int}(c:Sl 1 (rows l) x0)(d:l.length<4611686018427387904){t:Int}{H:aa} :
 ∀(s:List Int)(k:Nat)(i:Int),l.drop k=s->k<=l.length->i=k->(∀y,y=aI (GU t s k)->Q y H) ->
 cB env Tryz.f124 0 fb [(8,aI i),(0,x0),(1,aR t),(7,aI l.length)] H Q:=by
 intro s;induction s with
 | nil=>rintro k i hs hk rfl hQ;obtain rfl:=drop_nil hs hk;refine lb _ _ _ _ _ _ λg=>?_;simp[an, *,fj];all_goals exact hQ _ rfl
 | cons a s h=>
  rintro k i hs hk rfl hQ;obtain⟨o,p,b,n⟩:=drop_cons hs;refine lb _ _ _ _ _ _ λg=>?_;have q:=iQa ((k:Int)+1) (by omega);by_cases j:t=a
  ·have e:GU t (a :: s) k=k:=by unfold GU;rw[if_pos j]
   simp[an, *,fj,c.idx,rows,aR];all_goals exact hQ _ (by simp[e])
  have e:GU t (a :: s) k=GU t s (k+1):=(by rw[GU,if_neg j]);have f:=h (k+1) ((k:Int)+1) b (by omega) (by simp) (λy m=>hQ y (by rw[m,e]));clear h hQ e;simp[an, *,fj,c.idx,rows,aR];exact f
section
variable{x:AV}{l:List Int}(c:Sl 1 (rows l) x)(d:l.length<4611686018427387904)
include c d
theorem TN(t:Int):ay env 124 [x,aR t]=some (aI (GU t l 0)):=by
 refine aM rfl (by kernel_rfl) (rP _ _ _ _ λg=>?_);have h:=c.len;simp[an, *,mo];exact LP c d l 0 _ rfl (by omega) rfl (λy e=>by simp[e])
theorem K7(t:Int):ay env 102 [x,aR t]=some (aB (decide (t∈l))):=by
 refine aM rfl (by kernel_rfl) (qf _ _ _ _ λg=>?_);have h:=TN c d t;have a:=c.r;have e:=U1 t l 0;simp[an, *,kW]
end
def Q5(u:UInt8)(s:UInt8)(a_3:UInt32)(m:UInt8)(n:Int)(q:UInt8)(o:UInt32)(t:UInt8)(p:Int)(f:Int)(e:UInt8)(b:UInt32)(k:UInt8)(i:Int)(a:UInt8)(j:UInt32){x:AV}{l:List Int}(c:Sl 1 (rows l) x)(d:l.length<4611686018427387904):ay env 68 [.agg [a8 u,a8 s,bO a_3,a8 m,aI n,a8 q,bO o,a8 t,aI p,aI f,a8 e,bO b,a8 k,aI i,a8 a,bO j,x]]=some (aB (!decide (-1∈l))):=by
 refine aM rfl (by kernel_rfl) (KL _ _ _ λg=>?_);have h:=K7 c d (-1);have v:=c.r;unfold aR at h;simp[an, *,EB]
def nR(a b:fG):Bool:=decide (a.kind=b.kind)&&((decide (a.h.lv=b.h.lv)&&decide (a.h.cats=b.h.cats)&&decide (a.h.num=b.h.num))&&(decide (a.serial=b.serial) &&
 ((decide (a.s.f.h.lv=b.s.f.h.lv)&&decide (a.s.f.h.cats=b.s.f.h.cats)&&decide (a.s.f.h.num=b.s.f.h.num)&&decide (a.s.f.n=b.s.f.n)&&decide (a.s.many=b.s.many)) &&
 ((decide (a.a.h.lv=b.a.h.lv)&&decide (a.a.h.cats=b.a.h.cats)&&decide (a.a.h.num=b.a.h.num)&&decide (a.a.n=b.a.n))&&((decide (a.to.lv=b.to.lv)&&decide (a.to.cats=b.to.cats))&&decide (a.l=b.l))))))
def TI(D:UInt8)(B:UInt8)(a_3:UInt32)(F:UInt8)(H:Int)(K:UInt8)(I:UInt32)(L:UInt8)(J:Int)(e:Int)(b:UInt8)(h:UInt32)(n:UInt8)(i:Int)(f:UInt8)(j:UInt32)(A:UInt8)(z:UInt8)(M:UInt32)(C:UInt8)(w:Int)(G:UInt8)(v:UInt32)(E:UInt8)(u:Int)(t:Int)(o:UInt8)(k:UInt32)(s:UInt8)(a:Int)(q:UInt8)(p:UInt32){x y:AV}{l m:List Int}(c:Sl 1 (rows l) x)(N:Sl 1 (rows m) y)(d:l.length<1000000000):ay env 104 [.agg [a8 D,a8 B,bO a_3,a8 F,aI H,a8 K,bO I,a8 L,aI J,aI e,a8 b,bO h,a8 n,aI i,a8 f,bO j,x],.agg [a8 A,a8 z,bO M,a8 C,aI w,a8 G,bO v,a8 E,aI u,aI t,a8 o,bO k,a8 s,aI a,a8 q,bO p,y]]=some (aB (nR (⟨D,⟨B,a_3,F⟩,H,⟨⟨⟨K,I,L⟩,J⟩,e⟩,⟨⟨b,h,n⟩,i⟩,⟨f,j⟩,l⟩:fG) (⟨A,⟨z,M,C⟩,w,⟨⟨⟨G,v,E⟩,u⟩,t⟩,⟨⟨o,k,s⟩,a⟩,⟨q,p⟩,m⟩:fG))):=by
 refine aM rfl (by kernel_rfl) (Nl _ _ _ _ λg=>?_);have T:=QQ c N (by omega);have U:=c.r;have O:=N.r;unfold nR;cases R:decide (D=A) with
 | false=>simp[an, *,oe,nG,gm]
 | true=>
 cases V:(decide (B=z)&&decide (a_3=M)&&decide (F=C)) with| false=>simp[an, *,oe,nG,gm]| true=>
 cases S:decide (H=w) with| false=>simp[an, *,oe,nG,gm]| true=>
 cases P:(decide (K=G)&&decide (I=v)&&decide (L=E)&&decide (J=u)&&decide (e=t)) with| false=>simp[an, *,oe,nG,gm]| true=>
 cases Q:(decide (b=o)&&decide (h=k)&&decide (n=s)&&decide (i=a)) with| false=>simp[an, *,oe,nG,gm]| true=>
 cases W:(decide (f=q)&&decide (j=p)) with| false=>simp[an, *,oe,nG,gm]| true=>simp[an, *,oe,nG,gm]
end
section
attribute [local simp] aC aw ah aq ao bk jE aE ar ax bo bn aG aD ae aN cN
def bsO(z:Nat)(zz:AV)(H:aa)(r:Ref)(n:Nat)(a:List (Nat × AV))(refs:List Ref):cJ:=match gN (List.replicate n zz) a with
 | some es=>some (.bA r 0 n (some n),(r,some ⟨z,es,true,false⟩) :: b9 H refs)
 | none=>none
def An{P:Program}{a:Bool}{t:TypeId}(m:oc P t=true)(H:aa)(d h g:Nat)(n:Nat)(ps:List (Nat × AV))(j:n * jm P t<=16777216)(s:(cZ H.get ps).isSome=true)
 (o:((cZ H.get ps).getD []).all (λp=>p.2.cells.length == jm P t&&p.2.cells.all AV.one)=true) (b:(gN (List.replicate n (eM P t)) ((cZ H.get ps).getD [])).isSome=true) (f:m0 H.get (bH H.get (ps.map (·.2)))=false) :
 lH P a true H ⟨d,h,g,0⟩ t n (some ps)=bsO (jm P t) (eM P t) H ⟨d,h,g,0⟩ n ((cZ H.get ps).getD []) (bH H.get (ps.map (·.2))):=by
 obtain⟨ws,hw⟩:=ib.1 s;rw[hw,cb]at o b ⊢;obtain⟨es,b⟩:=ib.1 b;unfold oc at m;obtain⟨e,zz,l,w,y,k,q,v,u,z⟩:=fB m;have c:eM P t=zz:=by unfold eM;rw[l,dX,k];rfl
 rw[c]at b ⊢;have i:mkSlice P H.get t n ps=some ⟨jm P t,es,true,false⟩:=by
  simp only[mkSlice,l,hw,k,w];rw[if_pos ⟨vl u,j,q,v,by simpa using o⟩,b];rfl
 have x:fT P a H.get ⟨d,h,g,0⟩ t n (some ps)=none:=by
  simp only[fT,f,gj,iQh]
 unfold lH bsO;rw[x,b];simp only[lD,Ei,iQq,jH,i,Option.map_some]
attribute [local simp] An bsO cZ
def nH(o:fG):List UInt8:=[o.kind]++(cr o.h++(be 3 o.serial++(dP o.s.f++[u8 o.s.many])))
def Ys(n:Int):be 3 n=[u8 (n / 65536),u8 (n / 256),u8 n]:=by simp[Km]
def Gf(c:UInt8)(h:Qn)(a:Int)(f:yY)(b:Int):ay env 43 [.bq 1 [.bq 1 [a8 c] (some 1),.bq 1 (aA (cr h)) none,.bq 1 [a8 (u8 (a / 65536)),a8 (u8 (a / 256)),a8 (u8 a)] (some 3),.bq 1 (aA (dP f)) none,.bq 1 [a8 (u8 b)] (some 1)] (some 5)] =
 some (.fsl 1 (aA ([c]++(cr h++(be 3 a++(dP f++[u8 b]))))) none):=by
 have e:kN [([c],AV.bq 1 [a8 c] (some 1)),(cr h,.bq 1 (aA (cr h)) none),(be 3 a,.bq 1 [a8 (u8 (a / 65536)),a8 (u8 (a / 256)),a8 (u8 a)] (some 3)),(dP f,.bq 1 (aA (dP f)) none),([u8 b],.bq 1 [a8 (u8 b)] (some 1))]=[c]++(cr h++(be 3 a++(dP f++[u8 b]))):=by
  simp only[kN,lU,Bo,oD]
 rw[<-e];refine Gi (ps:=[([c],AV.bq 1 [a8 c] (some 1)),(cr h,.bq 1 (aA (cr h)) none),(be 3 a,.bq 1 [a8 (u8 (a / 65536)),a8 (u8 (a / 256)),a8 (u8 a)] (some 3)),(dP f,.bq 1 (aA (dP f)) none),([u8 b],.bq 1 [a8 (u8 b)] (some 1))]) (.inr ⟨some 5,rfl,by simp⟩) ?_ (by simp) (by rw[e];simp) (by rw[e];simp);intro p hp;simp only[ef,BS,iQv]at hp;rcases hp with rfl | rfl | rfl | rfl | rfl
 ·exact .inr ⟨some 1,rfl,by simp⟩
 ·exact Sl.mk _ _
 ·exact .inr ⟨some 3,by rw[Ys];rfl,by simp⟩
 ·exact Sl.mk _ _
 exact .inr ⟨some 1,rfl,by simp⟩
def TL(q:UInt8)(n:UInt8)(a_3:UInt32)(i:UInt8)(p:Int)(m:UInt8)(j:UInt32)(o:UInt8)(k:Int)(a:Int)(d:UInt8)(c:UInt32)(h:UInt8)(e:Int)(b:UInt8)(f:UInt32){x:AV}{l:List Int}(t:Sl 1 (rows l) x)(u:l.length<2000000)(s:qj (⟨q,⟨n,a_3,i⟩,p,⟨⟨⟨m,j,o⟩,k⟩,a⟩,⟨⟨d,c,h⟩,e⟩,⟨b,f⟩,l⟩:fG)=true)(v:q=2):ay env 67 [.agg [a8 q,a8 n,bO a_3,a8 i,aI p,a8 m,bO j,a8 o,aI k,aI a,a8 d,bO c,a8 h,aI e,a8 b,bO f,x]]=some (.tup [.bq 1 (aA (nH (⟨q,⟨n,a_3,i⟩,p,⟨⟨⟨m,j,o⟩,k⟩,a⟩,⟨⟨d,c,h⟩,e⟩,⟨b,f⟩,l⟩:fG))) none,aI 0]):=by
 refine aM rfl (by kernel_rfl) (zZ _ _ _ λg=>?_);have w:=rW q n a_3 i p m j o k a d c h e b f t u;rw[s]at w;have A:fA ⟨n,a_3,i⟩=true:=by simp only[qj,bt]at s;exact s.1
 have y:yP ⟨⟨m,j,o⟩,k⟩=true:=by
  simp only[qj,bt]at s;have:=s.2.2.2.1;simp only[nD,bt]at this;exact this.1
 clear s;subst v;have z:=Gf 2 ⟨n,a_3,i⟩ p ⟨⟨m,j,o⟩,k⟩ a;unfold nH;simp[an, *,tZ,t.r,bad,dI,dx]
def TK(s:UInt8)(j:UInt8)(a_3:UInt32)(d:UInt8)(m:Int)(i:UInt8)(f:UInt32)(k:UInt8)(h:Int)(c:Int)(o:UInt8)(n:UInt32)(q:UInt8)(p:Int)(b:UInt8)(a:UInt32){x:AV}{l:List Int}(y:Sl 1 (rows l) x)(A:l.length<2000000)(t:qj (⟨s,⟨j,a_3,d⟩,m,⟨⟨⟨i,f,k⟩,h⟩,c⟩,⟨⟨o,n,q⟩,p⟩,⟨b,a⟩,l⟩:fG)=true)(D:s=3):ay env 67 [.agg [a8 s,a8 j,bO a_3,a8 d,aI m,a8 i,bO f,a8 k,aI h,aI c,a8 o,bO n,a8 q,aI p,a8 b,bO a,x]]=some (.tup [.bq 1 (aA (nH (⟨s,⟨j,a_3,d⟩,m,⟨⟨⟨i,f,k⟩,h⟩,c⟩,⟨⟨o,n,q⟩,p⟩,⟨b,a⟩,l⟩:fG)++(b :: be 4 a.toNat))) none,aI 0]):=by
 refine aM rfl (by kernel_rfl) (zZ _ _ _ λg=>?_);have E:=rW s j a_3 d m i f k h c o n q p b a y A;rw[t]at E;subst D;have H:fA ⟨j,a_3,d⟩=true:=by simp only[qj,bt]at t;exact t.1
 have F:yP ⟨⟨i,f,k⟩,h⟩=true:=by
  simp only[qj,bt]at t;have:=t.2.2.2.1;simp only[nD,bt]at this;exact this.1
 have w:fA ⟨b,a,0⟩=true:=by
  simp only[qj,bt]at t;have:=t.2.2.2.2;simp only[Cu,JR]at this;simp at this;simp[fA,this]
 clear t;have G:=Gf 3 ⟨j,a_3,d⟩ m ⟨⟨i,f,k⟩,h⟩ c;unfold nH;have z:cr ⟨b,a,0⟩=b :: (be 4 a.toNat++[0]):=rfl;have u:(aA ([(3:UInt8)]++(cr ⟨j,a_3,d⟩++(be 3 m++(dP ⟨⟨i,f,k⟩,h⟩++[u8 c]))))).length=24:=by simp
 have v:=K6 b a 0;rw[if_pos w,z,uN]at v;rw[uN];rw[show aA (([(3:UInt8)]++(cr ⟨j,a_3,d⟩++(be 3 m++(dP ⟨⟨i,f,k⟩,h⟩++[u8 c]))))++[b,u8 (↑a.toNat / 16777216),u8 (↑a.toNat / 65536),u8 (↑a.toNat / 256),u8 ↑a.toNat])=aA ([(3:UInt8)]++(cr ⟨j,a_3,d⟩++(be 3 m++(dP ⟨⟨i,f,k⟩,h⟩++[u8 c]))))++[a8 b,a8 (u8 (↑a.toNat / 16777216)),a8 (u8 (↑a.toNat / 65536)),a8 (u8 (↑a.toNat / 256)),a8 (u8 ↑a.toNat)] from xF ..];have B:aA ([(3:UInt8)]++(cr ⟨j,a_3,d⟩++(be 3 m++(dP ⟨⟨i,f,k⟩,h⟩++[u8 c]))))≠[]:=by intro e;rw[e]at u;cases u
 generalize aA ([(3:UInt8)]++(cr ⟨j,a_3,d⟩++(be 3 m++(dP ⟨⟨i,f,k⟩,h⟩++[u8 c]))))=C at *;clear w z;simp[an, *,tZ,y.r,bad,dI,dx];rfl
def Py(C A R:List UInt8)(a:Option Nat)(b:A.length<=a.getD A.length)(c:0<C.length)(d:C.length+A.length+R.length<1000000):ay env 43 [.bq 1 [.bq 1 (aA C) none,.bq 1 (aA A) a,.bq 1 (aA R) none] (some 3)]=some (.fsl 1 (aA (C++(A++R))) none):=by
 have e:kN [(C,AV.bq 1 (aA C) none),(A,.bq 1 (aA A) a),(R,.bq 1 (aA R) none)]=C++(A++R):=by
  simp only[kN,lU,Bo,oD]
 rw[<-e];refine Gi (ps:=[(C,AV.bq 1 (aA C) none),(A,.bq 1 (aA A) a),(R,.bq 1 (aA R) none)]) (.inr ⟨some 3,rfl,by simp⟩) ?_ (by simp) (by rw[e];simp;omega) (by rw[e];simp;omega);intro p hp;simp only[ef,BS,iQv]at hp;rcases hp with rfl | rfl | rfl
 ·exact Sl.mk _ _
 ·exact .inr ⟨a,rfl,by simpa using b⟩
 exact Sl.mk _ _
def TJ(q:UInt8)(o:UInt8)(a_3:UInt32)(i:UInt8)(j:Int)(n:UInt8)(k:UInt32)(p:UInt8)(m:Int)(d:Int)(c:UInt8)(b:UInt32)(h:UInt8)(e:Int)(a:UInt8)(f:UInt32){x:AV}{l:List Int}(s:Sl 1 (rows l) x)(u:l.length<2000000)(t:qj (⟨q,⟨o,a_3,i⟩,j,⟨⟨⟨n,k,p⟩,m⟩,d⟩,⟨⟨c,b,h⟩,e⟩,⟨a,f⟩,l⟩:fG)=false):ay env 67 [.agg [a8 q,a8 o,bO a_3,a8 i,aI j,a8 n,bO k,a8 p,aI m,aI d,a8 c,bO b,a8 h,aI e,a8 a,bO f,x]]=some (.tup [aO,aI 8]):=by
 refine aM rfl (by kernel_rfl) (zZ _ _ _ λg=>?_);have v:=rW q o a_3 i j n k p m d c b h e a f s u;rw[t]at v;clear t;simp[an, *,tZ,s.r,bad]
@[simp] def ahx(r:Ref):xk env.P r 57 (some (.v (.int .i64 13))) (some (.v (.int .i64 13)))=some (.bA r 0 13 none,[⟨1,[a8 0,a8 0,a8 0,a8 0,a8 0,a8 0,a8 0,a8 0,a8 0,a8 0,a8 0,a8 0,a8 0],true,false⟩]):=by kernel_rfl
def Rv{o:fG}(h:qj o=true):nD o.s=true:=by
 simp only[qj,bt]at h;exact h.2.2.2.1
def NN{l:List Int}(h:Gp l=true):xh l=0/\l.length<=64 /\∀n∈l, -2147483648<=n/\n<=2147483647:=by
 simp only[Gp,bt,iQb]at h;refine⟨by unfold xh;rw[if_neg (by omega),if_pos h.2],h.1,λn a=>?_⟩;have:=dY.1 h.2 n a;simp only[ij,jt,bt,iQb]at this;omega
def od(a:yY):List UInt8:=if kE a then List.replicate 13 0 else dP a
def TM(t:UInt8)(m:UInt8)(a_3:UInt32)(h:UInt8)(o:Int)(k:UInt8)(i:UInt32)(n:UInt8)(j:Int)(f:Int)(b:UInt8)(a:UInt32)(d:UInt8)(c:Int)(q:UInt8)(s:UInt32){x:AV}{l:List Int}(A:Sl 1 (rows l) x)(K:l.length<2000000)(w:qj (⟨t,⟨m,a_3,h⟩,o,⟨⟨⟨k,i,n⟩,j⟩,f⟩,⟨⟨b,a,d⟩,c⟩,⟨q,s⟩,l⟩:fG)=true)(M:t=1):ay env 67 [.agg [a8 t,a8 m,bO a_3,a8 h,aI o,a8 k,bO i,a8 n,aI j,aI f,a8 b,bO a,a8 d,aI c,a8 q,bO s,x]]=some (.tup [.bq 1 (aA (nH (⟨t,⟨m,a_3,h⟩,o,⟨⟨⟨k,i,n⟩,j⟩,f⟩,⟨⟨b,a,d⟩,c⟩,⟨q,s⟩,l⟩:fG)++(od ⟨⟨b,a,d⟩,c⟩++bc l))) none,aI 0]):=by
 refine aM rfl (by kernel_rfl) (zZ _ _ _ λg=>?_);have O:=rW t m a_3 h o k i n j f b a d c q s A K;rw[w]at O;subst M;have T:fA ⟨m,a_3,h⟩=true:=by simp only[qj,bt]at w;exact w.1
 have z:=Rv w;have P:yP ⟨⟨k,i,n⟩,j⟩=true:=by
  have:=z;simp only[nD,bt]at this;exact this.1
 obtain⟨F,hlen,v⟩:(kE ⟨⟨b,a,d⟩,c⟩||yP ⟨⟨b,a,d⟩,c⟩)=true/\(l.length:Int)=f/\Gp l=true:=by
  simp only[qj,bt]at w;have:=w.2.2.2.2;simp[Cu,Ia]at this;refine⟨by simpa using this.2.1,this.2.2.2.1,this.2.2.2.2⟩
 obtain⟨D,I,E⟩:=NN v;have H:=Pu z;simp only at H;have u:=WV A (by omega) E;rw[if_pos D]at u;have J:=mS l;have B:aA (bc l)≠[]:=by
  intro e;have:=iQf List.length e;have Q:(aA (bc l)).length=(bc l).length:=by simp
  simp only[k8]at this;omega
 rw[tK 1 B]at u;clear w v D E H;have S:=Gf 1 ⟨m,a_3,h⟩ o ⟨⟨k,i,n⟩,j⟩ f;unfold nH;have N:([(1:UInt8)]++(cr ⟨m,a_3,h⟩++(be 3 o++(dP ⟨⟨k,i,n⟩,j⟩++[u8 f])))).length=24:=by simp
 generalize ([(1:UInt8)]++(cr ⟨m,a_3,h⟩++(be 3 o++(dP ⟨⟨k,i,n⟩,j⟩++[u8 f]))))=C at *;generalize bc l=R at *;cases p:kE ⟨⟨b,a,d⟩,c⟩ with
 | true=>
  have G:=Py C (List.replicate 13 0) R none (by simp) (by omega) (by simp;omega);rw[show od ⟨⟨b,a,d⟩,c⟩=List.replicate 13 0 by unfold od;rw[if_pos p]];obtain⟨⟨⟨rfl,rfl⟩,rfl⟩,rfl⟩:((b=0/\a=0)/\d=0)/\c=0:=by simpa [kE] using p
  have y:aA (List.replicate 13 0)=[a8 0,a8 0,a8 0,a8 0,a8 0,a8 0,a8 0,a8 0,a8 0,a8 0,a8 0,a8 0,a8 0]:=rfl;rw[y]at G;generalize aA (C++(List.replicate 13 0++R))=W at *;clear p F hlen;simp[an, *,tZ,A.r,bad,dI,dx,nG,gm]
 | false=>rw[p,xC]at F;have G:=Py C (dP ⟨⟨b,a,d⟩,c⟩) R none (by simp) (by omega) (by simp;omega);rw[show od ⟨⟨b,a,d⟩,c⟩=dP ⟨⟨b,a,d⟩,c⟩ by unfold od;rw[if_neg (by rw[p];decide)]];generalize aA (C++(dP ⟨⟨b,a,d⟩,c⟩++R))=W at *;have L:(decide (b=0)&&decide (a=0)&&decide (d=0)&&decide (c=0))=false:=p;clear p hlen;simp[an, *,tZ,A.r,bad,dI,dx,nG,gm]
end
section
attribute [local simp] aC aw ah aq ao bk jE aE ar ax bo bn aG aD ae aN cN
def Q6(c:Option Nat)(b1 b2 b3 b4 b5:UInt8):ay env 132 [.bq 1 [a8 b1,a8 b2,a8 b3,a8 b4,a8 b5] c]=some (.fsl 1 [a8 b1,a8 b2,a8 b3,a8 b4,a8 b5] none):=by
 refine aM rfl (by kernel_rfl) (FV _ _ _ λg=>?_);simp[an, *,zW]
def K8{x y:AV}{l m:List UInt8}(d:Sl 1 (aA l) x)(f:Sl 1 (aA m) y):ay env 63 [x,y]=some (aB (decide (l=m))):=by
 refine aM rfl (by kernel_rfl) (FU _ _ _ _ λg=>?_);have e : ∀l:List UInt8,aA l=[]->l=[]:=λl h=>by simpa [aA] using h
 rcases d with ⟨rfl,b⟩ | ⟨c,rfl,b⟩<;>rcases f with ⟨rfl,a⟩ | ⟨c',rfl,a⟩
 ·obtain rfl:=e l b;obtain rfl:=e m a;simp[an, *,og]
 ·obtain rfl:=e l b;simp[an, *,og];try exact⟨λh=>h.symm,λh=>h.symm⟩
 ·obtain rfl:=e m a;simp[an, *,og]
 simp[an, *,og]
def DT{f:FuncId}(a:(env.mode f == 2)=true)(dep:Nat)(H:aa)(r:Ref)(first args captured:List AV) :
 aV env true (ay env) (cD env dep) H r (some (.fn (.func f) first captured)) args=cD env dep (.fn f) (first++args++captured) H:=by
 have h:env.mode f=2:=by simpa using a
 simp[aV,kT,nc,lD,Ei,h]
def ik(l:List UInt8):Qn:=⟨l.getD 0 0,u32 (val ((l.drop 1).take 4)),l.getD 5 0⟩
def jL(l:List UInt8):yY:=⟨ik l,val (l.drop 6)⟩
def JI{l:List UInt8}(h:l.length=6) : ∃a b c d e f,l=[a,b,c,d,e,f]:=by
 match l,h with
 | [a,b,c,d,e,f],_=>exact⟨a,b,c,d,e,f,rfl⟩
def zl{l:List UInt8}(h:l.length=13) : ∃a b c d e f g i j k m n o,l=[a,b,c,d,e,f,g,i,j,k,m,n,o]:=by
 match l,h with
 | [a,b,c,d,e,f,g,i,j,k,m,n,o],_=>exact⟨a,b,c,d,e,f,g,i,j,k,m,n,o,rfl⟩
def mP{z:Nat}{es:List AV}{x:AV}(h:Sl z es x)(a:0<es.length) : ∃c,x = .bq z es c/\es.length<=c.getD es.length:=by
 rcases h with ⟨rfl,rfl⟩ | ⟨c,rfl,h⟩
 ·simp at a
 exact⟨c,rfl,h⟩
def LX{v:AV}{l:List UInt8}(h:Sl 1 (aA l) v)(i:l.length=6):ay env 111 [v] =
 some (if fA (ik l) then .tup [.agg [a8 (ik l).lv,bO (ik l).cats,a8 (ik l).num],aI 0] else .tup [.agg [a8 0,bO 0,a8 0],aI 8]):=by
 obtain⟨a,b,c,d,e,f,rfl⟩:=JI i;obtain⟨j,rfl,g⟩:=mP h (by simp[aA]);exact Eb (by simpa [aA] using g)
def abE{v:AV}{l:List UInt8}(q:Sl 1 (aA l) v)(s:l.length=13):ay env 149 [v] =
 some (if yP (jL l) then .tup [.agg [a8 (jL l).h.lv,bO (jL l).h.cats,a8 (jL l).h.num,aI (jL l).n],aI 0] else .tup [.agg [a8 0,bO 0,a8 0,aI 0],aI 8]):=by
 obtain⟨a,b,c,d,e,f,g,i,j,k,m,n,o,rfl⟩:=zl s;obtain⟨t,rfl,p⟩:=mP q (by simp[aA]);exact aax (by simpa [aA] using p)
def AJ(l:List UInt8)(a:Nat)(b:Bool)(n:Nat):Bool:=b||decide (l.length<a+n)
def D7(l:List UInt8)(a:Nat)(b:Bool)(n:Nat):Nat:=if AJ l a b n then a else a+n
def wj(l:List UInt8)(a:Nat)(b:Bool)(n:Nat):List UInt8:=if AJ l a b n then List.replicate n 0 else (l.drop a).take n
def Dr{l:List UInt8}{a:Nat}(b:Bool)(n:Nat)(h:a<=l.length):D7 l a b n<=l.length:=by
 unfold D7 AJ;split;·exact h
 rename_i c;simp at c;omega
def xZ{l:List UInt8}{a:Nat}(b:Bool)(n:Nat):(wj l a b n).length=n:=by
 unfold wj;split;·simp
 rename_i c;simp[AJ]at c;simp;omega
def vt(x:AV)(a:Nat)(b:Bool):aY:=⟨3,[.agg [x,aI a,aB b]],false,false⟩
structure Tk (H H':aa) (r:Ref) (x:AV) (l bs:List UInt8) (a:Nat) (b:Bool) (y v:AV):Prop where
 seen:nm 1 (aA bs) H' y v
 fr:Fr H'
 box:H'.get r=some (vt x a b)
 old : ∀q c,q≠r->H.get q=some c->H'.get q=some c
 spot : ∀q,y.at?=some q->q.t=31
def S8(d:Nat){H:aa}{r:Ref}{x:AV}{l:List UInt8}{a n:Nat}{c:aY}(g:Fr H)(j:H.get r=some c) :
 ∃v,Tk H ((⟨d,31,H.gen d 31,0⟩,some ⟨1,List.replicate n (a8 0),true,false⟩) :: H.put r (some ⟨3,[.agg [x,aI a,aB true]],false,false⟩)) r x l (List.replicate n 0) a true (.bA ⟨d,31,H.gen d 31,0⟩ 0 n none) v:=by
 have h:(H.get r).isSome=true:=by rw[j];rfl
 have b:aA (List.replicate n 0)=List.replicate n (a8 0):=by simp[aA]
 refine⟨.bq 1 (aA (List.replicate n 0)) none,?_,by simp(maxDischargeDepth:=12) [hY, *],?_,?_,?_⟩
 ·refine .inr ⟨⟨d,31,H.gen d 31,0⟩,none,false,?_,?_,rfl,?_⟩;·rw[b];simp
  ·rw[b];simp
  simp
 ·rw[aa.bS,if_neg (pq g h _ _ _),aa.ab,if_pos rfl];rfl
 ·intro q c' i f;rw[aa.bS,if_neg (pq g (by rw[f];rfl) _ _ _),aa.ab,if_neg (λe=>i e)];exact f
 intro q e;cases e;rfl
def aai{H:aa}{r:Ref}{x y:AV}{l bs:List UInt8}{a:Nat}{c:aY}{b1 b2:Option aY}(k:Fr H)(i:H.get r=some c)(g:Sl 1 (aA bs) y)(b : ∃f,b1=some f)(d:b2=some ⟨3,[.agg [x,aI a,aB false]],false,false⟩) :
 ∃v,Tk H ((H.put r b1).put r b2) r x l bs a false y v:=by
 have m:(H.get r).isSome=true:=by rw[i];rfl
 subst d;refine⟨y,nm.of g _,?_,?_,?_,?_⟩;·obtain⟨f,rfl⟩:=b;simp(maxDischargeDepth:=12) [hY, *]
 ·rw[aa.ab,if_pos rfl];rfl
 ·intro q c' h j;rw[aa.ab,if_neg (λe=>h e),aa.ab,if_neg (λe=>h e)];exact j
 intro q e;rcases g with ⟨rfl,_⟩ | ⟨c,rfl,_⟩<;>cases e
def WB(dep:Nat){H:aa}{r:Ref}{x:AV}{l:List UInt8}{a:Nat}{b:Bool}(n:Nat)(m:Fr H)(o:Sl 1 (aA l) x)(e:H.get r=some (vt x a b))(I:a<=l.length)(G:l.length<1000000000)(K:n<1000000) :
 ∃y H',cD env dep (.fn 129) [.ptr r 0 0,aI n] H=some (y,H') /\∃v,Tk H H' r x l (wj l a b n) (D7 l a b n) (AJ l a b n) y v:=by
 refine qK (fn:=Tryz.f129) (c:=ry) (by kernel_rfl) (by kernel_rfl) (by kernel_rfl) (by kernel_rfl) (by kernel_rfl) ?_;refine rp _ _ _ _ _ λg=>?_;unfold vt at e;have u:=o.len;have J:=iQa ((l.length:Int) - a) (by omega);have D:=λr=>zq (P:=env.P) (r:=r) (t:=57) (z:=1) (by':=1) (zz:=a8 0) (by kernel_rfl) (by kernel_rfl) (n:=n) (by unfold aG;omega) (by omega);have A:aA (List.replicate n 0)=List.replicate n (a8 0):=by simp[aA]
 cases b with| true=>have f:AJ l a true n=true:=rfl;have k:D7 l a true n=a:=rfl;have i:wj l a true n=List.replicate n 0:=rfl;simp[an, *,fx,e];exact S8 _ m e| false=>
  by_cases d:(l.length:Int) - a<n
  ·have f:AJ l a false n=true:=by simp only[AJ,xC,iQb];omega
   have k:D7 l a false n=a:=by unfold D7;rw[f];rfl
   have i:wj l a false n=List.replicate n 0:=by unfold wj;rw[f];rfl
   have hd:decide ((l.length:Int) - a<n)=true:=iQg d;clear d;simp[an, *,fx,e];exact S8 _ m e
  have f:AJ l a false n=false:=by simp only[AJ,xC,iQc];omega
  have k:D7 l a false n=a+n:=by unfold D7;rw[f];rfl
  have i:wj l a false n=(l.drop a).take n:=by unfold wj;rw[f];rfl
  have hd:decide ((l.length:Int) - a<n)=false:=iQi d;have F:=iQa ((a:Int)+n) (by omega);have E:=iQa (a:Int) (by omega);have w:=iQa ((a:Int)+n - n) (by omega);have q:(a:Int)+n - n=a:=by omega
  rw[q]at w;have s:a+n<=l.length:=by omega
  have h:=λg=>QI (P:=env.P) (t:=57) (z:=1) (by kernel_rfl) g o (lo:=(a:Int)) (hi:=(a:Int)+n) (by omega) (by omega) (by simp;omega);have p:((a:Int)+n).toNat - (a:Int).toNat=n:=by omega
  rw[p,Jf]at h;clear d p q;simp[an, *,fx,e];obtain⟨y,C,j⟩:=h _;refine abS C ?_;have B:Sl 1 (aA ((l.drop a).take n)) y:=by simpa [aA] using j
  rw[k,f,i];exact aai m e B ⟨_,rfl⟩ rfl
end
section
def Pn{a b:Int}(h:a % 256=b % 256):u8 a=u8 b:=by
 apply yC.1;have d:=Bu a;have c:=Bu b;omega
def SK(n:Int) : ∃j,IntKind.i32.wrap n=n+4294967296 * j /\ -2147483648<=IntKind.i32.wrap n/\IntKind.i32.wrap n<=2147483647:=by
 rw[iQw];exact⟨-((n+2147483648) / 4294967296),by omega,by omega,by omega⟩
def word(a b c d:UInt8):Int:=IntKind.i32.wrap (val [a,b,c,d])
def words:List UInt8->List Int
 | a :: b :: c :: d :: l=>word a b c d :: words l
 | _=>[]
def Qi(n j:Int):be 4 (n+4294967296 * j)=be 4 n:=by
 rw[uN,uN,Pn (a:=(n+4294967296 * j) / 16777216) (b:=n / 16777216) (by omega),Pn (a:=(n+4294967296 * j) / 65536) (b:=n / 65536) (by omega),
  Pn (a:=(n+4294967296 * j) / 256) (b:=n / 256) (by omega),Pn (a:=n+4294967296 * j) (b:=n) (by omega)]
def Qg(a b c d:UInt8):be 4 (word a b c d)=[a,b,c,d]:=by
 obtain⟨j,h,_⟩:=SK (val [a,b,c,d]);unfold word;rw[h,Qi];exact E8 rfl
def L1{P:List UInt8->Prop}(f:P [])(g : ∀a b c d l,P l->P (a :: b :: c :: d :: l)) : ∀(n:Nat)(l:List UInt8),l.length=4 * n->P l:=by
 intro n;induction n with
 | zero=>intro l h;obtain rfl:l=[]:=sK.1 (by omega);exact f
 | succ n e=>
  intro l h;match l,h with
  | a :: b :: c :: d :: l,h=>exact g a b c d l (e l (by simp only[iA]at h;omega))
def tJ(n:Nat)(l:List UInt8)(h:l.length=4 * n):bc (words l)=l/\(words l).length=n:=by
 constructor
 ·exact L1 (P:=λl=>bc (words l)=l) rfl (λa b c d l e=>by
   show be 4 (word a b c d)++bc (words l)=_;rw[e,Qg];rfl) n l h
 have:=mS (words l);rw[L1 (P:=λl=>bc (words l)=l) rfl (λa b c d l e=>by
  show be 4 (word a b c d)++bc (words l)=_;rw[e,Qg];rfl) n l h]at this
 omega
def Wb{n:Int}(b : -2147483648<=n)(f:n<=2147483647):word (u8 (n / 16777216)) (u8 (n / 65536)) (u8 (n / 256)) (u8 n)=n:=by
 obtain⟨j,h,d,c⟩:=SK (val [u8 (n / 16777216),u8 (n / 65536),u8 (n / 256),u8 n]);unfold word;rw[<-uN]at *;have e:val (be 4 n)=n\/val (be 4 n)=n+4294967296:=by
  rcases Fl n 0 with a | a
  ·right;have:=Qi n 1;rw[<-this];exact Bt (by omega) (by omega)
  exact .inl (Bt a (by omega))
 omega
def Js(l:List Int)(h : ∀n∈l, -2147483648<=n/\n<=2147483647):words (bc l)=l:=by
 induction l with| nil=>rfl| cons n l c=>have a:=h n (gD ..);show words (be 4 n++bc l)=_;rw[uN];show word _ _ _ _ :: words (bc l)=_;rw[Wb a.1 a.2,c λm b=>h m (iS _ b)]
def Bv(c:UInt32):u32 (val (be 4 (c.toNat:Int)))=c:=by
 have:=c.toNat_lt;rw[Bt (by omega) (by omega)];simp
def Hn(l:List UInt8)(h:l.length=4):be 4 ((u32 (val l)).toNat:Int)=l:=by
 have a:=wX l;rw[h]at a;have e:((u32 (val l)).toNat:Int)=val l:=by
  rw[ur];omega
 rw[e];exact E8 h
def yt(h:Qn):ik (cr h)=h:=by
 obtain⟨a,b,c⟩:=h;have:=Bv b;rw[uN]at this;simp[ik,cr,uN];simpa using this
def CE{l:List UInt8}(h:l.length=6):cr (ik l)=l:=by
 obtain⟨a,b,c,d,e,f,rfl⟩:=JI h;have:=Hn [b,c,d,e] rfl;simp[ik,cr,this]
def CD{i:yY}(e:0<=i.n)(f:i.n<72057594037927936):jL (dP i)=i:=by
 obtain⟨h,n⟩:=i;have g:ik (cr h++be 7 n)=h:=by
  have:=yt h;obtain⟨a,b,c⟩:=h;simp only[ik,cr,uN]at *;simpa using this
 have d:(cr h++be 7 n).drop 6=be 7 n:=Ax (BE h);unfold jL dP;rw[g,d,Bt e (by simpa using f)]
def yr{l:List UInt8}(h:l.length=13):dP (jL l)=l:=by
 have p:ik l=ik (l.take 6):=by
  obtain⟨a,b,c,d,e,f,g,i,j,k,m,n,o,rfl⟩:=zl h;rfl
 unfold dP jL;rw[p,CE (by simp;omega),E8 (by simp;omega),AB]
def GV{l:List UInt8}(h:l.length=13):kE (jL l)=decide (l=List.replicate 13 0):=by
 rw[Bool.eq_iff_iff,wy,iQb];constructor;·intro e;rw[<-yr h,e];rfl
 rintro rfl;rfl
def eZ(o:fG):List UInt8:=nH o++(if o.kind=1 then od o.a++bc o.l else if o.kind=3 then o.to.lv :: be 4 o.to.cats.toNat else [])
def ny(l:List UInt8):fG:=⟨l.headD 0,ik ((l.drop 1).take 6),val ((l.drop 7).take 3),⟨jL ((l.drop 10).take 13),(((l.drop 23).headD 0).toNat:Int)⟩,
 if l.headD 0=1 then jL ((l.drop 24).take 13) else mF,if l.headD 0=3 then ⟨(l.drop 24).headD 0,u32 (val ((l.drop 25).take 4))⟩ else ⟨0,0⟩,
 if l.headD 0=1 then words ((l.drop 37).take (4 * ((l.drop 23).headD 0).toNat)) else []⟩
def kH(k m:UInt8):Nat:=if k=1 then 37+4 * m.toNat else if k=3 then 29 else 24
def pK(l:List UInt8):Nat:=kH (l.headD 0) ((l.drop 23).headD 0)
def mM(l:List UInt8):Bool:=decide (24<=l.length)&&(decide (pK l<=l.length)&&qj (ny l))
def Ps{l:List UInt8}(h:24<=l.length) : ∃k a d c m rest,l=k :: (a++(d++(c++(m :: rest))))/\a.length=6/\d.length=3/\c.length=13:=by
 match l,h with
 | k :: l,h=>
  simp only[iA]at h;refine⟨k,l.take 6,(l.drop 6).take 3,(l.drop 9).take 13,(l.drop 22).headD 0,l.drop 23,?_,by simp;omega,by simp;omega,by simp;omega⟩;have g:l.drop 22=(l.drop 22).headD 0 :: l.drop 23:=by
   match b:l.drop 22 with
   | []=>have:=iQf List.length b;simp at this;omega
   | m :: t=>have:l.drop 23=(l.drop 22).drop 1:=(by rw[oC]);rw[this,b];rfl
  rw[<-g];have e:(l.drop 9).take 13++l.drop 22=l.drop 9:=(by have:l.drop 22=(l.drop 9).drop 13:=(by rw[oC]);rw[this,AB]);have f:(l.drop 6).take 3++l.drop 9=l.drop 6:=(by have:l.drop 9=(l.drop 6).drop 3:=(by rw[oC]);rw[this,AB]);rw[e,f,AB]
def AR(k:UInt8)(a c b:List UInt8)(m:UInt8)(rest:List UInt8):fG:=⟨k,ik a,val c,⟨jL b,(m.toNat:Int)⟩,
 if k=1 then jL (rest.take 13) else mF,if k=3 then ⟨rest.headD 0,u32 (val ((rest.drop 1).take 4))⟩ else ⟨0,0⟩,
 if k=1 then words ((rest.drop 13).take (4 * m.toNat)) else []⟩
def Gt(k:UInt8)(c b a:List UInt8)(m:UInt8)(rest:List UInt8)(o:c.length=6)(n:b.length=3)(i:a.length=13):ny (k :: (c++(b++(a++(m :: rest)))))=AR k c b a m rest/\pK (k :: (c++(b++(a++(m :: rest)))))=kH k m:=by
 have d1:(k :: (c++(b++(a++(m :: rest))))).drop 1=c++(b++(a++(m :: rest))):=rfl;have d7:(k :: (c++(b++(a++(m :: rest))))).drop 7=b++(a++(m :: rest)):=by
  show(c++(b++(a++(m :: rest)))).drop 6=_;exact Ax o
 have h:(k :: (c++(b++(a++(m :: rest))))).drop 10=a++(m :: rest):=by
  have:(k :: (c++(b++(a++(m :: rest))))).drop 10=((k :: (c++(b++(a++(m :: rest))))).drop 7).drop 3:=(by rw[oC]);rw[this,d7];exact Ax n
 have d:(k :: (c++(b++(a++(m :: rest))))).drop 23=m :: rest:=by
  have:(k :: (c++(b++(a++(m :: rest))))).drop 23=((k :: (c++(b++(a++(m :: rest))))).drop 10).drop 13:=(by rw[oC]);rw[this,h];exact Ax i
 have l : ∀j,(k :: (c++(b++(a++(m :: rest))))).drop (24+j)=rest.drop j:=by
  intro j;have:(k :: (c++(b++(a++(m :: rest))))).drop (24+j)=((k :: (c++(b++(a++(m :: rest))))).drop 23).drop (1+j):=by rw[oC];congr 1;omega
  rw[this,d,Nat.add_comm];rfl
 have g:=l 0;have f:=l 1;have e:=l 13;simp only[ug,C8,Nat.reduceAdd]at g f e;constructor;·unfold ny AR;rw[d1,d7,h,d,g,f,e,wA o,wA n,wA i];rfl
 unfold pK;rw[d];rfl
def Vy{a:List UInt8}(h:a.length=3):be 3 (val a)=a:=E8 h
def SY(m:UInt8):u8 (m.toNat:Int)=m:=by simp
def R6{l:List UInt8}(h:mM l=true):eZ (ny l)=l.take (pK l)/\qj (ny l)=true/\pK l<=l.length/\24<=pK l:=by
 simp only[mM,bt,iQb]at h;obtain⟨q,g,v⟩:=h;refine⟨?_,v,g,by unfold pK kH;split<;>first | omega | (split<;>omega)⟩;obtain⟨k,c,b,d,m,rest,rfl,u,s,n⟩:=Ps q;obtain⟨y,x⟩:=Gt k c b d m rest u s n;rw[x]at g ⊢;rw[y]at v ⊢;have o:(k :: (c++(b++(d++(m :: rest))))).length=24+rest.length:=by simp only[iA,ju];omega
 have B:nH (AR k c b d m rest)=k :: (c++(b++(d++[m]))):=by
  unfold nH AR;simp only[CE u,Vy s,yr n,SY];rfl
 have i : ∀j,(k :: (c++(b++(d++(m :: rest))))).take (24+j)=(k :: (c++(b++(d++[m]))))++rest.take j:=by
  intro j;have:k :: (c++(b++(d++(m :: rest))))=(k :: (c++(b++(d++[m]))))++rest:=by simp
  rw[this,List.take_append];have e:(k :: (c++(b++(d++[m])))).length=24:=by simp only[iA,ju,k8];omega
  rw[e,cN (by omega)];congr 2;omega
 unfold eZ;rw[B];have A:(AR k c b d m rest).kind=k:=rfl;rw[A];rw[o]at g;by_cases k1:k=1
 ·subst k1;have f:kH 1 m=24+(13+4 * m.toNat):=by unfold kH;rw[if_pos rfl];omega
  rw[f]at g ⊢;rw[i,if_pos rfl];congr 1;have z:(AR 1 c b d m rest).a=jL (rest.take 13):=rfl;have C:(AR 1 c b d m rest).l=words ((rest.drop 13).take (4 * m.toNat)):=rfl;rw[z,C,(tJ m.toNat _ (by simp;omega)).1,List.take_add];congr 1;unfold od;rw[GV (by simp;omega)];split;·rename_i e;simp only[iQb]at e;rw[e]
  exact yr (by simp;omega)
 rw[if_neg k1];by_cases p:k=3
 ·subst p;have f:kH 3 m=24+5:=by unfold kH;rfl
  rw[f]at g ⊢;rw[i,if_pos rfl];congr 1;match rest,g with
  | t :: rest,g=>simp only[iA]at g;have w:(AR 3 c b d m (t :: rest)).to=⟨t,u32 (val (rest.take 4))⟩:=rfl;rw[w];simp only[Hn _ (show(rest.take 4).length=4 by simp;omega)];rfl
 have f:kH k m=24+0:=by unfold kH;rw[if_neg k1,if_neg p]
 rw[f,i,if_neg p];simp
def Mx(o:fG):(nH o).length=24:=by simp[nH]
def r9{o:fG}(h:qj o=true):1<=o.serial/\o.serial<16777216/\(1<=o.s.f.n/\o.s.f.n<=1099511627776)/\1<=o.s.many/\o.s.many<=64 /\
 ((o.kind=1/\o.to=⟨0,0⟩/\(o.a=mF\/(1<=o.a.n/\o.a.n<=1099511627776))/\(o.l.length:Int)=o.s.many/\Gp o.l=true)\/(o.kind=2/\o.to=⟨0,0⟩/\o.a=mF/\o.l=[])\/(o.kind=3/\o.a=mF/\o.l=[]/\o.to.lv<=15)):=by
 simp only[qj,bt,iQb]at h;obtain⟨p,m,i,c,hm⟩:=h;have d:=Pu c;have hi:=IP (Tg c);refine⟨m,i,hi,d.2.1,d.2.2.1,?_⟩;have g : ∀t:ZY,vi t=true->t=⟨0,0⟩:=by
  rintro⟨a,b⟩ h;simp[vi]at h;rw[h.1,h.2]
 unfold Cu at hm;split at hm
 ·rename_i k1;simp only[Ia,bt,jt,iQb]at hm;refine .inl ⟨k1,g _ hm.1,?_,hm.2.2.2.1,hm.2.2.2.2⟩;rcases hm.2.1 with e | e
  ·exact .inl ((wy _).1 e)
  exact .inr (IP e)
 split at hm;·rename_i k;simp only[OJ,zR,bt,iQb]at hm;exact .inr (.inl ⟨k,g _ hm.1,(wy _).1 hm.2.1,hm.2.2⟩)
 split at hm;·rename_i j;simp only[JR,zR,bt,iQb]at hm;exact .inr (.inr ⟨j,(wy _).1 hm.1.1,hm.1.2,hm.2⟩)
 cases hm
def AL(o:fG):Nat:=if o.kind=1 then 37+4 * o.s.many.toNat else if o.kind=3 then 29 else 24
def BN(a:yY):(od a).length=13:=by unfold od;split<;>simp
def vx{o:fG}(h:qj o=true):(eZ o).length=AL o:=by
 have hp:=r9 h;unfold eZ AL;rw[ju,Mx];rcases hp.2.2.2.2.2 with ⟨k,_,_,a,_⟩ | ⟨k,_⟩ | ⟨k,_⟩
 ·rw[if_pos k,if_pos k,ju,BN,mS];omega
 ·rw[k];rfl
 rw[k];simp
end
section
attribute [local simp] aC aw ah aq ao bk jE aE ar ax bo bn aG aD ae aN cN
def uy{o:fG}(h:qj o=true):24<=AL o/\AL o<=293:=by
 have hp:=r9 h;unfold AL;split;·omega
 split<;>omega
def aaX(o:fG):AV:=if qj o then .tup [.bq 1 (aA (eZ o)) none,aI 0] else .tup [aO,aI 8]
def W3(p:UInt8)(n:UInt8)(a_3:UInt32)(h:UInt8)(i:Int)(m:UInt8)(j:UInt32)(o:UInt8)(k:Int)(d:Int)(c:UInt8)(b:UInt32)(g:UInt8)(e:Int)(a:UInt8)(f:UInt32){x:AV}{l:List Int}(t:Sl 1 (rows l) x)(u:l.length<2000000):ay env 67 [.agg [a8 p,a8 n,bO a_3,a8 h,aI i,a8 m,bO j,a8 o,aI k,aI d,a8 c,bO b,a8 g,aI e,a8 a,bO f,x]]=some (aaX (⟨p,⟨n,a_3,h⟩,i,⟨⟨⟨m,j,o⟩,k⟩,d⟩,⟨⟨c,b,g⟩,e⟩,⟨a,f⟩,l⟩:fG)):=by
 unfold aaX;cases s:qj (⟨p,⟨n,a_3,h⟩,i,⟨⟨⟨m,j,o⟩,k⟩,d⟩,⟨⟨c,b,g⟩,e⟩,⟨a,f⟩,l⟩:fG) with
 | false=>rw[TJ p n a_3 h i m j o k d c b g e a f t u s];rfl
 | true=>
  have hp:=r9 s;rw[if_pos rfl];unfold eZ;rcases hp.2.2.2.2.2 with ⟨q,_⟩ | ⟨q,_⟩ | ⟨q,_⟩
  ·rw[TM p n a_3 h i m j o k d c b g e a f t u s q,if_pos q]
  ·simp only at q;rw[TL p n a_3 h i m j o k d c b g e a f t u s q,if_neg (by simp[q]),if_neg (by simp[q]),oD]
  simp only at q;rw[TK p n a_3 h i m j o k d c b g e a f t u s q,if_neg (by simp[q]),if_pos q]
end
section
def Rh{o:fG}(h:qj o=true)(b:List UInt8):ny (eZ o++b)=o/\pK (eZ o++b)=AL o/\mM (eZ o++b)=true:=by
 have hp:=r9 h;have j:=vx h;obtain⟨k,hd,e,⟨f,m⟩,a,to,l⟩:=o;simp only at hp;obtain⟨A,C,⟨x,w⟩,v,F,B⟩:=hp;have u:((u8 m).toNat:Int)=m:=by rw[Bu];omega
 have g:(u8 m).toNat=m.toNat:=by omega
 have d:eZ ⟨k,hd,e,⟨f,m⟩,a,to,l⟩++b=k :: (cr hd++(be 3 e++(dP f++(u8 m :: ((if k=1 then od a++bc l else if k=3 then to.lv :: be 4 to.cats.toNat else [])++b))))):=by
  simp[eZ,nH]
 obtain⟨z,y⟩:=Gt k (cr hd) (be 3 e) (dP f) (u8 m) ((if k=1 then od a++bc l else if k=3 then to.lv :: be 4 to.cats.toNat else [])++b) (by simp) (by simp) (by simp);have s:ny (eZ ⟨k,hd,e,⟨f,m⟩,a,to,l⟩++b)=⟨k,hd,e,⟨f,m⟩,a,to,l⟩:=by
  rw[d,z];unfold AR;rw[yt,Bt (by omega) (by omega),CD (by omega) (by omega),u,g];rcases B with ⟨rfl,rfl,q,G,i⟩ | ⟨rfl,rfl,rfl,rfl⟩ | ⟨rfl,rfl,rfl,_⟩
  ·have p:(bc l).length=4 * m.toNat:=by rw[mS];omega
   simp only[if_true];rw[qq,wA (BN a),Ax (BN a),wA p,Js _ (NN i).2.2];have:jL (od a)=a:=by
    unfold od;rcases q with rfl | q
    ·rfl
    split;·rename_i n;rw[(wy _).1 n];rfl
    exact CD (by omega) (by omega)
   rw[this];rfl
  ·rfl
  obtain⟨t,c⟩:=to;have D:((t :: be 4 (c.toNat:Int))++b).drop 1=be 4 (c.toNat:Int)++b:=rfl;have E:((t :: be 4 (c.toNat:Int))++b).headD 0=t:=rfl;simp only[show ¬(3:UInt8)=1 by decide,iQh,if_true];rw[D,E,wA (DV _ _),Bv]
 have n:pK (eZ ⟨k,hd,e,⟨f,m⟩,a,to,l⟩++b)=AL ⟨k,hd,e,⟨f,m⟩,a,to,l⟩:=by
  rw[d,y];unfold kH AL;rw[g]
 refine⟨s,n,?_⟩;simp only[mM,bt,iQb];rw[s,n,ju,j];exact⟨by unfold AL;split<;>first | omega | (split<;>omega),by omega,h⟩
end
section
attribute [local simp] aC aw ah aq ao bk jE aE ar ax bo bn aG aD ae aN cN
def RJ(bs:List UInt8):yY:=if yP (jL bs) then jL bs else mF
def zD(bs:List UInt8)(zero:Bool):Bool := !yP (jL bs) && !(zero&&decide (bs=List.replicate 13 0))
structure Ti (H H':aa) (r:Ref) (x:AV) (bs:List UInt8) (a:Nat) (b:Bool) (y:AV):Prop where
 val:y = .agg [a8 (RJ bs).h.lv,bO (RJ bs).h.cats,a8 (RJ bs).h.num,aI (RJ bs).n]
 fr:Fr H'
 box:H'.get r=some (vt x a b)
 old : ∀q c,q≠r->H.get q=some c->H'.get q=some c
def By(dep:Nat){H:aa}{r:Ref}{x:AV}{l:List UInt8}{a:Nat}{b:Bool}(n:Nat){i:Int}{K:AV->aa->Prop}{m:Mk K}(hi:i=n)(c:Sl 1 (aA l) x)(g:a<=l.length)(e:l.length<1000000000)(o:n<1000000)
 (f:Fr H) (d:H.get r=some (vt x a b)) (h : ∀y v H',Tk H H' r x l (wj l a b n) (D7 l a b n) (AJ l a b n) y v->K y H'):gh (cD env dep (.fn 129) [.ptr r 0 0,aI i] H) K m:=by
 subst hi;obtain⟨y,H',j,v,k⟩:=WB dep n f c d g e o;exact tk j (h y v H' k)
def afg(dep:Nat){H:aa}{r:Ref}{x:AV}{l:List UInt8}{a:Nat}{b:Bool}(zero:Bool)(A:Fr H)(P:Sl 1 (aA l) x)(G:H.get r=some (vt x a b))(M:a<=l.length)(Q:l.length<1000000000) :
 ∃y H',cD env dep (.fn 130) [.ptr r 0 0,aB zero] H=some (y,H')/\Ti H H' r x (wj l a b 13) (D7 l a b 13) (AJ l a b 13||zD (wj l a b 13) zero) y:=by
 refine qK (fn:=Tryz.f130) (c:=sX) (by kernel_rfl) (by kernel_rfl) (by kernel_rfl) (by kernel_rfl) (by kernel_rfl) ?_;refine sN _ _ _ _ _ λg=>?_;have E:(H.get r).isSome=true:=by rw[G];rfl
 have T:=DT (f:=129) (by kernel_rfl);simp[an, *,fX,T, -aw];refine By (dep+1) 13 rfl P M Q (by omega) (by simp(maxDischargeDepth:=12) [hY, *]) (by rw[aa.bS,if_neg (pq A E _ _ _)];exact G) λy v p U=>?_;obtain⟨s,fr,d,old,spot⟩:=U;have w:=xZ (l:=l) (a:=a) b 13;have Y:=abE s.sl w;have Z:ay env 63 [v,.bq 1 [a8 0,a8 0,a8 0,a8 0,a8 0,a8 0,a8 0,a8 0,a8 0,a8 0,a8 0,a8 0,a8 0] none]=some (aB (decide (wj l a b 13=List.replicate 13 0))):=K8 s.sl (Sl.mk 1 (aA (List.replicate 13 0)));have R:=old ⟨dep+1,4,H.gen (dep+1) 4,0⟩ ⟨4,[.agg [a8 0,bO 0,a8 0,aI 0]],false,false⟩ (pq A E _ _ _) (by simp);have n1:(⟨dep+1,4,H.gen (dep+1) 4,0⟩:Ref)≠r:=pq A E _ _ _;have n2:=n1.symm;have l2:(p.get r).isSome=true:=by rw[d];rfl
 have l3:(p.get ⟨dep+1,4,H.gen (dep+1) 4,0⟩).isSome=true:=by rw[R];rfl
 unfold vt at d;have k : ∀(t:aa)(y:AV)(z:Bool),y = .agg [a8 (RJ (wj l a b 13)).h.lv,bO (RJ (wj l a b 13)).h.cats,a8 (RJ (wj l a b 13)).h.num,aI (RJ (wj l a b 13)).n]->Fr t->t.get r=some ⟨3,[.agg [x,aI (D7 l a b 13),aB z]],false,false⟩ ->
  (∀q c,q≠r->q≠⟨dep+1,4,H.gen (dep+1) 4,0⟩->p.get q=some c->t.get q=some c)->Ti H t r x (wj l a b 13) (D7 l a b 13) z y:=by
  intro t y z S C F V;refine⟨S,C,F,λq c j o=>?_⟩;have N:q≠⟨dep+1,4,H.gen (dep+1) 4,0⟩:=λe=>pq A (by rw[o];rfl) _ _ _ e.symm;exact V q c j N (old q c j (by rw[aa.bS,if_neg (λe=>N e.symm)];exact o))
 have J:RJ (wj l a b 13)=if yP (jL (wj l a b 13)) then jL (wj l a b 13) else mF:=rfl
 have W:zD (wj l a b 13) zero=(!yP (jL (wj l a b 13)) && !(zero&&decide (wj l a b 13=List.replicate 13 0))):=rfl;generalize wj l a b 13=bs at *;generalize D7 l a b 13=a' at *;generalize AJ l a b 13=b' at *;clear M old;generalize decide (bs=List.replicate 13 0)=dz at *;generalize hi:jL bs=i at *;obtain⟨⟨k1,K,I⟩,L⟩:=i;rcases s with ⟨rfl,s⟩ | ⟨q,c,fz,rfl,j,rfl,o⟩
 ·have X:=s.r;cases D:yP ⟨⟨k1,K,I⟩,L⟩<;>cases zero<;>cases b';all_goals simp[an, *,fX,mF]
  all_goals
   refine k _ _ _ ?_ (by simp(maxDischargeDepth:=12) [hY, *]) ?_ ?_;·simp[J,D,mF]
   ·simp[aa.ab,uF,uG, *]
   intro q c j m o
   have O:(p.get q).isSome=true:=by rw[o];rfl
   have B:=j.symm
   have u:=m.symm
   simp[aa.ab,uF,uG, *]
 have l4:(p.get q).isSome=true:=by rw[j];rfl
 cases D:yP ⟨⟨k1,K,I⟩,L⟩<;>cases zero<;>cases b';all_goals simp[an, *,fX,mF]
 all_goals
  refine k _ _ _ ?_ (by simp(maxDischargeDepth:=12) [hY, *]) ?_ ?_;·simp[J,D,mF]
  ·simp[aa.ab,uF,uG, *]
  intro q c j m o
  have O:(p.get q).isSome=true:=by rw[o];rfl
  have B:=j.symm
  have u:=m.symm
  simp[aa.ab,uF,uG, *]
@[simp] def agx(a:UInt8)(b:UInt32):ay env 78 [.agg [a8 a,bO b]]=some (aB (decide (a<=15))):=by
 refine aM rfl (by kernel_rfl) (xU _ _ _ λg=>?_);simp[an, *,rl]
@[simp] def Ce(a:UInt8)(b:UInt32)(n:UInt8):ay env 51 [.agg [a8 a,bO b,a8 n]]=some (aB (fA ⟨a,b,n⟩)):=by
 refine aM rfl (by kernel_rfl) (s9 _ _ _ λg=>?_);simp[an, *,nk,fA];repeat' ((first | apply qT<;>intro h | apply mY<;>intro h | apply mZ<;>intro h | apply mW<;>intro h | apply mX<;>intro h)<;>(try simp only[iQb,iQc,gz,pF,bt,jt]at h)<;>(try simp[an, *]))
@[simp] def agw(a:UInt8)(b:UInt32)(n:UInt8)(k:Int):ay env 81 [.agg [a8 a,bO b,a8 n,aI k]]=some (aB (yP ⟨⟨a,b,n⟩,k⟩)):=by
 refine aM rfl (by kernel_rfl) (xS _ _ _ λg=>?_);simp[an, *,rj,yP];repeat' ((first | apply qT<;>intro h | apply mY<;>intro h | apply mZ<;>intro h | apply mW<;>intro h | apply mX<;>intro h)<;>(try simp only[iQb,iQc,gz,pF,bt,jt]at h)<;>(try simp[an, *]))
@[simp] def aau(a:UInt8)(b:UInt32)(n:UInt8)(k m:Int):ay env 79 [.agg [a8 a,bO b,a8 n,aI k,aI m]]=some (aB (nD ⟨⟨⟨a,b,n⟩,k⟩,m⟩)):=by
 refine aM rfl (by kernel_rfl) (uo _ _ _ λg=>?_);cases c:yP ⟨⟨a,b,n⟩,k⟩ with
 | false=>simp[an, *,fE,nD]
 | true=>
  have d:=IP c;simp only at d;by_cases j:1<=m
  ·by_cases i:m<=64
   ·have f:=iQa (1099511627777 - m) (by omega);have e:decide (k+m - 1<=1099511627776)=decide (k<=1099511627777 - m):=by
     by_cases h:k<=1099511627777 - m;·rw[iQg h,iQg (by omega)]
     rw[iQi h,iQi (by omega)]
    simp[an, *,fE,nD]
   simp[an, *,fE,nD]
  simp[an, *,fE,nD]
@[simp] def aeq(a:UInt8)(b:UInt32)(n:UInt8)(k:Int):ay env 80 [.agg [a8 a,bO b,a8 n,aI k]]=some (aB (kE ⟨⟨a,b,n⟩,k⟩)):=by
 refine aM rfl (by kernel_rfl) (wR _ _ _ λg=>?_);simp[an, *,pZ,nG,gm,kE]
@[simp] def TC(n:Int):ay env 107 [aI n]=some (aB (td n)):=by
 refine aM rfl (by kernel_rfl) (yW _ _ _ λg=>?_);have e:td n=(decide (0<=n)&&(decide (n<=1114111)&&(decide (n<55296)||decide (57343<n)))):=by
  unfold td;rw[Bool.eq_iff_iff];simp only[jt,bt,iQb];omega
 rw[e];simp[an, *,rM];repeat' ((first | apply qT<;>intro h | apply mY<;>intro h | apply mZ<;>intro h | apply mW<;>intro h | apply mX<;>intro h)<;>(try simp only[iQb,iQc,gz,pF,bt,jt]at h)<;>(try simp[an, *]))
def JS{l:List Int}{x0:AV}(d:Sl 1 (rows l) x0)(t:l.length<4611686018427387904)(o : ∀a∈l, -2147483648<=a/\a<=2147483647){Q:AV->aa->Prop}{H:aa} :
 ∀(s:List Int)(k:Nat)(i:Int),l.drop k=s->k<=l.length->i=k->(∀y,y=aI (bad (s.all ij))->Q y H) ->
 cB env Tryz.f82 0 iI [(3,aI i),(0,x0)] H Q:=by
 intro s;induction s with
 | nil=>rintro k i hs hk rfl hQ;obtain rfl:=drop_nil hs hk;refine nQ _ _ _ _ λg=>?_;simp[an, *,fF,d.r];all_goals exact hQ _ rfl
 | cons a s h=>
  rintro k i hs hk rfl hQ;obtain⟨n,p,f,q⟩:=drop_cons hs;have u:=o a (by rw[<-p];exact eO _);refine nQ _ _ _ _ λg=>?_;have v:=iQa ((k:Int)+1) (by omega);have w:=iQa a (by omega);have c:ij a=(decide (a = -1)||td a):=by simp[ij,td,Bool.or_assoc]
  by_cases m:a = -1;·subst m;have b : ∀y,y=aI (bad (s.all ij))->Q y H:=λy e=>hQ y (by rw[e];simp[ij]);clear hQ;simp[an, *,fF,d.r,d.idx,aR];exact h (k+1) _ f (by omega) (by simp) b
  cases j:td a with| true=>have b : ∀y,y=aI (bad (s.all ij))->Q y H:=λy e=>hQ y (by rw[e];simp[c,j]);clear hQ c;simp[an, *,fF,d.r,d.idx,aR];exact h (k+1) _ f (by omega) (by simp) b| false=>have b : ∀y,y=aI 8->Q y H:=λy e=>hQ y (by rw[e];simp[c,j,m]);clear hQ c;simp[an, *,fF,d.r,d.idx,aR];all_goals exact b _ rfl
def QX{l:List Int}{x:AV}(c:Sl 1 (rows l) x)(d:l.length<4611686018427387904)(f : ∀a∈l, -2147483648<=a/\a<=2147483647):ay env 82 [x]=some (aI (xh l)):=by
 refine aM rfl (by kernel_rfl) (vQ _ _ _ λg=>?_);by_cases b:64<l.length
 ·have:(64:Int)<l.length:=by omega
  simp[an, *,lS,xh,c.r]
 have : ¬(64:Int)<l.length:=by omega
 have e:xh l=bad (l.all ij):=by unfold xh bad;rw[if_neg b]
 simp[an, *,lS,c.r];exact JS c d f l 0 _ rfl (by omega) rfl (λy e=>by simp[e])
def EY(m:UInt8)(q:UInt8)(a_3:UInt32)(n:UInt8)(h:Int)(p:UInt8)(o:UInt32)(s:UInt8)(t:Int)(i:Int)(c:UInt8)(b:UInt32)(e:UInt8)(d:Int)(f:UInt8)(j:UInt32){x:AV}{l:List Int}(k:Sl 1 (rows l) x)(P:l.length<2000000)(H : ∀a∈l, -2147483648<=a/\a<=2147483647):ay env 52 [.agg [a8 m,a8 q,bO a_3,a8 n,aI h,a8 p,bO o,a8 s,aI t,aI i,a8 c,bO b,a8 e,aI d,a8 f,bO j,x]]=some (aB (qj (⟨m,⟨q,a_3,n⟩,h,⟨⟨⟨p,o,s⟩,t⟩,i⟩,⟨⟨c,b,e⟩,d⟩,⟨f,j⟩,l⟩:fG))):=by
 refine aM rfl (by kernel_rfl) (xO _ _ _ λg=>?_);have N:=QX k (by omega) H;have R:=Dx l;unfold qj;cases Q:fA ⟨q,a_3,n⟩ with
 | false=>simp[an, *,aQ,k.r]
 | true=>
 rcases Fl h 1 with A | F
 ·have F : ¬1<=h:=by omega
  simp[an, *,aQ,k.r]
 have A : ¬h<1:=by omega
 rcases Fl h 16777216 with I | B
 rotate_left
 ·have I : ¬h<16777216:=by omega
  simp[an, *,aQ,k.r]
 have B : ¬16777216<=h:=by omega
 cases L:nD ⟨⟨⟨p,o,s⟩,t⟩,i⟩ with| false=>simp[an, *,aQ,k.r]| true=>
 by_cases k1:m=1
 ·subst k1;unfold Cu;simp only[Ia,if_true];cases w:vi (⟨f,j⟩:ZY) with
  | false=>unfold vi at w;simp[an, *,aQ,k.r,nG,gm]
  | true=>
   unfold vi at w;cases D:Ge ⟨p,o,s⟩ ⟨q,a_3,n⟩ with
   | false=>
    unfold Ge at D;cases v:kE (⟨⟨c,b,e⟩,d⟩:yY) with
    | false=>cases E:yP (⟨⟨c,b,e⟩,d⟩:yY)<;>simp[an, *,aQ,k.r,nG,gm]
    | true=>simp[an, *,aQ,k.r,nG,gm]
   | true=>
    unfold Ge at D;by_cases O:(l.length:Int)=i
    ·cases v:kE (⟨⟨c,b,e⟩,d⟩:yY) with| false=>cases E:yP (⟨⟨c,b,e⟩,d⟩:yY)<;>simp[an, *,aQ,k.r,nG,gm]| true=>simp[an, *,aQ,k.r,nG,gm]
    cases v:kE (⟨⟨c,b,e⟩,d⟩:yY) with| false=>cases E:yP (⟨⟨c,b,e⟩,d⟩:yY)<;>simp[an, *,aQ,k.r,nG,gm]| true=>simp[an, *,aQ,k.r,nG,gm]
 by_cases u:zR (⟨m,⟨q,a_3,n⟩,h,⟨⟨⟨p,o,s⟩,t⟩,i⟩,⟨⟨c,b,e⟩,d⟩,⟨f,j⟩,l⟩:fG)=true
 ·have z:=u;simp only[zR,bt,iQb]at z;obtain⟨v,y⟩:=z;subst y;unfold Cu;by_cases K:m=2
  ·subst K;simp only[OJ,if_true];cases w:vi (⟨f,j⟩:ZY) with
   | false=>unfold vi at w;simp[an, *,aQ,k.r,nG,gm]
   | true=>unfold vi at w;simp[an, *,aQ,k.r,nG,gm]
  by_cases G:m=3;·subst G;simp only[JR,if_true];simp[an, *,aQ,k.r,nG,gm]
  simp[an, *,aQ,k.r,nG,gm]
 have M:Cu (⟨m,⟨q,a_3,n⟩,h,⟨⟨⟨p,o,s⟩,t⟩,i⟩,⟨⟨c,b,e⟩,d⟩,⟨f,j⟩,l⟩:fG)=false:=(by have C:zR (⟨m,⟨q,a_3,n⟩,h,⟨⟨⟨p,o,s⟩,t⟩,i⟩,⟨⟨c,b,e⟩,d⟩,⟨f,j⟩,l⟩:fG)=false:=(by simpa using u);unfold Cu OJ JR;rw[C];simp[k1]);simp only[zR,bt,iQb,not_and]at u;cases v:kE (⟨⟨c,b,e⟩,d⟩:yY) with
 | false=>clear u;simp[an, *,aQ,k.r,nG,gm]
 | true=>have y:0<l.length:=D1.2 (u v);have J : ¬l=[]:=u v;clear u;simp[an, *,aQ,k.r,nG,gm]
@[simp] def YY(g:cL)(k:Nat)(n:Int):af g k (aR n)=[]:=by cases k<;>rfl
def NX{P:Program}{g:cL}{r:Ref}{src dst:TypeId}(a:(P.underlying src).isNone=false)(hd:intKind P dst=some .i32)(x:UInt32) :
 bX P g r src dst (some (bO x))=some (aR (IntKind.i32.wrap x.toNat),[]):=by
 unfold bO;rw[oq P .i32 a hd];rfl
def Qp(a b c d:UInt8):(((((a.toUInt32 <<< 24) ||| (b.toUInt32 <<< 16)) ||| (c.toUInt32 <<< 8)) ||| d.toUInt32).toNat:Int)=val [a,b,c,d]:=by
 have p:=a.toNat_lt;have o:=b.toNat_lt;have q:=c.toNat_lt;have hd:=d.toNat_lt;have m:(a.toUInt32 <<< 24).toNat=a.toNat * 16777216:=by
  rw[Jk];simp[Je];omega
 have f:(b.toUInt32 <<< 16).toNat=b.toNat * 65536:=by
  rw[Jk];simp[Je];omega
 have i:(c.toUInt32 <<< 8).toNat=c.toNat * 256:=by
  rw[Jk];simp[Je];omega
 have j:d.toUInt32.toNat=d.toNat:=by simp
 have e : ∀(x k y:Nat),y<2 ^ k->(x * 2 ^ k) ||| y=x * 2 ^ k+y:=by
  intro x k y h;rw[C7,SE h]
 simp only[UInt32.toNat_or,m,f,i,j];have l:a.toNat * 16777216 ||| b.toNat * 65536=(a.toNat * 256+b.toNat) * 65536:=by
  have:=e a.toNat 24 (b.toNat * 65536) (by omega);simp only[Nat.reducePow]at this;rw[this];omega
 have n:(a.toNat * 256+b.toNat) * 65536 ||| c.toNat * 256=((a.toNat * 256+b.toNat) * 256+c.toNat) * 256:=by
  have:=e (a.toNat * 256+b.toNat) 16 (c.toNat * 256) (by omega);simp only[Nat.reducePow]at this;rw[this];omega
 have g:((a.toNat * 256+b.toNat) * 256+c.toNat) * 256 ||| d.toNat=(((a.toNat * 256+b.toNat) * 256+c.toNat) * 256+d.toNat):=by
  have:=e ((a.toNat * 256+b.toNat) * 256+c.toNat) 8 d.toNat (by omega);simp only[Nat.reducePow]at this;rw[this]
 rw[l,n,g];simp[val,Au];omega
structure Sn (r r2:Ref) (info:AV) (H:aa) (out:List Int):Prop where
 fr:Fr H
 mark:H.get r=some (dW 0 info)
 n1:r2≠r
 box:(H.get r2=some ⟨1,[aO],false,false⟩/\out=[]) \/∃q:Ref,q.d=2/\q.t=43/\q.k=0/\q≠r/\q≠r2/\H.get r2=some ⟨1,[.bA q 0 out.length none],false,false⟩/\H.get q=some ⟨1,rows out,true,false⟩/\0<out.length
def RP{r r2:Ref}{tm:List AV}{H:aa}{out:List Int}{ps:List Tmp}(j:ps=[17])(k:cX tm 2 = .ptr r2 0 0)(u:Sn r r2 (.lp 0 50 ps eK eJ tm) H out)(v:out.length<60000000)(a b c d:UInt8)(f:Option Nat)(C:4<=f.getD 4) :
 ∃y H',cD env 1 (.yld r) [.bq 1 [a8 a,a8 b,a8 c,a8 d] f] H=some (y,H')/\(y=aB true/\Sn r r2 (.lp 0 50 ps eK eJ tm) H' (out++[word a b c d])):=by
 subst j;refine IJ (fn:=Tryz.f131) (dep:=1) u.mark (by kernel_rfl) rfl rfl (by kernel_rfl) (by kernel_rfl) ?_;rw[<-Co (s:=cX (uA tm [17] [.bq 1 [a8 a,a8 b,a8 c,a8 d] f])) (l:=[(2,.ptr r2 0 0),(17,.bq 1 [a8 a,a8 b,a8 c,a8 d] f)]) (by
  intro p hp;simp only[ef,BS,iQv]at hp;rcases hp with rfl | rfl
  ·show cX (Bx tm 17 _) 2=_;rw[rT];simpa using k
  show cX (Bx tm 17 _) 17=_;rw[rT];simp)]
 refine(Br r _ _ _ _ λg=>?_).h _;obtain⟨fr,mark,n1,box⟩:=u;have x:=n1.symm;have L:(H.get r).isSome=true:=by rw[mark];rfl
 have e:=λ(g:cL)(r:Ref)=>NX (P:=env.P) (g:=g) (r:=r) (src:=25) (dst:=21) (by kernel_rfl) (by kernel_rfl) ((((a.toUInt32 <<< 24) ||| (b.toUInt32 <<< 16)) ||| (c.toUInt32 <<< 8)) ||| d.toUInt32);rw[Qp]at e;have t:IntKind.i32.wrap (val [a,b,c,d])=word a b c d:=rfl;rw[t]at e;clear t;rcases box with ⟨i,rfl⟩ | ⟨q,m,n,o,n2,z,i,w,E⟩
 ·have A:(H.get r2).isSome=true:=by rw[i];rfl
  simp[an, *,pB,qI,aa.ab];refine⟨_,rfl,⟨by simp(maxDischargeDepth:=12) [hY, *],by simp(maxDischargeDepth:=12) [hY, *],n1,.inr ⟨⟨2,43,H.gen 2 43,0⟩,rfl,rfl,rfl,by simp(maxDischargeDepth:=12) [hY, *],by simp(maxDischargeDepth:=12) [hY, *],by simp(maxDischargeDepth:=12) [hY, *],?_,by simp⟩⟩⟩;simp[aa.ab,rows,uF,uG, *]
 have A:(H.get r2).isSome=true:=by rw[i];rfl
 have J:(H.get q).isSome=true:=by rw[w];rfl
 have B:=n2.symm;have D:=z.symm;obtain⟨M,K,G,I⟩:=q;simp only at m n o;subst m n o;have N:out.length+1<=17592186044416:=by omega
 have F:(out.length+1) * 4<=140737488355328:=(by omega);simp[an, *,pB,qI,aa.ab];refine⟨_,rfl,⟨by simp(maxDischargeDepth:=12) [hY, *],by simp(maxDischargeDepth:=12) [hY, *],n1,.inr ⟨⟨2,43,H.gen 2 43,0⟩,rfl,rfl,rfl,by simp(maxDischargeDepth:=12) [hY, *],by simp(maxDischargeDepth:=12) [hY, *],by simp(maxDischargeDepth:=12) [hY, *],?_,by simp⟩⟩⟩;simp[aa.ab,rows,uF,uG, *]
def ON{r r2:Ref}{tm:List AV}(l:cX tm 2 = .ptr r2 0 0){bs:List UInt8}{x:AV}(o:Sl 1 (aA bs) x)(D:bs.length<60000000){Q:AV->aa->Prop} :
 ∀(m k:Nat)(s:List UInt8)(i:Int)(out:List Int)(H:aa),bs.drop k=s->s.length=4 * m->k<=bs.length->i=k->out.length<=k ->
 Sn r r2 (.lp 0 50 [17] eK eJ tm) H out ->
 (∀y H',Sn r r2 (.lp 0 50 [17] eK eJ tm) H' (out++words s)->Q y H') ->
 cB env Tryz.f71 (0+1) cP [(2,.iptr 1 [aI 4] 0 0),(4,aI i),(1,.iptr 1 [x] 0 0),(0,.yld r)] H Q:=by
 intro m;induction m with
 | zero=>
  rintro k s i out H hs hm hk rfl ho hI hQ;obtain rfl:s=[]:=sK.1 (by omega);have hd:=iQf List.length hs;rw[nM,k8]at hd;have w : ¬(k:Int)<bs.length:=by omega
  have q:=o.r;refine dH _ _ _ _ _ _ _ λg=>?_;simp[an, *,cS];exact hQ _ _ (by simpa [words] using hI)
 | succ m u=>
  rintro k s i out H hs hm hk rfl ho hI hQ;match s,hm with
  | a :: b :: c :: d :: s,hm=>
  simp only[iA]at hm;have hd:=iQf List.length hs;rw[nM]at hd;simp only[iA]at hd;have j:0<(aA bs).length:=by simp;omega
  obtain⟨z,rfl,e⟩:=mP o j;have n:bs.drop (k+4)=s:=(by rw[<-oC,hs];rfl);have F:(k:Int)<bs.length:=(by omega);have G:=iQa ((k:Int)) (by omega);have C:=iQa ((k:Int)+4) (by omega);have A:(aA bs).drop k=a8 a :: a8 b :: a8 c :: a8 d :: aA s:=(by have:(aA bs).drop k=aA (bs.drop k):=(by simp[aA]);rw[this,hs];rfl);have B : ¬(4 * ((m:Int)+1)<4):=(by omega);have t:((k:Int)+4).toNat - k=4:=(by omega);have v:(k:Int)<=k+4/\(k:Int)+4<=z.getD bs.length/\(k:Int)+4<=bs.length:=(by have:(aA bs).length=bs.length:=(by simp);rw[this]at e;omega);obtain⟨y,H',E,rfl,f⟩:=RP rfl l hI (by omega) a b c d (some 4) (by simp);have p:words (a :: b :: c :: d :: s)=word a b c d :: words s:=rfl;rw[p]at hQ;clear p e;refine dH _ _ _ _ _ _ _ λg=>?_;simp[an, *,cS,zM];exact u (k+4) s ((k:Int)+4) (out++[word a b c d]) H' n (by omega) (by omega) (by simp) (by simp;omega) f (λy H' h=>hQ y H' (by simpa using h))
def R1{r r2:Ref}{tm:List AV}(a:cX tm 2 = .ptr r2 0 0){bs:List UInt8}{x:AV}(d:Sl 1 (aA bs) x)(e:bs.length<60000000){m:Nat}(b:bs.length=4 * m){H:aa}
 (f:Sn r r2 (.lp 0 50 [17] eK eJ tm) H []) :
 ∃y H',cD env 0 (.fn 71) [.yld r,.iptr 1 [x] 0 0,.iptr 1 [aI 4] 0 0] H=some (y,H')/\Sn r r2 (.lp 0 50 [17] eK eJ tm) H' (words bs):=by
 refine qK (fn:=Tryz.f71) (c:=mm) (by kernel_rfl) (by kernel_rfl) (by kernel_rfl) (by kernel_rfl) (by kernel_rfl) ?_;refine lZ _ _ _ _ _ _ λg=>?_;simp[an, *,jr];exact ON a d e m 0 bs _ [] H rfl b (by omega) rfl (by simp) f (λy H' h=>by simpa using h)
def aaC:kL = .code (.rangeFunc (.tmp 16) #[17] eK eJ) :: uC:=by kernel_rfl
def W7{bs:List UInt8}{x:AV}(a:Sl 1 (aA bs) x):ay env 42 [x,aI 4]=some (.fn (.func 71) [] [.iptr 1 [x] 0 0,.iptr 1 [aI 4] 0 0]):=by
 refine aM rfl (by kernel_rfl) (nf _ _ _ _ λg=>?_);have b:=a.r;simp[an, *,j3]
def lB(l:List Int):AV:=if l=[] then aO else .bq 1 (rows l) none
def nE(l:List Int):Sl 1 (rows l) (lB l):=by
 unfold lB;split;·rename_i h;subst h;exact .inl ⟨rfl,rfl⟩
 exact .inr ⟨_,rfl,by simp⟩
def WW{bs:List UInt8}{x:AV}(c:Sl 1 (aA bs) x){m:Nat}(a:bs.length=4 * m)(z:m<=64) :
 ay env 131 [x]=some (if xh (words bs)=0 then .tup [qi 1 (rows (words bs)),aI 0] else .tup [aO,aI (xh (words bs))]):=by
 refine aM rfl (by kernel_rfl) (Jy _ _ _ λg=>?_);have N:=c.r;have O:=W7 c;have I : ¬((256:Int)<4 * m):=by omega
 have E:((4:Int) * m).tmod 4=0:=by rw[D5 (by omega)];omega
 have f:(words bs).length<4611686018427387904:=by have:=(tJ m bs a).2;omega
 have b:=Ds (nE (words bs)) f;have n:=λt M K=>pa env.P t M K .i64 (4 * (m:Int)) 4 (by decide);simp[an, *,CZ];rw[aaC];refine⟨λJ=>GY (gi:=71) (first:=[]) (captured:=[.iptr 1 [x] 0 0,.iptr 1 [aI 4] 0 0]) rfl ?_⟩;intro tm v;have B:cX tm 2 = .ptr ⟨0,2,0,0⟩ 0 0:=(v 2).trans rfl;rw[show Tryz.f131.ntmps=50 from by kernel_rfl];obtain⟨y,H',G,a⟩:=R1 (r:=⟨0,50,0,0⟩) (r2:=⟨0,2,0,0⟩) (tm:=tm)
  (H:=(⟨0,50,0,0⟩,some (dW 0 (.lp 0 50 [17] eK eJ tm))) :: [(⟨0,2,0,0⟩,some ⟨1,[aO],false,false⟩)])
  B c (by omega) a ⟨by simp(maxDischargeDepth:=12) [HA, *],by simp,by decide,.inl ⟨by simp,rfl⟩⟩
 refine⟨y,H',0,_,by simpa using G,by simp only[aa.n8,aa.P2];rw[qI];exact(iQf lpO a.mark).trans (zC _ _),.inl ⟨rfl,?_⟩⟩;have o:=Co (s:=MP J [(16,AV.fn (.func 71) [] [.iptr 1 [x] 0 0,.iptr 1 [aI 4] 0 0]),(2,AV.ptr ⟨0,2,0,0⟩ 0 0)]) (l:=[(2,AV.ptr ⟨0,2,0,0⟩ 0 0)]) (by
  intro p hp;simp only[ef,BS,iQv]at hp;subst hp;rfl)
 rw[<-o];refine(Aq _ _ _ λg=>?_).h _;have n1:(⟨0,2,0,0⟩:Ref)≠⟨0,50,0,0⟩:=a.n1;have k:=a.box;clear o n I E O N v;generalize words bs=ws at *;rcases k with ⟨D,rfl⟩ | ⟨q,Q,R,T,n2,C,D,S,w⟩
 ·have i:lB []=aO:=rfl;have u:xh []=0:=rfl;rw[i,u]at b;simp[an, *,oY,aa.ab];all_goals rfl
 have i:lB ws = .bq 1 (rows ws) none:=by unfold lB;rw[if_neg (by rintro rfl;simp at w)]
 have j:rows ws≠[]:=by intro e;have:=iQf List.length e;simp at this;subst this;simp at w
 rw[i]at b;rw[tL 1 j];generalize d:rows ws=rw' at *;have A:rw'.length=ws.length:=by rw[<-d];simp
 have F:=n2.symm;have L:=C.symm;by_cases u:xh ws=0<;>simp[an, *,oY,aa.ab]
def aff(dep:Nat){H:aa}{r:Ref}{x:AV}{l:List UInt8}{a:Nat}{b:Bool}(zero:Bool){K:AV->aa->Prop}{m:Mk K}(c:Sl 1 (aA l) x)(g:a<=l.length)(e:l.length<1000000000)
 (f:Fr H) (d:H.get r=some (vt x a b)) (h : ∀y H',Ti H H' r x (wj l a b 13) (D7 l a b 13) (AJ l a b 13||zD (wj l a b 13) zero) y->K y H'):gh (cD env dep (.fn 130) [.ptr r 0 0,.v (.bool zero)] H) K m:=by
 obtain⟨y,H',i,j⟩:=afg dep zero f c d g e;exact tk i (h y H' j)
def Tk.pick{H H':aa}{r:Ref}{x:AV}{l bs:List UInt8}{a:Nat}{b:Bool}{y v:AV}(m:Tk H H' r x l bs a b y v)(i:Nat){j:Int}(h:j=i)(hi:i<bs.length) :
 ∃p,bK env.P H'.get 57 (some y) (some (.v (.int .i64 j)))=some (p,[])/\nh env.P H'.get 5 (some p)=some (a8 (bs.getD i 0),[])/\(∀r i j,r.t≠31->te p (.ptr r i j)=true)/\(∀r i j,r.t≠31->te y (.ptr r i j)=true):=by
 subst h;obtain⟨seen,fr,box,old,spot⟩:=m;have o:bs[i]?=some (bs.getD i 0):=by simp[hi]
 have k:(i:Int)<bs.length:=by omega
 rcases seen with ⟨rfl,g⟩ | ⟨q,c,fz,rfl,f,rfl,n⟩
 ·obtain⟨s,rfl,n⟩:=mP g (by simp;omega);refine⟨.iptr 1 (aA bs) i 0,?_,?_,λ_ _ _ _=>rfl,λ_ _ _ _=>rfl⟩;·simp[hi]
  simp[aA,hi]
 have d:=spot q rfl;refine⟨.ptr q i 0,?_,?_,λr i j e=>?_,λr i j e=>?_⟩;·simp[f,hi]
 ·simp[aA,hi,f]
 ·simp;rintro rfl;exact e d
 simp;rintro rfl;exact e d
def gps(H:aa)(r:Ref)(c:aY):(H.put r (some c)).get r=some c:=by rw[aa.ab,if_pos rfl]
def DM(bs:List UInt8):Qn:=if fA (ik bs) then ik bs else ⟨0,0,0⟩
def Oz{v:AV}{l:List UInt8}(a:Sl 1 (aA l) v)(b:l.length=6):ay env 111 [v]=some (.tup [.agg [a8 (DM l).lv,bO (DM l).cats,a8 (DM l).num],aI (bad (fA (ik l)))]):=by
 rw[LX a b];unfold DM;cases fA (ik l)<;>rfl
def WK(a b c:UInt8):orI (orI ((a.toNat:Int) * 65536) ((b.toNat:Int) * 256)) (c.toNat:Int)=val [a,b,c]:=by
 have g:=a.toNat_lt;have i:=b.toNat_lt;have h:=c.toNat_lt;have e:=JW (a:=(a.toNat:Int)) (b:=(b.toNat:Int) * 256) (k:=16) (by omega) (by omega) (by omega) (by omega) (by omega);simp only[Nat.reducePow,Int.reducePow]at e;rw[e];have d:=JW (a:=(a.toNat:Int) * 256+b.toNat) (b:=(c.toNat:Int)) (k:=8) (by omega) (by omega) (by omega) (by omega) (by omega);simp only[Nat.reducePow,Int.reducePow]at d;have f:(a.toNat:Int) * 65536+b.toNat * 256=((a.toNat:Int) * 256+b.toNat) * 256:=by omega
 rw[f,d];simp[val,Au];omega
def oz:AV := .tup [.agg [a8 0,a8 0,bO 0,a8 0,aI 0,a8 0,bO 0,a8 0,aI 0,aI 0,a8 0,bO 0,a8 0,aI 0,a8 0,bO 0,aO],aI 0,aI 8]
def Av(o:fG):List AV:=[a8 o.kind,a8 o.h.lv,bO o.h.cats,a8 o.h.num,aI o.serial,a8 o.s.f.h.lv,bO o.s.f.h.cats,a8 o.s.f.h.num,aI o.s.f.n,aI o.s.many,a8 o.a.h.lv,bO o.a.h.cats,a8 o.a.h.num,aI o.a.n,a8 o.to.lv,bO o.to.cats]
def oX(l:List UInt8):AV:=if mM l then .tup [.agg (Av (ny l)++[qi 1 (rows (ny l).l)]),aI (pK l),aI 0] else oz
def CV{l:List UInt8}(h:24<=l.length->pK l<=l.length->qj (ny l)=false):oX l=oz:=by
 unfold oX;rw[if_neg];intro a;simp only[mM,bt,iQb]at a;rw[h a.1 a.2.1]at a;exact absurd a.2.2 (by decide)
def o8{l:List UInt8}{a n:Nat}{b:Bool}(h:AJ l a b n=false):b=false/\a+n<=l.length/\D7 l a b n=a+n/\wj l a b n=(l.drop a).take n:=by
 unfold D7 wj;rw[h];simp only[AJ,M4,iQc]at h;exact⟨h.1,by omega,rfl,rfl⟩
def xY{l:List UInt8}{a n:Nat}(h:a+n<=l.length):AJ l a false n=false/\D7 l a false n=a+n/\wj l a false n=(l.drop a).take n:=by
 have e:AJ l a false n=false:=by simp only[AJ,xC,iQc];omega
 obtain⟨_,_,c,b⟩:=o8 e;exact⟨e,c,b⟩
def GX(l:List UInt8)(n:Nat):((l.drop n).take 1).getD 0 0=(l.drop n).headD 0:=by
 cases l.drop n<;>rfl
def Xx{o:fG}(h:fA o.h=false):qj o=false:=by simp[qj,h]
def PN{o:fG}(h:nD o.s=false):qj o=false:=by simp[qj,h]
def aa8{o:fG}(h:yP o.s.f=false):qj o=false:=PN (by simp[nD,h])
def JY{o:fG}(h:Cu o=false):qj o=false:=by simp[qj,h]
def Gm(l:List Int):(qi 1 (rows l)=aO/\lB l=aO)\/(qi 1 (rows l) = .fsl 1 (rows l) none/\lB l = .bq 1 (rows l) none):=by
 by_cases h:l=[];·subst h;exact .inl ⟨rfl,rfl⟩
 exact .inr ⟨tL 1 (by simpa using h),by unfold lB;rw[if_neg h]⟩
def W4{l:List UInt8}{x:AV}(hx:Sl 1 (aA l) x)(hl:l.length<60000000):ay env 112 [x]=some (oX l):=by
 refine aM rfl (by kernel_rfl) (Qv _ _ _ λg=>?_);have hr:=hx.r;have hT:=DT (f:=129) (by kernel_rfl);have hTi:=DT (f:=130) (by kernel_rfl);simp[an, *,I4,hT,hTi];refine By 0 (a:=0) (b:=false) 1 rfl hx (s8 _) (by omega) (by omega) (by simp(maxDischargeDepth:=12) [hY, *]) (by simp[vt]) λy1 v1 H1 E=>?_;obtain⟨p1,hp1,hl1,_⟩:=E.pick (j:=0) 0 rfl (by rw[xZ];omega);have hb1:=E.old ⟨0,2,0,0⟩ _ (by decide) rfl;have hF1:=E.fr;have hr1:=E.box;have ha1:=Dr (l:=l) (a:=0) false 1 (s8 _);clear E;generalize hA1:D7 l 0 false 1=A1 at *;generalize hB1:AJ l 0 false 1=B1 at *;generalize hk0:(wj l 0 false 1).getD 0 0=k at *;simp[an, *,aa.ab];have s1:(H1.get ⟨0,2,0,0⟩).isSome=true:=by rw[hb1];rfl
 refine By 0 (a:=A1) (b:=B1) 6 rfl hx ha1 (by omega) (by omega) (by simp(maxDischargeDepth:=12) [hY, *]) (by simp(maxDischargeDepth:=12) [hY, *]) λy2 v2 H2 hk2=>?_;have hb2:=hk2.old ⟨0,2,0,0⟩ _ (by decide) (gps _ _ _);have hG:=Oz hk2.seen.sl (xZ _ _);have hs2:=hk2.seen.r;have hF2:=hk2.fr;have hr2:=hk2.box;have ha2:=Dr (l:=l) B1 6 ha1;clear hk2 hb1 hr1 hp1 hl1;generalize hA2:D7 l A1 B1 6=A2 at *;generalize hB2:AJ l A1 B1 6=B2 at *;generalize hh2:DM (wj l A1 B1 6)=hh at *;obtain⟨D,I,F⟩:=hh;have s2:(H2.get ⟨0,2,0,0⟩).isSome=true:=by rw[hb2];rfl
 have s2r:(H2.get ⟨0,17,0,0⟩).isSome=true:=by rw[hr2];rfl
 generalize hf2:bad (fA (ik (wj l A1 B1 6)))=f at *;simp[an, *,aa.ab];refine By 0 (a:=A2) (b:=B2) 3 rfl hx ha2 (by omega) (by omega) (by simp(maxDischargeDepth:=12) [hY, *]) (by simp(maxDischargeDepth:=12) [hY, *]) λy3 v3 H3 A=>?_;have hb3:=A.old ⟨0,2,0,0⟩ _ (by decide) (by rw[aa.bS,if_neg (by simp)];exact hb2);have hb8:=A.old ⟨0,8,H2.gen 0 8,0⟩ ⟨3,[.agg [a8 D,bO I,a8 F]],false,false⟩ (by simp) (by simp);have hl3:=xZ (l:=l) (a:=A2) B2 3;obtain⟨p30,hp30,hv30,hn30,hny3⟩:=A.pick (j:=0) 0 rfl (by omega);obtain⟨p31,hp31,hv31,hn31,_⟩:=A.pick (j:=1) 1 rfl (by omega);obtain⟨p32,hp32,hv32,hn32,_⟩:=A.pick (j:=2) 2 rfl (by omega);have hF3:=A.fr;have hr3:=A.box;have ha3:=Dr (l:=l) B2 3 ha2;clear A hb2 hr2 hs2 hG;generalize hA3:D7 l A2 B2 3=A3 at *;generalize hB3:AJ l A2 B2 3=B3 at *;have s3:(H3.get ⟨0,2,0,0⟩).isSome=true:=by rw[hb3];rfl
 have s3r:(H3.get ⟨0,17,0,0⟩).isSome=true:=by rw[hr3];rfl
 obtain⟨b30,b31,b32,e3⟩ : ∃a b c,wj l A2 B2 3=[a,b,c]:=by
  match h:wj l A2 B2 3,hl3 with
  | [a,b,c],_=>exact⟨a,b,c,rfl⟩
 rw[e3]at hv30 hv31 hv32;simp only[List.getD_cons_zero,List.getD_cons_succ]at hv30 hv31 hv32;have w30:IntKind.i64.wrap ((b30.toNat:Int) * 65536)=(b30.toNat:Int) * 65536:=iQa _ (by have:=b30.toNat_lt;omega);have w31:IntKind.i64.wrap ((b31.toNat:Int) * 256)=(b31.toNat:Int) * 256:=iQa _ (by have:=b31.toNat_lt;omega);have wsr:=WK b30 b31 b32;simp[an, *,aa.ab,Ck];refine⟨⟨rfl,rfl,rfl⟩,?_⟩;refine aff 0 (a:=A3) (b:=B3) false hx ha3 (by omega) (by simp(maxDischargeDepth:=12) [hY, *]) (by simp(maxDischargeDepth:=12) [hY, *]) λy4 H4 hk4=>?_;have hb4:=hk4.old ⟨0,2,0,0⟩ _ (by decide) (gps _ _ _);have hF4:=hk4.fr;have hr4:=hk4.box;have hy4:=hk4.val;have ha4:=Dr (l:=l) B3 13 ha3;clear hk4 hb3 hr3 hb8 hp30 hp31 hp32 hv30 hv31 hv32 w30 w31 wsr hn30 hn31 hn32 hny3;subst hy4;generalize hA4:D7 l A3 B3 13=A4 at *;generalize hB4:(AJ l A3 B3 13||zD (wj l A3 B3 13) false)=B4 at *;generalize hi4:RJ (wj l A3 B3 13)=fi at *;obtain⟨⟨L,M,P⟩,N⟩:=fi;have s4:(H4.get ⟨0,2,0,0⟩).isSome=true:=by rw[hb4];rfl
 have s4r:(H4.get ⟨0,17,0,0⟩).isSome=true:=by rw[hr4];rfl
 generalize hsr:val [b30,b31,b32]=sr at *;simp[an, *,aa.ab];refine By 0 (a:=A4) (b:=B4) 1 rfl hx ha4 (by omega) (by omega) (by simp(maxDischargeDepth:=12) [hY, *]) (by simp(maxDischargeDepth:=12) [hY, *]) λy5 v5 H5 hk5=>?_;have hb5:=hk5.old ⟨0,2,0,0⟩ _ (by decide) (gps _ _ _);obtain⟨p5,hp5,hv5,_⟩:=hk5.pick (j:=0) 0 rfl (by rw[xZ];omega);have hF5:=hk5.fr;have hr5:=hk5.box;have ha5:=Dr (l:=l) B4 1 ha4;clear hk5 hb4 hr4;generalize hA5:D7 l A4 B4 1=A5 at *;generalize hB5:AJ l A4 B4 1=B5 at *;generalize hm5:(wj l A4 B4 1).getD 0 0=m at *;have s5:(H5.get ⟨0,2,0,0⟩).isSome=true:=by rw[hb5];rfl
 have s5r:(H5.get ⟨0,17,0,0⟩).isSome=true:=by rw[hr5];rfl
 have hmI:IntKind.i64.wrap (m.toNat:Int)=m.toNat:=iQa _ (by have:=m.toNat_lt;omega);unfold vt at hr5;clear s1 s2 s2r s3 s3r s4 s4r hF1 hF2 hF3 hF4;have hnz:=λn:Int=>show(aI n).at?=none from rfl
 cases B5 with
 | true=>
  have i:oX l=oz:=by
   refine CV λh24 _=>aa8 ?_;obtain⟨w,C,H⟩:=xY (l:=l) (a:=0) (n:=1) (by omega);rw[w]at hB1;rw[C]at hA1;subst hB1;subst hA1;obtain⟨w,C,H⟩:=xY (l:=l) (a:=0+1) (n:=6) (by omega);rw[w]at hB2;rw[C]at hA2;subst hB2;subst hA2;obtain⟨w,C,H⟩:=xY (l:=l) (a:=0+1+6) (n:=3) (by omega);rw[w]at hB3;rw[C]at hA3;subst hB3;subst hA3;obtain⟨w,C,H⟩:=xY (l:=l) (a:=0+1+6+3) (n:=13) (by omega);rw[w,H]at hB4;rw[C]at hA4;subst hA4;cases B4 with
   | true=>show yP (jL ((l.drop 10).take 13))=false;simpa [zD] using hB4
   | false=>obtain⟨w,C,H⟩:=xY (l:=l) (a:=0+1+6+3+13) (n:=1) (by omega);rw[w]at hB5;cases hB5
  unfold oz at i;simp[an, *,aa.ab]
 | false=>
  obtain⟨rfl,t5,u5,d5⟩:=o8 hB5;obtain⟨t4,hid⟩:AJ l A3 B3 13=false/\zD (wj l A3 B3 13) false=false:=by simpa using hB4
  obtain⟨rfl,q4,u4,d4⟩:=o8 t4;obtain⟨rfl,q3,u3,d3⟩:=o8 hB3;obtain⟨rfl,q2,u2,d2⟩:=o8 hB2;obtain⟨_,q1,u1,d1⟩:=o8 hB1;rw[u1]at hA1;subst hA1;rw[u2]at hA2;subst hA2;rw[u3]at hA3;subst hA3;rw[u4]at hA4;subst hA4;rw[u5]at hA5;subst hA5;simp only[ue,Nat.reduceAdd]at *;have hk:l.headD 0=k:=by rw[<-hk0,d1];exact(GX l 0).symm
  have hm:(l.drop 23).headD 0=m:=by rw[<-hm5,d5];exact(GX l 23).symm
  rw[d2]at hh2 hf2;rw[d3]at e3;rw[d4]at hi4 hid;have hidt:yP (jL ((l.drop 10).take 13))=true:=by simpa [zD] using hid
  rw[RJ,if_pos hidt]at hi4;rw[<-e3]at hsr;clear d1 d2 d3 d4 d5 u1 u2 u3 u4 u5 hB1 hB2 hB3 hB4 hB5 hid t4 hl3 hk0 hm5 q1 q2 q3 q4 ha1 ha2 ha3 ha4 e3;cases hHB:fA (ik ((l.drop 1).take 6)) with
  | false=>have i:oX l=oz:=CV λ_ _=>Xx hHB;rw[hHB]at hf2;subst hf2;unfold oz at i;clear hHB hidt hi4 hsr hh2 hk hm;simp[an, *,aa.ab,I2]
  | true=>
   rw[hHB]at hf2;subst hf2;rw[DM,if_pos hHB]at hh2;have o:ny l=⟨k,⟨D,I,F⟩,sr,⟨⟨⟨L,M,P⟩,N⟩,(m.toNat:Int)⟩,if k=1 then jL ((l.drop 24).take 13) else mF,if k=3 then ⟨(l.drop 24).headD 0,u32 (val ((l.drop 25).take 4))⟩ else ⟨0,0⟩,
    if k=1 then words ((l.drop 37).take (4 * m.toNat)) else []⟩:=by
    unfold ny;rw[hk,hm,hh2,hi4,hsr]
   have J:pK l=kH k m:=by unfold pK;rw[hk,hm]
   clear hHB hidt hi4 hsr hh2 hk hm;by_cases h64:64<(m.toNat:Int);·have i:oX l=oz:=CV λ_ _=>PN (by rw[o];simp only[nD,Fc,iQc];exact .inr (.inr (.inl (by omega))));unfold oz at i;clear o J;simp[an, *,aa.ab,CS]
   have K:m.toNat<=64:=(by omega);by_cases E:k=1
   ·subst E;simp[an, *,aa.ab,CS];refine aff 0 (a:=24) (b:=false) true hx t5 (by omega) (by simp(maxDischargeDepth:=12) [hY, *]) (by simp[aa.ab,vt, *]) λy6 H6 B=>?_;have hb6:=B.old ⟨0,2,0,0⟩ _ (by decide) (gps _ _ _);have hF6:=B.fr;have hr6:=B.box;have hy6:=B.val;have ha6:=Dr (l:=l) false 13 t5;clear B hb5 hr5 hp5 hv5 s5 s5r hF5;subst hy6;generalize Y:wj l 24 false 13=L6 at *;generalize U:D7 l 24 false 13=A6 at *;generalize O:(AJ l 24 false 13||zD L6 true)=B6 at *;generalize hi6:RJ L6=ai at *;obtain⟨⟨a_1,a_2,a_3⟩,a_4⟩:=ai;have s6:(H6.get ⟨0,2,0,0⟩).isSome=true:=by rw[hb6];rfl
    have s6r:(H6.get ⟨0,17,0,0⟩).isSome=true:=by rw[hr6];rfl
    have w4:IntKind.i64.wrap (4 * (m.toNat:Int))=4 * (m.toNat:Int):=iQa _ (by omega);simp[an, *,aa.ab];refine By 0 (a:=A6) (b:=B6) (4 * m.toNat) (by simp) hx ha6 (by omega) (by omega) (by simp(maxDischargeDepth:=12) [hY, *]) (by simp[aa.ab, *]) λy7 v7 H7 X=>?_;have hb7:=X.old ⟨0,2,0,0⟩ _ (by decide) (gps _ _ _);have hl7:=xZ (l:=l) (a:=A6) B6 (4 * m.toNat);have hF7:=X.fr;have hr7:=X.box;have u:=X.seen;have G:=X.spot;have V:=WW X.seen.sl hl7 K;clear X hb6 hr6 s6 s6r hF6 w4;unfold vt at hr7;generalize hL7:wj l A6 B6 (4 * m.toNat)=L7 at *;generalize hA7:D7 l A6 B6 (4 * m.toNat)=A7 at *;generalize hB7:AJ l A6 B6 (4 * m.toNat)=B7 at *;have s7:(H7.get ⟨0,2,0,0⟩).isSome=true:=by rw[hb7];rfl
    have s7r:(H7.get ⟨0,17,0,0⟩).isSome=true:=by rw[hr7];rfl
    have hsz':pK l=37+4 * m.toNat:=by rw[J];rfl
    rw[if_pos rfl,if_neg (by decide),if_pos rfl]at o;have p:=Gm (words L7);cases B7 with
    | true=>
     have i:oX l=oz:=CV λ_ hh=>by
      rw[hsz']at hh;obtain⟨w,C,H⟩:=xY (l:=l) (a:=24) (n:=13) (by omega);rw[w,xC]at O;rw[C]at U;subst U;rw[H]at Y;cases B6 with
      | false=>obtain⟨w,C,H⟩:=xY (l:=l) (a:=24+13) (n:=4 * m.toNat) (by omega);rw[w]at hB7;cases hB7
      | true=>simp only[zD,ia,bt,gz,iQc]at O;refine JY ?_;rw[o,Y];have hz:=GV (l:=L6) (by rw[<-Y];simp;omega);rw[iQi O.2]at hz;simp[Cu,Ia,hz,O.1]
     unfold oz at i;clear o J hsz' O hB7 U hA7 Y hL7 K ha6;by_cases hE:xh (words L7)=0
     ·rw[if_pos hE]at V;clear hE;generalize words L7=ws at *;rcases u with ⟨rfl,u⟩ | ⟨q,cq,fz,rfl,hq,rfl,T⟩
      ·have Z:=u.r;rcases p with p | p<;>rw[p.1]at V<;>simp[an, *,aa.ab]
      have S:q≠⟨0,2,0,0⟩:=by intro e;have:=G q rfl;rw[e]at this;cases this
      have s:q≠⟨0,17,0,0⟩:=by intro e;have:=G q rfl;rw[e]at this;cases this
      have R:=S.symm;have z:=s.symm;rcases p with p | p<;>rw[p.1]at V<;>cases fz<;>simp[an, *,aa.ab]
     rw[if_neg hE]at V;clear hE p;generalize words L7=ws at *;rcases u with ⟨rfl,u⟩ | ⟨q,cq,fz,rfl,hq,rfl,T⟩
     ·have Z:=u.r;simp[an, *,aa.ab]
     have S:q≠⟨0,2,0,0⟩:=by intro e;have:=G q rfl;rw[e]at this;cases this
     have s:q≠⟨0,17,0,0⟩:=by intro e;have:=G q rfl;rw[e]at this;cases this
     have R:=S.symm;have z:=s.symm;cases fz<;>simp[an, *,aa.ab]
    | false=>
     obtain⟨rfl,q7,u7,d7⟩:=o8 hB7;obtain⟨t6,hid6⟩:AJ l 24 false 13=false/\zD L6 true=false:=by simpa using O
     obtain⟨_,q6,u6,d6⟩:=o8 t6;rw[u6]at U;subst U;rw[u7]at hA7;subst hA7;rw[d7]at hL7;rw[d6]at Y;have i:oX l=if qj (ny l) then .tup [.agg (Av (ny l)++[qi 1 (rows (ny l).l)]),aI (37+4 * m.toNat:Nat),aI 0] else oz:=by
      unfold oX mM;rw[hsz'];have h1:decide (24<=l.length)=true:=by simpa using t5
      have h2:decide (37+4 * m.toNat<=l.length)=true:=by simp only[iQb];omega
      rw[h1,h2,ia,ia]
     have hai:jL L6=⟨⟨a_1,a_2,a_3⟩,a_4⟩:=by
      rw[<-hi6,RJ];split;·rfl
      rename_i hn;have hn':yP (jL L6)=false:=by simpa using hn
      simp only[zD,hn',xE,ia,pF,iQb]at hid6;rw[hid6];rfl
     rw[Y,hai,hL7]at o;rw[o]at i;clear o J hsz' O hB7 Y hL7 K ha6 hid6 hai d6 d7 u6 u7 t6 hi6;by_cases hE:xh (words L7)=0
     ·rw[if_pos hE]at V;have hwl:(words L7).length<2000000:=by have:=(tJ _ L7 hl7).2;have:=m.toNat_lt;omega
      have hC:=rW 1 D I F sr L M P N m.toNat a_1 a_2 a_3 a_4 0 0 (nE (words L7)) hwl;clear hE hwl;generalize words L7=ws at *;cases hO:qj ⟨1,⟨D,I,F⟩,sr,⟨⟨⟨L,M,P⟩,N⟩,(m.toNat:Int)⟩,⟨⟨a_1,a_2,a_3⟩,a_4⟩,⟨0,0⟩,ws⟩ with
      | true=>
       simp only[hO,Av,if_true]at i;rcases p with p | p<;>rw[p.1]at V i<;>rw[p.2]at hC
       all_goals
        rcases u with ⟨rfl,u⟩ | ⟨q,cq,fz,rfl,hq,rfl,T⟩
        ·have Z:=u.r
         simp[an, *,aa.ab]
        have S:q≠⟨0,2,0,0⟩:=by intro e;have:=G q rfl;rw[e]at this;cases this
        have s:q≠⟨0,17,0,0⟩:=by intro e;have:=G q rfl;rw[e]at this;cases this
        have R:=S.symm
        have z:=s.symm
        cases fz<;>simp[an, *,aa.ab]
      | false=>
       simp only[hO,oz]at i;rcases p with p | p<;>rw[p.1]at V<;>rw[p.2]at hC
       all_goals
        rcases u with ⟨rfl,u⟩ | ⟨q,cq,fz,rfl,hq,rfl,T⟩
        ·have Z:=u.r
         simp[an, *,aa.ab]
        have S:q≠⟨0,2,0,0⟩:=by intro e;have:=G q rfl;rw[e]at this;cases this
        have s:q≠⟨0,17,0,0⟩:=by intro e;have:=G q rfl;rw[e]at this;cases this
        have R:=S.symm
        have z:=s.symm
        cases fz<;>simp[an, *,aa.ab]
     rw[if_neg hE]at V;have hz:qj ⟨1,⟨D,I,F⟩,sr,⟨⟨⟨L,M,P⟩,N⟩,(m.toNat:Int)⟩,⟨⟨a_1,a_2,a_3⟩,a_4⟩,⟨0,0⟩,words L7⟩=false:=JY (by
      have:Gp (words L7)=false:=(by rw[Bool.eq_false_iff];intro h;exact hE ((Dx _).2 h));simp[Cu,Ia,this])
     rw[hz,if_neg (by decide)]at i;unfold oz at i;clear p hz;generalize words L7=ws at *;rcases u with ⟨rfl,u⟩ | ⟨q,cq,fz,rfl,hq,rfl,T⟩
     ·have Z:=u.r;simp[an, *,aa.ab]
     have S:q≠⟨0,2,0,0⟩:=by intro e;have:=G q rfl;rw[e]at this;cases this
     have s:q≠⟨0,17,0,0⟩:=by intro e;have:=G q rfl;rw[e]at this;cases this
     have R:=S.symm;have z:=s.symm;cases fz<;>simp[an, *,aa.ab]
   by_cases A:k=3
   ·subst A;simp[an, *,aa.ab,CS];refine By 0 (a:=24) (b:=false) 5 rfl hx t5 (by omega) (by omega) (by simp(maxDischargeDepth:=12) [hY, *]) (by simp[aa.ab,vt, *]) λy6 v6 H6 B=>?_;have hb6:=B.old ⟨0,2,0,0⟩ _ (by decide) (gps _ _ _);have hl6:=xZ (l:=l) (a:=24) false 5;obtain⟨w,C,H,c4,c5,e6⟩ : ∃a b c d e,wj l 24 false 5=[a,b,c,d,e]:=by
     match h:wj l 24 false 5,hl6 with
     | [a,b,c,d,e],_=>exact⟨a,b,c,d,e,rfl⟩
    have hF6:=B.fr;have hr6:=B.box;have y:=B.seen;have Q:=B.spot;clear B hb5 hr5 hp5 hv5 s5 s5r hF5;rw[e6]at y;unfold vt at hr6;have s6:(H6.get ⟨0,2,0,0⟩).isSome=true:=by rw[hb6];rfl
    have s6r:(H6.get ⟨0,17,0,0⟩).isSome=true:=by rw[hr6];rfl
    have hBC:=λcp=>Q6 cp w C H c4 c5;have hG6:=Oz (v := .bq 1 [a8 w,a8 C,a8 H,a8 c4,a8 c5,a8 0] none) (l:=[w,C,H,c4,c5,0]) (Sl.mk _ _) rfl;have hho:ik [w,C,H,c4,c5,0]=⟨w,u32 (val [C,H,c4,c5]),0⟩:=rfl;have hgo:DM [w,C,H,c4,c5,0]=if w<=15 then ⟨w,u32 (val [C,H,c4,c5]),0⟩ else ⟨0,0,0⟩:=(by unfold DM;rw[hho];simp[fA])
    have hhb:fA ⟨w,u32 (val [C,H,c4,c5]),0⟩=decide (w<=15):=(by simp[fA]);rw[hho,hhb]at hG6;have hdr:AJ l 24 false 5=false->(l.drop 24).headD 0=w/\(l.drop 25).take 4=[C,H,c4,c5]/\29<=l.length:=by
     intro hB;obtain⟨_,q,_,d⟩:=o8 hB;rw[d]at e6;have:l.drop 25=(l.drop 24).drop 1:=by rw[oC]
     rw[this];match hd:l.drop 24,e6 with
     | a :: t,e6=>
      have e7:a :: t.take 4=w :: [C,H,c4,c5]:=e6;injection e7 with e8 e9
      exact⟨e8,e9,q⟩
    have hbad:AJ l 24 false 5=true->oX l=oz:=λhB=>CV λ_ hh=>by
     rw[J]at hh;have:kH 3 m=29:=rfl;simp only[AJ,xC,iQb]at hB;omega
    generalize O:AJ l 24 false 5=B6 at *;have U:B6=false->D7 l 24 false 5=29:=λe=>(o8 (O.trans e)).2.2.1;generalize D7 l 24 false 5=A6 at *;cases B6 with
    | true=>
     have i:=hbad rfl;unfold oz at i;clear o J hdr hbad K;rcases y with ⟨rfl,y⟩ | ⟨q,cq,fz,rfl,hq,rfl,T⟩
     ·obtain⟨cp,rfl,hcp⟩:=mP y (by simp);simp[an, *,aa.ab,aA]
     have S:q≠⟨0,2,0,0⟩:=by intro e;have:=Q q rfl;rw[e]at this;cases this
     have s:q≠⟨0,17,0,0⟩:=by intro e;have:=Q q rfl;rw[e]at this;cases this
     have R:=S.symm;have z:=s.symm;cases fz<;>simp[an, *,aa.ab,aA]
    | false=>
     obtain⟨d1,d2,d3⟩:=hdr rfl;obtain rfl:=U rfl;have i:oX l=if qj (ny l) then .tup [.agg (Av (ny l)++[qi 1 (rows (ny l).l)]),aI 29,aI 0] else oz:=by
      have hs24:pK l=29:=by rw[J];rfl
      unfold oX mM;rw[hs24];have h1:decide (24<=l.length)=true:=by simpa using t5
      have h2:decide (29<=l.length)=true:=(by simpa using d3);rw[h1,h2,ia,ia];rfl
     rw[d1,d2,if_neg (by decide),if_pos rfl,if_neg (by decide)]at o;rw[o]at i;clear o J hdr hbad K d1 d2 d3 U;by_cases W:w<=15
     ·rw[if_pos W]at hgo;rw[hgo,iQg W,CS]at hG6;clear hgo hho hhb W;generalize u32 (val [C,H,c4,c5])=cc at *;have hC:=rW 3 D I F sr L M P N m.toNat 0 0 0 0 w cc (l:=[]) (x:=aO) (.inl ⟨rfl,rfl⟩) (by simp);cases hO:qj ⟨3,⟨D,I,F⟩,sr,⟨⟨⟨L,M,P⟩,N⟩,(m.toNat:Int)⟩,⟨⟨0,0,0⟩,0⟩,⟨w,cc⟩,[]⟩ with
      | true=>
       simp only[mF,hO,Av,show qi 1 (rows [])=aO from rfl,if_true]at i;rcases y with ⟨rfl,y⟩ | ⟨q,cq,fz,rfl,hq,rfl,T⟩
       ·obtain⟨cp,rfl,hcp⟩:=mP y (by simp);simp[an, *,aa.ab,aA]
       have S:q≠⟨0,2,0,0⟩:=by intro e;have:=Q q rfl;rw[e]at this;cases this
       have s:q≠⟨0,17,0,0⟩:=by intro e;have:=Q q rfl;rw[e]at this;cases this
       have R:=S.symm;have z:=s.symm;cases fz<;>simp[an, *,aa.ab,aA]
      | false=>
       simp only[mF,hO,oz]at i;rcases y with ⟨rfl,y⟩ | ⟨q,cq,fz,rfl,hq,rfl,T⟩
       ·obtain⟨cp,rfl,hcp⟩:=mP y (by simp);simp[an, *,aa.ab,aA]
       have S:q≠⟨0,2,0,0⟩:=by intro e;have:=Q q rfl;rw[e]at this;cases this
       have s:q≠⟨0,17,0,0⟩:=by intro e;have:=Q q rfl;rw[e]at this;cases this
       have R:=S.symm;have z:=s.symm;cases fz<;>simp[an, *,aa.ab,aA]
     have hz:qj ⟨3,⟨D,I,F⟩,sr,⟨⟨⟨L,M,P⟩,N⟩,(m.toNat:Int)⟩,mF,⟨w,u32 (val [C,H,c4,c5])⟩,[]⟩=false:=JY (by simp[Cu,JR,W]);rw[hz,if_neg (by decide)]at i;unfold oz at i;rw[if_neg W]at hgo;rw[hgo,iQi W,I2]at hG6;clear hgo hho hhb W hz;rcases y with ⟨rfl,y⟩ | ⟨q,cq,fz,rfl,hq,rfl,T⟩
     ·obtain⟨cp,rfl,hcp⟩:=mP y (by simp);simp[an, *,aa.ab,aA]
     have S:q≠⟨0,2,0,0⟩:=by intro e;have:=Q q rfl;rw[e]at this;cases this
     have s:q≠⟨0,17,0,0⟩:=by intro e;have:=Q q rfl;rw[e]at this;cases this
     have R:=S.symm;have z:=s.symm;cases fz<;>simp[an, *,aa.ab,aA]
   have i:oX l=if qj (ny l) then .tup [.agg (Av (ny l)++[qi 1 (rows (ny l).l)]),aI 24,aI 0] else oz:=by
    have hs24:pK l=24:=by rw[J];unfold kH;rw[if_neg E,if_neg A]
    unfold oX mM;rw[hs24];have:decide (24<=l.length)=true:=by simpa using t5
    rw[this,ia,ia];rfl
   rw[if_neg E,if_neg A,if_neg E]at o;rw[o]at i;clear o J K;have hC:=rW k D I F sr L M P N m.toNat 0 0 0 0 0 0 (l:=[]) (x:=aO) (.inl ⟨rfl,rfl⟩) (by simp);cases hO:qj ⟨k,⟨D,I,F⟩,sr,⟨⟨⟨L,M,P⟩,N⟩,(m.toNat:Int)⟩,⟨⟨0,0,0⟩,0⟩,⟨0,0⟩,[]⟩ with
   | true=>simp only[mF,hO,Av,show qi 1 (rows [])=aO from rfl,if_true]at i;simp[an, *,aa.ab]
   | false=>simp only[mF,hO,oz]at i;simp[an, *,aa.ab]
def vY(v:UInt8)(c:UInt32)(ok:Bool):Bool:=decide (v<=15)&&(ok||(decide (v=0)&&decide (c=0)))
def ru(a:Int)(v:UInt8)(c:UInt32)(ok:Bool):Bool:=decide (0<=a)&&decide (a<8)&&vY v c ok
@[simp] def aeu(a:Int)(v:UInt8)(c:UInt32)(ok:Bool):ay env 103 [.agg [aI a,a8 v,bO c,aB ok]]=some (aI (bad (ru a v c ok))):=by
 refine aM rfl (by kernel_rfl) (FR _ _ _ λg=>?_);cases ok
 ·simp[an, *,uT,nG,gm];repeat' ((first | apply qT<;>intro h | apply mY<;>intro h | apply mZ<;>intro h | apply mW<;>intro h | apply mX<;>intro h)<;>(try simp only[iQb,iQc,gz,pF,bt,jt]at h)<;>(try simp[an, *,nG,gm,ru,vY,bad]))
  all_goals (try grind)
 simp[an, *,uT,nG,gm];repeat' ((first | apply qT<;>intro h | apply mY<;>intro h | apply mZ<;>intro h | apply mW<;>intro h | apply mX<;>intro h)<;>(try simp only[iQb,iQc,gz,pF,bt,jt]at h)<;>(try simp[an, *,nG,gm,ru,vY,bad]))
 all_goals (try grind)
def kz(a:Int)(v:UInt8)(c:UInt32)(ok:Bool):List UInt8:=u8 a :: (if ok then 1 else 0) :: v :: be 4 c.toNat
@[simp] def ahq(a:Int)(v:UInt8)(c:UInt32)(ok:Bool):ay env 69 [.agg [aI a,a8 v,bO c,aB ok]]=some (if ru a v c ok then .tup [.bq 1 (aA (kz a v c ok)) none,aI 0] else .tup [aO,aI 8]):=by
 refine aM rfl (by kernel_rfl) (JB _ _ _ λg=>?_);by_cases h:ru a v c ok=true
 ·have b:v<=15:=by simp[ru,vY]at h;exact h.2.1
  have d:fA ⟨v,c,0⟩=true:=(by simp[fA,b]);cases ok<;>simp[an, *,yx,bad,kz,cr,aA,uN]
 simp at h;simp[an, *,yx,bad]
structure cU where
 kind:UInt8
 user:Int
 op:fG
 code:Int
 gu:Int
 gv:UInt8
 gc:UInt32
 gok:Bool
def mJ(a b:cU):Bool:=decide (a.kind=b.kind)&&(decide (a.user=b.user)&&(nR a.op b.op&&(decide (a.code=b.code)&&(decide (a.gu=b.gu)&&(decide (a.gv=b.gv)&&decide (a.gc=b.gc)&&decide (a.gok=b.gok))))))
def QR(k1 N:UInt8)(P M:Int)(B:UInt8)(z:UInt8)(a_3:UInt32)(D:UInt8)(F:Int)(I:UInt8)(G:UInt32)(J:UInt8)(H:Int)(c:Int)(b:UInt8)(e:UInt32)(j:UInt8)(f:Int)(d:UInt8)(h:UInt32)(w:UInt8)(v:UInt8)(K:UInt32)(A:UInt8)(u:Int)(E:UInt8)(t:UInt32)(C:UInt8)(s:Int)(q:Int)(k:UInt8)(i:UInt32)(p:UInt8)(a:Int)(o:UInt8)(n:UInt32)(L O V Z:Int)(X U:UInt8)(T W:UInt32)(Y R:Bool){x y:AV}{l m:List Int}(Q:Sl 1 (rows l) x)(S:Sl 1 (rows m) y)(hl:l.length<1000000000) :
 ay env 70 [.agg [a8 k1,aI P,a8 B,a8 z,bO a_3,a8 D,aI F,a8 I,bO G,a8 J,aI H,aI c,a8 b,bO e,a8 j,aI f,a8 d,bO h,x,aI L,aI V,a8 X,bO T,aB Y],.agg [a8 N,aI M,a8 w,a8 v,bO K,a8 A,aI u,a8 E,bO t,a8 C,aI s,aI q,a8 k,bO i,a8 p,aI a,a8 o,bO n,y,aI O,aI Z,a8 U,bO W,aB R]] =
  some (aB (mJ ⟨k1,P,(⟨B,⟨z,a_3,D⟩,F,⟨⟨⟨I,G,J⟩,H⟩,c⟩,⟨⟨b,e,j⟩,f⟩,⟨d,h⟩,l⟩:fG),L,V,X,T,Y⟩ ⟨N,M,(⟨w,⟨v,K,A⟩,u,⟨⟨⟨E,t,C⟩,s⟩,q⟩,⟨⟨k,i,p⟩,a⟩,⟨o,n⟩,m⟩:fG),O,Z,U,W,R⟩)):=by
 refine aM rfl (by kernel_rfl) (FN _ _ _ _ λg=>?_);have hq:=TI B z a_3 D F I G J H c b e j f d h w v K A u E t C s q k i p a o n Q S hl;have hr:=Q.r;have hr2:=S.r;unfold mJ;cases e1:decide (k1=N) with
 | false=>simp[an, *,mq,nG,gm]
 | true=>
 cases e2:decide (P=M) with| false=>simp[an, *,mq,nG,gm]| true=>
 cases e3:nR (⟨B,⟨z,a_3,D⟩,F,⟨⟨⟨I,G,J⟩,H⟩,c⟩,⟨⟨b,e,j⟩,f⟩,⟨d,h⟩,l⟩:fG) (⟨w,⟨v,K,A⟩,u,⟨⟨⟨E,t,C⟩,s⟩,q⟩,⟨⟨k,i,p⟩,a⟩,⟨o,n⟩,m⟩:fG) with| false=>simp[an, *,mq,nG,gm]| true=>
 cases e4:decide (L=O) with| false=>simp[an, *,mq,nG,gm]| true=>simp[an, *,mq,nG,gm]
def dp:fG:=⟨0,⟨0,0,0⟩,0,⟨⟨⟨0,0,0⟩,0⟩,0⟩,⟨⟨0,0,0⟩,0⟩,⟨0,0⟩,[]⟩
def FE(r:cU):cU:=if r.kind=1 then ⟨1,r.user, { dp with h:=r.op.h},0,0,0,0,false⟩ else if r.kind=2 then ⟨2,0,r.op,r.code,0,0,0,false⟩ else ⟨r.kind,0,dp,0,r.gu,r.gv,r.gc,r.gok⟩
def mb(r:cU):List UInt8:=r.kind :: (if r.kind=1 then cr r.op.h++[u8 r.user] else if r.kind=2 then [u8 (r.code / 256),u8 r.code]++eZ r.op else kz r.gu r.gv r.gc r.gok)
def dw(r:cU):Bool:=if r.kind=1 then (decide (0<=r.user)&&decide (r.user<=255))&&(fA r.op.h&&mJ r (FE r)) else if r.kind=2 then (!decide (-1∈r.op.l)&&decide (0<=r.code)&&decide (r.code<65536))&&(qj r.op&&mJ r (FE r)) else if r.kind=3 then ru r.gu r.gv r.gc r.gok&&mJ r (FE r) else false
def EJ(r:cU):AV:=if r.kind=1 then .bq 1 (aA (r.kind :: ((if fA r.op.h then cr r.op.h else [])++[u8 r.user]))) none
 else if r.kind=2 then .bq 1 (aA (r.kind :: ([u8 (r.code / 256),u8 r.code]++(if qj r.op then eZ r.op else [])))) none
 else if r.kind=3 then (if ru r.gu r.gv r.gc r.gok then .bq 1 (aA (r.kind :: kz r.gu r.gv r.gc r.gok)) none else .bq 1 [a8 r.kind] (some 1)) else .bq 1 [a8 r.kind] (some 1)
set_option maxHeartbeats 800000 in
def Gg(k:UInt8)(u:Int)(q:UInt8)(n:UInt8)(a_3:UInt32)(p:UInt8)(s:Int)(A:UInt8)(t:UInt32)(B:UInt8)(z:Int)(b:Int)(a:UInt8)(e:UInt32)(j:UInt8)(f:Int)(d:UInt8)(i:UInt32)(c C:Int)(v:UInt8)(w:UInt32)(o:Bool){x:AV}{l:List Int}(I:Sl 1 (rows l) x)(hl:l.length<2000000) :
 ay env 39 [.agg [a8 k,aI u,a8 q,a8 n,bO a_3,a8 p,aI s,a8 A,bO t,a8 B,aI z,aI b,a8 a,bO e,a8 j,aI f,a8 d,bO i,x,aI c,aI C,a8 v,bO w,aB o]]=some (.tup [EJ ⟨k,u,(⟨q,⟨n,a_3,p⟩,s,⟨⟨⟨A,t,B⟩,z⟩,b⟩,⟨⟨a,e,j⟩,f⟩,⟨d,i⟩,l⟩:fG),c,C,v,w,o⟩,aB (dw ⟨k,u,(⟨q,⟨n,a_3,p⟩,s,⟨⟨⟨A,t,B⟩,z⟩,b⟩,⟨⟨a,e,j⟩,f⟩,⟨d,i⟩,l⟩:fG),c,C,v,w,o⟩)]):=by
 refine aM rfl (by kernel_rfl) (qh _ _ _ λg=>?_);have hr:=I.r;have D:=λk' u' (W:UInt8) (V:UInt8) (b_3:UInt32) (X:UInt8) (T:Int) (b_6:UInt8) (R:UInt32) (Y:UInt8) (Q:Int) (P:Int) (L:UInt8) (K:UInt32) (O:UInt8) (H:Int) (N:UInt8) (M:UInt32) c' g' v' w' o' (y:AV) (m:List Int) (hy:Sl 1 (rows m) y)=>QR k k' u u' q n a_3 p s A t B z b a e j f d i W V b_3 X T b_6 R Y Q P L K O H N M c c' C g' v v' w w' o o' I hy (by omega);by_cases k1:k=1;·subst k1;have hs:=D 1 u 0 n a_3 p 0 0 0 0 0 0 0 0 0 0 0 0 0 0 0 0 false aO [] (.inl ⟨rfl,rfl⟩);have E:dw ⟨1,u,(⟨q,⟨n,a_3,p⟩,s,⟨⟨⟨A,t,B⟩,z⟩,b⟩,⟨⟨a,e,j⟩,f⟩,⟨d,i⟩,l⟩:fG),c,C,v,w,o⟩=((decide (0<=u)&&decide (u<=255))&&(fA ⟨n,a_3,p⟩&&mJ ⟨1,u,(⟨q,⟨n,a_3,p⟩,s,⟨⟨⟨A,t,B⟩,z⟩,b⟩,⟨⟨a,e,j⟩,f⟩,⟨d,i⟩,l⟩:fG),c,C,v,w,o⟩ ⟨1,u,⟨0,⟨n,a_3,p⟩,0,⟨⟨⟨0,0,0⟩,0⟩,0⟩,⟨⟨0,0,0⟩,0⟩,⟨0,0⟩,[]⟩,0,0,0,0,false⟩)):=rfl;have F:EJ ⟨1,u,(⟨q,⟨n,a_3,p⟩,s,⟨⟨⟨A,t,B⟩,z⟩,b⟩,⟨⟨a,e,j⟩,f⟩,⟨d,i⟩,l⟩:fG),c,C,v,w,o⟩ = .bq 1 (aA (1 :: ((if fA ⟨n,a_3,p⟩ then cr ⟨n,a_3,p⟩ else [])++[u8 u]))) none:=rfl;rw[E,F];clear D E F;generalize mJ ⟨1,u,(⟨q,⟨n,a_3,p⟩,s,⟨⟨⟨A,t,B⟩,z⟩,b⟩,⟨⟨a,e,j⟩,f⟩,⟨d,i⟩,l⟩:fG),c,C,v,w,o⟩ ⟨1,u,⟨0,⟨n,a_3,p⟩,0,⟨⟨⟨0,0,0⟩,0⟩,0⟩,⟨⟨0,0,0⟩,0⟩,⟨0,0⟩,[]⟩,0,0,0,0,false⟩=sm at *;cases J:fA ⟨n,a_3,p⟩<;>by_cases c0:0<=u<;>by_cases c2:u<=255;all_goals simp[an, *,cE,cr,aA,uN]
 by_cases Z:k=2
 ·subst Z;have hs:=D 2 0 q n a_3 p s A t B z b a e j f d i c 0 0 0 false x l I;have E:dw ⟨2,u,(⟨q,⟨n,a_3,p⟩,s,⟨⟨⟨A,t,B⟩,z⟩,b⟩,⟨⟨a,e,j⟩,f⟩,⟨d,i⟩,l⟩:fG),c,C,v,w,o⟩=((!decide (-1∈l)&&decide (0<=c)&&decide (c<65536))&&(qj (⟨q,⟨n,a_3,p⟩,s,⟨⟨⟨A,t,B⟩,z⟩,b⟩,⟨⟨a,e,j⟩,f⟩,⟨d,i⟩,l⟩:fG)&&mJ ⟨2,u,(⟨q,⟨n,a_3,p⟩,s,⟨⟨⟨A,t,B⟩,z⟩,b⟩,⟨⟨a,e,j⟩,f⟩,⟨d,i⟩,l⟩:fG),c,C,v,w,o⟩ ⟨2,0,(⟨q,⟨n,a_3,p⟩,s,⟨⟨⟨A,t,B⟩,z⟩,b⟩,⟨⟨a,e,j⟩,f⟩,⟨d,i⟩,l⟩:fG),c,0,0,0,false⟩)):=rfl;have F:EJ ⟨2,u,(⟨q,⟨n,a_3,p⟩,s,⟨⟨⟨A,t,B⟩,z⟩,b⟩,⟨⟨a,e,j⟩,f⟩,⟨d,i⟩,l⟩:fG),c,C,v,w,o⟩ = .bq 1 (aA (2 :: ([u8 (c / 256),u8 c]++(if qj (⟨q,⟨n,a_3,p⟩,s,⟨⟨⟨A,t,B⟩,z⟩,b⟩,⟨⟨a,e,j⟩,f⟩,⟨d,i⟩,l⟩:fG) then eZ (⟨q,⟨n,a_3,p⟩,s,⟨⟨⟨A,t,B⟩,z⟩,b⟩,⟨⟨a,e,j⟩,f⟩,⟨d,i⟩,l⟩:fG) else [])))) none:=rfl;have hP:=Q5 q n a_3 p s A t B z b a e j f d i I (by omega);have S:=W3 q n a_3 p s A t B z b a e j f d i I hl;rw[E,F];unfold aaX at S;have G:qj (⟨q,⟨n,a_3,p⟩,s,⟨⟨⟨A,t,B⟩,z⟩,b⟩,⟨⟨a,e,j⟩,f⟩,⟨d,i⟩,l⟩:fG)=true->(eZ (⟨q,⟨n,a_3,p⟩,s,⟨⟨⟨A,t,B⟩,z⟩,b⟩,⟨⟨a,e,j⟩,f⟩,⟨d,i⟩,l⟩:fG)).length<=293/\24<=(eZ (⟨q,⟨n,a_3,p⟩,s,⟨⟨⟨A,t,B⟩,z⟩,b⟩,⟨⟨a,e,j⟩,f⟩,⟨d,i⟩,l⟩:fG)).length:=λh=>by rw[vx h];exact⟨(uy h).2,(uy h).1⟩
  clear D E F;generalize mJ ⟨2,u,(⟨q,⟨n,a_3,p⟩,s,⟨⟨⟨A,t,B⟩,z⟩,b⟩,⟨⟨a,e,j⟩,f⟩,⟨d,i⟩,l⟩:fG),c,C,v,w,o⟩ ⟨2,0,(⟨q,⟨n,a_3,p⟩,s,⟨⟨⟨A,t,B⟩,z⟩,b⟩,⟨⟨a,e,j⟩,f⟩,⟨d,i⟩,l⟩:fG),c,0,0,0,false⟩=sm at *;generalize eZ (⟨q,⟨n,a_3,p⟩,s,⟨⟨⟨A,t,B⟩,z⟩,b⟩,⟨⟨a,e,j⟩,f⟩,⟨d,i⟩,l⟩:fG)=bs at *;generalize decide (-1∈l)=pl at *;cases J:qj (⟨q,⟨n,a_3,p⟩,s,⟨⟨⟨A,t,B⟩,z⟩,b⟩,⟨⟨a,e,j⟩,f⟩,⟨d,i⟩,l⟩:fG) with
  | false=>rw[J,if_neg (by decide)]at S;clear G;cases pl<;>by_cases c0:0<=c<;>by_cases c2:c<65536;all_goals simp[an, *,cE,aA,dI,dx]
  | true=>
   rw[J,if_pos rfl]at S;have hl2:=G J;have f1:bs.length+1<=140737488355328/\bs.length+1+1<=140737488355328/\bs.length+1+1+1<=140737488355328:=by omega
   have f0:2+bs.length=bs.length+1+1:=(by omega);have f3:1+(bs.length+1+1)<=140737488355328/\1+(bs.length+1+1)=bs.length+1+1+1:=(by omega);have f2:2+bs.length<=140737488355328/\1+(2+bs.length)<=140737488355328/\2<2+bs.length/\0<bs.length:=(by omega);have hne:bs≠[]:=by rintro rfl;simp at f2
   clear G;cases pl<;>by_cases c0:0<=c<;>by_cases c2:c<65536;all_goals simp[an, *,cE,aA,dI,dx]
 by_cases U:k=3
 ·subst U;have hs:=D 3 0 0 0 0 0 0 0 0 0 0 0 0 0 0 0 0 0 0 C v w o aO [] (.inl ⟨rfl,rfl⟩);have E:dw ⟨3,u,(⟨q,⟨n,a_3,p⟩,s,⟨⟨⟨A,t,B⟩,z⟩,b⟩,⟨⟨a,e,j⟩,f⟩,⟨d,i⟩,l⟩:fG),c,C,v,w,o⟩=(ru C v w o&&mJ ⟨3,u,(⟨q,⟨n,a_3,p⟩,s,⟨⟨⟨A,t,B⟩,z⟩,b⟩,⟨⟨a,e,j⟩,f⟩,⟨d,i⟩,l⟩:fG),c,C,v,w,o⟩ ⟨3,0,⟨0,⟨0,0,0⟩,0,⟨⟨⟨0,0,0⟩,0⟩,0⟩,⟨⟨0,0,0⟩,0⟩,⟨0,0⟩,[]⟩,0,C,v,w,o⟩):=rfl;have F:EJ ⟨3,u,(⟨q,⟨n,a_3,p⟩,s,⟨⟨⟨A,t,B⟩,z⟩,b⟩,⟨⟨a,e,j⟩,f⟩,⟨d,i⟩,l⟩:fG),c,C,v,w,o⟩=if ru C v w o then .bq 1 (aA (3 :: kz C v w o)) none else .bq 1 [a8 3] (some 1):=rfl
  rw[E,F];clear D E F;generalize mJ ⟨3,u,(⟨q,⟨n,a_3,p⟩,s,⟨⟨⟨A,t,B⟩,z⟩,b⟩,⟨⟨a,e,j⟩,f⟩,⟨d,i⟩,l⟩:fG),c,C,v,w,o⟩ ⟨3,0,⟨0,⟨0,0,0⟩,0,⟨⟨⟨0,0,0⟩,0⟩,0⟩,⟨⟨0,0,0⟩,0⟩,⟨0,0⟩,[]⟩,0,C,v,w,o⟩=sm at *;cases J:ru C v w o;all_goals simp[an, *,cE,kz,aA,uN]
 have E:dw ⟨k,u,(⟨q,⟨n,a_3,p⟩,s,⟨⟨⟨A,t,B⟩,z⟩,b⟩,⟨⟨a,e,j⟩,f⟩,⟨d,i⟩,l⟩:fG),c,C,v,w,o⟩=false:=by unfold dw;rw[if_neg k1,if_neg Z,if_neg U]
 have F:EJ ⟨k,u,(⟨q,⟨n,a_3,p⟩,s,⟨⟨⟨A,t,B⟩,z⟩,b⟩,⟨⟨a,e,j⟩,f⟩,⟨d,i⟩,l⟩:fG),c,C,v,w,o⟩ = .bq 1 [a8 k] (some 1):=by unfold EJ;rw[if_neg k1,if_neg Z,if_neg U]
 rw[E,F];clear D E F;simp[an, *,cE]
def mR(t:TypeId)(a b:Operand){n:Int}(h:0<=n):bN env.P .rem t a b (some (.v (.int .i64 n))) (some (.v (.int .i64 256)))=some (.v (.int .i64 (n % 256)),[]):=by
 rw[pa env.P t a b .i64 _ _ (by decide),D5 h]
def mT(t:TypeId)(a b:Operand){n:Int}(k:Int)(f:1<k)(h:0<=n)(d:n<9223372036854775808):bN env.P .quo t a b (some (.v (.int .i64 n))) (some (.v (.int .i64 k)))=some (.v (.int .i64 (n / k)),[]):=by
 rw[qB env.P t a b .i64 _ _ (by omega),FB h,iQa];have c:0<=n / k:=Int.ediv_nonneg h (by omega);have e:n / k<=n:=Int.ediv_le_self _ h;constructor<;>omega
@[simp] def WM(n:Int)(k:0<=n)(m:n<9223372036854775808):ay env 108 [aI n,aI 4]=some (.bq 1 (aA (be 4 n)) none):=by
 refine aM rfl (by kernel_rfl) (pI _ _ _ _ λg=>?_);have l:=λt b a=>mR t b a (n:=n) (by omega);have j:=λt b a=>mT t b a (n:=n) 256 (by decide) (by omega) (by omega);have e:n / 256 / 256=n / 65536:=by omega
 have r1:=λt b a=>mR t b a (n:=(n / 256)) (by omega);have c:=λt b a=>mT t b a (n:=(n / 256)) 256 (by decide) (by omega) (by omega);rw[e]at c;have f:n / 65536 / 256=n / 16777216:=by omega
 have r2:=λt b a=>mR t b a (n:=(n / 65536)) (by omega);have d:=λt b a=>mT t b a (n:=(n / 65536)) 256 (by decide) (by omega) (by omega);rw[f]at d;have h:n / 16777216 / 256=n / 4294967296:=by omega
 have r3:=λt b a=>mR t b a (n:=(n / 16777216)) (by omega);have i:=λt b a=>mT t b a (n:=(n / 16777216)) 256 (by decide) (by omega) (by omega);rw[h]at i;simp[an, *,my];refine bh _ _ _ _ _ _ λg=>?_;simp[an, *,aZ,lM];refine bh _ _ _ _ _ _ λg=>?_;simp[an, *,aZ,lM];refine bh _ _ _ _ _ _ λg=>?_;simp[an, *,aZ,lM];refine bh _ _ _ _ _ _ λg=>?_;simp[an, *,aZ,lM];refine bh _ _ _ _ _ _ λg=>?_;simp[an, *,aZ,lM,uN,aA]
@[simp] def WL(n:Int)(s:0<=n)(v:n<9223372036854775808):ay env 108 [aI n,aI 7]=some (.bq 1 (aA (be 7 n)) none):=by
 refine aM rfl (by kernel_rfl) (pI _ _ _ _ λg=>?_);have u:=λt b a=>mR t b a (n:=n) (by omega);have q:=λt b a=>mT t b a (n:=n) 256 (by decide) (by omega) (by omega);have i:n / 256 / 256=n / 65536:=by omega
 have r1:=λt b a=>mR t b a (n:=(n / 256)) (by omega);have c:=λt b a=>mT t b a (n:=(n / 256)) 256 (by decide) (by omega) (by omega);rw[i]at c;have k:n / 65536 / 256=n / 16777216:=by omega
 have r2:=λt b a=>mR t b a (n:=(n / 65536)) (by omega);have d:=λt b a=>mT t b a (n:=(n / 65536)) 256 (by decide) (by omega) (by omega);rw[k]at d;have l:n / 16777216 / 256=n / 4294967296:=by omega
 have r3:=λt b a=>mR t b a (n:=(n / 16777216)) (by omega);have o:=λt b a=>mT t b a (n:=(n / 16777216)) 256 (by decide) (by omega) (by omega);rw[l]at o;have f:n / 4294967296 / 256=n / 1099511627776:=by omega
 have r4:=λt b a=>mR t b a (n:=(n / 4294967296)) (by omega);have m:=λt b a=>mT t b a (n:=(n / 4294967296)) 256 (by decide) (by omega) (by omega);rw[f]at m;have h:n / 1099511627776 / 256=n / 281474976710656:=by omega
 have r5:=λt b a=>mR t b a (n:=(n / 1099511627776)) (by omega);have p:=λt b a=>mT t b a (n:=(n / 1099511627776)) 256 (by decide) (by omega) (by omega);rw[h]at p;have e:n / 281474976710656 / 256=n / 72057594037927936:=by omega
 have r6:=λt b a=>mR t b a (n:=(n / 281474976710656)) (by omega);have j:=λt b a=>mT t b a (n:=(n / 281474976710656)) 256 (by decide) (by omega) (by omega);rw[e]at j;simp[an, *,my];refine bh _ _ _ _ _ _ λg=>?_;simp[an, *,aZ,lM];refine bh _ _ _ _ _ _ λg=>?_;simp[an, *,aZ,lM];refine bh _ _ _ _ _ _ λg=>?_;simp[an, *,aZ,lM];refine bh _ _ _ _ _ _ λg=>?_;simp[an, *,aZ,lM];refine bh _ _ _ _ _ _ λg=>?_;simp[an, *,aZ,lM];refine bh _ _ _ _ _ _ λg=>?_;simp[an, *,aZ,lM];refine bh _ _ _ _ _ _ λg=>?_;simp[an, *,aZ,lM];refine bh _ _ _ _ _ _ λg=>?_;simp[an, *,aZ,lM,OY,aA]
@[simp] def Iv(a:UInt8)(b:UInt32)(n:UInt8):ay env 85 [.agg [a8 a,bO b,a8 n]]=some (.fsl 1 (aA (cr ⟨a,b,n⟩)) none):=by
 refine aM rfl (by kernel_rfl) (vO _ _ _ λg=>?_);have c:=b.toNat_lt;have d:=WM (b.toNat:Int) (by omega) (by omega);simp[an, *,pn,cr,aA]
def Iw(a:UInt8)(b:UInt32)(n:UInt8)(k:Int)(c:0<=k)(d:k<9223372036854775808):ay env 109 [.agg [a8 a,bO b,a8 n,aI k]]=some (.bq 1 (aA (dP ⟨⟨a,b,n⟩,k⟩)) none):=by
 refine aM rfl (by kernel_rfl) (vP _ _ _ λg=>?_);have e:=WL k c d;simp[an, *,po,dP,aA]
def PG{r:cU}(h:dw r=true):EJ r = .bq 1 (aA (mb r)) none:=by
 unfold dw at h;unfold EJ mb;split at h;·rename_i k1;simp only[bt]at h;rw[if_pos k1,if_pos k1,if_pos h.2.1]
 rename_i k1;rw[if_neg k1,if_neg k1];split at h;·rename_i a;simp only[bt]at h;rw[if_pos a,if_pos a,if_pos h.2.1]
 rename_i a;rw[if_neg a,if_neg a];split at h;·rename_i b;simp only[bt]at h;rw[if_pos b,if_pos h.1]
 cases h
def Gr{r:cU}(h:dw r=true):(r.kind=1/\(mb r).length=8)\/(r.kind=2/\(mb r).length=3+AL r.op/\qj r.op=true)\/(r.kind=3/\(mb r).length=8):=by
 unfold dw at h;unfold mb;split at h;·rename_i k1;refine .inl ⟨k1,?_⟩;rw[if_pos k1];simp
 rename_i k1;rw[if_neg k1];split at h;·rename_i a;simp only[bt]at h;refine .inr (.inl ⟨a,?_,h.2.1⟩);rw[if_pos a];simp[vx h.2.1];omega
 rename_i a;rw[if_neg a];split at h;·rename_i b;refine .inr (.inr ⟨b,?_⟩);simp[kz]
 cases h
def ir(r:cU):Nat:=((mb r).length+118) / 119
def vq{r:cU}(h:dw r=true):1<=ir r/\ir r<=3/\(r.kind=2\/ir r=1):=by
 unfold ir;rcases Gr h with ⟨k,e⟩ | ⟨k,e,a⟩ | ⟨k,e⟩
 ·rw[e];simp
 ·rw[e];have:=uy a;exact⟨by omega,by omega,.inl k⟩
 rw[e];simp
def NF(k:UInt8)(u:Int)(n:UInt8)(m:UInt8)(a_3:UInt32)(p:UInt8)(q:Int)(A:UInt8)(s:UInt32)(B:UInt8)(y:Int)(b:Int)(a:UInt8)(f:UInt32)(j:UInt8)(h:Int)(d:UInt8)(i:UInt32)(c C:Int)(v:UInt8)(w:UInt32)(o:Bool){x:AV}{l:List Int}(I:Sl 1 (rows l) x)(L:l.length<2000000) :
 ay env 40 [.agg [a8 k,aI u,a8 n,a8 m,bO a_3,a8 p,aI q,a8 A,bO s,a8 B,aI y,aI b,a8 a,bO f,a8 j,aI h,a8 d,bO i,x,aI c,aI C,a8 v,bO w,aB o]]=some (if dw ⟨k,u,(⟨n,⟨m,a_3,p⟩,q,⟨⟨⟨A,s,B⟩,y⟩,b⟩,⟨⟨a,f,j⟩,h⟩,⟨d,i⟩,l⟩:fG),c,C,v,w,o⟩ then .tup [aI (ir ⟨k,u,(⟨n,⟨m,a_3,p⟩,q,⟨⟨⟨A,s,B⟩,y⟩,b⟩,⟨⟨a,f,j⟩,h⟩,⟨d,i⟩,l⟩:fG),c,C,v,w,o⟩),aI 0] else .tup [aI 0,aI 8]):=by
 refine aM rfl (by kernel_rfl) (EF _ _ _ λg=>?_);have J:=Gg k u n m a_3 p q A s B y b a f j h d i c C v w o I L;have W:=I.r;have H := @PG ⟨k,u,(⟨n,⟨m,a_3,p⟩,q,⟨⟨⟨A,s,B⟩,y⟩,b⟩,⟨⟨a,f,j⟩,h⟩,⟨d,i⟩,l⟩:fG),c,C,v,w,o⟩;have D := @Gr ⟨k,u,(⟨n,⟨m,a_3,p⟩,q,⟨⟨⟨A,s,B⟩,y⟩,b⟩,⟨⟨a,f,j⟩,h⟩,⟨d,i⟩,l⟩:fG),c,C,v,w,o⟩;have G:ir ⟨k,u,(⟨n,⟨m,a_3,p⟩,q,⟨⟨⟨A,s,B⟩,y⟩,b⟩,⟨⟨a,f,j⟩,h⟩,⟨d,i⟩,l⟩:fG),c,C,v,w,o⟩=((mb ⟨k,u,(⟨n,⟨m,a_3,p⟩,q,⟨⟨⟨A,s,B⟩,y⟩,b⟩,⟨⟨a,f,j⟩,h⟩,⟨d,i⟩,l⟩:fG),c,C,v,w,o⟩).length+118) / 119:=rfl;cases F:dw ⟨k,u,(⟨n,⟨m,a_3,p⟩,q,⟨⟨⟨A,s,B⟩,y⟩,b⟩,⟨⟨a,f,j⟩,h⟩,⟨d,i⟩,l⟩:fG),c,C,v,w,o⟩ with
 | false=>
  rw[F]at J;generalize E:EJ ⟨k,u,(⟨n,⟨m,a_3,p⟩,q,⟨⟨⟨A,s,B⟩,y⟩,b⟩,⟨⟨a,f,j⟩,h⟩,⟨d,i⟩,l⟩:fG),c,C,v,w,o⟩=z at *;clear H D G;have T:z = .bq 1 [a8 k] (some 1) \/∃es,z = .bq 1 es none:=by
   rw[<-E];unfold EJ;split;·exact .inr ⟨_,rfl⟩
   split;·exact .inr ⟨_,rfl⟩
   split
   ·split;·exact .inr ⟨_,rfl⟩
    exact .inl rfl
   exact .inl rfl
  clear E;rcases T with rfl | ⟨es,rfl⟩<;>simp[an, *,tq]
 | true=>
  rw[H F,F]at J;have U:(mb ⟨k,u,(⟨n,⟨m,a_3,p⟩,q,⟨⟨⟨A,s,B⟩,y⟩,b⟩,⟨⟨a,f,j⟩,h⟩,⟨d,i⟩,l⟩:fG),c,C,v,w,o⟩).length<=1000:=by
   rcases D F with ⟨_,e⟩ | ⟨_,e,Q⟩ | ⟨_,e⟩
   ·omega
   ·have:=uy Q;omega
   omega
  rw[G];clear H D G;generalize mb ⟨k,u,(⟨n,⟨m,a_3,p⟩,q,⟨⟨⟨A,s,B⟩,y⟩,b⟩,⟨⟨a,f,j⟩,h⟩,⟨d,i⟩,l⟩:fG),c,C,v,w,o⟩=bs at *;have V:=iQa ((bs.length:Int)+119) (by omega);have O:=iQa ((bs.length:Int)+119 - 1) (by omega);have M:((bs.length:Int)+119 - 1)=bs.length+118:=by omega
  have N:=λt S R=>qB env.P t S R .i64 ((bs.length:Int)+118) 119 (by decide);have K:((bs.length:Int)+118).tdiv 119=(((bs.length+118) / 119:Nat):Int):=(by rw[FB (by omega)];omega);rw[K,iQa _ (by omega)]at N;rw[M]at O;simp[an, *,tq]
def Kr{P:Program}{t t':TypeId}(y:oc P t=true)(b:isInt P t'=true)(v:(eM P t).cells.all AV.one=true)(H:aa)(r q:Ref)(n:Int)(m:Nat){es:List AV}{fz:Bool}(x:H.get q=some ⟨jm P t,es,true,fz⟩)(C:m=es.length)(F:0<n)(D:n<=aG)(u:(m+n.toNat) * nK P t<=aG) :
 dm P true H r (some t) (some t') (.bA q 0 m none) (aI n)=some (.bA ⟨q.d,q.t,H.gen q.d q.t,0⟩ 0 (m+n.toNat) none,(⟨q.d,q.t,H.gen q.d q.t,0⟩,some ⟨jm P t,es++List.replicate n.toNat (eM P t),true,fz⟩) :: H.put q none):=by
 subst C;unfold oc at y;obtain⟨e,zz,j,f,A,c,p,G,o,s⟩:=fB y;have E:eM P t=zz:=by unfold eM;rw[j,dX,c];rfl
 rw[E]at v ⊢;have i:(P.underlying t').isNone=false:=by
  unfold isInt at b;cases h:P.underlying t' with
  | none=>rw[h]at b;cases b
  | some d=>rfl
 have B : ¬((P.underlying t').isNone=true\/isInt P t'≠isNum (aI n)):=by rw[i,b];simp[isNum]
 have hd : ¬(jm P t≠jm P t\/jm P t=0\/nK P t=0\/zz.cells.length≠jm P t):=by simp[p,o,s]
 have a:md P H.get e (aI n)=some (jm P t,List.replicate n.toNat zz):=by
  show(match eP P e,aH P e with | some w,some z=>if 0<=n/\n<=aG/\w.cells.length=z/\w.cells.all AV.one then some (z,List.replicate n.toNat w) else none | _,_=>none)=_;rw[c,f];exact if_pos ⟨by omega,D,by simp[p,o,s],v⟩
 have k:List.replicate n.toNat zz≠[]:=by
  intro h;have:=iQf List.length h;simp only[AA,k8]at this;omega
 have g : ¬(jm P t≠jm P t\/jm P t=0\/nK P t=0\/List.replicate n.toNat zz=[]\/zz.cells.length≠jm P t):=by simp only[k,false_or];exact hd
 have l:ei P H.get r (some t) (some t') (.bA q 0 es.length none) (aI n)=none:=by
  simp only[ei,dX,j,Option.map_some,cb,if_neg B,f,A,c,a,if_neg hd,if_neg k,x];simp[k]
 simp only[dm,l];simp only[lD,Ei,zh,jU,dX,j,Option.map_some,cb,if_neg B,f,A,c,a,if_neg g,x,AA];unfold aG at u;simp[u]
def NI{l:List Int}{x0:AV}(p:Sl 1 (rows l) x0)(hl:l.length<100000)(Z : ∀n∈l,ij n=true){Q:AV->aa->Prop} :
 ∀(s:List Int)(k:Nat)(i:Int)(a:List Int)(D:AV)(H:aa),l.drop k=s->k<=l.length->i=k->a.length=k->Fr H->fY [35] 1 (aA (bc a)) H D->(a=[]->D=aO) ->
 (∀y H',fY [35] 1 (aA (bc (a++s))) H' y->(a++s=[]->y=aO)->Q y H') ->
 cB env Tryz.f110 0 fN [(4,aI i),(3,D),(0,x0)] H Q:=by
 intro s;induction s with
 | nil=>rintro k i a x5 H hs hk rfl ha hF hO hN hQ;obtain rfl:=drop_nil hs hk;refine oG _ _ _ _ _ λg=>?_;have o:=hQ x5 H (by simpa using hO) (by simpa using hN);clear hQ hO hN;simp[an, *,eD,p.len];all_goals exact o
 | cons n s J=>
  rintro k i a x5 H hs hk rfl ha hF hO hN hQ;obtain⟨N,hg,G,A⟩:=drop_cons hs;have K:=Z n (by rw[<-hg];exact eO _);have e3:=iQa ((k:Int)+1) (by omega);refine oG _ _ _ _ _ λg=>?_;have M:bP (rows l) k 0 1 false=some (.v (.int .i32 n)):=by simp[rows,A,aR]
  have q:=λB H'=>J (k+1) ((k:Int)+1) (a++[n]) B H' G (by omega) (by simp) (by simp;omega);have o : ∀y H',fY [35] 1 (aA (bc ((a++[n])++s))) H' y->((a++[n])++s=[]->y=aO)->Q y H':=λy H' h K=>hQ y H' (by simpa using h) (λe=>by simp at e);have x:=mS a;have b:(aA (bc a)).length=4 * a.length:=by rw[show(aA (bc a)).length=(bc a).length from by simp,x]
  have j : ∀(g m:Nat)(H':aa),m=4 * a.length+4->H'.get ⟨0,35,g,0⟩=some ⟨1,aA (bc a)++[a8 (u8 (n / 16777216)),a8 (u8 (n / 65536)),a8 (u8 (n / 256)),a8 (u8 n)],true,false⟩->fY [35] 1 (aA (bc (a++[n]))) H' (.bA ⟨0,35,g,0⟩ 0 m none):=by
   intro g m H' U h;subst U;have e:aA (bc (a++[n]))=aA (bc a)++[a8 (u8 (n / 16777216)),a8 (u8 (n / 65536)),a8 (u8 (n / 256)),a8 (u8 n)]:=by simp[bc,uN,aA]
   rw[e];exact .inr ⟨35,g,by simp,by rw[ju,b];rfl,h⟩
  clear hQ hN J;have w:n = -1\/(0<=n/\n<=1114111):=by
   simp only[ij,jt,bt,iQb]at K;omega
  have L:=λt f d=>mT t f d (n:=4294967295) 16777216 (by decide) (by omega) (by omega);have O:=λt f d=>mT t f d (n:=4294967295) 65536 (by decide) (by omega) (by omega);have R:=λt f d=>mT t f d (n:=4294967295) 256 (by decide) (by omega) (by omega);have Y:=λt f d=>mR t f d (n:=4294967295) (by omega);have T:=λt f d=>mR t f d (n:=65535) (by omega);have W:=λt f d=>mR t f d (n:=16777215) (by omega);simp only[show(4294967295:Int) / 16777216=255 by decide,show(4294967295:Int) / 65536=65535 by decide,show(4294967295:Int) / 256=16777215 by decide,show(4294967295:Int) % 256=255 by decide,show(65535:Int) % 256=255 by decide,show(16777215:Int) % 256=255 by decide]at L O R Y T W;have hu:u8 255=255:=rfl;have E:u8 (-1)=255:=rfl;rcases w with rfl | ⟨p0,p1⟩
  ·have d1:(-1:Int) / 16777216 = -1:=(by decide);have d2:(-1:Int) / 65536 = -1:=(by decide);have d3:(-1:Int) / 256 = -1:=(by decide);rw[d1,d2,d3,E]at j;have P:IntKind.i64.wrap (-1) = -1:=rfl;rcases hO with ⟨rfl,F⟩ | ⟨t,I,z,rfl,C⟩
   ·have u:a=[]:=(by have:=iQf List.length F;rw[b]at this;simp only[k8]at this;exact yG (by omega));subst u;have c:=j (H.gen 0 35) 4;clear j;simp[an, *,eD,p.r,p.idx];exact q _ _ (by simp(maxDischargeDepth:=12) [hY, *]) (c _ rfl (by simp[bc])) (λe=>by simp at e) o
   rw[k9]at z;subst z;have X:(H.get ⟨0,35,I,0⟩).isSome=true:=by rw[C];rfl
   have V:kP 1 1 (aA (bc a)).length true none (some ⟨1,aA (bc a),true,false⟩) (some [a8 255,a8 255,a8 255,a8 255]):=(by rw[ar,b];refine⟨rfl,b.symm ▸ rfl,.inr ⟨?_,rfl⟩⟩;simp;omega);have c:=λH'=>j (H.gen 0 35) ((aA (bc a)).length+4) H' (by rw[b]);clear j ha b x;generalize aA (bc a)=bs at *;simp[an, *,eD,p.r,p.idx];exact q _ _ (by simp(maxDischargeDepth:=12) [hY, *]) (c _ (by simp)) (λe=>by simp at e) o
  have P:=iQa n (by omega);have S : ¬n<0:=by omega
  have p2:0<=n / 65536:=(by omega);have p3:0<=n / 256:=(by omega);have t1:=λt f d=>mT t f d (n:=n) 16777216 (by decide) (by omega) (by omega);have t2:=λt f d=>mT t f d (n:=n) 65536 (by decide) (by omega) (by omega);have t3:=λt f d=>mT t f d (n:=n) 256 (by decide) (by omega) (by omega);have t4:=λt f d=>mR t f d (n:=n) (by omega);have t5:=λt f d=>mR t f d (n:=n / 65536) (by omega);have t6:=λt f d=>mR t f d (n:=n / 256) (by omega);rcases hO with ⟨rfl,F⟩ | ⟨t,I,z,rfl,C⟩
  ·have u:a=[]:=(by have:=iQf List.length F;rw[b]at this;simp only[k8]at this;exact yG (by omega));subst u;have c:=j (H.gen 0 35) 4;clear j;simp[an, *,eD,p.r,p.idx,lM];exact q _ _ (by simp(maxDischargeDepth:=12) [hY, *]) (c _ rfl (by simp[bc])) (λe=>by simp at e) o
  rw[k9]at z;subst z;have X:(H.get ⟨0,35,I,0⟩).isSome=true:=by rw[C];rfl
  have V:kP 1 1 (aA (bc a)).length true none (some ⟨1,aA (bc a),true,false⟩) (some [a8 (u8 (n / 16777216)),a8 (u8 (n / 65536)),a8 (u8 (n / 256)),a8 (u8 n)]):=(by rw[ar,b];refine⟨rfl,b.symm ▸ rfl,.inr ⟨?_,rfl⟩⟩;simp;omega);have c:=λH'=>j (H.gen 0 35) ((aA (bc a)).length+4) H' (by rw[b]);clear j ha b x;generalize aA (bc a)=bs at *;simp[an, *,eD,p.r,p.idx,lM];exact q _ _ (by simp(maxDischargeDepth:=12) [hY, *]) (c _ (by simp)) (λe=>by simp at e) o
def TB{l:List Int}{x:AV}(h:Sl 1 (rows l) x)(i:l.length<100000)(o : ∀n∈l,ij n=true):ay env 110 [x]=some (lW 1 (aA (bc l))):=by
 refine aM rfl (by kernel_rfl) (wU _ _ _ λg=>?_);have b:=λH Q=>NI h i o (H:=H) (Q:=Q) l 0 0 [] aO rfl (by omega) rfl rfl;have c : ∀y H',fY [35] 1 (aA (bc ([]++l))) H' y->([]++l=[]->y=aO)->view H'.get 8 y=some (lW 1 (aA (bc l))):=by
  intro y H' f a;rw[o4]at f a;rcases f with ⟨rfl,m⟩ | ⟨t,u,s,rfl,j⟩
  ·rw[m];simp[lW]
  have d:aA (bc l)≠[]:=by
   intro e;have k:=iQf List.length e;have q:=mS l;have p:(aA (bc l)).length=(bc l).length:=by simp
   simp only[k8]at k;have:l=[]:=yG (by omega);cases a this
  rw[tK 1 d];generalize aA (bc l)=bs at *;simp[j]
 simp[an, *,p9];exact b _ _ Fr.nil (.inl ⟨rfl,rfl⟩) (λ_=>rfl) c
def VG(H:aa)(r q:Ref){es:List AV}{fz:Bool}(b:H.get q=some ⟨1,es,true,fz⟩)(a:es.length=24) :
 dm env.P true H r (some 57) (some 3) (.bA q 0 24 none) (aI 13)=some (.bA ⟨q.d,q.t,H.gen q.d q.t,0⟩ 0 37 none,(⟨q.d,q.t,H.gen q.d q.t,0⟩,some ⟨1,es++[a8 0,a8 0,a8 0,a8 0,a8 0,a8 0,a8 0,a8 0,a8 0,a8 0,a8 0,a8 0,a8 0],true,fz⟩) :: H.put q none):=by
 have h:=Kr (P:=env.P) (t:=57) (t':=3) (by kernel_rfl) (by kernel_rfl) (by kernel_rfl) H r q 13 24 (es:=es) (fz:=fz) (by rw[OI];exact b) a.symm (by decide) (by decide) (by simp);rw[OI]at h;rw[h];have e:eM env.P 57=a8 0:=by kernel_rfl
 rw[e];rfl
def z8(v:UInt8)(p:UInt8)(a_3:UInt32)(q:UInt8)(a:Int)(m:UInt8)(j:UInt32)(o:UInt8)(k:Int)(i:Int)(b:UInt8)(c:UInt32)(f:UInt8)(d:Int)(s:UInt8)(u:UInt32){x:AV}{l:List Int}(L:Sl 1 (rows l) x)(T:l.length<100000)(O:qj (⟨v,⟨p,a_3,q⟩,a,⟨⟨⟨m,j,o⟩,k⟩,i⟩,⟨⟨b,c,f⟩,d⟩,⟨s,u⟩,l⟩:fG)=true):ay env 86 [.agg [a8 v,a8 p,bO a_3,a8 q,aI a,a8 m,bO j,a8 o,aI k,aI i,a8 b,bO c,a8 f,aI d,a8 s,bO u,x]]=some (.bq 1 (aA (eZ (⟨v,⟨p,a_3,q⟩,a,⟨⟨⟨m,j,o⟩,k⟩,i⟩,⟨⟨b,c,f⟩,d⟩,⟨s,u⟩,l⟩:fG))) none):=by
 refine aM rfl (by kernel_rfl) (vM _ _ _ λg=>?_);have hr:=L.r;have hp:=r9 O;simp only at hp;obtain⟨hs0,hs1,⟨Q,Y⟩,P,hm1,U⟩:=hp;have t1:=λt C B=>mT t C B (n:=a) 65536 (by decide) (by omega) (by omega);have t2:=λt C B=>mT t C B (n:=a) 256 (by decide) (by omega) (by omega);have t3:=λt C B=>mR t C B (n:=a / 256) (by omega);have t4:=λt C B=>mR t C B (n:=a) (by omega);have b1:=Iw m j o k (by omega) (by omega);have R:nH (⟨v,⟨p,a_3,q⟩,a,⟨⟨⟨m,j,o⟩,k⟩,i⟩,⟨⟨b,c,f⟩,d⟩,⟨s,u⟩,l⟩:fG)=v :: (cr ⟨p,a_3,q⟩++([u8 (a / 65536),u8 (a / 256),u8 a]++(dP ⟨⟨m,j,o⟩,k⟩++[u8 i]))):=by simp[nH,Ys]
 unfold eZ;rw[R];have lh:=BE ⟨p,a_3,q⟩;have li:=Ol ⟨⟨m,j,o⟩,k⟩;rcases U with ⟨rfl,K,H,F,w⟩ | ⟨rfl,K,H,F⟩ | ⟨rfl,H,F,V⟩
 ·obtain⟨X,S,J⟩:=NN w;have N : ∀n∈l,ij n=true:=(by have:=w;simp only[Gp,bt,dY]at this;exact this.2);have Z:=TB L T N;have D:=mS l;have I:aA (bc l)≠[]:=(by intro e;have:=iQf List.length e;rw[fW,k8]at this;omega);rw[tK 1 I]at Z;have M:(aA (bc l)).length=4 * l.length:=by rw[fW,D]
  have G : ∀A:List UInt8,aA (A++bc l)=aA A++aA (bc l):=λA=>by simp[aA]
  rw[if_pos rfl];have f1:37+4 * l.length<=140737488355328:=by omega
  clear X J w D N O;rcases Bool.eq_false_or_eq_true (kE ⟨⟨b,c,f⟩,d⟩)with y | y
  ·have z:od ⟨⟨b,c,f⟩,d⟩=List.replicate 13 0:=by unfold od;rw[if_pos y]
   rw[z];have E:aA (1 :: (cr ⟨p,a_3,q⟩++([u8 (a / 65536),u8 (a / 256),u8 a]++(dP ⟨⟨m,j,o⟩,k⟩++[u8 i])))++(List.replicate 13 0++bc l))=aA (1 :: (cr ⟨p,a_3,q⟩++([u8 (a / 65536),u8 (a / 256),u8 a]++(dP ⟨⟨m,j,o⟩,k⟩++[u8 i])))++List.replicate 13 0)++aA (bc l):=by rw[<-qq,G]
   rw[E];clear G E;generalize aA (bc l)=W at *;simp[an, *,gp,aA,lM,cr,dP,uN,OY];refine tk (VG _ _ _ rfl rfl) ?_;simp[*];refine⟨by omega,?_⟩;rw[cN];·simp[uN,OY]
   simp only[iA];omega
  have z:od ⟨⟨b,c,f⟩,d⟩=dP ⟨⟨b,c,f⟩,d⟩:=by unfold od;rw[if_neg (by rw[y];decide)]
  rw[z];have E:aA (1 :: (cr ⟨p,a_3,q⟩++([u8 (a / 65536),u8 (a / 256),u8 a]++(dP ⟨⟨m,j,o⟩,k⟩++[u8 i])))++(dP ⟨⟨b,c,f⟩,d⟩++bc l))=aA (1 :: (cr ⟨p,a_3,q⟩++([u8 (a / 65536),u8 (a / 256),u8 a]++(dP ⟨⟨m,j,o⟩,k⟩++[u8 i])))++dP ⟨⟨b,c,f⟩,d⟩)++aA (bc l):=by rw[<-qq,G]
  rw[E];have hb2:=Iw b c f d (by
   rcases H with h | h;· rw[h]at y;cases y
   omega) (by
    rcases H with h | h;· rw[h]at y;cases y
    omega)
  clear G E;generalize aA (bc l)=W at *;simp[an, *,gp,aA,lM,cr,dP,uN,OY];exact⟨by omega,cN (by simp;omega)⟩
 ·simp[an, *,gp,aA,lM,cr,dP,uN,OY]
 simp[an, *,gp,aA,lM,cr,dP,uN,OY]
def D8(k:UInt8)(m:Int):Int:=if m<1 then 0 else if 64<m then 0 else if k=1 then 37+4 * m else if k=2 then 24 else if k=3 then 29 else 0
def Tz(k:UInt8)(m:Int):ay env 151 [a8 k,aI m]=some (aI (D8 k m)):=by
 refine aM rfl (by kernel_rfl) (wS _ _ _ _ λg=>?_);unfold D8;by_cases f:m<1;·simp[an, *,fu]
 by_cases d:64<m;·simp[an, *,fu]
 have c:=iQa (4 * m) (by omega);have a:=iQa (37+4 * m) (by omega);by_cases k1:k=1;·simp[an, *,fu]
 by_cases e:k=2;·simp[an, *,fu]
 by_cases b:k=3<;>simp[an, *,fu]
def N1{l:List Int}{x:AV}(m:Sl 1 (rows l) x)(M:l.length<100000)(C:UInt8)(A:UInt8)(a_3:UInt32)(o:UInt8)(q:Int)(z:UInt8)(u:UInt32)(B:UInt8)(v:Int)(d:Int)(c:UInt8)(b:UInt32)(j:UInt8)(e:Int)(a:UInt8)(f:UInt32){r:Ref}{H:aa}(L:H.get r=some ⟨17,[.agg [a8 C,a8 A,bO a_3,a8 o,aI q,a8 z,bO u,a8 B,aI v,aI d,a8 c,bO b,a8 j,aI e,a8 a,bO f,x]],false,false⟩){Q:AV->aa->Prop} :
 ∀(s:List Int)(k:Nat)(i:Int),l.drop k=s->k<=l.length->i=k->(∀y,y=aB (!decide (-1∈s))->Q y H) ->
 cB env Tryz.f53 0 iH [(3,aI i),(1,.ptr r 0 0)] H Q:=by
 intro s;induction s with
 | nil=>rintro k i hs hk rfl hQ;obtain rfl:=drop_nil hs hk;refine nP _ _ _ _ λg=>?_;have K:=m.r;simp[an, *,iM];all_goals exact hQ _ (by simp)
 | cons n s p=>
  rintro k i hs hk rfl hQ;obtain⟨I,N,D,J⟩:=drop_cons hs;refine nP _ _ _ _ λg=>?_;have O:=iQa ((k:Int)+1) (by omega);have K:=m.r;by_cases F:n = -1;·have t:=hQ (aB false) (by simp[F]);clear hQ p;simp[an, *,iM,m.idx,rows,aR];all_goals exact t
  have E : ¬ -1=n:=λh=>F h.symm;have w:=p (k+1) ((k:Int)+1) D (by omega) (by simp) (λy G=>hQ y (by rw[G];simp[E]));clear p hQ;simp[an, *,iM,m.idx,rows,aR];all_goals exact w
def QV(s:UInt8)(p:UInt8)(a_3:UInt32)(j:UInt8)(k:Int)(o:UInt8)(m:UInt32)(q:UInt8)(n:Int)(d:Int)(c:UInt8)(b:UInt32)(i:UInt8)(f:Int)(a:UInt8)(h:UInt32){x:AV}{l:List Int}(t:Sl 1 (rows l) x)(u:l.length<100000):ay env 53 [.agg [a8 s,a8 p,bO a_3,a8 j,aI k,a8 o,bO m,a8 q,aI n,aI d,a8 c,bO b,a8 i,aI f,a8 a,bO h,x]]=some (aB (!decide (-1∈l))):=by
 refine aM rfl (by kernel_rfl) (vL _ _ _ λg=>?_);have v:=t.r;simp[an, *,pk];exact N1 t u s p a_3 j k o m q n d c b i f a h (by simp) l 0 _ rfl (by omega) rfl (λy e=>by simp[e])
def Dt(B:UInt8)(z:UInt8)(a_3:UInt32)(D:UInt8)(F:Int)(I:UInt8)(G:UInt32)(J:UInt8)(H:Int)(c:Int)(b:UInt8)(e:UInt32)(j:UInt8)(f:Int)(d:UInt8)(h:UInt32)(w:UInt8)(v:UInt8)(K:UInt32)(A:UInt8)(u:Int)(E:UInt8)(t:UInt32)(C:UInt8)(s:Int)(q:Int)(k:UInt8)(i:UInt32)(p:UInt8)(a:Int)(o:UInt8)(n:UInt32){x y:AV}{l m:List Int}(L:Sl 1 (rows l) x)(M:Sl 1 (rows m) y)(Q:l.length<1000000000)(V:m.length<1000000000):ay env 54 [.agg [a8 B,a8 z,bO a_3,a8 D,aI F,a8 I,bO G,a8 J,aI H,aI c,a8 b,bO e,a8 j,aI f,a8 d,bO h,x],.agg [a8 w,a8 v,bO K,a8 A,aI u,a8 E,bO t,a8 C,aI s,aI q,a8 k,bO i,a8 p,aI a,a8 o,bO n,y]]=some (aB (nR (⟨B,⟨z,a_3,D⟩,F,⟨⟨⟨I,G,J⟩,H⟩,c⟩,⟨⟨b,e,j⟩,f⟩,⟨d,h⟩,l⟩:fG) (⟨w,⟨v,K,A⟩,u,⟨⟨⟨E,t,C⟩,s⟩,q⟩,⟨⟨k,i,p⟩,a⟩,⟨o,n⟩,m⟩:fG))):=by
 refine aM rfl (by kernel_rfl) (wT _ _ _ _ λg=>?_);have T:=Tw L M (by omega);have U:=L.r;have N:=M.r;unfold nR;cases R:decide (B=w) with
 | false=>simp[an, *,dt,nG,gm]
 | true=>
 cases W:(decide (z=v)&&decide (a_3=K)&&decide (D=A)) with| false=>simp[an, *,dt,nG,gm]| true=>
 cases S:decide (F=u) with| false=>simp[an, *,dt,nG,gm]| true=>
 cases O:(decide (I=E)&&decide (G=t)&&decide (J=C)&&decide (H=s)&&decide (c=q)) with| false=>simp[an, *,dt,nG,gm]| true=>
 cases P:(decide (b=k)&&decide (e=i)&&decide (j=p)&&decide (f=a)) with| false=>simp[an, *,dt,nG,gm]| true=>
 cases X:(decide (d=o)&&decide (h=n)) with| false=>simp[an, *,dt,nG,gm]| true=>simp[an, *,dt,nG,gm]
def Bz{v:AV}{l:List UInt8}(j:Sl 1 (aA l) v)(k:l.length=6):ay env 152 [v]=some (.agg [a8 (ik l).lv,bO (ik l).cats,a8 (ik l).num]):=by
 obtain⟨a,b,c,d,e,f,rfl⟩:=JI k;obtain⟨z,rfl,t⟩:=mP j (by simp[aA]);refine aM rfl (by kernel_rfl) (uY _ _ _ λg=>?_);have m:=b.toNat_lt;have o:=c.toNat_lt;have x:=d.toNat_lt;have u:=e.toNat_lt;have s:=iQa ((b.toNat:Int)) (by omega);have w:=iQa (256 * (b.toNat:Int)) (by omega);have A:=iQa (256 * (b.toNat:Int)+c.toNat) (by omega);have n:=iQa (256 * (256 * (b.toNat:Int)+c.toNat)) (by omega);have q:=iQa (256 * (256 * (b.toNat:Int)+c.toNat)+d.toNat) (by omega);have p:=iQa (256 * (256 * (256 * (b.toNat:Int)+c.toNat)+d.toNat)) (by omega);have y:=iQa (256 * (256 * (256 * (b.toNat:Int)+c.toNat)+d.toNat)+e.toNat) (by omega);have i:val [b,c,d,e]=256 * (256 * (256 * (b.toNat:Int)+c.toNat)+d.toNat)+e.toNat:=by simp[val,Au]
 have h:ik [a,b,c,d,e,f]=⟨a,u32 (val [b,c,d,e]),f⟩:=rfl;rw[h,i];simp[an, *,oQ];refine eX _ _ _ _ _ _ λg=>?_;simp[an, *,dS,aA];refine eX _ _ _ _ _ _ λg=>?_;simp[an, *,dS,aA];refine eX _ _ _ _ _ _ λg=>?_;simp[an, *,dS,aA];refine eX _ _ _ _ _ _ λg=>?_;simp[an, *,dS,aA];refine eX _ _ _ _ _ _ λg=>?_;simp[an, *,dS,aA]
def TU{x0:AV}{l:List UInt8}(h:Sl 1 (aA l) x0)(j:l.length=13){r:Ref}{c0:aY}{H:aa}(q:H.get r=some ⟨4,[.agg [a8 0,bO 0,a8 0,aI 0]],false,false⟩){Q:AV->aa->Prop}
 (f : ∀n,n=val (l.drop 6)->cB env Tryz.f153 0 gM [(4,aI 13),(0,x0),(3,aI n),(2,.ptr r 0 0)] H Q) :
 ∀(s:List UInt8)(k:Nat)(i a:Int),l.drop k=s->k<=l.length->i=k->6<=k->0<=a->a<256 ^ (k - 6)->Au a s=val (l.drop 6) ->
 cB env Tryz.f153 0 gM [(4,aI i),(0,x0),(3,aI a),(2,.ptr r 0 0)] H Q:=by
 intro s;induction s with
 | nil=>rintro k i a hs hk rfl h6 h0 h1 hV;obtain rfl:=drop_nil hs hk;rw[j];exact f a hV
 | cons b s e=>
  rintro k i a hs hk rfl h6 h0 h1 hV;obtain⟨m,w,d,o⟩:=drop_cons hs;have p:=b.toNat_lt;have v:(256:Int) ^ (k - 6)<=256 ^ 6:=by
   have:=Ae (k:=k - 6) 6 (by omega);exact this
  refine pH _ _ _ _ _ _ λg=>?_;have u:=iQa (256 * a) (by omega);have t:=iQa (256 * a+b.toNat) (by omega);have x:=iQa ((k:Int)+1) (by omega);have lt:(k:Int)<13:=by omega
  have c:=e (k+1) ((k:Int)+1) (256 * a+b.toNat) d (by omega) (by simp) (by omega) (by omega) (by
   rw[show k+1 - 6=(k - 6)+1 by omega,Bj];omega) (by rw[<-hV];rfl)
  clear e f;simp[an, *,mw,h.idx];all_goals exact c
def Ty{v:AV}{l:List UInt8}(u:Sl 1 (aA l) v)(t:l.length=13):ay env 153 [v]=some (.agg [a8 (jL l).h.lv,bO (jL l).h.cats,a8 (jL l).h.num,aI (jL l).n]):=by
 refine aM rfl (by kernel_rfl) (yV _ _ _ λg=>?_);simp[an, *,rL];refine TU u t (c0:=default) (by simp) (λn w=>?_) (l.drop 6) 6 6 0 rfl (by omega) rfl (by omega) (by omega) (by simp) rfl;refine pH _ _ _ _ _ _ λg=>?_;have e:jL l=⟨ik l,n⟩:=by rw[w];rfl
 have z:ik (l.take 6)=ik l:=by
  obtain⟨a,b,c,d,e,f,g,i,j,k,m,n,o,rfl⟩:=zl t;rfl
 rw[e];clear w e;obtain⟨x,rfl,s⟩:=mP u (by simp;omega);have q:=λc s=>Bz (v := .bq 1 (aA (l.take 6)) c) (l:=l.take 6) (.inr ⟨c,rfl,s⟩) (by simp;omega);rw[z]at q;have y:aA (l.take 6)=(aA l).take 6:=by simp[aA]
 rw[y]at q;have p:(aA l).length=13:=by rw[fW,t]
 have A:=q x (by rw[p]at s;rw[j7,p];cases x with | none=>simp | some c=>simp at s ⊢;omega);clear q;generalize ik l=ha at *;simp[an, *,mw]
def Qo(a b c d:UInt8):word a b c d=(if val [a,b,c,d]=4294967295 then -1 else if val [a,b,c,d]<2147483648 then val [a,b,c,d] else val [a,b,c,d] - 4294967296)/\0<=val [a,b,c,d]/\val [a,b,c,d]<4294967296:=by
 have h:=wX [a,b,c,d];simp only[iA,k8]at h;have e:val [a,b,c,d]<4294967296:=by have:=h.2;simpa using this
 refine⟨?_,h.1,e⟩;unfold word;rw[iQw];split;·omega
 split<;>omega
def abG(a b c d:UInt8):IntKind.i64.wrap (16777216 * (a.toNat:Int))=16777216 * (a.toNat:Int)/\IntKind.i64.wrap (65536 * (b.toNat:Int))=65536 * (b.toNat:Int) /\
 IntKind.i64.wrap (16777216 * (a.toNat:Int)+65536 * (b.toNat:Int))=16777216 * (a.toNat:Int)+65536 * (b.toNat:Int)/\IntKind.i64.wrap (256 * (c.toNat:Int))=256 * (c.toNat:Int) /\
 IntKind.i64.wrap (16777216 * (a.toNat:Int)+65536 * (b.toNat:Int)+256 * (c.toNat:Int))=16777216 * (a.toNat:Int)+65536 * (b.toNat:Int)+256 * (c.toNat:Int) /\
 16777216 * (a.toNat:Int)+65536 * (b.toNat:Int)+256 * (c.toNat:Int)+(d.toNat:Int)=val [a,b,c,d]/\IntKind.i64.wrap (val [a,b,c,d])=val [a,b,c,d]:=by
 have f:=a.toNat_lt;have g:=b.toNat_lt;have h:=c.toNat_lt;have i:=d.toNat_lt;have e:16777216 * (a.toNat:Int)+65536 * (b.toNat:Int)+256 * (c.toNat:Int)+(d.toNat:Int)=val [a,b,c,d]:=by simp[val,Au];omega
 exact⟨iQa _ (by omega),iQa _ (by omega),iQa _ (by omega),iQa _ (by omega),iQa _ (by omega),e,iQa _ (by omega)⟩
def NT{bs:List UInt8}{x0:AV}(A:Sl 1 (aA bs) x0)(hl:bs.length<1000000)(h4:bs.length % 4=0){Q:AV->aa->Prop} :
 ∀(m k:Nat)(s:List UInt8)(i:Int)(out:List Int)(K:AV)(H:aa),bs.drop k=s->s.length=4 * m->k<=bs.length->i=k->out.length<=k->Fr H->fY [50,57] 1 (rows out) H K->(out=[]->K=aO) ->
 (∀y H',(words s).all ij=true->fY [50,57] 1 (rows (out++words s)) H' y->(out++words s=[]->y=aO)->Q (.tup [y,aI 0]) H')->((words s).all ij=false ->∀H',Q (.tup [aO,aI 8]) H') ->
 cB env Tryz.f154 0 eS [(5,aI i),(4,K),(0,x0)] H Q:=by
 intro m;induction m with
 | zero=>
  rintro k s i out K H hs F hk rfl ho hF hO hN hQ hQ2;obtain rfl:s=[]:=sK.1 (by omega);have hd:=iQf List.length hs;rw[nM,k8]at hd;have e1 : ¬((k:Int)+3<bs.length):=by omega
  have w1:=iQa ((k:Int)+3) (by omega);have e2:(bs.length:Int).tmod 4=0:=by rw[D5 (by omega)];omega
  have W:=λt xo yo=>pa env.P t xo yo .i64 (bs.length:Int) 4 (by decide);rw[e2]at W;have hr:=A.r;have C:=hQ K H rfl (by simpa [words] using hO) (by simpa [words] using hN);refine jx _ _ _ _ _ λg=>?_;clear hQ hQ2 hO hN;simp[an, *,dR];all_goals exact C
 | succ m ih=>
  rintro k s i out K H hs F hk rfl ho hF hO hN hQ hQ2;match s,F with
  | a :: b :: c :: d :: s,F=>
  simp only[iA]at F;have hd:=iQf List.length hs;rw[nM]at hd;simp only[iA]at hd;have R:bs.drop (k+4)=s:=by rw[<-oC,hs];rfl
  have hw:words (a :: b :: c :: d :: s)=word a b c d :: words s:=rfl;rw[hw]at hQ hQ2;have J : ∀j,(bs.drop k)[j]?=bs[k+j]?:=λj=>yE;rw[hs]at J;have ga:bs[k]?=some a:=(J 0).symm;have gb:bs[k+1]?=some b:=(J 1).symm;have gc:bs[k+2]?=some c:=(J 2).symm;have gd:bs[k+3]?=some d:=(J 3).symm;clear J;have w1:=iQa ((k:Int)+1) (by omega);have w2:=iQa ((k:Int)+2) (by omega);have w3:=iQa ((k:Int)+3) (by omega);have w4:=iQa ((k:Int)+4) (by omega);have l1:(k:Int)<bs.length/\(k:Int)+1<bs.length/\(k:Int)+2<bs.length/\(k:Int)+3<bs.length:=by omega
  have l2:0<=(k:Int)/\0<=(k:Int)+1/\0<=(k:Int)+2/\0<=(k:Int)+3:=(by omega);have l3:((k:Int)+1).toNat=k+1/\((k:Int)+2).toNat=k+2/\((k:Int)+3).toNat=k+3:=(by omega);have f1:out.length+1<=35184372088832:=(by omega);have f2:(out.length+1) * 4<=140737488355328:=(by omega);have a1:k+4<=bs.length:=(by omega);have a2:(out++[word a b c d]).length<=k+4:=by simp;omega
  have a3:s.length=4 * m:=(by omega);obtain⟨v1,v2,v3,v4,v5,eV,v6⟩:=abG a b c d;obtain⟨u,u0,u1⟩:=Qo a b c d;have l1:(k:Int)<bs.length/\(k:Int)+1<bs.length/\(k:Int)+2<bs.length/\(k:Int)+3<bs.length:=by omega
  have l2:0<=(k:Int)/\0<=(k:Int)+1/\0<=(k:Int)+2/\0<=(k:Int)+3:=(by omega);have l3:((k:Int)+1).toNat=k+1/\((k:Int)+2).toNat=k+2/\((k:Int)+3).toNat=k+3:=(by omega);have hr:=A.r;have O:=λq H'=>ih (k+4) s ((k:Int)+4) (out++[word a b c d]) q H' R a3 a1 (by simp) a2;have n : ∀(t g m:Nat)(H':aa),t=50\/t=57->m=out.length+1->H'.get ⟨0,t,g,0⟩=some ⟨1,rows out++[aR (word a b c d)],true,false⟩->fY [50,57] 1 (rows (out++[word a b c d])) H' (.bA ⟨0,t,g,0⟩ 0 m none):=by
   intro t g m H' x F h;subst F;have e:rows (out++[word a b c d])=rows out++[aR (word a b c d)]:=by simp[rows]
   rw[e];exact .inr ⟨t,g,by simpa using x,by simp,h⟩
  have l:ij (word a b c d)=true ->∀q H',Fr H'->fY [50,57] 1 (rows (out++[word a b c d])) H' q->cB env Tryz.f154 0 eS [(5,aI ((k:Int)+4)),(4,q),(0,x0)] H' Q:=λz q H' Z U=>O q H' Z U (λe=>by simp at e)
   (λy H' V h2 h3=>hQ y H' (by simp[z,V]) (by simpa using h2) (λe=>by simp at e)) (λV H'=>hQ2 (by simp[z,V]) H')
  have f:ij (word a b c d)=false ->∀H',Q (.tup [aO,aI 8]) H':=λz H'=>hQ2 (by simp[z]) H';clear a1 a2 a3 O hQ hQ2 ih hs R hw hd F hl;generalize words s=ws at *;by_cases I:val [a,b,c,d]=4294967295
  ·have T:word a b c d = -1:=(by rw[u,if_pos I]);rw[T]at n l f;have o:=l (by decide);clear l f u;refine jx _ _ _ _ _ λg=>?_;rcases hO with ⟨rfl,Y⟩ | ⟨t,gg,x,rfl,B⟩
   ·have G:out=[]:=(by simpa using Y);subst G;have p:=n 50 (H.gen 0 50) 1;clear n;simp[an, *,dR,A.idx];exact o _ _ (by simp(maxDischargeDepth:=12) [hY, *]) (p _ (.inl rfl) rfl (by simp[aR]))
   have l6:(H.get ⟨0,t,gg,0⟩).isSome=true:=by rw[B];rfl
   have E:t=50\/t=57:=(by simpa using x);have D:t≠49:=by rintro rfl;simp at x
   have M : ¬49=t:=λe=>D e.symm;have f4:kP 1 4 out.length true none (some ⟨1,rows out,true,false⟩) (some [.v (.int .i32 (-1))]):=(by rw[ar];refine⟨rfl,by simp,.inr ⟨?_,rfl⟩⟩;simpa using f2);have p:=λm H'=>n t (H.gen 0 t) m H' E;clear n x;simp[an, *,dR,A.idx];exact o _ _ (by simp(maxDischargeDepth:=12) [hY, *]) (p _ _ (by simp) (by simp[aR]))
  cases N:td (val [a,b,c,d]) with| false=>have hq:ij (word a b c d)=false:=(by rw[u,if_neg I];simp only[td,M4,Fc,iQc]at N;simp only[ij,M4,Fc,iQc];split<;>omega);have C:=f hq H;have X:=TC (val [a,b,c,d]);rw[N]at X;clear l n f u hq hO hN;refine jx _ _ _ _ _ λg=>?_;simp[an, *,dR,A.idx];all_goals exact C| true=>
   have z:val [a,b,c,d]<2147483648/\ij (val [a,b,c,d])=true:=(by simp only[td,jt,bt,iQb]at N;simp only[ij,jt,bt,iQb];omega);have T:word a b c d=val [a,b,c,d]:=(by rw[u,if_neg I,if_pos z.1]);rw[T]at n l f;have o:=l z.2;have X:=TC (val [a,b,c,d]);rw[N]at X;have S:IntKind.i32.wrap (val [a,b,c,d])=val [a,b,c,d]:=by rw[iQw];omega
   have L:=λ(g:cL)(r:Ref)=>oq (P:=env.P) (g:=g) (r:=r) (src:=3) (dst:=21) .i32 (k' := .i64) (by kernel_rfl) (by kernel_rfl) (val [a,b,c,d]);rw[S]at L;clear l f u z T N S;generalize val [a,b,c,d]=w at *;refine jx _ _ _ _ _ λg=>?_;rcases hO with ⟨rfl,Y⟩ | ⟨t,gg,x,rfl,B⟩
   ·have G:out=[]:=(by simpa using Y);subst G;have p:=n 57 (H.gen 0 57) 1;clear n;simp[an, *,dR,A.idx];exact o _ _ (by simp(maxDischargeDepth:=12) [hY, *]) (p _ (.inr rfl) rfl (by simp[aR]))
   have l6:(H.get ⟨0,t,gg,0⟩).isSome=true:=by rw[B];rfl
   have E:t=50\/t=57:=(by simpa using x);have D:t≠56:=by rintro rfl;simp at x
   have M : ¬56=t:=λe=>D e.symm;have f4:kP 1 4 out.length true none (some ⟨1,rows out,true,false⟩) (some [.v (.int .i32 w)]):=(by rw[ar];refine⟨rfl,by simp,.inr ⟨?_,rfl⟩⟩;simpa using f2);have p:=λm H'=>n t (H.gen 0 t) m H' E;clear n x;simp[an, *,dR,A.idx];exact o _ _ (by simp(maxDischargeDepth:=12) [hY, *]) (p _ _ (by simp) (by simp[aR]))
end
section
attribute [local simp] aC aw ah aq ao bk jE aE ar ax bo bn aG aD ae aN cN
attribute [local simp] An bsO cZ
@[simp] def WN(n:Int)(a:0<=n):ay env 44 [aI n,aI 4]=some (.bq 1 (aA (be 4 n)) none):=by
 refine aM rfl (by kernel_rfl) (wI _ _ _ _ λg=>?_);have c:IntKind.i64.wrap (-1) = -1:=rfl;have b:IntKind.i64.wrap 0=0:=rfl;simp[an, *,so];refine eF _ _ _ _ _ λg=>?_;simp[an, *,dQ,dI,dx];refine eF _ _ _ _ _ λg=>?_;simp[an, *,dQ,dI,dx];refine eF _ _ _ _ _ λg=>?_;simp[an, *,dQ,dI,dx];refine eF _ _ _ _ _ λg=>?_;simp[an, *,dQ,dI,dx];refine eF _ _ _ _ _ λg=>?_;simp[an, *,dQ,uN,aA]
@[simp] def WO(n:Int)(a:0<=n):ay env 44 [aI n,aI 3]=some (.bq 1 (aA (be 3 n)) none):=by
 refine aM rfl (by kernel_rfl) (wI _ _ _ _ λg=>?_);have c:IntKind.i64.wrap (-1) = -1:=rfl;have b:IntKind.i64.wrap 0=0:=rfl;simp[an, *,so];refine eF _ _ _ _ _ λg=>?_;simp[an, *,dQ,dI,dx];refine eF _ _ _ _ _ λg=>?_;simp[an, *,dQ,dI,dx];refine eF _ _ _ _ _ λg=>?_;simp[an, *,dQ,dI,dx];refine eF _ _ _ _ _ λg=>?_;simp[an, *,dQ,Ys,aA]
def NK{d:AV}{Q:AV->aa->Prop}{l:List UInt8}(f:Sl 1 (aA l) d)(u:l.length<=7) : ∀(s:List UInt8)(k:Nat)(i a:Int)(H:aa),l.drop k=s->k<=l.length->i=k->0<=a->a<256 ^ k ->
 (∀y H',y=aI (Au a s)->Q y H') ->
 cB env Tryz.f90 0 ou [(7,aI i),(2,aI a),(5,d),(6,aI l.length)] H Q:=by
 intro s;induction s with
 | nil=>rintro k i a H hs hk rfl h0 h1 hQ;obtain rfl:=drop_nil hs hk;refine wH _ _ _ _ _ _ λg=>?_;simp[an, *,sn];exact hQ _ _ rfl
 | cons b s h=>rintro k i a H hs hk rfl h0 h1 hQ;obtain⟨m,o,c,j⟩:=drop_cons hs;refine wH _ _ _ _ _ _ λg=>?_;have p:=b.toNat_lt;have n:=Ae (k:=k) 6 (by omega);have e:=PL h0 (by omega) b;have q:=iQa (a * 256) (by omega);have t:=iQa ((k:Int)+1) (by omega);simp[an, *,sn,Ck,f.idx];exact h (k+1) _ _ _ c (by omega) (by simp) (by omega) (by rw[Bj];omega) hQ
@[simp] def JL{x:AV}{l:List UInt8}(a:Sl 1 (aA l) x)(b:l.length<=7):ay env 90 [x]=some (aI (val l)):=by
 refine aM rfl (by kernel_rfl) (FM _ _ _ λg=>?_);have h:=a.len;simp[an, *,zS];exact NK a b l 0 _ _ _ rfl (by omega) rfl (by omega) (by simp) (λy H' e=>by simp[e,val])
def kb(st nu a of:Int):Bool:=decide (1<=st)&&decide (st<2147483648)&&decide (1<=nu)&&decide (nu<16777216)&&decide (1<=of)&&decide (of<=4)&&decide (0<=a)&&decide (a<of)
@[simp] def aem(st nu a of:Int):ay env 41 [.agg [aI st,aI nu,aI a,aI of]]=some (aB (kb st nu a of)):=by
 refine aM rfl (by kernel_rfl) (HF _ _ _ λg=>?_);simp[an, *,A9];repeat' ((first | apply qT<;>intro h | apply mY<;>intro h | apply mZ<;>intro h | apply mW<;>intro h | apply mX<;>intro h)<;>(try simp only[iQb,iQc,gz,pF,bt,jt]at h)<;>(try simp[an, *,kb]))
 all_goals (try (simp[kb];omega))
structure Hd where
 st:Int
 nu:Int
 ix:Int
 of:Int
deriving DecidableEq
def Hd.val(h:Hd):AV := .agg [aI h.st,aI h.nu,aI h.ix,aI h.of]
def dh(b:List UInt8):Hd:=⟨Ab.val (b.take 4),Ab.val ((b.drop 4).take 3),(b.getD 7 0).toNat,(b.getD 8 0).toNat⟩
def gZ(b:List UInt8):Bool:=decide (b.length=128)&&kb (dh b).st (dh b).nu (dh b).ix (dh b).of
def Iu{x:AV}{b:List UInt8}(f:Sl 1 (aA b) x):ay env 60 [x]=some (if gZ b then .tup [(dh b).val,aI 0] else .tup [(⟨0,0,0,0⟩:Hd).val,aI 8]):=by
 refine aM rfl (by kernel_rfl) (FO _ _ _ λg=>?_);have n:=f.r;unfold gZ;by_cases m:b.length=128
 ·have e:(b.length:Int)=128:=by omega
  obtain⟨d,rfl,a⟩:=mP f (by simp;omega);rw[fW]at a;have r4:=λc=>JL (x := .bq 1 (aA (b.take 4)) c) (l:=b.take 4);have r3:=λc=>JL (x := .bq 1 (aA ((b.drop 4).take 3)) c) (l:=(b.drop 4).take 3);have r4:=r4 d (by rw[VO];cases d<;>simp at a ⊢ <;> omega) (by simp;omega);have r3:=r3 (d.map (· - 4)) (by rw[VO];cases d<;>simp at a ⊢ <;> omega) (by simp;omega);have h:b.getD 7 0=b[7]'(by omega):=by rw[iQA,de (by omega)];rfl
  have i:b.getD 8 0=b[8]'(by omega):=by rw[iQA,de (by omega)];rfl
  unfold Hd.val dh;rw[h,i];clear h i;have j:(4:Int)<=d.getD b.length:=by omega
  cases k:kb (Ab.val (b.take 4)) (Ab.val ((b.drop 4).take 3)) (b[7]'(by omega)).toNat (b[8]'(by omega)).toNat with| false=>simp[an, *,qZ,Hj,CQ]| true=>simp[an, *,qZ,Hj,CQ]
 have e : ¬(b.length:Int)=128:=by omega
 simp[an, *,qZ,Hd.val]
def Ey{P:Program}{t t':TypeId}(v:oc P t=true)(c:isInt P t'=true)(s:(eM P t).cells.all AV.one=true){H:aa}{r q:Ref}{es:List AV}{fz:Bool}(u:H.get q=some ⟨jm P t,es,true,fz⟩)(n:Nat)(B:(n:Int)<=aG)(p:(es.length+n) * nK P t<=aG) :
 dm P true H r (some t) (some t') (.bA q 0 es.length none) (aI n)=if n=0 then some (.bA q 0 es.length none,H) else some (.bA ⟨q.d,q.t,H.gen q.d q.t,0⟩ 0 (es.length+n) none,(⟨q.d,q.t,H.gen q.d q.t,0⟩,some ⟨jm P t,es++List.replicate n (eM P t),true,fz⟩) :: H.put q none):=by
 unfold oc at v;obtain⟨e,zz,o,k,y,f,i,F,g,j⟩:=fB v;have C:eM P t=zz:=by unfold eM;rw[o,dX,f];rfl
 rw[C]at s ⊢;have m:(P.underlying t').isNone=false:=by
  unfold isInt at c;cases h:P.underlying t' with
  | none=>rw[h]at c;cases c
  | some d=>rfl
 have A : ¬((P.underlying t').isNone=true\/isInt P t'≠isNum (aI n)):=by rw[m,c];simp[isNum]
 have hd : ¬(jm P t≠jm P t\/jm P t=0\/nK P t=0\/zz.cells.length≠jm P t):=by simp[i,g,j]
 have a:md P H.get e (aI n)=some (jm P t,List.replicate n zz):=by
  show(match eP P e,aH P e with | some w,some z=>if 0<=(n:Int)/\(n:Int)<=aG/\w.cells.length=z/\w.cells.all AV.one then some (z,List.replicate (n:Int).toNat w) else none | _,_=>none)=_;rw[f,k];exact if_pos ⟨by omega,B,by simp[i,g,j],s⟩
 have x : ¬(jm P t≠jm P t\/true=false):=by simp
 by_cases b:n=0;·subst b;simp only[dm,ei,dX,o,Option.map_some,cb,if_neg A,k,y,f,a,if_neg hd,u,if_neg x,Ji,if_true];rfl
 have D:List.replicate n zz≠[]:=(by intro h;have:=iQf List.length h;simp only[AA,k8]at this;omega);have l : ¬(jm P t≠jm P t\/jm P t=0\/nK P t=0\/List.replicate n zz=[]\/zz.cells.length≠jm P t):=(by simp[i,g,j,b]);have E:(0=0/\true=true/\jm P t=jm P t/\es.length=es.length/\(es.length+(List.replicate n zz).length) * nK P t<=aG):=⟨rfl,rfl,rfl,rfl,by rw[AA];exact p⟩;rw[if_neg b];simp only[dm,ei,jU,dX,o,Option.map_some,cb,if_neg A,k,y,f,a,if_neg hd,if_neg l,if_neg D,u,if_neg x,AA,iQt,if_pos p];rfl
def mD(st nu of i:Int)(x:List UInt8):List UInt8:=be 4 st++(be 3 nu++([u8 i,u8 of]++(x++List.replicate (119 - x.length) 0)))
def pL(st nu of:Int):Int->List (List UInt8)->List (List UInt8)
 | _,[]=>[]
 | i,x :: xs=>mD st nu of i x :: pL st nu of (i+1) xs
def DF:Nat->List UInt8->List (List UInt8)
 | 0,_=>[]
 | m+1,s=>if s=[] then [] else s.take 119 :: DF m (s.drop 119)
def ES(b:List UInt8):AV := .bq 1 (aA b) none
def cR(l:List (List UInt8)):List AV:=l.map ES
@[simp] def pU(l:List (List UInt8)):(cR l).length=l.length:=by simp[cR]
def BK(l:List (List UInt8))(b:List UInt8):cR l++[AV.bq 1 (aA b) none]=cR (l++[b]):=by simp[cR,ES]
def WT(st nu of i:Int)(x:List UInt8)(a:Option Nat)(b:x.length<=a.getD x.length)(c:x.length<=119):ay env 43 [.bq 1 [.bq 1 (aA (be 4 st)) none,.bq 1 (aA (be 3 nu)) none,.bq 1 [a8 (u8 i),a8 (u8 of)] (some 2),.bq 1 (aA x) a] (some 4)] =
 some (.fsl 1 (aA (be 4 st++(be 3 nu++([u8 i,u8 of]++x)))) none):=by
 have e:kN [(be 4 st,AV.bq 1 (aA (be 4 st)) none),(be 3 nu,.bq 1 (aA (be 3 nu)) none),([u8 i,u8 of],.bq 1 [a8 (u8 i),a8 (u8 of)] (some 2)),(x,.bq 1 (aA x) a)]=be 4 st++(be 3 nu++([u8 i,u8 of]++x)):=by
  simp only[kN,lU,Bo,oD]
 rw[<-e];refine Gi (ps:=[(be 4 st,AV.bq 1 (aA (be 4 st)) none),(be 3 nu,.bq 1 (aA (be 3 nu)) none),([u8 i,u8 of],.bq 1 [a8 (u8 i),a8 (u8 of)] (some 2)),(x,.bq 1 (aA x) a)]) (.inr ⟨some 4,rfl,by simp⟩) ?_ (by simp) (by rw[e];simp;omega) (by rw[e];simp;omega);intro p hp;simp only[ef,BS,iQv]at hp;rcases hp with rfl | rfl | rfl | rfl
 ·exact Sl.mk _ _
 ·exact Sl.mk _ _
 ·exact .inr ⟨some 2,rfl,by simp⟩
 exact Sl.XE (by simpa using b)
structure Hs (r r6 r10 r5 r4:Ref) (info:AV) (st nu of:Int) (H:aa) (out:List (List UInt8)):Prop where
 fr:Fr H
 mark:H.get r=some (dW 0 info)
 ne:r6≠r/\r10≠r/\r5≠r/\r4≠r/\r10≠r6/\r5≠r6/\r4≠r6
 b10:H.get r10=some ⟨1,[aI of],false,false⟩
 b5:H.get r5=some ⟨1,[aI nu],false,false⟩
 b4:H.get r4=some ⟨1,[aI st],false,false⟩
 box:(H.get r6=some ⟨1,[aO],false,false⟩/\out=[]) \/∃q:Ref,q.d=2/\q.t=56/\q.k=0/\q≠r/\q≠r6/\q≠r10/\q≠r5/\q≠r4/\H.get r6=some ⟨1,[.bA q 0 out.length none],false,false⟩/\H.get q=some ⟨1,cR out,true,false⟩/\0<out.length
def Xi(st nu of i:Int)(x:List UInt8):be 4 st++(be 3 nu++([u8 i,u8 of]++x))++List.replicate (119 - x.length) 0=mD st nu of i x:=by
 simp[mD]
def Ro{r r6 r10 r5 r4:Ref}{tm:List AV}{H:aa}{st nu of:Int}{out:List (List UInt8)}(Y:0<=st)(Z:0<=nu)(t6:cX tm 6 = .ptr r6 0 0)(W:cX tm 10 = .ptr r10 0 0)(t5:cX tm 5 = .ptr r5 0 0)(t4:cX tm 4 = .ptr r4 0 0)
 (R:Hs r r6 r10 r5 r4 (.lp 0 58 [35] bw bu tm) st nu of H out) (S:out.length<1000000) (x:List UInt8) (U:x.length<=119) (k:Option Nat) (j:x.length<=k.getD x.length) :
 ∃y H',cD env 1 (.yld r) [.bq 1 (aA x) k] H=some (y,H')/\(y=aB true/\Hs r r6 r10 r5 r4 (.lp 0 58 [35] bw bu tm) st nu of H' (out++[mD st nu of out.length x])):=by
 refine IJ (fn:=Tryz.f22) (dep:=1) R.mark (by kernel_rfl) rfl rfl (by kernel_rfl) (by kernel_rfl) ?_;rw[<-Co (s:=cX (uA tm [35] [.bq 1 (aA x) k])) (l:=[(6,.ptr r6 0 0),(10,.ptr r10 0 0),(5,.ptr r5 0 0),(4,.ptr r4 0 0),(35,.bq 1 (aA x) k)]) (by
  intro p hp;simp only[ef,BS,iQv]at hp;rcases hp with rfl | rfl | rfl | rfl | rfl<;>(show cX (Bx tm 35 _) _=_;rw[rT];simp[*]))]
 refine(Ar r _ _ _ _ _ _ _ λg=>?_).h _;obtain⟨fr,mark,⟨n1,n2,E,D,F,v,z⟩,b10,b5,b4,box⟩:=R;have m1:=n1.symm;have m2:=n2.symm;have m3:=E.symm;have m4:=D.symm;have m5:=F.symm;have m6:=v.symm;have m7:=z.symm;have l1:(H.get r).isSome=true:=by rw[mark];rfl
 have l10:(H.get r10).isSome=true:=by rw[b10];rfl
 have l5:(H.get r5).isSome=true:=by rw[b5];rfl
 have l4:(H.get r4).isSome=true:=by rw[b4];rfl
 have k4:=WN st Y;have k3:=WO nu Z;have i:=WT st nu of out.length x k j U;have K:=Xi st nu of out.length x;have f:(be 4 st++(be 3 nu++([u8 (out.length:Int),u8 of]++x))).length=9+x.length:=by simp;omega
 generalize be 4 st++(be 3 nu++([u8 (out.length:Int),u8 of]++x))=B at *;have L:IntKind.i64.wrap (128 - (9+(x.length:Int)))=((119 - x.length:Nat):Int):=by rw[iQa _ (by omega)];omega
 have e:=Ey (P:=env.P) (t:=57) (t':=3) (by kernel_rfl) (by kernel_rfl) (by kernel_rfl) (H:=({ d:=2,t:=48,g:=H.gen 2 48},some { esz:=1,es:=aA B,arr:=true,gB:=false}) :: H.put r (some (dW 1 (AV.lp 0 58 [35] bw bu tm)))) (r:=⟨2,54,H.gen 2 54,0⟩) (q:=⟨2,48,H.gen 2 48,0⟩) (es:=aA B) (fz:=false) (by simp) (119 - x.length) (by simp[aG];omega) (by rw[show nK env.P 57=1 from by kernel_rfl];simp[aG];omega);rw[fW,f,show jm env.P 57=1 from by kernel_rfl,show eM env.P 57=a8 0 from by kernel_rfl]at e;have a:aA B++List.replicate (119 - x.length) (a8 0)=aA (mD st nu of out.length x):=by rw[<-K];simp[aA]
 clear K j;rcases box with ⟨o,rfl⟩ | ⟨q,J,N,O,p1,T,X,p4,V,o,hq,M⟩
 ·have l6:(H.get r6).isSome=true:=by rw[o];rfl
  rw[show u8 (([]:List (List UInt8)).length:Int)=0 from rfl]at i;have Q:cR ([]++[mD st nu of ((([]:List (List UInt8)).length:Nat):Int) x])=[AV.bq 1 (aA (mD st nu of ((([]:List (List UInt8)).length:Nat):Int) x)) none]:=rfl;have b : ∀H':aa,Fr H'->H'.get r=some (dW 0 (AV.lp 0 58 [35] bw bu tm))->H'.get r10=some ⟨1,[aI of],false,false⟩->H'.get r5=some ⟨1,[aI nu],false,false⟩->H'.get r4=some ⟨1,[aI st],false,false⟩ ->
   H'.get r6=some ⟨1,[.bA ⟨2,56,H.gen 2 56,0⟩ 0 1 none],false,false⟩->H'.get ⟨2,56,H.gen 2 56,0⟩=some ⟨1,[AV.bq 1 (aA (mD st nu of ((([]:List (List UInt8)).length:Nat):Int) x)) none],true,false⟩ ->
   Hs r r6 r10 r5 r4 (AV.lp 0 58 [35] bw bu tm) st nu of H' ([]++[mD st nu of ((([]:List (List UInt8)).length:Nat):Int) x]):=λH' n A w I G u m=>
   ⟨n,A,⟨n1,n2,E,D,F,v,z⟩,w,I,G,.inr ⟨⟨2,56,H.gen 2 56,0⟩,rfl,rfl,rfl,by simp(maxDischargeDepth:=12) [hY, *],by simp(maxDischargeDepth:=12) [hY, *],by simp(maxDischargeDepth:=12) [hY, *],by simp(maxDischargeDepth:=12) [hY, *],by simp(maxDischargeDepth:=12) [hY, *],u,by rw[Q];exact m,by simp⟩⟩
  clear Q;by_cases c:x.length=119;·rw[if_pos (by omega),c,show 9+119=128 from rfl,show(((119 - 119:Nat)):Int)=0 from rfl]at e;rw[c]at f L;rw[c,rz,Ji,oD]at a;rw[<-a]at b;clear a;simp[an, *,kj,qI,aa.ab];refine⟨_,rfl,b _ ?_ ?_ ?_ ?_ ?_ ?_ ?_⟩<;>simp(maxDischargeDepth:=12) [hY, *]
  rw[if_neg (by omega),a,show 9+x.length+(119 - x.length)=128 by omega]at e;have C:(aA (mD st nu of ((([]:List (List UInt8)).length:Nat):Int) x)).length=128:=by rw[<-a];simp;omega
  clear a;generalize aA (mD st nu of ((([]:List (List UInt8)).length:Nat):Int) x)=BB at *;simp[an, *,kj,qI,aa.ab];refine⟨_,rfl,b _ ?_ ?_ ?_ ?_ ?_ ?_ ?_⟩<;>simp(maxDischargeDepth:=12) [hY, *]
 have l6:(H.get r6).isSome=true:=by rw[o];rfl
 have l7:(H.get q).isSome=true:=by rw[hq];rfl
 have s1:=p1.symm;have s2:=T.symm;have s3:=X.symm;have s4:=p4.symm;have s5:=V.symm;obtain⟨qd,qt,qg,qk⟩:=q;simp only at J N O;subst J N O;have f1:out.length+1<=17592186044416:=by omega
 have f2:(out.length+1) * 24<=140737488355328:=(by omega);have b : ∀H':aa,Fr H'->H'.get r=some (dW 0 (AV.lp 0 58 [35] bw bu tm))->H'.get r10=some ⟨1,[aI of],false,false⟩->H'.get r5=some ⟨1,[aI nu],false,false⟩->H'.get r4=some ⟨1,[aI st],false,false⟩ ->
  H'.get r6=some ⟨1,[.bA ⟨2,56,H.gen 2 56,0⟩ 0 (out.length+1) none],false,false⟩->H'.get ⟨2,56,H.gen 2 56,0⟩=some ⟨1,cR out++[AV.bq 1 (aA (mD st nu of out.length x)) none],true,false⟩ ->
  Hs r r6 r10 r5 r4 (AV.lp 0 58 [35] bw bu tm) st nu of H' (out++[mD st nu of out.length x]):=λH' n A w I G u m=>
  ⟨n,A,⟨n1,n2,E,D,F,v,z⟩,w,I,G,.inr ⟨⟨2,56,H.gen 2 56,0⟩,rfl,rfl,rfl,by simp(maxDischargeDepth:=12) [hY, *],by simp(maxDischargeDepth:=12) [hY, *],by simp(maxDischargeDepth:=12) [hY, *],by simp(maxDischargeDepth:=12) [hY, *],by simp(maxDischargeDepth:=12) [hY, *],by rw[u];simp,by rw[m,BK],by simp⟩⟩
 by_cases c:x.length=119;·rw[if_pos (by omega),c,show 9+119=128 from rfl,show(((119 - 119:Nat)):Int)=0 from rfl]at e;rw[c]at f L;rw[c,rz,Ji,oD]at a;rw[<-a]at b;clear a;simp[an, *,kj,qI,aa.ab];refine⟨_,rfl,b _ ?_ ?_ ?_ ?_ ?_ ?_ ?_⟩<;>simp(maxDischargeDepth:=12) [hY, *]
 rw[if_neg (by omega),a,show 9+x.length+(119 - x.length)=128 by omega]at e;have C:(aA (mD st nu of out.length x)).length=128:=by rw[<-a];simp;omega
 clear a;generalize aA (mD st nu of out.length x)=BB at *;simp[an, *,kj,qI,aa.ab];refine⟨_,rfl,b _ ?_ ?_ ?_ ?_ ?_ ?_ ?_⟩<;>simp(maxDischargeDepth:=12) [hY, *]
end
section
attribute [local simp] aC aw ah aq ao bk jE aE ar ax bo bn aG aD ae aN cN
@[simp] def agE(m:Nat):DF m []=[]:=by cases m<;>rfl
def Lw{r r6 r10 r5 r4:Ref}{tm:List AV}{st nu of:Int}(F:0<=st)(G:0<=nu)(N:cX tm 6 = .ptr r6 0 0)(q:cX tm 10 = .ptr r10 0 0)(E:cX tm 5 = .ptr r5 0 0)(J:cX tm 4 = .ptr r4 0 0)
 {bs:List UInt8} {x:AV} (v:Sl 1 (aA bs) x) (R:bs.length<100000) {Q:AV->aa->Prop} :
 ∀(m k:Nat)(s:List UInt8)(i:Int)(out:List (List UInt8)) (H:aa),bs.drop k=s->s.length<=119 * m->k<200000->i=k->out.length<=k ->
 Hs r r6 r10 r5 r4 (.lp 0 58 [35] bw bu tm) st nu of H out ->
 (∀y H',Hs r r6 r10 r5 r4 (.lp 0 58 [35] bw bu tm) st nu of H' (out++pL st nu of out.length (DF m s))->Q y H') ->
 cB env Tryz.f71 (0+1) cP [(2,.iptr 1 [aI 119] 0 0),(4,aI i),(1,.iptr 1 [x] 0 0),(0,.yld r)] H Q:=by
 intro m;have nil : ∀(m k:Nat)(out:List (List UInt8)) (H:aa),bs.drop k=[] ->
  (∀y H',Hs r r6 r10 r5 r4 (.lp 0 58 [35] bw bu tm) st nu of H' (out++pL st nu of out.length (DF m []))->Q y H')->Hs r r6 r10 r5 r4 (.lp 0 58 [35] bw bu tm) st nu of H out ->
  cB env Tryz.f71 (0+1) cP [(2,.iptr 1 [aI 119] 0 0),(4,aI k),(1,.iptr 1 [x] 0 0),(0,.yld r)] H Q:=by
  intro m k out H c e j;have hd:=iQf List.length c;rw[nM,k8]at hd;have M : ¬(k:Int)<bs.length:=by omega
  have D:=v.r;refine dH _ _ _ _ _ _ _ λg=>?_;simp[an, *,cS];exact e _ _ (by simpa [pL] using j)
 induction m with
 | zero=>rintro k s i out H c hm hk rfl ho j e;obtain rfl:s=[]:=sK.1 (by omega);exact nil 0 k out H c e j
 | succ m w=>
  rintro k s i out H c hm hk rfl ho j e;by_cases f:s=[];·subst f;exact nil (m+1) k out H c e j
  have hd:=iQf List.length c;rw[nM]at hd;have A:0<s.length:=D1.2 f;have t:0<(aA bs).length:=by simp;omega
  obtain⟨C,rfl,l⟩:=mP v t;rw[fW]at l;have u:bs.drop (k+119)=s.drop 119:=by rw[<-oC,c]
  have T:(k:Int)<bs.length:=(by omega);have n:DF (m+1) s=s.take 119 :: DF m (s.drop 119):=(by rw[DF,if_neg f]);rw[n]at e;clear nil n;have K:(aA bs).drop k=aA s:=by rw[CQ,c]
  have X:=iQa ((k:Int)+119) (by omega);obtain⟨y,H',z,rfl,o⟩:=Ro F G N q E J j (by omega) (s.take 119) (by simp;omega) (some (min 119 s.length)) (by simp);have d : ∀(y:AV)(b:aa),Hs r r6 r10 r5 r4 (.lp 0 58 [35] bw bu tm) st nu of b ((out++[mD st nu of out.length (s.take 119)])++pL st nu of (out++[mD st nu of out.length (s.take 119)]).length (DF m (s.drop 119)))->Q y b:=λy b h=>e y b (by
   rw[qq,ju]at h;simpa [pL] using h)
  have L:=w (k+119) (s.drop 119) ((k:Int)+119) (out++[mD st nu of out.length (s.take 119)]) H' u (by rw[nM];omega) (by omega) (by simp) (by simp;omega) o d;clear w e d j o;by_cases B:s.length<119
  ·have a:min 119 s.length=s.length:=(by omega);have p:s.take 119=s:=cN (by omega);rw[a,p]at z;have c0:k<=bs.length:=by omega
   have S:(s.length:Int)<119:=(by omega);have U:IntKind.i64.wrap ((k:Int)+(s.length:Int))=bs.length:=by rw[iQa _ (by omega)];omega
   have W:(k:Int)<=bs.length:=(by omega);have I:(bs.length:Int)<=C.getD bs.length:=(by omega);refine dH _ _ _ _ _ _ _ λg=>?_;clear l;simp[an, *,cS,zM]
  have a:min 119 s.length=119:=(by omega);rw[a]at z;have c0:k<=bs.length:=by omega
  have I : ¬(s.length:Int)<119:=(by omega);have O:(k:Int)+119<=C.getD bs.length:=(by omega);have P:(k:Int)+119<=bs.length:=(by omega);have Z:((k:Int)+119).toNat - k=119:=(by omega);have Y:List.take 119 (aA s)=aA (s.take 119):=Hj _ _;have V:(k:Int)<=k+119:=by omega
  refine dH _ _ _ _ _ _ _ λg=>?_;clear l;simp[an, *,cS,zM]
def N2{r r6 r10 r5 r4:Ref}{tm:List AV}{st nu of:Int}(f:0<=st)(k:0<=nu)(l:cX tm 6 = .ptr r6 0 0)(a:cX tm 10 = .ptr r10 0 0)(e:cX tm 5 = .ptr r5 0 0)(n:cX tm 4 = .ptr r4 0 0)
 {bs:List UInt8} {x:AV} (d:Sl 1 (aA bs) x) (i:bs.length<100000) {m:Nat} (b:bs.length<=119 * m) {H:aa}
 (j:Hs r r6 r10 r5 r4 (.lp 0 58 [35] bw bu tm) st nu of H []) :
 ∃y H',cD env 0 (.fn 71) [.yld r,.iptr 1 [x] 0 0,.iptr 1 [aI 119] 0 0] H=some (y,H')/\Hs r r6 r10 r5 r4 (.lp 0 58 [35] bw bu tm) st nu of H' (pL st nu of 0 (DF m bs)):=by
 refine qK (fn:=Tryz.f71) (c:=mm) (by kernel_rfl) (by kernel_rfl) (by kernel_rfl) (by kernel_rfl) (by kernel_rfl) ?_;refine lZ _ _ _ _ _ _ λg=>?_;simp[an, *,jr];exact Lw f k l a e n d i m 0 bs _ [] H rfl b (by omega) rfl (by simp) j (λy H' h=>by simpa using h)
def aaB:j8 = .code (.rangeFunc (.tmp 34) #[35] bw bu) :: tB:=by kernel_rfl
def NH{bs:List UInt8}{x:AV}(a:Sl 1 (aA bs) x):ay env 42 [x,aI 119]=some (.fn (.func 71) [] [.iptr 1 [x] 0 0,.iptr 1 [aI 119] 0 0]):=by
 refine aM rfl (by kernel_rfl) (nf _ _ _ _ λg=>?_);have b:=a.r;simp[an, *,j3]
def cU.val(r:cU)(x:AV):AV := .agg [a8 r.kind,aI r.user,a8 r.op.kind,a8 r.op.h.lv,bO r.op.h.cats,a8 r.op.h.num,aI r.op.serial,a8 r.op.s.f.h.lv,bO r.op.s.f.h.cats,a8 r.op.s.f.h.num,aI r.op.s.f.n,aI r.op.s.many,
 a8 r.op.a.h.lv,bO r.op.a.h.cats,a8 r.op.a.h.num,aI r.op.a.n,a8 r.op.to.lv,bO r.op.to.cats,x,aI r.code,aI r.gu,a8 r.gv,bO r.gc,aB r.gok]
def bm(r:cU)(st nu:Int):List (List UInt8):=pL st nu (ir r) 0 (DF 3 (mb r))
def AP(r:cU)(st nu:Int):AV:=if dw r then (if kb st nu 0 (ir r) then .tup [.bq 1 (cR (bm r st nu)) none,aI 0] else .tup [aO,aI 2]) else .tup [aO,aI 8]
def yb{r:cU}(h:dw r=true):(mb r).length<=119 * 3/\8<=(mb r).length:=by
 rcases Gr h with ⟨_,e⟩ | ⟨_,e,a⟩ | ⟨_,e⟩
 ·omega
 ·have:=uy a;omega
 omega
def T3{st nu of i:Int}{l:List (List UInt8)}(h:l≠[]):pL st nu of i l≠[]:=by
 cases l with| nil=>exact absurd rfl h| cons a l=>simp[pL]
def Hl{r:cU}(h:dw r=true)(st nu:Int):bm r st nu≠[]:=by
 refine T3 ?_;have:=(yb h).2;rw[DF,if_neg (by intro e;rw[e]at this;simp at this)];simp
def K2(r:cU){x:AV}(Q:Sl 1 (rows r.op.l) x)(T:r.op.l.length<2000000)(st nu:Int):ay env 22 [r.val x,aI st,aI nu]=some (AP r st nu):=by
 refine aM rfl (by kernel_rfl) (HG _ _ _ _ _ λg=>?_);obtain⟨k,u,⟨n,⟨m,a_3,t⟩,A,⟨⟨⟨D,B,E⟩,C⟩,b⟩,⟨⟨a,e,j⟩,f⟩,⟨d,i⟩,l⟩,c,G,v,w,o⟩:=r;simp only at Q T;have R:=Gg k u n m a_3 t A D B E C b a e j f d i c G v w o Q T;have S:=NF k u n m a_3 t A D B E C b a e j f d i c G v w o Q T;have hr:=Q.r;unfold cU.val AP;simp only;have F := @yb ⟨k,u,(⟨n,⟨m,a_3,t⟩,A,⟨⟨⟨D,B,E⟩,C⟩,b⟩,⟨⟨a,e,j⟩,f⟩,⟨d,i⟩,l⟩:fG),c,G,v,w,o⟩;have I := @Hl ⟨k,u,(⟨n,⟨m,a_3,t⟩,A,⟨⟨⟨D,B,E⟩,C⟩,b⟩,⟨⟨a,e,j⟩,f⟩,⟨d,i⟩,l⟩:fG),c,G,v,w,o⟩;have U := @PG ⟨k,u,(⟨n,⟨m,a_3,t⟩,A,⟨⟨⟨D,B,E⟩,C⟩,b⟩,⟨⟨a,e,j⟩,f⟩,⟨d,i⟩,l⟩:fG),c,G,v,w,o⟩;have L:bm ⟨k,u,(⟨n,⟨m,a_3,t⟩,A,⟨⟨⟨D,B,E⟩,C⟩,b⟩,⟨⟨a,e,j⟩,f⟩,⟨d,i⟩,l⟩:fG),c,G,v,w,o⟩ st nu=pL st nu (ir ⟨k,u,(⟨n,⟨m,a_3,t⟩,A,⟨⟨⟨D,B,E⟩,C⟩,b⟩,⟨⟨a,e,j⟩,f⟩,⟨d,i⟩,l⟩:fG),c,G,v,w,o⟩) 0 (DF 3 (mb ⟨k,u,(⟨n,⟨m,a_3,t⟩,A,⟨⟨⟨D,B,E⟩,C⟩,b⟩,⟨⟨a,e,j⟩,f⟩,⟨d,i⟩,l⟩:fG),c,G,v,w,o⟩)):=rfl;cases K:dw ⟨k,u,(⟨n,⟨m,a_3,t⟩,A,⟨⟨⟨D,B,E⟩,C⟩,b⟩,⟨⟨a,e,j⟩,f⟩,⟨d,i⟩,l⟩:fG),c,G,v,w,o⟩ with
 | false=>
  rw[K]at R;generalize O:EJ ⟨k,u,(⟨n,⟨m,a_3,t⟩,A,⟨⟨⟨D,B,E⟩,C⟩,b⟩,⟨⟨a,e,j⟩,f⟩,⟨d,i⟩,l⟩:fG),c,G,v,w,o⟩=z at *;have W:z = .bq 1 [a8 k] (some 1) \/∃es,z = .bq 1 es none:=by
   rw[<-O];unfold EJ;split;·exact .inr ⟨_,rfl⟩
   split;·exact .inr ⟨_,rfl⟩
   split
   ·split;·exact .inr ⟨_,rfl⟩
    exact .inl rfl
   exact .inl rfl
  clear O U F I L S;rcases W with rfl | ⟨es,rfl⟩<;>simp[an, *,sD]
 | true=>
  rw[U K,K]at R;rw[K,if_pos rfl]at S;have F:=F K;have I:=I K st nu;rw[L]at I ⊢;clear U L;generalize (ir ⟨k,u,(⟨n,⟨m,a_3,t⟩,A,⟨⟨⟨D,B,E⟩,C⟩,b⟩,⟨⟨a,e,j⟩,f⟩,⟨d,i⟩,l⟩:fG),c,G,v,w,o⟩:Int)=N at *;generalize mb ⟨k,u,(⟨n,⟨m,a_3,t⟩,A,⟨⟨⟨D,B,E⟩,C⟩,b⟩,⟨⟨a,e,j⟩,f⟩,⟨d,i⟩,l⟩:fG),c,G,v,w,o⟩=bs at *;clear K;cases hh:kb st nu 0 N with
  | false=>clear I F;simp[an, *,sD]
  | true=>
   have W:=NH (bs:=bs) (x := .bq 1 (aA bs) none) (Sl.mk _ _);have Z:0<=st/\0<=nu:=by simp[kb]at hh;omega
   simp[an, *,sD];rw[aaB];refine⟨λg'=>GY (gi:=71) (first:=[]) (captured:=[.iptr 1 [.bq 1 (aA bs) none] 0 0,.iptr 1 [aI 119] 0 0]) rfl ?_⟩;intro tm P;have t6:cX tm 6 = .ptr ⟨0,6,0,0⟩ 0 0:=(P 6).trans rfl;have M:cX tm 10 = .ptr ⟨0,10,0,0⟩ 0 0:=(P 10).trans rfl;have Y:cX tm 5 = .ptr ⟨0,5,0,0⟩ 0 0:=(P 5).trans rfl;have t4:cX tm 4 = .ptr ⟨0,4,0,0⟩ 0 0:=(P 4).trans rfl;rw[show Tryz.f22.ntmps=58 from by kernel_rfl];generalize J:[AV.agg [a8 k,aI u,a8 n,a8 m,bO a_3,a8 t,aI A,a8 D,bO B,a8 E,aI C,aI b,a8 a,bO e,a8 j,aI f,a8 d,bO i,x,aI c,aI G,a8 v,bO w,aB o]]=cell;obtain⟨y,H',hy,hm⟩:=N2 (r:=⟨0,58,0,0⟩) (r6:=⟨0,6,0,0⟩) (r10:=⟨0,10,0,0⟩) (r5:=⟨0,5,0,0⟩) (r4:=⟨0,4,0,0⟩) (tm:=tm) (of:=N) Z.1 Z.2 t6 M Y t4 (bs:=bs) (x := .bq 1 (aA bs) none) (Sl.mk _ _) (by omega) F.1
    (H:=(⟨0,58,0,0⟩,some (dW 0 (.lp 0 58 [35] bw bu tm))) :: [(⟨0,10,0,0⟩,some ⟨1,[aI N],false,false⟩),(⟨0,6,0,0⟩,some ⟨1,[aO],false,false⟩),(⟨0,5,0,0⟩,some ⟨1,[aI nu],false,false⟩),(⟨0,4,0,0⟩,some ⟨1,[aI st],false,false⟩),(⟨0,3,0,0⟩,some ⟨24,cell,false,false⟩)])
    ⟨by simp(maxDischargeDepth:=12) [HA, *],by simp,by simp,by simp,by simp,by simp,.inl ⟨by simp,rfl⟩⟩
   refine⟨y,H',0,_,by simpa using hy,by simp only[aa.n8,aa.P2];rw[qI];exact(iQf lpO hm.mark).trans (zC _ _),.inl ⟨rfl,?_⟩⟩;have X:=Co (s:=MP g' [(34,AV.fn (.func 71) [] [.iptr 1 [.bq 1 (aA bs) none] 0 0,.iptr 1 [aI 119] 0 0]),(6,AV.ptr ⟨0,6,0,0⟩ 0 0),(10,AV.ptr ⟨0,10,0,0⟩ 0 0),(5,AV.ptr ⟨0,5,0,0⟩ 0 0),(4,AV.ptr ⟨0,4,0,0⟩ 0 0)]) (l:=[(6,AV.ptr ⟨0,6,0,0⟩ 0 0)]) (by
    intro p hp;simp only[ef,BS,iQv]at hp;subst hp;rfl)
   rw[<-X];refine(zk _ _ _ λg=>?_).h _;obtain⟨fr,mark,⟨n1,_⟩,b10,b5,b4,V⟩:=hm;clear X hy P t6 M Y t4 S R W F J b10 b5 b4;generalize pL st nu N 0 (DF 3 bs)=ws at *;rcases V with ⟨hb,rfl⟩ | ⟨q,q1,q2,q3,p1,p2,p3,p4,p5,hb,hq,hpos⟩
   ·exact absurd rfl I
   have s1:=p1.symm;have s2:=p2.symm;simp[an, *,sY,aa.ab]
def W1{bs:List UInt8}{x:AV}(l:Sl 1 (aA bs) x){m:Nat}(q:bs.length=4 * m)(n:m<=64) :
 ay env 154 [x]=some (if (words bs).all ij then .tup [lB (words bs),aI 0] else .tup [aO,aI 8]):=by
 refine aM rfl (by kernel_rfl) (xT _ _ _ λg=>?_);have o:=l.r;have u : ¬((256:Int)<4 * m):=by omega
 obtain⟨b,a⟩ : ∃b,b=(if (words bs).all ij then AV.tup [lB (words bs),aI 0] else AV.tup [aO,aI 8]):=⟨_,rfl⟩;rw[<-a];have f:=λH Q=>NT l (by omega) (by omega) (H:=H) (Q:=Q) m 0 bs 0 [] aO rfl q (by omega) rfl (by simp);have h : ∀y H',(words bs).all ij=true->fY [50,57] 1 (rows ([]++words bs)) H' y->([]++words bs=[]->y=aO)->view H'.get 8 (.tup [y,aI 0])=some b:=by
  intro y H' i p c;rw[o4]at p c;rw[a,if_pos i];rcases p with ⟨rfl,j⟩ | ⟨t,v,s,rfl,o⟩
  ·have:words bs=[]:=(by simpa using j);rw[this];rfl
  have k:words bs≠[]:=λe=>by cases c e
  have j:lB (words bs) = .bq 1 (rows (words bs)) none:=by unfold lB;rw[if_neg k]
  rw[j];generalize words bs=ws at *;simp[o]
 have d:(words bs).all ij=false ->∀H':aa,view H'.get 8 (.tup [aO,aI 8])=some b:=by
  intro i H';rw[a,if_neg (by rw[i];decide)];simp
 clear a;simp[an, *,rk];exact f _ _ Fr.nil (.inl ⟨rfl,rfl⟩) (λ_=>rfl) h d
def Wu(a b c:UInt8):IntKind.i64.wrap (65536 * (a.toNat:Int))=65536 * (a.toNat:Int)/\IntKind.i64.wrap (256 * (b.toNat:Int))=256 * (b.toNat:Int) /\
 IntKind.i64.wrap (65536 * (a.toNat:Int)+256 * (b.toNat:Int))=65536 * (a.toNat:Int)+256 * (b.toNat:Int) /\
 65536 * (a.toNat:Int)+256 * (b.toNat:Int)+(c.toNat:Int)=val [a,b,c]/\IntKind.i64.wrap (val [a,b,c])=val [a,b,c]:=by
 have f:=a.toNat_lt;have g:=b.toNat_lt;have e:=c.toNat_lt;have d:65536 * (a.toNat:Int)+256 * (b.toNat:Int)+(c.toNat:Int)=val [a,b,c]:=by simp[val,Au];omega
 exact⟨iQa _ (by omega),iQa _ (by omega),iQa _ (by omega),d,iQa _ (by omega)⟩
def Tm{k m:UInt8}(h:D8 k (m.toNat:Int)≠0):D8 k (m.toNat:Int)=(kH k m:Int)/\1<=m.toNat/\m.toNat<=64/\(k=1\/k=2\/k=3):=by
 unfold D8 at h ⊢;unfold kH;split at h;·exact absurd rfl h
 rename_i d;rw[if_neg d];split at h;·exact absurd rfl h
 rename_i c;rw[if_neg c];split at h;·rename_i k1;rw[if_pos k1,if_pos k1];exact⟨by omega,by omega,by omega,.inl k1⟩
 rename_i k1;rw[if_neg k1,if_neg k1];split at h;·rename_i a;rw[if_pos a,if_neg (by rw[a];decide)];exact⟨rfl,by omega,by omega,.inr (.inl a)⟩
 rename_i a;rw[if_neg a];split at h;·rename_i b;rw[if_pos b,if_pos b];exact⟨rfl,by omega,by omega,.inr (.inr b)⟩
 exact absurd rfl h
def Tl{k m:UInt8}(c:1<=m.toNat)(b:m.toNat<=64)(a:k=1\/k=2\/k=3):D8 k (m.toNat:Int)≠0:=by
 unfold D8;rw[if_neg (by omega),if_neg (by omega)];rcases a with rfl | rfl | rfl
 ·rw[if_pos rfl];omega
 ·rw[if_neg (by decide),if_pos rfl];omega
 rw[if_neg (by decide),if_neg (by decide),if_pos rfl];omega
def qR(l:List UInt8):AV:=if mM l then .tup [.agg (Av (ny l)++[lB (ny l).l]),aI (pK l),aI 0] else oz
def WY{l:List UInt8}{x:AV}(hx:Sl 1 (aA l) x)(hl:l.length<1000000):ay env 135 [x]=some (qR l):=by
 refine aM rfl (by kernel_rfl) (xP _ _ _ λg=>?_);have hr:=hx.r;by_cases h24:(l.length:Int)<24;·have i:qR l=oz:=(by unfold qR;rw[if_neg];intro h;simp only[mM,bt,iQb]at h;omega);unfold oz at i;simp[an, *,bZ]
 obtain⟨W,rfl,hc⟩:=mP hx (by simp;omega);have R:24<=l.length:=by omega
 obtain⟨k,hh,ss,ff,m,rest,G,h6,h3,O⟩:=Ps R;obtain⟨A,e2⟩:=Gt k hh ss ff m rest h6 h3 O;rw[<-G]at A e2;obtain⟨s1,s2,s3,rfl⟩ : ∃a b c,ss=[a,b,c]:=by
  match ss,h3 with
  | [a,b,c],_=>exact⟨a,b,c,rfl⟩
 have hlr:l.length=24+rest.length:=by rw[G];simp;omega
 have hrest:rest.length=l.length - 24:=(by omega);clear hlr;have d1:l.drop 1=hh++([s1,s2,s3]++(ff++(m :: rest))):=by rw[G];rfl
 have d7:l.drop 7=[s1,s2,s3]++(ff++(m :: rest)):=(by have:l.drop 7=(l.drop 1).drop 6:=(by rw[oC]);rw[this,d1];exact Ax h6);have T:l.drop 10=ff++(m :: rest):=(by have:l.drop 10=(l.drop 7).drop 3:=(by rw[oC]);rw[this,d7];rfl);have Q:l.drop 23=m :: rest:=(by have:l.drop 23=(l.drop 10).drop 13:=(by rw[oC]);rw[this,T];exact Ax O);have N:l.drop 24=rest:=(by have:l.drop 24=(l.drop 23).drop 1:=(by rw[oC]);rw[this,Q];rfl);have gd : ∀a j,(l.drop a)[j]?=l[a+j]?:=λa j=>yE;have g0:l[0]?=some k:=by rw[G];rfl
 have g7:l[7]?=some s1:=by rw[<-gd 7 0,d7];rfl
 have g8:l[8]?=some s2:=by rw[<-gd 7 1,d7];rfl
 have g9:l[9]?=some s3:=by rw[<-gd 7 2,d7];rfl
 have g23:l[23]?=some m:=by rw[<-gd 23 0,Q];rfl
 have z : ∀a,(aA l).drop a=aA (l.drop a):=λa=>by simp[aA]
 have w : ∀a (q:List UInt8),(aA q).take a=aA (q.take a):=λa q=>by simp[aA]
 have t1:List.take 6 (List.drop 1 (aA l))=aA hh:=(by rw[z,w,d1,wA h6]);rw[iQS]at t1;have t2:List.take 13 (List.drop 10 (aA l))=aA ff:=by rw[z,w,T,wA O]
 have t3:List.take 13 (List.drop 24 (aA l))=aA (rest.take 13):=(by rw[z,w,N]);have t4 : ∀n,List.take n (List.drop 37 (aA l))=aA ((rest.drop 13).take n):=λn=>by
  have:l.drop 37=(l.drop 24).drop 13:=(by rw[oC]);rw[z,w,this,N]
 have t5:List.take 5 (List.drop 24 (aA l))=aA (rest.take 5):=(by rw[z,w,N]);have hH:=λc hc=>Bz (v := .bq 1 (aA hh) c) (l:=hh) (.inr ⟨c,rfl,hc⟩) h6;have hI:=λc hc=>Ty (v := .bq 1 (aA ff) c) (l:=ff) (.inr ⟨c,rfl,hc⟩) O;have hS:=Tz k (m.toNat:Int);have qm:=m.toNat_lt;have wm:=iQa (m.toNat:Int) (by omega);obtain⟨v1,v2,v3,eV,v4⟩:=Wu s1 s2 s3;have u : ∀a n,a+n<=(aA l).length->n<=(W.map (· - a)).getD n:=by
  intro a n h;cases W with
  | none=>simp
  | some c=>simp at hc ⊢;simp at h;omega
 have Y:(aA l).length=l.length:=(by simp);have p0:0<l.length:=(by omega);have g0' : ∀h:0<l.length,l[0]'h=k:=λh=>by have:=g0;rw[de h]at this;exact Fq this
 have l0:(0:Int)<l.length/\(7:Int)<l.length/\(8:Int)<l.length/\(9:Int)<l.length/\(23:Int)<l.length/\(7:Int)<=l.length/\(23:Int)<=l.length:=(by omega);have B:(ny l).kind=k:=by rw[A];rfl
 have C:(ny l).s.many=m.toNat:=by rw[A];rfl
 by_cases hz:D8 k (m.toNat:Int)=0
 ·have i:qR l=oz:=by
   unfold qR;rw[if_neg];intro h;simp only[mM,bt,iQb]at h;have hp:=r9 h.2.2;rw[B,C]at hp;refine Tl (k:=k) (m:=m) (by omega) (by omega) ?_ hz;rcases hp.2.2.2.2.2 with ⟨h,_⟩ | ⟨h,_⟩ | ⟨h,_⟩
   ·exact .inl h
   ·exact .inr (.inl h)
   exact .inr (.inr h)
  rw[hz]at hS;unfold oz at i;clear hH hI t1 t2 t3 t4 t5 d1 d7 T Q N A e2 G gd z w u B C hz;simp[an, *,bZ]
 obtain⟨z1,z2,z3,z4⟩:=Tm hz;have hz0 : ¬(kH k m=0):=λe=>hz (by rw[z1,e];rfl);rw[z1]at hS;by_cases hlt:l.length<kH k m;·have i:qR l=oz:=(by unfold qR;rw[if_neg];intro h;simp only[mM,bt,iQb]at h;rw[e2]at h;omega);have M:(l.length:Int)<(kH k m:Int):=(by omega);unfold oz at i;clear hH hI t1 t2 t3 t4 t5 d1 d7 T Q N A e2 G gd z w u B C hz z1;simp[an, *,bZ]
 have M : ¬(l.length:Int)<(kH k m:Int):=(by omega);have i:qR l=if qj (ny l) then .tup [.agg (Av (ny l)++[lB (ny l).l]),aI (kH k m:Nat),aI 0] else oz:=by
  unfold qR mM;rw[e2];have h1:decide (24<=l.length)=true:=by simpa using R
  have h2:decide (kH k m<=l.length)=true:=by simp only[iQb];omega
  rw[h1,h2,ia,ia]
 have o:qj (ny l)=true->eZ (ny l)=l.take (kH k m):=λp=>by
  have hg:mM l=true:=(by simp only[mM,bt,iQb];rw[e2];exact⟨R,by omega,p⟩);have:=(R6 hg).1;rw[e2]at this;exact this
 have hle:(kH k m:Int)<=l.length:=(by omega);have hcv:=λ(g:cL)(r:Ref)=>Sl.conv (P:=env.P) (src:=57) (dst:=9) (l:=l.take (kH k m)) (x := .bq 1 (List.take (kH k m) (aA l)) W) (by
  rw[w];refine .inr ⟨W,rfl,?_⟩;rw[fW,j7];cases W with
  | none=>simp
  | some c=>simp at hc ⊢;omega) (by kernel_rfl) (by kernel_rfl) g r
 have hH':=hH (W.map (· - 1)) (by rw[fW,h6];exact u 1 6 (by rw[Y];omega));have hI':=hI (W.map (· - 10)) (by rw[fW,O];exact u 10 13 (by rw[Y];omega));clear hH hI d1 d7 T Q N e2 G gd z w B C hz z1;obtain⟨⟨D,J,H⟩,hh0⟩ : ∃h:Qn,ik hh=h:=⟨_,rfl⟩;obtain⟨⟨⟨E,F,K⟩,I⟩,ff0⟩ : ∃f:yY,jL ff=f:=⟨_,rfl⟩;rw[hh0]at hH';rw[ff0]at hI';unfold AR at A;rw[hh0,ff0]at A;generalize val [s1,s2,s3]=sr at *;rcases z4 with rfl | rfl | rfl
 ·rw[if_pos rfl,if_neg (by decide),if_pos rfl]at A;have U:kH 1 m=37+4 * m.toNat:=rfl;have l13:(rest.take 13).length=13:=by rw[j7];omega
  have X:((rest.drop 13).take (4 * m.toNat)).length=4 * m.toNat:=by rw[j7,nM];omega
  have t4':List.take (kH 1 m - 37) (List.drop 37 (aA l))=aA ((rest.drop 13).take (4 * m.toNat)):=by rw[t4,U];congr 2;omega
  have hI2:=Ty (v := .bq 1 (aA (rest.take 13)) (W.map (· - 24))) (l:=rest.take 13) (.inr ⟨_,rfl,by rw[fW,l13];exact u 24 13 (by rw[Y];omega)⟩) l13;have hR4:=W1 (bs:=(rest.drop 13).take (4 * m.toNat)) (x := .bq 1 (aA ((rest.drop 13).take (4 * m.toNat))) (W.map (· - 37))) (.inr ⟨_,rfl,by rw[fW,X];exact u 37 (4 * m.toNat) (by rw[Y];omega)⟩) X z3;have hwl:=(tJ m.toNat _ X).2;have S1:(37:Int)<=(kH 1 m:Int)/\37<=kH 1 m:=by rw[U];omega
  have S2:(37:Int)<=l.length:=(by omega);obtain⟨⟨⟨a_1,a_2,a_3⟩,a_4⟩,aa0⟩ : ∃f:yY,jL (rest.take 13)=f:=⟨_,rfl⟩;rw[aa0]at hI2 A;clear u t4 t5 X l13 aa0 U;generalize kH 1 m=S at *;generalize words ((rest.drop 13).take (4 * m.toNat))=ws at *;generalize (rest.drop 13).take (4 * m.toNat)=rb at *;generalize rest.take 13=ra at *;cases L:ws.all ij with
  | false=>
   have p:qj (ny l)=false:=JY (by
    rw[A];have:Gp ws=false:=by simp[Gp,L]
    simp[Cu,Ia,this])
   rw[p]at i;simp only[oz,gj,iQh]at i;rw[L,if_neg (by decide)]at hR4;clear A o p L;simp[an, *,bZ]
  | true=>
   rw[L,if_pos rfl]at hR4;have hRr : ∀a∈ws, -2147483648<=a/\a<=2147483647:=(by intro a ha;have:=dY.1 L a ha;simp only[ij,jt,bt,iQb]at this;omega);have hM:=EY 1 D J H sr E F K I m.toNat a_1 a_2 a_3 a_4 0 0 (nE ws) (by omega) hRr;have hg:=(nE ws).r;cases p:qj (ny l) with
   | false=>rw[p]at i;simp only[oz,gj,iQh]at i;rw[A]at p;rw[p]at hM;clear A o L hRr;simp[an, *,bZ]
   | true=>rw[p]at i;have y:=o p;rw[A]at p y i;simp only[Av,if_true]at i;have hB:=z8 1 D J H sr E F K I m.toNat a_1 a_2 a_3 a_4 0 0 (nE ws) (by omega) p;rw[p]at hM;rw[y]at hB;clear A o y L hRr;simp[an, *,bZ]
 ·rw[if_neg (by decide),if_neg (by decide),if_neg (by decide)]at A;have V:kH 2 m=24:=rfl;have l24:(24:Int)<=l.length:=by omega
  rw[V]at hS M hlt i o hcv hle hz0;have hM:=EY 2 D J H sr E F K I m.toNat 0 0 0 0 0 0 (l:=[]) (x:=aO) (.inl ⟨rfl,rfl⟩) (by simp) (by simp);cases p:qj (ny l) with
  | false=>rw[p]at i;simp only[oz,gj,iQh]at i;rw[A]at p;unfold mF at p;rw[p]at hM;clear A o u t3 t4 t5;simp[an, *,bZ]
  | true=>rw[p]at i;have y:=o p;rw[A]at p y i;simp only[Av,mF,show lB []=aO from rfl,if_true]at i;unfold mF at p y;have hB:=z8 2 D J H sr E F K I m.toNat 0 0 0 0 0 0 (l:=[]) (x:=aO) (.inl ⟨rfl,rfl⟩) (by simp) p;rw[p]at hM;rw[y]at hB;clear A o y u t3 t4 t5;simp[an, *,bZ]
 rw[if_neg (by decide),if_pos rfl,if_neg (by decide)]at A;have V:kH 3 m=29:=rfl;rw[V]at hS M hlt i o hcv hle hz0;obtain⟨c1,c2,c3,c4,c5,rest',hr5⟩ : ∃a b c d e t,rest=a :: b :: c :: d :: e :: t:=by
  match rest,(show 5<=rest.length by omega) with
  | a :: b :: c :: d :: e :: t,_=>exact⟨a,b,c,d,e,t,rfl⟩
 rw[hr5]at A t5;have Z:ny l=⟨3,⟨D,J,H⟩,sr,⟨⟨⟨E,F,K⟩,I⟩,(m.toNat:Int)⟩,mF,⟨c1,u32 (val [c2,c3,c4,c5])⟩,[]⟩:=A;have t5':List.take 5 (List.drop 24 (aA l))=[a8 c1,a8 c2,a8 c3,a8 c4,a8 c5]:=t5;have l29:(29:Int)<=l.length:=hle;have q29 : ¬(l.length:Int)<29:=M;have hT:=Bz (v := .bq 1 [a8 c1,a8 c2,a8 c3,a8 c4,a8 c5,a8 0] none) (l:=[c1,c2,c3,c4,c5,0]) (Sl.mk _ _) rfl;have hT':ik [c1,c2,c3,c4,c5,0]=⟨c1,u32 (val [c2,c3,c4,c5]),0⟩:=rfl;rw[hT']at hT;generalize u32 (val [c2,c3,c4,c5])=cc at *;have hM:=EY 3 D J H sr E F K I m.toNat 0 0 0 0 c1 cc (l:=[]) (x:=aO) (.inl ⟨rfl,rfl⟩) (by simp) (by simp);clear A t5 hT' hr5;cases p:qj (ny l) with
 | false=>rw[p]at i;simp only[oz,gj,iQh]at i;rw[Z]at p;unfold mF at p;rw[p]at hM;clear Z o u t3 t4;simp[an, *,bZ]
 | true=>rw[p]at i;have y:=o p;rw[Z]at p y i;simp only[Av,mF,show lB []=aO from rfl,if_true]at i;unfold mF at p y;have hB:=z8 3 D J H sr E F K I m.toNat 0 0 0 0 c1 cc (l:=[]) (x:=aO) (.inl ⟨rfl,rfl⟩) (by simp) p;rw[p]at hM;rw[y]at hB;clear Z o y u t3 t4;simp[an, *,bZ]
def bV(l:List (List UInt8 × AV)):List AV:=l.map (·.2)
def okB(l:List (List UInt8 × AV)):Prop :=∀p∈l,Sl 1 (aA p.1) p.2
def gq(l:List (List UInt8 × AV)):List (List UInt8):=l.map (·.1)
@[simp] def ahI(l:List (List UInt8 × AV)):(bV l).length=l.length:=by simp[bV]
@[simp] def ag6(l:List (List UInt8 × AV)):(gq l).length=l.length:=by simp[gq]
def Ve{x y:AV}{l m:List (List UInt8 × AV)}(w:Sl 1 (bV l) x)(A:Sl 1 (bV m) y)(G:okB l)(D:okB m)(o:l.length=m.length)(B:l.length<1000000){Q:AV->aa->Prop}{H:aa} :
 ∀(s:List (List UInt8 × AV)) (k:Nat) (i:Int),l.drop k=s->k<=l.length->i=k->gq (l.take k)=gq (m.take k)->(Q (aB (decide (gq l=gq m))) H) ->
 cB env Tryz.f92 0 bQ [(17,aI i),(2,.fn (.func 63) [] []),(1,y),(15,x),(16,aI l.length)] H Q:=by
 intro s;induction s with
 | nil=>rintro k i hs hk rfl he hQ;obtain rfl:=drop_nil hs hk;rw[BT,o,BT]at he;rw[he]at hQ;refine cV _ _ _ _ _ _ _ λg=>?_;simp[an, *,bR];all_goals simpa using hQ
 | cons p s t=>
  rintro k i hs hk rfl he hQ;obtain⟨I,J,v,j⟩:=drop_cons hs;have h:k<m.length:=by omega
  have b:=G p (J ▸ eO _);have d:=D (m[k]) (eO _);have C:=K8 b d;have L:=iQa ((k:Int)+1) (by omega);have c:m[k]?=some m[k]:=de h;generalize F:m[k]=q at *;have K:=b.r;have E:=d.r;by_cases a:p.1=q.1;·have n:gq (l.take (k+1))=gq (m.take (k+1)):=(by unfold gq at he ⊢;rw[Ft,Ft,j,c,xF,xF,he];simp[a]);have u:=t (k+1) ((k:Int)+1) v (by omega) (by simp) n hQ;clear t hQ he n;have hd:decide (p.1=q.1)=true:=iQg a;rw[hd]at C;refine cV _ _ _ _ _ _ _ λg=>?_;clear a;rw[o]at u;simp[an, *,bR,w.idx,A.idx,bV]
  have f : ¬gq l=gq m:=(by intro e;have:=iQf (λz=>z[k]?) e;simp only[gq,kR,j,c,Option.map_some,dV]at this;exact a this);rw[iQi f]at hQ;rw[iQi a]at C;clear t a f;refine cV _ _ _ _ _ _ _ λg=>?_;simp[an, *,bR,w.idx,A.idx,bV]
def aev{x y:AV}{l m:List (List UInt8 × AV)}(i:Sl 1 (bV l) x)(k:Sl 1 (bV m) y)(j:okB l)(f:okB m)(c:l.length<1000000) :
 ay env 92 [x,y,.fn (.func 63) [] []]=some (aB (decide (gq l=gq m))):=by
 refine aM rfl (by kernel_rfl) (kp _ _ _ _ _ λg=>?_);have o:=i.r;have n:=k.r;by_cases a:l.length=m.length
 ·have h:=Ve i k j f a c (Q:=λv H=>dA env 92 v H (aB (decide (gq l=gq m)))) (H:=[]) l 0 0 rfl (by omega) rfl (by simp) (by simp);have d:(l.length:Int)=m.length:=by omega
  clear j f;simp[an, *,da];all_goals (first | exact h | simpa [a] using h)
 have d : ¬(l.length:Int)=m.length:=by omega
 have b : ¬gq l=gq m:=by intro e;exact a (by simpa using iQf List.length e)
 rw[iQi b];clear b a;simp[an, *,da]
def oW(b:List UInt8):cU:=if decide (b.getD 1 0<=1)&&ru (b.getD 0 0).toNat (b.getD 2 0) (u32 (val ((b.drop 3).take 4))) (decide (b.getD 1 0=1)) then ⟨0,0,dp,0,(b.getD 0 0).toNat,b.getD 2 0,u32 (val ((b.drop 3).take 4)),decide (b.getD 1 0=1)⟩ else ⟨0,0,dp,0,0,0,0,false⟩
def W6{c:Option Nat}{b0 b1 b2 b3 b4 b5 b6:UInt8}(l:7<=c.getD 7) : ∃e,ay env 113 [.bq 1 [a8 b0,a8 b1,a8 b2,a8 b3,a8 b4,a8 b5,a8 b6] c] =
 some (.tup [.agg [aI (oW [b0,b1,b2,b3,b4,b5,b6]).gu,a8 (oW [b0,b1,b2,b3,b4,b5,b6]).gv,bO (oW [b0,b1,b2,b3,b4,b5,b6]).gc,aB (oW [b0,b1,b2,b3,b4,b5,b6]).gok],aI e]):=by
 have i:oW [b0,b1,b2,b3,b4,b5,b6]=if decide (b1<=1)&&ru b0.toNat b2 (u32 (val [b3,b4,b5,b6])) (decide (b1=1)) then ⟨0,0,dp,0,b0.toNat,b2,u32 (val [b3,b4,b5,b6]),decide (b1=1)⟩ else ⟨0,0,dp,0,0,0,0,false⟩:=rfl
 rw[i];clear i;have k:(7:Int)<=c.getD 7:=by omega
 have j:=Eb (c:=none) (a:=b2) (n:=0) (b1:=b3) (b2:=b4) (b3:=b5) (b4:=b6) (by simp);generalize u32 (val [b3,b4,b5,b6])=cats at *;by_cases h:b1<=1
 ·by_cases d:ru b0.toNat b2 cats (decide (b1=1))=true
  ·refine⟨0,?_⟩;refine aM rfl (by kernel_rfl) (xI _ _ _ λg=>?_);have f:fA ⟨b2,cats,0⟩=true:=by simp[ru,vY]at d;simp[fA,d.2.1]
   have b : ¬1<b1:=UInt8.not_lt.2 h;simp[an, *,tQ,bad]
  refine⟨8,?_⟩;refine aM rfl (by kernel_rfl) (xI _ _ _ λg=>?_);have b : ¬1<b1:=UInt8.not_lt.2 h;simp only[Bool.not_eq_true]at d;cases f:fA ⟨b2,cats,0⟩<;>simp[an, *,tQ,bad]
 refine⟨8,?_⟩;refine aM rfl (by kernel_rfl) (xI _ _ _ λg=>?_);have b:1<b1:=UInt8.not_le.1 h;simp[an, *,tQ]
def N5(b:List UInt8):fG:=if mM b then ny b else dp
def bL(b:List UInt8):cU:=if b.getD 0 0=1 then ⟨1,(b.getD 7 0).toNat, { dp with h:=DM ((b.drop 1).take 6)},0,0,0,0,false⟩
 else if b.getD 0 0=2 then ⟨2,0,N5 (b.drop 3),val ((b.drop 1).take 2),0,0,0,false⟩
 else if b.getD 0 0=3 then { oW ((b.drop 1).take 7)with kind:=3}
 else ⟨b.getD 0 0,0,dp,0,0,0,0,false⟩
def zG(b:List UInt8):(oW b).user=0/\(oW b).op=dp/\(oW b).code=0:=by
 unfold oW;split<;>exact⟨rfl,rfl,rfl⟩
def Cg:lB []=aO:=rfl
def hU(l:List (List UInt8)):List UInt8:=l.flatMap (·.drop 9)
def jF:cU:=⟨0,0,dp,0,0,0,0,false⟩
def xz:AV := .tup [jF.val aO,(⟨0,0,0,0⟩:Hd).val,aI 8]
def sW(l:List (List UInt8))(h:Hd)(b:List UInt8):Bool:=decide (8<=b.length)&&(dw (bL b)&&kb h.st h.nu 0 (ir (bL b))&&decide (bm (bL b) h.st h.nu=l))
def vX(l:List (List UInt8)):Option (cU × Hd):=if gZ (l.headD [])&&sW l (dh (l.headD [])) (hU l) then some (bL (hU l),dh (l.headD [])) else none
def LW(l:List (List UInt8)):AV:=match vX l with
 | some (r,h) => .tup [r.val (lB r.op.l),h.val,aI 0]
 | none=>xz
def XA(b:List UInt8):(N5 b).l.length<=64:=by
 unfold N5;split
 ·rename_i h;unfold mM at h;simp only[bt,iQb]at h;have hp:=r9 h.2.2;rcases hp.2.2.2.2.2 with ⟨_,_,_,e,_⟩ | ⟨_,_,_,e⟩ | ⟨_,_,e,_⟩
  ·have:=hp.2.2.2.2.1;omega
  ·rw[e];simp
  rw[e];simp
 exact s8 _
def ye(b:List UInt8):(bL b).op.l.length<=64:=by
 unfold bL;split;·exact s8 _
 split;·exact XA _
 split;·show(oW _).op.l.length<=64;rw[(zG _).2.1];exact s8 _
 exact s8 _
def E6(l:List (List UInt8)):okB (l.map λb=>(b,ES b)):=λp hp=>by
 obtain⟨b,_,rfl⟩:=j6.1 hp;exact Sl.mk _ _
def E7(l:List (List UInt8)):bV (l.map λb=>(b,ES b))=cR l:=by simp[bV,cR]
def zO(l:List (List UInt8)):gq (l.map λb=>(b,ES b))=l:=by
 unfold gq;rw[Bk];exact List.map_id' _
def Dy(st nu of:Int) : ∀(l:List (List UInt8)) (i:Int),(pL st nu of i l).length=l.length
 | [],_=>rfl
 | _ :: l,i=>by simp only[pL,iA,Dy st nu of l (i+1)]
def PI : ∀(m:Nat)(s:List UInt8),(DF m s).length<=m
 | 0,_=>bg _
 | m+1,s=>by
  rw[DF];split;·simp
  have:=PI m (s.drop 119);simp only[iA];omega
end
section
def Uo{a b:fG}(h:nR a b=true):a=b:=by
 obtain⟨I,⟨F,a_3,v⟩,y,⟨⟨⟨C,A,G⟩,B⟩,j⟩,⟨⟨i,g,n⟩,k⟩,⟨e,l⟩,M⟩:=a;obtain⟨E,⟨D,K,H⟩,z,⟨⟨⟨x,w,J⟩,u⟩,t⟩,⟨⟨o,m,s⟩,d⟩,⟨q,p⟩,L⟩:=b;simp[nR]at h;simp[h]
def Tr{a b:cU}(h:mJ a b=true):a=b:=by
 obtain⟨p,v,t,u,m,q,n,a8⟩:=a;obtain⟨b1,b2,b3,b4,b5,b6,s,o⟩:=b;simp only[mJ,bt,iQb]at h;obtain⟨l,f,d,j,e,⟨k,i⟩,g⟩:=h;rw[l,f,Uo d,j,e,k,i,g]
def NB(a:cU):mJ a a=true:=by simp[mJ,nR]
def P1{b:Type}(p:List b)(a d:b)(t:List b){n:Nat}(h:p.length=n):(p++a :: t).getD n d=a:=by subst h;simp[List.getD]
def Ll{st nu of i:Int}{x:List UInt8}(h:x.length<=119):(mD st nu of i x).length=128:=by simp[mD];omega
def sf{st nu a of:Int}:kb st nu a of=true↔1<=st/\st<2147483648/\1<=nu/\nu<16777216/\1<=of/\of<=4/\0<=a/\a<of:=by
 simp only[kb,bt,iQb,and_assoc]
def XZ{st nu of i:Int}{x:List UInt8}(a:x.length<=119)(c:kb st nu i of=true):dh (mD st nu of i x)=⟨st,nu,i,of⟩/\gZ (mD st nu of i x)=true:=by
 obtain⟨s,f,k,p,l,q,o,m⟩:=sf.1 c;have e:dh (mD st nu of i x)=⟨st,nu,i,of⟩:=by
  have j:(mD st nu of i x).take 4=be 4 st:=wA (DV 4 st);have b:((mD st nu of i x).drop 4).take 3=be 3 nu:=(by rw[show(mD st nu of i x).drop 4=be 3 nu++([u8 i,u8 of]++(x++List.replicate (119 - x.length) 0)) from Ax (DV 4 st)];exact wA (DV 3 nu));have d:(mD st nu of i x).getD 7 0=u8 i:=(by have:=P1 (be 4 st++be 3 nu) (u8 i) 0 (u8 of :: (x++List.replicate (119 - x.length) 0)) (n:=7) (by simp);rw[<-this];simp[mD]);have g:(mD st nu of i x).getD 8 0=u8 of:=(by have:=P1 (be 4 st++(be 3 nu++[u8 i])) (u8 of) 0 (x++List.replicate (119 - x.length) 0) (n:=8) (by simp);rw[<-this];simp[mD]);unfold dh;rw[j,b,d,g,Bt (by omega) (by omega),Bt (by omega) (by omega),Bu,Bu];congr 1<;>omega
 refine⟨e,?_⟩;unfold gZ;rw[e,Ll a];simpa using c
def Dz(st nu of:Int) : ∀(l:List (List UInt8)) (i:Int) (k:Nat),(pL st nu of i l)[k]?=(l[k]?).map (mD st nu of (i+k))
 | [],_,_=>rfl
 | x :: l,i,0=>by simp[pL]
 | x :: l,i,k+1=>by
  rw[pL,FA,FA,Dz st nu of l (i+1) k];congr 2;omega
def IA : ∀(m:Nat)(s:List UInt8),∀x∈DF m s,x.length<=119
 | 0,_,x,h=>by cases h
 | m+1,s,x,h=>by
  rw[DF]at h;split at h;·cases h
  rcases ef.1 h with rfl | h
  ·simp;omega
  exact IA m _ x h
def GD : ∀(m:Nat)(s:List UInt8),s.length<=119 * m->(DF m s).length=(s.length+118) / 119
 | 0,s,h=>by rw[show s.length=0 by omega];rfl
 | m+1,s,h=>by
  rw[DF];split;·rename_i e;rw[e];rfl
  rename_i e;have hp:0<s.length:=D1.2 e;rw[iA,GD m (s.drop 119) (by rw[nM];omega),nM];omega
def MA(st nu of:Int) : ∀(m:Nat)(s:List UInt8)(i:Int),s.length<=119 * m ->∃z,hU (pL st nu of i (DF m s))=s++List.replicate z 0
 | 0,s,i,h=>⟨0,by rw[show s=[] from sK.1 (by omega)];rfl⟩
 | m+1,s,i,h=>by
  rw[DF];split;·rename_i e;exact⟨0,by rw[e];rfl⟩
  rename_i e;obtain⟨z,g⟩:=MA st nu of m (s.drop 119) (i+1) (by rw[nM];omega);have b:(mD st nu of i (s.take 119)).drop 9=s.take 119++List.replicate (119 - (s.take 119).length) 0:=by
   have:mD st nu of i (s.take 119)=(be 4 st++(be 3 nu++[u8 i,u8 of]))++(s.take 119++List.replicate (119 - (s.take 119).length) 0):=(by simp[mD]);rw[this];exact Ax (by simp)
  have d:hU (pL st nu of i (s.take 119 :: DF m (s.drop 119)))=(s.take 119++List.replicate (119 - (s.take 119).length) 0)++(s.drop 119++List.replicate z 0):=(by rw[<-g,<-b];simp[hU,pL]);rw[d];by_cases a:s.length<=119;·refine⟨119 - s.length+z,?_⟩;rw[cN a,wF a,o4,qq,SI]
  refine⟨z,?_⟩;rw[j7,show 119 - min 119 s.length=0 by omega,Ji,oD,<-qq,AB]
def jN{r:cU}(h:dw r=true)(st nu:Int):(bm r st nu).length=ir r:=by
 unfold bm;rw[Dy,GD 3 _ (yb h).1];rfl
def CR{r:cU}{st nu:Int}(c:kb st nu 0 (ir r)=true){i:Nat}{b:List UInt8}(a:(bm r st nu)[i]?=some b)(hi:i<ir r):dh b=⟨st,nu,i,ir r⟩/\gZ b=true/\b.length=128:=by
 unfold bm at a;rw[Dz,bG]at a;obtain⟨x,g,rfl⟩:=a;have d:=IA 3 _ x (fZ g);obtain⟨m,f,e,k,j,l,o,n⟩:=sf.1 c;have:=XZ (st:=st) (nu:=nu) (of:=ir r) (i:=0+(i:Int)) d (sf.2 ⟨m,f,e,k,j,l,by omega,by omega⟩);rw[show(0:Int)+i=i by omega]at this;rw[show(0:Int)+i=i by omega];exact⟨this.1,this.2,Ll d⟩
def Ov{l:List (List UInt8)}{p:cU × Hd}(h:vX l=some p) : ∀(i:Nat)(b:List UInt8),l[i]?=some b->dh b=⟨p.2.st,p.2.nu,i,l.length⟩:=by
 intro i b g;unfold vX at h;split at h;·rename_i e;cases h;simp only[bt,sW,iQb]at e;obtain⟨n,m,⟨k,c⟩,j⟩:=e;have a:=jN k (dh (l.headD [])).st (dh (l.headD [])).nu;rw[j]at a;have hi:=(dT.1 g).1;have d:=g;rw[<-j]at d;have:=CR c d (by omega);rw[this.1,a]
 cases h
def R9{B:List (List UInt8)}{k:Nat}{b:List UInt8}(h:B[k]?=some b):(cR B)[k]?=some (.bq 1 (aA b) none):=by simp[cR,h,ES]
def Lk{B:List (List UInt8)}{k:Nat}{b:List UInt8}(h:B[k]?=some b):bP (cR B) k 0 1 false=some (.bq 1 (aA b) none):=by
 unfold bP;rw[R9 h];rfl
def R2{B:List (List UInt8)}(h : ∀b∈B,b.length=128)(g:B.length<=4):(hU B).length<100000:=by
 have : ∀B:List (List UInt8),(∀b∈B,b.length=128)->(hU B).length<=128 * B.length:=by
  intro B;induction B with
  | nil=>intro _;simp[hU]
  | cons b B d=>intro h;have i:=d λx a=>h x (iS _ a);have f:=h b (gD ..);have e:hU (b :: B)=b.drop 9++hU B:=rfl;rw[e,ju,nM,iA];omega
 have:=this B h;omega
def Vv{B:List (List UInt8)}(h:B≠[]):cR B≠[]:=by simpa [cR] using h
def tX{r:cU}{st nu:Int}(a:dw r=true)(c:kb st nu 0 (ir r)=true) : ∀b∈bm r st nu,b.length=128:=by
 intro b d;obtain⟨i,hi⟩:=List.mem_iff_getElem?.1 d;have:=(dT.1 hi).1;rw[jN a]at this;exact(CR c hi this).2.2
end
section
structure Dk where
 l:List eE
 x:AV
 st:Int
 lf:Int
 dd:Bool
def Dk.val(d:Dk):AV:=df d.x d.st d.lf d.dd
structure Dk.vc (d:Dk):Prop where
 sl:Sl 2 (a9 d.l) d.x
 ok : ∀s∈d.l,iQ s
 len:d.l.length<500000
def Dk.may(d:Dk):Bool:=EP d.l d.st d.lf d.dd
def Dk.tw(d:Dk):Dk:=⟨qx d.l,vw (twA d.x d.l),d.st,d.lf,d.dd⟩
def Dk.dead(d:Dk):Bool:=d.dd||decide (d.lf=0)
def Dk.wr(d:Dk)(q:Int)(b:List UInt8):Dk:=
 if d.dead then ⟨qx d.l,vw (twA d.x d.l),d.st,d.lf,true⟩ else ⟨HD q b d.l,.bq 2 (a9 (HD q b d.l)) none,d.st,if d.lf>0 then d.lf - 1 else d.lf,false⟩
def Dk.rd(d:Dk)(q:Int):List UInt8:=V0 d.l q
def Dk.Z0(d:Dk)(q:Int):List (List UInt8)->Dk
 | []=>d
 | b :: B=>(d.wr q b).Z0 (q+1) B
def Sc : ∀(l:List eE)(a:Int),a<=6145->fO a l=true->(l.length:Int)<=6145 - a:=by
 intro l;induction l with
 | nil=>intro a c _;simp;omega
 | cons p l b=>intro a c h;simp[fO]at h;have:=b p.pos (by omega) h.2;simp only[iA];omega
def vA{d:Dk}(h:d.may=true):fO (-1) d.l=true:=Ak h
def E3{d:Dk}(h:d.may=true):d.l.length<=6146:=by
 have:=Sc d.l (-1) (by omega) (vA h);omega
def aag{d:Dk}(h:d.vc):d.tw.vc:=⟨YW h.sl,Bw _,by show(qx d.l).length<_;rw[Wp];exact h.len⟩
def S3{d:Dk}:d.tw.may=d.may:=by unfold Dk.may Dk.tw EP;rw[F1]
def Jr{d:Dk}(h:d.may=true){q:Int}(e:0<=q/\q<6146){b:List UInt8}(f:b.length=128):(d.wr q b).may=true:=by
 have c:=vA h;unfold Dk.may EP at h ⊢;unfold Dk.wr;split;·rename_i a;show(fO (-1) (qx d.l)&&_)=true;rw[F1,c];unfold Dk.dead at a;unfold EO at h ⊢;rw[c]at h;simp only[jt,iQb]at a;rcases a with a | a<;>simp[a]at h ⊢ <;> omega
 rename_i a;show(fO (-1) (HD q b d.l)&&_)=true;rw[ab4 q b e.2 f d.l (-1) (by omega) c];unfold Dk.dead at a;unfold EO at h ⊢;rw[c]at h;simp at h a ⊢;obtain⟨i,g⟩:=a;split<;>omega
def Z2{d:Dk}(h:d.vc)(a:d.may=true){q:Int}(c:0<=q/\q<6146){b:List UInt8}(e:b.length=128):(d.wr q b).vc:=by
 have:=E3 (Jr a c e);refine⟨?_,?_,by omega⟩
 ·unfold Dk.wr;split;·exact YW h.sl
  exact Sl.mk _ _
 unfold Dk.wr;split;·exact Bw _
 exact adA q b d.l
def ZZ : ∀(B:List (List UInt8)) (d:Dk) (q:Int),d.vc->d.may=true->0<=q->q+B.length<=6146->(∀b∈B,b.length=128)->(d.Z0 q B).vc/\(d.Z0 q B).may=true:=by
 intro B;induction B with
 | nil=>intro d q h a _ _ _;exact⟨h,a⟩
 | cons b B f=>intro d q h a i g c;simp only[iA]at g;have b1:=c b (gD ..);exact f (d.wr q b) (q+1) (Z2 h a (by omega) b1) (Jr a (by omega) b1) (by omega) (by omega) λx e=>c x (iS _ e)
def aeo{d:Dk}(h:d.vc)(a:d.may=true){q:Int}(b:0<=q/\q<6146):ay env 59 [d.val,aI q]=some (.tup [.bq 1 (aA (d.rd q)) none,aI 0]):=by
 have:=aat (st:=d.st) (lf:=d.lf) (dd:=d.dd) h.sl h.ok (by have:=h.len;omega) (q:=q);rw[if_pos (show EP d.l d.st d.lf d.dd=true from a),if_pos b,aaI]at this;exact this
def aaH{d:Dk}(a:d.may=true)(q:Int):(d.rd q).length=128:=by
 have h:=yu d.l (-1) (vA a);unfold Dk.rd;generalize d.l=l at *;clear a d;induction l with
 | nil=>rfl
 | cons p l c=>
  unfold V0;split;·exact c λs b=>h s (iS _ b)
  split;·exact h p (gD ..)
  rfl
def zn{d:Dk}(h:d.vc):ay env 20 [d.val]=some (aI (if d.may then 0 else 8)):=PC (st:=d.st) (lf:=d.lf) (dd:=d.dd) h.sl h.ok (by have:=h.len;omega)
end
section
attribute [local simp] aC aw ah aq ao bk jE aE ar ax bo bn aG aD ae aN cN
def vS(a b:Int):ay env 21 [aI a,aI b]=some (aB (decide (0<=a)&&decide (a<=b))):=by
 refine aM rfl (by kernel_rfl) (KN _ _ _ _ λg=>?_);cases h:decide (0<=a)<;>simp[an, *,EC]
def si(d:Dk)(area at' nu:Int)(r:cU):Int:=
 if d.may then (if 0<=area/\area<=2/\0<=at'/\at'<=2048/\1<=d.st/\1<=nu/\nu<16777216 then (if dw r then (if at'+ir r<=2048 then 0 else 9) else 8) else 2) else 8
def Dk.app(d:Dk)(area at' nu:Int)(r:cU):Dk:=d.tw.Z0 (area * 2048+at') (bm r d.st nu)
end
end Go.Proofs.YtmjkpdknicjjgaaGreat
