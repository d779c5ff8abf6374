/-
  Operations: whether they may be. No statement of a seat is proved here.
-/
import Derived.Test.YtiidajnodhkidaaGreatMDtLaw2
set_option linter.unusedVariables false
set_option linter.unusedSimpArgs false
set_option linter.unusedSectionVars false
set_option linter.unnecessarySimpa false
set_option maxRecDepth 100000
set_option linter.defProp false
namespace Go.Proofs.YtiidajnodhkidaaGreat
open Go.Ab
section
attribute [local simp] aN aG ar aD aC bT kp aP ax aJ bG bF aX aO af a9 dM
def LM:AV := .agg [.v .nilFunc,.v .nilFunc,.fn (.func 180) [] [.iptr 1 [.fn (.func 179) [] []] 0 0],.fn (.func 181) [] [],
 .fn (.func 182) [] [.iptr 1 [.fn (.func 179) [] []] 0 0,.iptr 1 [.fn (.func 178) [] []] 0 0],.fn (.func 183) [] [],.fn (.func 184) [] [.iptr 1 [.fn (.func 178) [] []] 0 0],.fn (.func 185) [] []]
def Yl:ay env 157 []=some LM:=NK (n:=2000) (by kernel_rfl)
@[simp] def aiz:ay env 161 []=some (.agg [a8 0,bY 0]):=by
 refine aH rfl (by kernel_rfl) (Hs _ _ λg=>?_);simp[ak, *,Bs]
section
variable(m:UInt8)(t:UInt8)(a_3:UInt32)(q:UInt8)(o:Int)(s:UInt8)(p:UInt32)(u:UInt8)(w:Int)(k:Int)(a:UInt8)(c:UInt32)(f:UInt8)(d:Int)(j:UInt8)(i:UInt32){x:AV}{l:List Int}(y:Sl 1 (rows l) x)(z:l.length<2000000)
include y z
theorem U6:ay env 178 [.agg [a8 m,a8 t,bY a_3,a8 q,aI o,a8 s,bY p,a8 u,aI w,aI k,a8 a,bY c,a8 f,aI d,a8 j,bY i,x]]=some (aB (Bm (⟨m,⟨t,a_3,q⟩,o,⟨⟨⟨s,p,u⟩,w⟩,k⟩,⟨⟨a,c,f⟩,d⟩,⟨j,i⟩,l⟩:gI))):=by
 refine aH rfl (by kernel_rfl) (Jt _ _ _ λg=>?_);unfold Bm;cases b:lD (⟨⟨a,c,f⟩,d⟩:Ay) with
 | true=>unfold lD at b;simp[ak, *,xP,y.r,mV,fN]
 | false=>unfold lD at b;simp[ak, *,xP,y.r,mV,fN]
theorem Re:ay env 179 [.agg [a8 m,a8 t,bY a_3,a8 q,aI o,a8 s,bY p,a8 u,aI w,aI k,a8 a,bY c,a8 f,aI d,a8 j,bY i,x]]=some (aB (wS (⟨j,i⟩:Lab))):=by
 refine aH rfl (by kernel_rfl) (Js _ _ _ λg=>?_);simp[ak, *,CI,y.r,mV,fN,wS]
theorem U5:ay env 182 [.agg [a8 m,a8 t,bY a_3,a8 q,aI o,a8 s,bY p,a8 u,aI w,aI k,a8 a,bY c,a8 f,aI d,a8 j,bY i,x],.iptr 1 [.fn (.func 179) [] []] 0 0,.iptr 1 [.fn (.func 178) [] []] 0 0]=some (aB (Qq (⟨m,⟨t,a_3,q⟩,o,⟨⟨⟨s,p,u⟩,w⟩,k⟩,⟨⟨a,c,f⟩,d⟩,⟨j,i⟩,l⟩:gI))):=by
 refine aH rfl (by kernel_rfl) (Jq _ _ _ _ _ λg=>?_);have h:=U6 m t a_3 q o s p u w k a c f d j i y z;have e:=Re m t a_3 q o s p u w k a c f d j i y z;unfold Qq;cases b:wS (⟨j,i⟩:Lab)<;>simp[ak, *,CH,y.r]
theorem Yk:ay env 184 [.agg [a8 m,a8 t,bY a_3,a8 q,aI o,a8 s,bY p,a8 u,aI w,aI k,a8 a,bY c,a8 f,aI d,a8 j,bY i,x],.iptr 1 [.fn (.func 178) [] []] 0 0]=some (aB (LJ (⟨m,⟨t,a_3,q⟩,o,⟨⟨⟨s,p,u⟩,w⟩,k⟩,⟨⟨a,c,f⟩,d⟩,⟨j,i⟩,l⟩:gI))):=by
 refine aH rfl (by kernel_rfl) (Jp _ _ _ _ λg=>?_);have e:=U6 m t a_3 q o s p u w k a c f d j i y z;unfold LJ;cases b:Bm (⟨m,⟨t,a_3,q⟩,o,⟨⟨⟨s,p,u⟩,w⟩,k⟩,⟨⟨a,c,f⟩,d⟩,⟨j,i⟩,l⟩:gI)<;>simp[ak, *,CG,y.r]
theorem U3:ay env 180 [.agg [a8 m,a8 t,bY a_3,a8 q,aI o,a8 s,bY p,a8 u,aI w,aI k,a8 a,bY c,a8 f,aI d,a8 j,bY i,x],.iptr 1 [.fn (.func 179) [] []] 0 0]=some (aB (JL (⟨m,⟨t,a_3,q⟩,o,⟨⟨⟨s,p,u⟩,w⟩,k⟩,⟨⟨a,c,f⟩,d⟩,⟨j,i⟩,l⟩:gI))):=by
 refine aH rfl (by kernel_rfl) (Jr _ _ _ _ λg=>?_);have A:=Re m t a_3 q o s p u w k a c f d j i y z;have v:=EW y (by omega);have C:=EY l;unfold JL;cases B:wS (⟨j,i⟩:Lab) with
 | false=>
  cases e:lD (⟨⟨a,c,f⟩,d⟩:Ay) with| false=>unfold lD at e;simp[ak, *,j8,y.r,mV,fN]| true=>unfold lD at e;simp[ak, *,j8,y.r,mV,fN]
 | true=>
  have key : ∀b:Bool,(lD (⟨⟨a,c,f⟩,d⟩:Ay)||Ao (⟨⟨a,c,f⟩,d⟩:Ay))=b->True:=λ_ _=>trivial;cases h:HO ⟨s,p,u⟩ ⟨t,a_3,q⟩ with
  | false=>
   unfold HO at h;cases e:lD (⟨⟨a,c,f⟩,d⟩:Ay) with
   | false=>unfold lD at e;cases n:Ao (⟨⟨a,c,f⟩,d⟩:Ay)<;>simp[ak, *,j8,y.r,mV,fN]
   | true=>unfold lD at e;simp[ak, *,j8,y.r,mV,fN]
  | true=>
   unfold HO at h;by_cases D:(l.length:Int)=k
   ·cases e:lD (⟨⟨a,c,f⟩,d⟩:Ay) with| false=>unfold lD at e;cases n:Ao (⟨⟨a,c,f⟩,d⟩:Ay)<;>simp[ak, *,j8,y.r,mV,fN]| true=>unfold lD at e;simp[ak, *,j8,y.r,mV,fN]
   cases e:lD (⟨⟨a,c,f⟩,d⟩:Ay) with| false=>unfold lD at e;cases n:Ao (⟨⟨a,c,f⟩,d⟩:Ay)<;>simp[ak, *,j8,y.r,mV,fN]| true=>unfold lD at e;simp[ak, *,j8,y.r,mV,fN]
theorem tL:ay env 122 [.agg [a8 m,a8 t,bY a_3,a8 q,aI o,a8 s,bY p,a8 u,aI w,aI k,a8 a,bY c,a8 f,aI d,a8 j,bY i,x]]=some (aI (bad (r8 (⟨m,⟨t,a_3,q⟩,o,⟨⟨⟨s,p,u⟩,w⟩,k⟩,⟨⟨a,c,f⟩,d⟩,⟨j,i⟩,l⟩:gI)))):=by
 refine aH rfl (by kernel_rfl) (MI _ _ _ λg=>?_);have K:=U3 m t a_3 q o s p u w k a c f d j i y z;have H:=U5 m t a_3 q o s p u w k a c f d j i y z;have G:=Yk m t a_3 q o s p u w k a c f d j i y z;have L:=Yl;unfold r8 DU;by_cases A:m=0;·subst A;simp[ak, *,lJ,y.r]
 by_cases b:4<=m
 ·have n1 : ¬m=1:=by rintro rfl;exact absurd b (by decide)
  have n2 : ¬m=2:=by rintro rfl;exact absurd b (by decide)
  have M : ¬m=3:=by rintro rfl;exact absurd b (by decide)
  simp[ak, *,lJ,y.r]
 cases J:gE ⟨t,a_3,q⟩ with| false=>simp[ak, *,lJ,y.r]| true=>
 rcases GS o 1 with v | C
 ·have C : ¬1<=o:=by omega
  simp[ak, *,lJ,y.r]
 have v : ¬o<1:=by omega
 rcases GS o 16777216 with E | n
 rotate_left
 ·have E : ¬o<16777216:=by omega
  simp[ak, *,lJ,y.r]
 have n : ¬16777216<=o:=by omega
 cases F:oS ⟨⟨⟨s,p,u⟩,w⟩,k⟩ with| false=>simp[ak, *,lJ,y.r]| true=>
 have D:m=1\/m=2\/m=3:=by
  have e:m.toNat<4:=by have:=UInt8.not_le.1 b;exact this
  have I:m.toNat≠0:=λh=>A (Ag.1 h);rcases(show m.toNat=1\/m.toNat=2\/m.toNat=3 by omega)with h | h | h
  ·exact .inl (Ag.1 h)
  ·exact .inr (.inl (Ag.1 h))
  exact .inr (.inr (Ag.1 h))
 rcases D with rfl | rfl | rfl
 ·cases B:JL (⟨1,⟨t,a_3,q⟩,o,⟨⟨⟨s,p,u⟩,w⟩,k⟩,⟨⟨a,c,f⟩,d⟩,⟨j,i⟩,l⟩:gI)<;>simp[ak, *,lJ,y.r,LM,E3,Im]
 ·cases B:Qq (⟨2,⟨t,a_3,q⟩,o,⟨⟨⟨s,p,u⟩,w⟩,k⟩,⟨⟨a,c,f⟩,d⟩,⟨j,i⟩,l⟩:gI)<;>simp[ak, *,lJ,y.r,LM,E3,Im]
 cases B:LJ (⟨3,⟨t,a_3,q⟩,o,⟨⟨⟨s,p,u⟩,w⟩,k⟩,⟨⟨a,c,f⟩,d⟩,⟨j,i⟩,l⟩:gI)<;>simp[ak, *,lJ,y.r,LM,E3,Im]
end
def IA(t:Int):List Int->Nat->Int
 | [],_ => -1
 | a :: l,k=>if t=a then k else IA t l (k+1)
def WB(t:Int)(l:List Int) : ∀k:Nat,(0<=IA t l k↔t∈l):=by
 induction l with| nil=>intro k;simp[IA]| cons a l b=>
  intro k;unfold IA;by_cases h:t=a;·simp[h]
  rw[if_neg h,b];simp[h]
def NP{x0:AV}{Q:AV->aa->Prop}{l:List Int}(c:Sl 1 (rows l) x0)(d:l.length<4611686018427387904){t:Int}{H:aa} :
 ∀(s:List Int)(k:Nat)(i:Int),l.drop k=s->k<=l.length->i=k->(∀y,y=aI (IA t s k)->Q y H) ->
 cy env Tryz.f160 0 fY [(8,aI i),(0,x0),(1,aR t),(7,aI l.length)] H Q:=by
 intro s;induction s with
 | nil=>rintro k i hs hk rfl hQ;obtain rfl:=drop_nil hs hk;refine mr _ _ _ _ _ _ λg=>?_;simp[ak, *,gh];all_goals exact hQ _ rfl
 | cons a s h=>
  rintro k i hs hk rfl hQ;obtain⟨m,q,b,o⟩:=drop_cons hs;refine mr _ _ _ _ _ _ λg=>?_;have p:=iQa ((k:Int)+1) (by omega);by_cases j:t=a
  ·have e:IA t (a :: s) k=k:=by unfold IA;rw[if_pos j]
   simp[ak, *,gh,c.idx,rows,aR];all_goals exact hQ _ (by simp[e])
  have e:IA t (a :: s) k=IA t s (k+1):=(by rw[IA,if_neg j]);have f:=h (k+1) ((k:Int)+1) b (by omega) (by simp) (λy n=>hQ y (by rw[n,e]));clear h hQ e;simp[ak, *,gh,c.idx,rows,aR];exact f
section
variable{x:AV}{l:List Int}(c:Sl 1 (rows l) x)(d:l.length<4611686018427387904)
include c d
theorem Vu(t:Int):ay env 160 [x,aR t]=some (aI (IA t l 0)):=by
 refine aH rfl (by kernel_rfl) (tD _ _ _ _ λg=>?_);have h:=c.len;simp[ak, *,np];exact NP c d l 0 _ rfl (by omega) rfl (λy e=>by simp[e])
theorem Nb(t:Int):ay env 125 [x,aR t]=some (aB (decide (t∈l))):=by
 refine aH rfl (by kernel_rfl) (rY _ _ _ _ λg=>?_);have h:=Vu c d t;have a:=c.r;have e:=WB t l 0;simp[ak, *,mc]
end
def SO(n:UInt8)(u:UInt8)(a_3:UInt32)(m:UInt8)(o:Int)(t:UInt8)(s:UInt32)(p:UInt8)(q:Int)(j:Int)(a:UInt8)(b:UInt32)(k:UInt8)(i:Int)(e:UInt8)(f:UInt32){x:AV}{l:List Int}(c:Sl 1 (rows l) x)(d:l.length<4611686018427387904):ay env 83 [.agg [a8 n,a8 u,bY a_3,a8 m,aI o,a8 t,bY s,a8 p,aI q,aI j,a8 a,bY b,a8 k,aI i,a8 e,bY f,x]]=some (aB (!decide (-1∈l))):=by
 refine aH rfl (by kernel_rfl) (MH _ _ _ λg=>?_);have h:=Nb c d (-1);have v:=c.r;unfold aR at h;simp[ak, *,F4]
def o9(a b:gI):Bool:=decide (a.kind=b.kind)&&((decide (a.h.lv=b.h.lv)&&decide (a.h.cats=b.h.cats)&&decide (a.h.num=b.h.num))&&(decide (a.serial=b.serial) &&
 ((decide (a.s.f.h.lv=b.s.f.h.lv)&&decide (a.s.f.h.cats=b.s.f.h.cats)&&decide (a.s.f.h.num=b.s.f.h.num)&&decide (a.s.f.n=b.s.f.n)&&decide (a.s.many=b.s.many)) &&
 ((decide (a.a.h.lv=b.a.h.lv)&&decide (a.a.h.cats=b.a.h.cats)&&decide (a.a.h.num=b.a.h.num)&&decide (a.a.n=b.a.n))&&((decide (a.to.lv=b.to.lv)&&decide (a.to.cats=b.to.cats))&&decide (a.l=b.l))))))
def Vo(v:UInt8)(B:UInt8)(a_3:UInt32)(u:UInt8)(E:Int)(L:UInt8)(w:UInt32)(H:UInt8)(K:Int)(s:Int)(b:UInt8)(n:UInt32)(k:UInt8)(q:Int)(h:UInt8)(j:UInt32)(A:UInt8)(M:UInt8)(C:UInt32)(J:UInt8)(F:Int)(G:UInt8)(z:UInt32)(D:UInt8)(I:Int)(o:Int)(e:UInt8)(p:UInt32)(t:UInt8)(f:Int)(i:UInt8)(a:UInt32){x y:AV}{l m:List Int}(c:Sl 1 (rows l) x)(N:Sl 1 (rows m) y)(d:l.length<1000000000):ay env 89 [.agg [a8 v,a8 B,bY a_3,a8 u,aI E,a8 L,bY w,a8 H,aI K,aI s,a8 b,bY n,a8 k,aI q,a8 h,bY j,x],.agg [a8 A,a8 M,bY C,a8 J,aI F,a8 G,bY z,a8 D,aI I,aI o,a8 e,bY p,a8 t,aI f,a8 i,bY a,y]]=some (aB (o9 (⟨v,⟨B,a_3,u⟩,E,⟨⟨⟨L,w,H⟩,K⟩,s⟩,⟨⟨b,n,k⟩,q⟩,⟨h,j⟩,l⟩:gI) (⟨A,⟨M,C,J⟩,F,⟨⟨⟨G,z,D⟩,I⟩,o⟩,⟨⟨e,p,t⟩,f⟩,⟨i,a⟩,m⟩:gI))):=by
 refine aH rfl (by kernel_rfl) (Pb _ _ _ _ λg=>?_);have W:=Sx c N (by omega);have S:=c.r;have O:=N.r;unfold o9;cases U:decide (v=A) with
 | false=>simp[ak, *,pt,mV,fN]
 | true=>
 cases P:(decide (B=M)&&decide (a_3=C)&&decide (u=J)) with| false=>simp[ak, *,pt,mV,fN]| true=>
 cases R:decide (E=F) with| false=>simp[ak, *,pt,mV,fN]| true=>
 cases V:(decide (L=G)&&decide (w=z)&&decide (H=D)&&decide (K=I)&&decide (s=o)) with| false=>simp[ak, *,pt,mV,fN]| true=>
 cases Q:(decide (b=e)&&decide (n=p)&&decide (k=t)&&decide (q=f)) with| false=>simp[ak, *,pt,mV,fN]| true=>
 cases T:(decide (h=i)&&decide (j=a)) with| false=>simp[ak, *,pt,mV,fN]| true=>simp[ak, *,pt,mV,fN]
end
section
attribute [local simp] aN aG ar aD aC bT kp aP ax aJ bG bF aX aO af a9 dM
def bsO(z:Nat)(zz:AV)(H:aa)(r:Ref)(n:Nat)(a:List (Nat × AV))(refs:List Ref):dA:=match iI (List.replicate n zz) a with
 | some es=>some (.ct r 0 n (some n),(r,some ⟨z,es,true,false⟩) :: cL H refs)
 | none=>none
def BT{P:Program}{a:Bool}{t:TypeId}(k:qN P t=true)(H:aa)(d i c:Nat)(n:Nat)(ps:List (Nat × AV))(h:n * lj P t<=16777216)(q:(dG H.get ps).isSome=true)
 (o:((dG H.get ps).getD []).all (λp=>p.2.cells.length == lj P t&&p.2.cells.all AV.one)=true) (b:(iI (List.replicate n (gX P t)) ((dG H.get ps).getD [])).isSome=true) (f:kB H.get (cO H.get (ps.map (·.2)))=false) :
 lI P a true H ⟨d,i,c,0⟩ t n (some ps)=bsO (lj P t) (gX P t) H ⟨d,i,c,0⟩ n ((dG H.get ps).getD []) (cO H.get (ps.map (·.2))):=by
 obtain⟨ws,hw⟩:=iB.1 q;rw[hw,cU]at o b ⊢;obtain⟨es,b⟩:=iB.1 b;unfold qN at k;obtain⟨e,zz,l,s,y,m,v,u,w,z⟩:=iK k;have j:gX P t=zz:=by unfold gX;rw[l,fe,m];rfl
 rw[j]at b ⊢;have g:mkSlice P H.get t n ps=some ⟨lj P t,es,true,false⟩:=by
  simp only[mkSlice,l,hw,m,s];rw[if_pos ⟨Ah w,h,v,u,by simpa using o⟩,b];rfl
 have x:gY P a H.get ⟨d,i,c,0⟩ t n (some ps)=none:=by
  simp only[gY,f,gB,iQe]
 unfold lI bsO;rw[x,b];simp only[mA,FK,iQp,ko,g,Option.map_some]
attribute [local simp] BT bsO dG
def oU(o:gI):List UInt8:=[o.kind]++(cS o.h++(be 3 o.serial++(eN o.s.f++[u8 o.s.many])))
def TO(n:Int):be 3 n=[u8 (n / 65536),u8 (n / 256),u8 n]:=by simp[Me]
def HP(c:UInt8)(h:R1)(a:Int)(f:Ay)(b:Int):ay env 108 [.bE 1 [.bE 1 [a8 c] (some 1),.bE 1 (aK (cS h)) none,.bE 1 [a8 (u8 (a / 65536)),a8 (u8 (a / 256)),a8 (u8 a)] (some 3),.bE 1 (aK (eN f)) none,.bE 1 [a8 (u8 b)] (some 1)] (some 5)] =
 some (.fsl 1 (aK ([c]++(cS h++(be 3 a++(eN f++[u8 b]))))) none):=by
 have e:lU [([c],AV.bE 1 [a8 c] (some 1)),(cS h,.bE 1 (aK (cS h)) none),(be 3 a,.bE 1 [a8 (u8 (a / 65536)),a8 (u8 (a / 256)),a8 (u8 a)] (some 3)),(eN f,.bE 1 (aK (eN f)) none),([u8 b],.bE 1 [a8 (u8 b)] (some 1))]=[c]++(cS h++(be 3 a++(eN f++[u8 b]))):=by
  simp only[lU,nL,Ey,tg]
 rw[<-e];refine HT (ps:=[([c],AV.bE 1 [a8 c] (some 1)),(cS h,.bE 1 (aK (cS h)) none),(be 3 a,.bE 1 [a8 (u8 (a / 65536)),a8 (u8 (a / 256)),a8 (u8 a)] (some 3)),(eN f,.bE 1 (aK (eN f)) none),([u8 b],.bE 1 [a8 (u8 b)] (some 1))]) (.inr ⟨some 5,rfl,by simp⟩) ?_ (by simp) (by rw[e];simp) (by rw[e];simp);intro p hp;simp only[fR,Dq,iQu]at hp;rcases hp with rfl | rfl | rfl | rfl | rfl
 ·exact .inr ⟨some 1,rfl,by simp⟩
 ·exact Sl.mk _ _
 ·exact .inr ⟨some 3,by rw[TO];rfl,by simp⟩
 ·exact Sl.mk _ _
 exact .inr ⟨some 1,rfl,by simp⟩
def Vr(p:UInt8)(o:UInt8)(a_3:UInt32)(i:UInt8)(q:Int)(n:UInt8)(m:UInt32)(j:UInt8)(k:Int)(a:Int)(b:UInt8)(c:UInt32)(h:UInt8)(f:Int)(d:UInt8)(e:UInt32){x:AV}{l:List Int}(t:Sl 1 (rows l) x)(v:l.length<2000000)(s:r8 (⟨p,⟨o,a_3,i⟩,q,⟨⟨⟨n,m,j⟩,k⟩,a⟩,⟨⟨b,c,h⟩,f⟩,⟨d,e⟩,l⟩:gI)=true)(u:p=2):ay env 82 [.agg [a8 p,a8 o,bY a_3,a8 i,aI q,a8 n,bY m,a8 j,aI k,aI a,a8 b,bY c,a8 h,aI f,a8 d,bY e,x]]=some (.tup [.bE 1 (aK (oU (⟨p,⟨o,a_3,i⟩,q,⟨⟨⟨n,m,j⟩,k⟩,a⟩,⟨⟨b,c,h⟩,f⟩,⟨d,e⟩,l⟩:gI))) none,aI 0]):=by
 refine aH rfl (by kernel_rfl) (By _ _ _ λg=>?_);have w:=tL p o a_3 i q n m j k a b c h f d e t v;rw[s]at w;have z:gE ⟨o,a_3,i⟩=true:=by simp only[r8,bI]at s;exact s.1
 have A:Ao ⟨⟨n,m,j⟩,k⟩=true:=by
  simp only[r8,bI]at s;have:=s.2.2.2.1;simp only[oS,bI]at this;exact this.1
 clear s;subst u;have y:=HP 2 ⟨o,a_3,i⟩ q ⟨⟨n,m,j⟩,k⟩ a;unfold oU;simp[ak, *,vJ,t.r,bad,cY,cT]
def Vq(s:UInt8)(k:UInt8)(a_3:UInt32)(d:UInt8)(m:Int)(j:UInt8)(i:UInt32)(f:UInt8)(h:Int)(c:Int)(n:UInt8)(o:UInt32)(q:UInt8)(p:Int)(b:UInt8)(a:UInt32){x:AV}{l:List Int}(z:Sl 1 (rows l) x)(B:l.length<2000000)(t:r8 (⟨s,⟨k,a_3,d⟩,m,⟨⟨⟨j,i,f⟩,h⟩,c⟩,⟨⟨n,o,q⟩,p⟩,⟨b,a⟩,l⟩:gI)=true)(A:s=3):ay env 82 [.agg [a8 s,a8 k,bY a_3,a8 d,aI m,a8 j,bY i,a8 f,aI h,aI c,a8 n,bY o,a8 q,aI p,a8 b,bY a,x]]=some (.tup [.bE 1 (aK (oU (⟨s,⟨k,a_3,d⟩,m,⟨⟨⟨j,i,f⟩,h⟩,c⟩,⟨⟨n,o,q⟩,p⟩,⟨b,a⟩,l⟩:gI)++(b :: be 4 a.toNat))) none,aI 0]):=by
 refine aH rfl (by kernel_rfl) (By _ _ _ λg=>?_);have E:=tL s k a_3 d m j i f h c n o q p b a z B;rw[t]at E;subst A;have G:gE ⟨k,a_3,d⟩=true:=by simp only[r8,bI]at t;exact t.1
 have H:Ao ⟨⟨j,i,f⟩,h⟩=true:=by
  simp only[r8,bI]at t;have:=t.2.2.2.1;simp only[oS,bI]at this;exact this.1
 have y:gE ⟨b,a,0⟩=true:=by
  simp only[r8,bI]at t;have:=t.2.2.2.2;simp only[DU,LJ]at this;simp at this;simp[gE,this]
 clear t;have F:=HP 3 ⟨k,a_3,d⟩ m ⟨⟨j,i,f⟩,h⟩ c;unfold oU;have w:cS ⟨b,a,0⟩=b :: (be 4 a.toNat++[0]):=rfl;have u:(aK ([(3:UInt8)]++(cS ⟨k,a_3,d⟩++(be 3 m++(eN ⟨⟨j,i,f⟩,h⟩++[u8 c]))))).length=24:=by simp
 have v:=M8 b a 0;rw[if_pos y,w,vc]at v;rw[vc];rw[show aK (([(3:UInt8)]++(cS ⟨k,a_3,d⟩++(be 3 m++(eN ⟨⟨j,i,f⟩,h⟩++[u8 c]))))++[b,u8 (↑a.toNat / 16777216),u8 (↑a.toNat / 65536),u8 (↑a.toNat / 256),u8 ↑a.toNat])=aK ([(3:UInt8)]++(cS ⟨k,a_3,d⟩++(be 3 m++(eN ⟨⟨j,i,f⟩,h⟩++[u8 c]))))++[a8 b,a8 (u8 (↑a.toNat / 16777216)),a8 (u8 (↑a.toNat / 65536)),a8 (u8 (↑a.toNat / 256)),a8 (u8 ↑a.toNat)] from AL ..];have D:aK ([(3:UInt8)]++(cS ⟨k,a_3,d⟩++(be 3 m++(eN ⟨⟨j,i,f⟩,h⟩++[u8 c]))))≠[]:=by intro e;rw[e]at u;cases u
 generalize aK ([(3:UInt8)]++(cS ⟨k,a_3,d⟩++(be 3 m++(eN ⟨⟨j,i,f⟩,h⟩++[u8 c]))))=C at *;clear y w;simp[ak, *,vJ,z.r,bad,cY,cT];rfl
def Rb(C A R:List UInt8)(a:Option Nat)(b:A.length<=a.getD A.length)(c:0<C.length)(d:C.length+A.length+R.length<1000000):ay env 108 [.bE 1 [.bE 1 (aK C) none,.bE 1 (aK A) a,.bE 1 (aK R) none] (some 3)]=some (.fsl 1 (aK (C++(A++R))) none):=by
 have e:lU [(C,AV.bE 1 (aK C) none),(A,.bE 1 (aK A) a),(R,.bE 1 (aK R) none)]=C++(A++R):=by
  simp only[lU,nL,Ey,tg]
 rw[<-e];refine HT (ps:=[(C,AV.bE 1 (aK C) none),(A,.bE 1 (aK A) a),(R,.bE 1 (aK R) none)]) (.inr ⟨some 3,rfl,by simp⟩) ?_ (by simp) (by rw[e];simp;omega) (by rw[e];simp;omega);intro p hp;simp only[fR,Dq,iQu]at hp;rcases hp with rfl | rfl | rfl
 ·exact Sl.mk _ _
 ·exact .inr ⟨a,rfl,by simpa using b⟩
 exact Sl.mk _ _
def Vp(j:UInt8)(q:UInt8)(a_3:UInt32)(i:UInt8)(k:Int)(p:UInt8)(o:UInt32)(m:UInt8)(n:Int)(f:Int)(a:UInt8)(b:UInt32)(h:UInt8)(e:Int)(c:UInt8)(d:UInt32){x:AV}{l:List Int}(t:Sl 1 (rows l) x)(u:l.length<2000000)(s:r8 (⟨j,⟨q,a_3,i⟩,k,⟨⟨⟨p,o,m⟩,n⟩,f⟩,⟨⟨a,b,h⟩,e⟩,⟨c,d⟩,l⟩:gI)=false):ay env 82 [.agg [a8 j,a8 q,bY a_3,a8 i,aI k,a8 p,bY o,a8 m,aI n,aI f,a8 a,bY b,a8 h,aI e,a8 c,bY d,x]]=some (.tup [aY,aI 8]):=by
 refine aH rfl (by kernel_rfl) (By _ _ _ λg=>?_);have v:=tL j q a_3 i k p o m n f a b h e c d t u;rw[s]at v;clear s;simp[ak, *,vJ,t.r,bad]
@[simp] def ajS(r:Ref):yQ env.P r 76 (some (.v (.int .i64 13))) (some (.v (.int .i64 13)))=some (.ct r 0 13 none,[⟨1,[a8 0,a8 0,a8 0,a8 0,a8 0,a8 0,a8 0,a8 0,a8 0,a8 0,a8 0,a8 0,a8 0],true,false⟩]):=by kernel_rfl
def Tf{o:gI}(h:r8 o=true):oS o.s=true:=by
 simp only[r8,bI]at h;exact h.2.2.2.1
def PC{l:List Int}(h:HZ l=true):yM l=0/\l.length<=64 /\∀n∈l, -2147483648<=n/\n<=2147483647:=by
 simp only[HZ,bI,iQb]at h;refine⟨by unfold yM;rw[if_neg (by omega),if_pos h.2],h.1,λn a=>?_⟩;have:=gP.1 h.2 n a;simp only[iY,jf,bI,iQb]at this;omega
def pr(a:Ay):List UInt8:=if lD a then List.replicate 13 0 else eN a
def Vs(t:UInt8)(n:UInt8)(a_3:UInt32)(h:UInt8)(p:Int)(m:UInt8)(k:UInt32)(i:UInt8)(j:Int)(f:Int)(a:UInt8)(b:UInt32)(d:UInt8)(c:Int)(q:UInt8)(s:UInt32){x:AV}{l:List Int}(A:Sl 1 (rows l) x)(M:l.length<2000000)(w:r8 (⟨t,⟨n,a_3,h⟩,p,⟨⟨⟨m,k,i⟩,j⟩,f⟩,⟨⟨a,b,d⟩,c⟩,⟨q,s⟩,l⟩:gI)=true)(J:t=1):ay env 82 [.agg [a8 t,a8 n,bY a_3,a8 h,aI p,a8 m,bY k,a8 i,aI j,aI f,a8 a,bY b,a8 d,aI c,a8 q,bY s,x]]=some (.tup [.bE 1 (aK (oU (⟨t,⟨n,a_3,h⟩,p,⟨⟨⟨m,k,i⟩,j⟩,f⟩,⟨⟨a,b,d⟩,c⟩,⟨q,s⟩,l⟩:gI)++(pr ⟨⟨a,b,d⟩,c⟩++bu l))) none,aI 0]):=by
 refine aH rfl (by kernel_rfl) (By _ _ _ λg=>?_);have O:=tL t n a_3 h p m k i j f a b d c q s A M;rw[w]at O;subst J;have S:gE ⟨n,a_3,h⟩=true:=by simp only[r8,bI]at w;exact w.1
 have z:=Tf w;have T:Ao ⟨⟨m,k,i⟩,j⟩=true:=by
  have:=z;simp only[oS,bI]at this;exact this.1
 obtain⟨E,hlen,v⟩:(lD ⟨⟨a,b,d⟩,c⟩||Ao ⟨⟨a,b,d⟩,c⟩)=true/\(l.length:Int)=f/\HZ l=true:=by
  simp only[r8,bI]at w;have:=w.2.2.2.2;simp[DU,JL]at this;refine⟨by simpa using this.2.1,this.2.2.2.1,this.2.2.2.2⟩
 obtain⟨D,N,G⟩:=PC v;have H:=Q6 z;simp only at H;have u:=Yt A (by omega) G;rw[if_pos D]at u;have I:=nY l;have B:aK (bu l)≠[]:=by
  intro e;have:=iQf List.length e;have Q:(aK (bu l)).length=(bu l).length:=by simp
  simp only[lE]at this;omega
 rw[ji 1 B]at u;clear w v D G H;have P:=HP 1 ⟨n,a_3,h⟩ p ⟨⟨m,k,i⟩,j⟩ f;unfold oU;have L:([(1:UInt8)]++(cS ⟨n,a_3,h⟩++(be 3 p++(eN ⟨⟨m,k,i⟩,j⟩++[u8 f])))).length=24:=by simp
 generalize ([(1:UInt8)]++(cS ⟨n,a_3,h⟩++(be 3 p++(eN ⟨⟨m,k,i⟩,j⟩++[u8 f]))))=C at *;generalize bu l=R at *;cases o:lD ⟨⟨a,b,d⟩,c⟩ with
 | true=>
  have F:=Rb C (List.replicate 13 0) R none (by simp) (by omega) (by simp;omega);rw[show pr ⟨⟨a,b,d⟩,c⟩=List.replicate 13 0 by unfold pr;rw[if_pos o]];obtain⟨⟨⟨rfl,rfl⟩,rfl⟩,rfl⟩:((a=0/\b=0)/\d=0)/\c=0:=by simpa [lD] using o
  have y:aK (List.replicate 13 0)=[a8 0,a8 0,a8 0,a8 0,a8 0,a8 0,a8 0,a8 0,a8 0,a8 0,a8 0,a8 0,a8 0]:=rfl;rw[y]at F;generalize aK (C++(List.replicate 13 0++R))=W at *;clear o E hlen;simp[ak, *,vJ,A.r,bad,cY,cT,mV,fN]
 | false=>rw[o,Cc]at E;have F:=Rb C (eN ⟨⟨a,b,d⟩,c⟩) R none (by simp) (by omega) (by simp;omega);rw[show pr ⟨⟨a,b,d⟩,c⟩=eN ⟨⟨a,b,d⟩,c⟩ by unfold pr;rw[if_neg (by rw[o];decide)]];generalize aK (C++(eN ⟨⟨a,b,d⟩,c⟩++R))=W at *;have K:(decide (a=0)&&decide (b=0)&&decide (d=0)&&decide (c=0))=false:=o;clear o hlen;simp[ak, *,vJ,A.r,bad,cY,cT,mV,fN]
end
section
attribute [local simp] aN aG ar aD aC bT kp aP ax aJ bG bF aX aO af a9 dM
def SR(c:Option Nat)(b1 b2 b3 b4 b5:UInt8):ay env 197 [.bE 1 [a8 b1,a8 b2,a8 b3,a8 b4,a8 b5] c]=some (.fsl 1 [a8 b1,a8 b2,a8 b3,a8 b4,a8 b5] none):=by
 refine aH rfl (by kernel_rfl) (Hz _ _ _ λg=>?_);simp[ak, *,Bv]
def DH{x y:AV}{l m:List UInt8}(f:Sl 1 (aK l) x)(d:Sl 1 (aK m) y):ay env 87 [x,y]=some (aB (decide (l=m))):=by
 refine aH rfl (by kernel_rfl) (Hy _ _ _ _ λg=>?_);have e : ∀l:List UInt8,aK l=[]->l=[]:=λl h=>by simpa [aK] using h
 rcases f with ⟨rfl,b⟩ | ⟨c,rfl,b⟩<;>rcases d with ⟨rfl,a⟩ | ⟨i,rfl,a⟩
 ·obtain rfl:=e l b;obtain rfl:=e m a;simp[ak, *,pw]
 ·obtain rfl:=e l b;simp[ak, *,pw];try exact⟨λh=>h.symm,λh=>h.symm⟩
 ·obtain rfl:=e m a;simp[ak, *,pw]
 simp[ak, *,pw]
def Fk{f:FuncId}(a:(env.mode f == 2)=true)(dep:Nat)(H:aa)(r:Ref)(first args captured:List AV) :
 bS env true (ay env) (eZ env dep) H r (some (.fn (.func f) first captured)) args=eZ env dep (.fn f) (first++args++captured) H:=by
 have h:env.mode f=2:=by simpa using a
 simp[bS,lY,ot,mA,FK,h]
def iZ(l:List UInt8):R1:=⟨l.getD 0 0,u32 (val ((l.drop 1).take 4)),l.getD 5 0⟩
def kz(l:List UInt8):Ay:=⟨iZ l,val (l.drop 6)⟩
def Lz{l:List UInt8}(h:l.length=6) : ∃a b c d e f,l=[a,b,c,d,e,f]:=by
 match l,h with
 | [a,b,c,d,e,f],_=>exact⟨a,b,c,d,e,f,rfl⟩
def AR{l:List UInt8}(h:l.length=13) : ∃a b c d e f g i j k m n o,l=[a,b,c,d,e,f,g,i,j,k,m,n,o]:=by
 match l,h with
 | [a,b,c,d,e,f,g,i,j,k,m,n,o],_=>exact⟨a,b,c,d,e,f,g,i,j,k,m,n,o,rfl⟩
def nU{z:Nat}{es:List AV}{x:AV}(h:Sl z es x)(a:0<es.length) : ∃c,x = .bE z es c/\es.length<=c.getD es.length:=by
 rcases h with ⟨rfl,rfl⟩ | ⟨c,rfl,h⟩
 ·simp at a
 exact⟨c,rfl,h⟩
def NV{v:AV}{l:List UInt8}(g:Sl 1 (aK l) v)(h:l.length=6):ay env 175 [v] =
 some (if gE (iZ l) then .tup [.agg [a8 (iZ l).lv,bY (iZ l).cats,a8 (iZ l).num],aI 0] else .tup [.agg [a8 0,bY 0,a8 0],aI 8]):=by
 obtain⟨a,b,c,d,e,f,rfl⟩:=Lz h;obtain⟨j,rfl,i⟩:=nU g (by simp[aK]);exact FE (by simpa [aK] using i)
def ac6{v:AV}{l:List UInt8}(p:Sl 1 (aK l) v)(q:l.length=13):ay env 203 [v] =
 some (if Ao (kz l) then .tup [.agg [a8 (kz l).h.lv,bY (kz l).h.cats,a8 (kz l).h.num,aI (kz l).n],aI 0] else .tup [.agg [a8 0,bY 0,a8 0,aI 0],aI 8]):=by
 obtain⟨a,b,c,d,e,f,g,i,j,k,m,n,o,rfl⟩:=AR q;obtain⟨t,rfl,s⟩:=nU p (by simp[aK]);exact ab3 (by simpa [aK] using s)
def Cm(l:List UInt8)(a:Nat)(b:Bool)(n:Nat):Bool:=b||decide (l.length<a+n)
def FC(l:List UInt8)(a:Nat)(b:Bool)(n:Nat):Nat:=if Cm l a b n then a else a+n
def xT(l:List UInt8)(a:Nat)(b:Bool)(n:Nat):List UInt8:=if Cm l a b n then List.replicate n 0 else (l.drop a).take n
def ES{l:List UInt8}{a:Nat}(b:Bool)(n:Nat)(h:a<=l.length):FC l a b n<=l.length:=by
 unfold FC Cm;split;·exact h
 rename_i c;simp at c;omega
def zK{l:List UInt8}{a:Nat}(b:Bool)(n:Nat):(xT l a b n).length=n:=by
 unfold xT;split;·simp
 rename_i c;simp[Cm]at c;simp;omega
def wZ(x:AV)(a:Nat)(b:Bool):bC:=⟨3,[.agg [x,aI a,aB b]],false,false⟩
structure Tk (H H':aa) (r:Ref) (x:AV) (l bs:List UInt8) (a:Nat) (b:Bool) (y v:AV):Prop where
 seen:oE 1 (aK bs) H' y v
 fr:Fr H'
 box:H'.get r=some (wZ x a b)
 old : ∀q c,q≠r->H.get q=some c->H'.get q=some c
 spot : ∀q,y.at?=some q->q.t=31
def UH(d:Nat){H:aa}{r:Ref}{x:AV}{l:List UInt8}{a n:Nat}{c:bC}(f:Fr H)(i:H.get r=some c) :
 ∃v,Tk H ((⟨d,31,H.gen d 31,0⟩,some ⟨1,List.replicate n (a8 0),true,false⟩) :: H.put r (some ⟨3,[.agg [x,aI a,aB true]],false,false⟩)) r x l (List.replicate n 0) a true (.ct ⟨d,31,H.gen d 31,0⟩ 0 n none) v:=by
 have j:(H.get r).isSome=true:=by rw[i];rfl
 have b:aK (List.replicate n 0)=List.replicate n (a8 0):=by simp[aK]
 refine⟨.bE 1 (aK (List.replicate n 0)) none,?_,by simp(maxDischargeDepth:=12) [eR, *],?_,?_,?_⟩
 ·refine .inr ⟨⟨d,31,H.gen d 31,0⟩,none,false,?_,?_,rfl,?_⟩;·rw[b];simp
  ·rw[b];simp
  simp
 ·rw[aa.gS,if_neg (qY f j _ _ _),aa.ad,if_pos rfl];rfl
 ·intro q k h g;rw[aa.gS,if_neg (qY f (by rw[g];rfl) _ _ _),aa.ad,if_neg (λe=>h e)];exact g
 intro q e;cases e;rfl
def abL{H:aa}{r:Ref}{x y:AV}{l bs:List UInt8}{a:Nat}{c:bC}{b1 b2:Option bC}(m:Fr H)(i:H.get r=some c)(g:Sl 1 (aK bs) y)(d : ∃f,b1=some f)(b:b2=some ⟨3,[.agg [x,aI a,aB false]],false,false⟩) :
 ∃v,Tk H ((H.put r b1).put r b2) r x l bs a false y v:=by
 have k:(H.get r).isSome=true:=by rw[i];rfl
 subst b;refine⟨y,oE.of g _,?_,?_,?_,?_⟩;·obtain⟨f,rfl⟩:=d;simp(maxDischargeDepth:=12) [eR, *]
 ·rw[aa.ad,if_pos rfl];rfl
 ·intro q n h j;rw[aa.ad,if_neg (λe=>h e),aa.ad,if_neg (λe=>h e)];exact j
 intro q e;rcases g with ⟨rfl,_⟩ | ⟨c,rfl,_⟩<;>cases e
def X8(dep:Nat){H:aa}{r:Ref}{x:AV}{l:List UInt8}{a:Nat}{b:Bool}(n:Nat)(i:Fr H)(w:Sl 1 (aK l) x)(f:H.get r=some (wZ x a b))(I:a<=l.length)(G:l.length<1000000000)(K:n<1000000) :
 ∃y o,eZ env dep (.fn 194) [.ptr r 0 0,aI n] H=some (y,o) /\∃v,Tk H o r x l (xT l a b n) (FC l a b n) (Cm l a b n) y v:=by
 refine wo (fn:=Tryz.f194) (c:=te) (by kernel_rfl) (by kernel_rfl) (by kernel_rfl) (by kernel_rfl) (by kernel_rfl) ?_;refine s8 _ _ _ _ _ λg=>?_;unfold wZ at f;have s:=w.len;have E:=iQa ((l.length:Int) - a) (by omega);have J:=λr=>yP (P:=env.P) (r:=r) (t:=76) (z:=1) (by':=1) (zz:=a8 0) (by kernel_rfl) (by kernel_rfl) (n:=n) (by unfold aX;omega) (by omega);have B:aK (List.replicate n 0)=List.replicate n (a8 0):=by simp[aK]
 cases b with| true=>have e:Cm l a true n=true:=rfl;have j:FC l a true n=a:=rfl;have m:xT l a true n=List.replicate n 0:=rfl;simp[ak, *,gA,f];exact UH _ i f| false=>
  by_cases d:(l.length:Int) - a<n
  ·have e:Cm l a false n=true:=by simp only[Cm,Cc,iQb];omega
   have j:FC l a false n=a:=by unfold FC;rw[e];rfl
   have m:xT l a false n=List.replicate n 0:=by unfold xT;rw[e];rfl
   have hd:decide ((l.length:Int) - a<n)=true:=iQi d;clear d;simp[ak, *,gA,f];exact UH _ i f
  have e:Cm l a false n=false:=by simp only[Cm,Cc,iQc];omega
  have j:FC l a false n=a+n:=by unfold FC;rw[e];rfl
  have m:xT l a false n=(l.drop a).take n:=by unfold xT;rw[e];rfl
  have hd:decide ((l.length:Int) - a<n)=false:=iQh d;have L:=iQa ((a:Int)+n) (by omega);have F:=iQa (a:Int) (by omega);have D:=iQa ((a:Int)+n - n) (by omega);have u:(a:Int)+n - n=a:=by omega
  rw[u]at D;have p:a+n<=l.length:=by omega
  have h:=λg=>ET (P:=env.P) (t:=76) (z:=1) (by kernel_rfl) g w (lo:=(a:Int)) (hi:=(a:Int)+n) (by omega) (by omega) (by simp;omega);have q:((a:Int)+n).toNat - (a:Int).toNat=n:=by omega
  rw[q,K0]at h;clear d q u;simp[ak, *,gA,f];obtain⟨y,C,k⟩:=h _;refine adp C ?_;have A:Sl 1 (aK ((l.drop a).take n)) y:=by simpa [aK] using k
  rw[j,e,m];exact abL i f A ⟨_,rfl⟩ rfl
end
section
def QY{a b:Int}(h:a % 256=b % 256):u8 a=u8 b:=by
 apply Ag.1;have d:=CT a;have c:=CT b;omega
def Um(n:Int) : ∃j,IntKind.i32.wrap n=n+4294967296 * j /\ -2147483648<=IntKind.i32.wrap n/\IntKind.i32.wrap n<=2147483647:=by
 rw[iQv];exact⟨-((n+2147483648) / 4294967296),by omega,by omega,by omega⟩
def word(a b c d:UInt8):Int:=IntKind.i32.wrap (val [a,b,c,d])
def words:List UInt8->List Int
 | a :: b :: c :: d :: l=>word a b c d :: words l
 | _=>[]
def RY(n j:Int):be 4 (n+4294967296 * j)=be 4 n:=by
 rw[vc,vc,QY (a:=(n+4294967296 * j) / 16777216) (b:=n / 16777216) (by omega),QY (a:=(n+4294967296 * j) / 65536) (b:=n / 65536) (by omega),
  QY (a:=(n+4294967296 * j) / 256) (b:=n / 256) (by omega),QY (a:=n+4294967296 * j) (b:=n) (by omega)]
def RX(a b c d:UInt8):be 4 (word a b c d)=[a,b,c,d]:=by
 obtain⟨j,h,_⟩:=Um (val [a,b,c,d]);unfold word;rw[h,RY];exact GD rfl
def NX{P:List UInt8->Prop}(e:P [])(g : ∀a b c d l,P l->P (a :: b :: c :: d :: l)) : ∀(n:Nat)(l:List UInt8),l.length=4 * n->P l:=by
 intro n;induction n with
 | zero=>intro l h;obtain rfl:l=[]:=si.1 (by omega);exact e
 | succ n f=>
  intro l h;match l,h with
  | a :: b :: c :: d :: l,h=>exact g a b c d l (f l (by simp only[jP]at h;omega))
def vt(n:Nat)(l:List UInt8)(h:l.length=4 * n):bu (words l)=l/\(words l).length=n:=by
 constructor
 ·exact NX (P:=λl=>bu (words l)=l) rfl (λa b c d l e=>by
   show be 4 (word a b c d)++bu (words l)=_;rw[e,RX];rfl) n l h
 have:=nY (words l);rw[NX (P:=λl=>bu (words l)=l) rfl (λa b c d l e=>by
  show be 4 (word a b c d)++bu (words l)=_;rw[e,RX];rfl) n l h]at this
 omega
def XN{n:Int}(c : -2147483648<=n)(f:n<=2147483647):word (u8 (n / 16777216)) (u8 (n / 65536)) (u8 (n / 256)) (u8 n)=n:=by
 obtain⟨j,h,d,b⟩:=Um (val [u8 (n / 16777216),u8 (n / 65536),u8 (n / 256),u8 n]);unfold word;rw[<-vc]at *;have e:val (be 4 n)=n\/val (be 4 n)=n+4294967296:=by
  rcases GS n 0 with a | a
  ·right;have:=RY n 1;rw[<-this];exact CR (by omega) (by omega)
  exact .inl (CR a (by omega))
 omega
def Ld(l:List Int)(h : ∀n∈l, -2147483648<=n/\n<=2147483647):words (bu l)=l:=by
 induction l with| nil=>rfl| cons n l c=>have a:=h n (j1 ..);show words (be 4 n++bu l)=_;rw[vc];show word _ _ _ _ :: words (bu l)=_;rw[XN a.1 a.2,c λm b=>h m (kQ _ b)]
def CU(c:UInt32):u32 (val (be 4 (c.toNat:Int)))=c:=by
 have:=c.toNat_lt;rw[CR (by omega) (by omega)];simp
def I3(l:List UInt8)(h:l.length=4):be 4 ((u32 (val l)).toNat:Int)=l:=by
 have a:=yF l;rw[h]at a;have e:((u32 (val l)).toNat:Int)=val l:=by
  rw[vV];omega
 rw[e];exact GD h
def zV(h:R1):iZ (cS h)=h:=by
 obtain⟨a,b,c⟩:=h;have:=CU b;rw[vc]at this;simp[iZ,cS,vc];simpa using this
def D4{l:List UInt8}(h:l.length=6):cS (iZ l)=l:=by
 obtain⟨a,b,c,d,e,f,rfl⟩:=Lz h;have:=I3 [b,c,d,e] rfl;simp[iZ,cS,this]
def D3{i:Ay}(e:0<=i.n)(g:i.n<72057594037927936):kz (eN i)=i:=by
 obtain⟨h,n⟩:=i;have d:iZ (cS h++be 7 n)=h:=by
  have:=zV h;obtain⟨a,b,c⟩:=h;simp only[iZ,cS,vc]at *;simpa using this
 have f:(cS h++be 7 n).drop 6=be 7 n:=Dn (C6 h);unfold kz eN;rw[d,f,CR e (by simpa using g)]
def zU{l:List UInt8}(h:l.length=13):eN (kz l)=l:=by
 have p:iZ l=iZ (l.take 6):=by
  obtain⟨a,b,c,d,e,f,g,i,j,k,m,n,o,rfl⟩:=AR h;rfl
 unfold eN kz;rw[p,D4 (by simp;omega),GD (by simp;omega),Dt]
def IB{l:List UInt8}(h:l.length=13):lD (kz l)=decide (l=List.replicate 13 0):=by
 rw[Bool.eq_iff_iff,xY,iQb];constructor;·intro e;rw[<-zU h,e];rfl
 rintro rfl;rfl
def fW(o:gI):List UInt8:=oU o++(if o.kind=1 then pr o.a++bu o.l else if o.kind=3 then o.to.lv :: be 4 o.to.cats.toNat else [])
def oJ(l:List UInt8):gI:=⟨l.headD 0,iZ ((l.drop 1).take 6),val ((l.drop 7).take 3),⟨kz ((l.drop 10).take 13),(((l.drop 23).headD 0).toNat:Int)⟩,
 if l.headD 0=1 then kz ((l.drop 24).take 13) else nK,if l.headD 0=3 then ⟨(l.drop 24).headD 0,u32 (val ((l.drop 25).take 4))⟩ else ⟨0,0⟩,
 if l.headD 0=1 then words ((l.drop 37).take (4 * ((l.drop 23).headD 0).toNat)) else []⟩
def lH(k m:UInt8):Nat:=if k=1 then 37+4 * m.toNat else if k=3 then 29 else 24
def rB(l:List UInt8):Nat:=lH (l.headD 0) ((l.drop 23).headD 0)
def nR(l:List UInt8):Bool:=decide (24<=l.length)&&(decide (rB l<=l.length)&&r8 (oJ l))
def Q4{l:List UInt8}(h:24<=l.length) : ∃k b c a m rest,l=k :: (b++(c++(a++(m :: rest))))/\b.length=6/\c.length=3/\a.length=13:=by
 match l,h with
 | k :: l,h=>
  simp only[jP]at h;refine⟨k,l.take 6,(l.drop 6).take 3,(l.drop 9).take 13,(l.drop 22).headD 0,l.drop 23,?_,by simp;omega,by simp;omega,by simp;omega⟩;have e:l.drop 22=(l.drop 22).headD 0 :: l.drop 23:=by
   match d:l.drop 22 with
   | []=>have:=iQf List.length d;simp at this;omega
   | m :: t=>have:l.drop 23=(l.drop 22).drop 1:=(by rw[pN]);rw[this,d];rfl
  rw[<-e];have f:(l.drop 9).take 13++l.drop 22=l.drop 9:=(by have:l.drop 22=(l.drop 9).drop 13:=(by rw[pN]);rw[this,Dt]);have g:(l.drop 6).take 3++l.drop 9=l.drop 6:=(by have:l.drop 9=(l.drop 6).drop 3:=(by rw[pN]);rw[this,Dt]);rw[f,g,Dt]
def Cs(k:UInt8)(b c a:List UInt8)(m:UInt8)(rest:List UInt8):gI:=⟨k,iZ b,val c,⟨kz a,(m.toNat:Int)⟩,
 if k=1 then kz (rest.take 13) else nK,if k=3 then ⟨rest.headD 0,u32 (val ((rest.drop 1).take 4))⟩ else ⟨0,0⟩,
 if k=1 then words ((rest.drop 13).take (4 * m.toNat)) else []⟩
def Ie(k:UInt8)(c b a:List UInt8)(m:UInt8)(rest:List UInt8)(o:c.length=6)(n:b.length=3)(f:a.length=13):oJ (k :: (c++(b++(a++(m :: rest)))))=Cs k c b a m rest/\rB (k :: (c++(b++(a++(m :: rest)))))=lH k m:=by
 have d1:(k :: (c++(b++(a++(m :: rest))))).drop 1=c++(b++(a++(m :: rest))):=rfl;have d7:(k :: (c++(b++(a++(m :: rest))))).drop 7=b++(a++(m :: rest)):=by
  show(c++(b++(a++(m :: rest)))).drop 6=_;exact Dn o
 have e:(k :: (c++(b++(a++(m :: rest))))).drop 10=a++(m :: rest):=by
  have:(k :: (c++(b++(a++(m :: rest))))).drop 10=((k :: (c++(b++(a++(m :: rest))))).drop 7).drop 3:=(by rw[pN]);rw[this,d7];exact Dn n
 have d:(k :: (c++(b++(a++(m :: rest))))).drop 23=m :: rest:=by
  have:(k :: (c++(b++(a++(m :: rest))))).drop 23=((k :: (c++(b++(a++(m :: rest))))).drop 10).drop 13:=(by rw[pN]);rw[this,e];exact Dn f
 have l : ∀j,(k :: (c++(b++(a++(m :: rest))))).drop (24+j)=rest.drop j:=by
  intro j;have:(k :: (c++(b++(a++(m :: rest))))).drop (24+j)=((k :: (c++(b++(a++(m :: rest))))).drop 23).drop (1+j):=by rw[pN];congr 1;omega
  rw[this,d,Nat.add_comm];rfl
 have g:=l 0;have i:=l 1;have h:=l 13;simp only[AD,Ev,Nat.reduceAdd]at g i h;constructor;·unfold oJ Cs;rw[d1,d7,e,d,g,i,h,Af o,Af n,Af f];rfl
 unfold rB;rw[d];rfl
def Xf{a:List UInt8}(h:a.length=3):be 3 (val a)=a:=GD h
def UA(m:UInt8):u8 (m.toNat:Int)=m:=by simp
def TM{l:List UInt8}(h:nR l=true):fW (oJ l)=l.take (rB l)/\r8 (oJ l)=true/\rB l<=l.length/\24<=rB l:=by
 simp only[nR,bI,iQb]at h;obtain⟨p,g,u⟩:=h;refine⟨?_,u,g,by unfold rB lH;split<;>first | omega | (split<;>omega)⟩;obtain⟨k,b,d,c,m,rest,rfl,s,v,n⟩:=Q4 p;obtain⟨w,B⟩:=Ie k b d c m rest s v n;rw[B]at g ⊢;rw[w]at u ⊢;have o:(k :: (b++(d++(c++(m :: rest))))).length=24+rest.length:=by simp only[jP,iX];omega
 have C:oU (Cs k b d c m rest)=k :: (b++(d++(c++[m]))):=by
  unfold oU Cs;simp only[D4 s,Xf v,zU n,UA];rfl
 have i : ∀j,(k :: (b++(d++(c++(m :: rest))))).take (24+j)=(k :: (b++(d++(c++[m]))))++rest.take j:=by
  intro j;have:k :: (b++(d++(c++(m :: rest))))=(k :: (b++(d++(c++[m]))))++rest:=by simp
  rw[this,List.take_append];have e:(k :: (b++(d++(c++[m])))).length=24:=by simp only[jP,iX,lE];omega
  rw[e,dM (by omega)];congr 2;omega
 unfold fW;rw[C];have A:(Cs k b d c m rest).kind=k:=rfl;rw[A];rw[o]at g;by_cases k1:k=1
 ·subst k1;have f:lH 1 m=24+(13+4 * m.toNat):=by unfold lH;rw[if_pos rfl];omega
  rw[f]at g ⊢;rw[i,if_pos rfl];congr 1;have z:(Cs 1 b d c m rest).a=kz (rest.take 13):=rfl;have y:(Cs 1 b d c m rest).l=words ((rest.drop 13).take (4 * m.toNat)):=rfl;rw[z,y,(vt m.toNat _ (by simp;omega)).1,List.take_add];congr 1;unfold pr;rw[IB (by simp;omega)];split;·rename_i e;simp only[iQb]at e;rw[e]
  exact zU (by simp;omega)
 rw[if_neg k1];by_cases q:k=3
 ·subst q;have f:lH 3 m=24+5:=by unfold lH;rfl
  rw[f]at g ⊢;rw[i,if_pos rfl];congr 1;match rest,g with
  | t :: rest,g=>simp only[jP]at g;have x:(Cs 3 b d c m (t :: rest)).to=⟨t,u32 (val (rest.take 4))⟩:=rfl;rw[x];simp only[I3 _ (show(rest.take 4).length=4 by simp;omega)];rfl
 have f:lH k m=24+0:=by unfold lH;rw[if_neg k1,if_neg q]
 rw[f,i,if_neg q];simp
def Oq(o:gI):(oU o).length=24:=by simp[oU]
def tO{o:gI}(h:r8 o=true):1<=o.serial/\o.serial<16777216/\(1<=o.s.f.n/\o.s.f.n<=1099511627776)/\1<=o.s.many/\o.s.many<=64 /\
 ((o.kind=1/\o.to=⟨0,0⟩/\(o.a=nK\/(1<=o.a.n/\o.a.n<=1099511627776))/\(o.l.length:Int)=o.s.many/\HZ o.l=true)\/(o.kind=2/\o.to=⟨0,0⟩/\o.a=nK/\o.l=[])\/(o.kind=3/\o.a=nK/\o.l=[]/\o.to.lv<=15)):=by
 simp only[r8,bI,iQb]at h;obtain⟨p,m,j,d,hm⟩:=h;have c:=Q6 d;have hi:=Kx (UR d);refine⟨m,j,hi,c.2.1,c.2.2.1,?_⟩;have g : ∀t:Lab,wS t=true->t=⟨0,0⟩:=by
  rintro⟨a,b⟩ h;simp[wS]at h;rw[h.1,h.2]
 unfold DU at hm;split at hm
 ·rename_i k1;simp only[JL,bI,jf,iQb]at hm;refine .inl ⟨k1,g _ hm.1,?_,hm.2.2.2.1,hm.2.2.2.2⟩;rcases hm.2.1 with e | e
  ·exact .inl ((xY _).1 e)
  exact .inr (Kx e)
 split at hm;·rename_i i;simp only[Qq,Bm,bI,iQb]at hm;exact .inr (.inl ⟨i,g _ hm.1,(xY _).1 hm.2.1,hm.2.2⟩)
 split at hm;·rename_i k;simp only[LJ,Bm,bI,iQb]at hm;exact .inr (.inr ⟨k,(xY _).1 hm.1.1,hm.1.2,hm.2⟩)
 cases hm
def Co(o:gI):Nat:=if o.kind=1 then 37+4 * o.s.many.toNat else if o.kind=3 then 29 else 24
def Df(a:Ay):(pr a).length=13:=by unfold pr;split<;>simp
def xh{o:gI}(h:r8 o=true):(fW o).length=Co o:=by
 have hp:=tO h;unfold fW Co;rw[iX,Oq];rcases hp.2.2.2.2.2 with ⟨k,_,_,a,_⟩ | ⟨k,_⟩ | ⟨k,_⟩
 ·rw[if_pos k,if_pos k,iX,Df,nY];omega
 ·rw[k];rfl
 rw[k];simp
end
section
attribute [local simp] aN aG ar aD aC bT kp aP ax aJ bG bF aX aO af a9 dM
def vY{o:gI}(h:r8 o=true):24<=Co o/\Co o<=293:=by
 have hp:=tO h;unfold Co;split;·omega
 split<;>omega
def acx(o:gI):AV:=if r8 o then .tup [.bE 1 (aK (fW o)) none,aI 0] else .tup [aY,aI 8]
def YE(i:UInt8)(p:UInt8)(a_3:UInt32)(h:UInt8)(j:Int)(o:UInt8)(n:UInt32)(k:UInt8)(m:Int)(f:Int)(a:UInt8)(b:UInt32)(g:UInt8)(e:Int)(c:UInt8)(d:UInt32){x:AV}{l:List Int}(u:Sl 1 (rows l) x)(t:l.length<2000000):ay env 82 [.agg [a8 i,a8 p,bY a_3,a8 h,aI j,a8 o,bY n,a8 k,aI m,aI f,a8 a,bY b,a8 g,aI e,a8 c,bY d,x]]=some (acx (⟨i,⟨p,a_3,h⟩,j,⟨⟨⟨o,n,k⟩,m⟩,f⟩,⟨⟨a,b,g⟩,e⟩,⟨c,d⟩,l⟩:gI)):=by
 unfold acx;cases s:r8 (⟨i,⟨p,a_3,h⟩,j,⟨⟨⟨o,n,k⟩,m⟩,f⟩,⟨⟨a,b,g⟩,e⟩,⟨c,d⟩,l⟩:gI) with
 | false=>rw[Vp i p a_3 h j o n k m f a b g e c d u t s];rfl
 | true=>
  have hp:=tO s;rw[if_pos rfl];unfold fW;rcases hp.2.2.2.2.2 with ⟨q,_⟩ | ⟨q,_⟩ | ⟨q,_⟩
  ·rw[Vs i p a_3 h j o n k m f a b g e c d u t s q,if_pos q]
  ·simp only at q;rw[Vr i p a_3 h j o n k m f a b g e c d u t s q,if_neg (by simp[q]),if_neg (by simp[q]),tg]
  simp only at q;rw[Vq i p a_3 h j o n k m f a b g e c d u t s q,if_neg (by simp[q]),if_pos q]
end
section
def SZ{o:gI}(h:r8 o=true)(b:List UInt8):oJ (fW o++b)=o/\rB (fW o++b)=Co o/\nR (fW o++b)=true:=by
 have hp:=tO h;have g:=xh h;obtain⟨k,hd,e,⟨f,m⟩,a,to,l⟩:=o;simp only at hp;obtain⟨F,y,⟨v,A⟩,z,w,C⟩:=hp;have D:((u8 m).toNat:Int)=m:=by rw[CT];omega
 have i:(u8 m).toNat=m.toNat:=by omega
 have d:fW ⟨k,hd,e,⟨f,m⟩,a,to,l⟩++b=k :: (cS hd++(be 3 e++(eN f++(u8 m :: ((if k=1 then pr a++bu l else if k=3 then to.lv :: be 4 to.cats.toNat else [])++b))))):=by
  simp[fW,oU]
 obtain⟨u,E⟩:=Ie k (cS hd) (be 3 e) (eN f) (u8 m) ((if k=1 then pr a++bu l else if k=3 then to.lv :: be 4 to.cats.toNat else [])++b) (by simp) (by simp) (by simp);have q:oJ (fW ⟨k,hd,e,⟨f,m⟩,a,to,l⟩++b)=⟨k,hd,e,⟨f,m⟩,a,to,l⟩:=by
  rw[d,u];unfold Cs;rw[zV,CR (by omega) (by omega),D3 (by omega) (by omega),D,i];rcases C with ⟨rfl,rfl,s,G,j⟩ | ⟨rfl,rfl,rfl,rfl⟩ | ⟨rfl,rfl,rfl,_⟩
  ·have p:(bu l).length=4 * m.toNat:=by rw[nY];omega
   simp only[if_true];rw[sh,Af (Df a),Dn (Df a),Af p,Ld _ (PC j).2.2];have:kz (pr a)=a:=by
    unfold pr;rcases s with rfl | s
    ·rfl
    split;·rename_i n;rw[(xY _).1 n];rfl
    exact D3 (by omega) (by omega)
   rw[this];rfl
  ·rfl
  obtain⟨t,c⟩:=to;have B:((t :: be 4 (c.toNat:Int))++b).drop 1=be 4 (c.toNat:Int)++b:=rfl;have x:((t :: be 4 (c.toNat:Int))++b).headD 0=t:=rfl;simp only[show ¬(3:UInt8)=1 by decide,iQe,if_true];rw[B,x,Af (Fo _ _),CU]
 have n:rB (fW ⟨k,hd,e,⟨f,m⟩,a,to,l⟩++b)=Co ⟨k,hd,e,⟨f,m⟩,a,to,l⟩:=by
  rw[d,E];unfold lH Co;rw[i]
 refine⟨q,n,?_⟩;simp only[nR,bI,iQb];rw[q,n,iX,g];exact⟨by unfold Co;split<;>first | omega | (split<;>omega),by omega,h⟩
end
section
attribute [local simp] aN aG ar aD aC bT kp aP ax aJ bG bF aX aO af a9 dM
def Tq(bs:List UInt8):Ay:=if Ao (kz bs) then kz bs else nK
def Bc(bs:List UInt8)(zero:Bool):Bool := !Ao (kz bs) && !(zero&&decide (bs=List.replicate 13 0))
structure Ti (H H':aa) (r:Ref) (x:AV) (bs:List UInt8) (a:Nat) (b:Bool) (y:AV):Prop where
 val:y = .agg [a8 (Tq bs).h.lv,bY (Tq bs).h.cats,a8 (Tq bs).h.num,aI (Tq bs).n]
 fr:Fr H'
 box:H'.get r=some (wZ x a b)
 old : ∀q c,q≠r->H.get q=some c->H'.get q=some c
def CX(dep:Nat){H:aa}{r:Ref}{x:AV}{l:List UInt8}{a:Nat}{b:Bool}(n:Nat){i:Int}{K:AV->aa->Prop}{m:Mk K}(hi:i=n)(p:Sl 1 (aK l) x)(g:a<=l.length)(f:l.length<1000000000)(k:n<1000000)
 (e:Fr H) (d:H.get r=some (wZ x a b)) (h : ∀y v c,Tk H c r x l (xT l a b n) (FC l a b n) (Cm l a b n) y v->K y c):kA (eZ env dep (.fn 194) [.ptr r 0 0,aI i] H) K m:=by
 subst hi;obtain⟨y,c,j,v,o⟩:=X8 dep n e p d g f k;exact rm j (h y v c o)
def ag2(dep:Nat){H:aa}{r:Ref}{x:AV}{l:List UInt8}{a:Nat}{b:Bool}(zero:Bool)(A:Fr H)(W:Sl 1 (aK l) x)(J:H.get r=some (wZ x a b))(K:a<=l.length)(P:l.length<1000000000) :
 ∃y N,eZ env dep (.fn 195) [.ptr r 0 0,aB zero] H=some (y,N)/\Ti H N r x (xT l a b 13) (FC l a b 13) (Cm l a b 13||Bc (xT l a b 13) zero) y:=by
 refine wo (fn:=Tryz.f195) (c:=uM) (by kernel_rfl) (by kernel_rfl) (by kernel_rfl) (by kernel_rfl) (by kernel_rfl) ?_;refine uB _ _ _ _ _ λg=>?_;have B:(H.get r).isSome=true:=by rw[J];rfl
 have Q:=Fk (f:=194) (by kernel_rfl);simp[ak, *,hJ,Q, -aG];refine CX (dep+1) 13 rfl W K P (by omega) (by simp(maxDischargeDepth:=12) [eR, *]) (by rw[aa.gS,if_neg (qY A B _ _ _)];exact J) λy v p R=>?_;obtain⟨t,fr,k,old,spot⟩:=R;have u:=zK (l:=l) (a:=a) b 13;have hG:=ac6 t.sl u;have X:ay env 87 [v,.bE 1 [a8 0,a8 0,a8 0,a8 0,a8 0,a8 0,a8 0,a8 0,a8 0,a8 0,a8 0,a8 0,a8 0] none]=some (aB (decide (xT l a b 13=List.replicate 13 0))):=DH t.sl (Sl.mk 1 (aK (List.replicate 13 0)));have S:=old ⟨dep+1,4,H.gen (dep+1) 4,0⟩ ⟨4,[.agg [a8 0,bY 0,a8 0,aI 0]],false,false⟩ (qY A B _ _ _) (by simp);have n1:(⟨dep+1,4,H.gen (dep+1) 4,0⟩:Ref)≠r:=qY A B _ _ _;have n2:=n1.symm;have l2:(p.get r).isSome=true:=by rw[k];rfl
 have Y:(p.get ⟨dep+1,4,H.gen (dep+1) 4,0⟩).isSome=true:=by rw[S];rfl
 unfold wZ at k;have d : ∀(s:aa)(y:AV)(z:Bool),y = .agg [a8 (Tq (xT l a b 13)).h.lv,bY (Tq (xT l a b 13)).h.cats,a8 (Tq (xT l a b 13)).h.num,aI (Tq (xT l a b 13)).n]->Fr s->s.get r=some ⟨3,[.agg [x,aI (FC l a b 13),aB z]],false,false⟩ ->
  (∀q c,q≠r->q≠⟨dep+1,4,H.gen (dep+1) 4,0⟩->p.get q=some c->s.get q=some c)->Ti H s r x (xT l a b 13) (FC l a b 13) z y:=by
  intro s y z V D E U;refine⟨V,D,E,λq c j o=>?_⟩;have M:q≠⟨dep+1,4,H.gen (dep+1) 4,0⟩:=λe=>qY A (by rw[o];rfl) _ _ _ e.symm;exact U q c j M (old q c j (by rw[aa.gS,if_neg (λe=>M e.symm)];exact o))
 have G:Tq (xT l a b 13)=if Ao (kz (xT l a b 13)) then kz (xT l a b 13) else nK:=rfl
 have e2:Bc (xT l a b 13) zero=(!Ao (kz (xT l a b 13)) && !(zero&&decide (xT l a b 13=List.replicate 13 0))):=rfl;generalize xT l a b 13=bs at *;generalize FC l a b 13=a' at *;generalize Cm l a b 13=b' at *;clear K old;generalize decide (bs=List.replicate 13 0)=dz at *;generalize hi:kz bs=i at *;obtain⟨⟨k1,L,O⟩,I⟩:=i;rcases t with ⟨rfl,t⟩ | ⟨q,c,fz,rfl,j,rfl,o⟩
 ·have Z:=t.r;cases F:Ao ⟨⟨k1,L,O⟩,I⟩<;>cases zero<;>cases b';all_goals simp[ak, *,hJ,nK]
  all_goals
   refine d _ _ _ ?_ (by simp(maxDischargeDepth:=12) [eR, *]) ?_ ?_;·simp[G,F,nK]
   ·simp[aa.ad,xH,xI, *]
   intro q c j m o
   have T:(p.get q).isSome=true:=by rw[o];rfl
   have C:=j.symm
   have w:=m.symm
   simp[aa.ad,xH,xI, *]
 have l4:(p.get q).isSome=true:=by rw[j];rfl
 cases F:Ao ⟨⟨k1,L,O⟩,I⟩<;>cases zero<;>cases b';all_goals simp[ak, *,hJ,nK]
 all_goals
  refine d _ _ _ ?_ (by simp(maxDischargeDepth:=12) [eR, *]) ?_ ?_;·simp[G,F,nK]
  ·simp[aa.ad,xH,xI, *]
  intro q c j m o
  have T:(p.get q).isSome=true:=by rw[o];rfl
  have C:=j.symm
  have w:=m.symm
  simp[aa.ad,xH,xI, *]
@[simp] def aiy(a:UInt8)(b:UInt32):ay env 132 [.agg [a8 a,bY b]]=some (aB (decide (a<=15))):=by
 refine aH rfl (by kernel_rfl) (zG _ _ _ λg=>?_);simp[ak, *,sX]
@[simp] def DF(a:UInt8)(b:UInt32)(n:UInt8):ay env 96 [.agg [a8 a,bY b,a8 n]]=some (aB (gE ⟨a,b,n⟩)):=by
 refine aH rfl (by kernel_rfl) (uR _ _ _ λg=>?_);simp[ak, *,oD,gE];repeat' ((first | apply qO<;>intro h | apply mK<;>intro h | apply mL<;>intro h | apply mI<;>intro h | apply mJ<;>intro h)<;>(try simp only[iQb,iQc,ij,pO,bI,jf]at h)<;>(try simp[ak, *]))
@[simp] def aix(a:UInt8)(b:UInt32)(n:UInt8)(k:Int):ay env 135 [.agg [a8 a,bY b,a8 n,aI k]]=some (aB (Ao ⟨⟨a,b,n⟩,k⟩)):=by
 refine aH rfl (by kernel_rfl) (zE _ _ _ λg=>?_);simp[ak, *,sV,Ao];repeat' ((first | apply qO<;>intro h | apply mK<;>intro h | apply mL<;>intro h | apply mI<;>intro h | apply mJ<;>intro h)<;>(try simp only[iQb,iQc,ij,pO,bI,jf]at h)<;>(try simp[ak, *]))
@[simp] def abZ(a:UInt8)(b:UInt32)(n:UInt8)(k m:Int):ay env 133 [.agg [a8 a,bY b,a8 n,aI k,aI m]]=some (aB (oS ⟨⟨⟨a,b,n⟩,k⟩,m⟩)):=by
 refine aH rfl (by kernel_rfl) (vU _ _ _ λg=>?_);cases d:Ao ⟨⟨a,b,n⟩,k⟩ with
 | false=>simp[ak, *,gG,oS]
 | true=>
  have c:=Kx d;simp only at c;by_cases j:1<=m
  ·by_cases i:m<=64
   ·have f:=iQa (1099511627777 - m) (by omega);have e:decide (k+m - 1<=1099511627776)=decide (k<=1099511627777 - m):=by
     by_cases h:k<=1099511627777 - m;·rw[iQi h,iQi (by omega)]
     rw[iQh h,iQh (by omega)]
    simp[ak, *,gG,oS]
   simp[ak, *,gG,oS]
  simp[ak, *,gG,oS]
@[simp] def agd(a:UInt8)(b:UInt32)(n:UInt8)(k:Int):ay env 134 [.agg [a8 a,bY b,a8 n,aI k]]=some (aB (lD ⟨⟨a,b,n⟩,k⟩)):=by
 refine aH rfl (by kernel_rfl) (yz _ _ _ λg=>?_);simp[ak, *,rV,mV,fN,lD]
@[simp] def Vi(n:Int):ay env 165 [aI n]=some (aB (uT n)):=by
 refine aH rfl (by kernel_rfl) (Av _ _ _ λg=>?_);have e:uT n=(decide (0<=n)&&(decide (n<=1114111)&&(decide (n<55296)||decide (57343<n)))):=by
  unfold uT;rw[Bool.eq_iff_iff];simp only[jf,bI,iQb];omega
 rw[e];simp[ak, *,tB];repeat' ((first | apply qO<;>intro h | apply mK<;>intro h | apply mL<;>intro h | apply mI<;>intro h | apply mJ<;>intro h)<;>(try simp only[iQb,iQc,ij,pO,bI,jf]at h)<;>(try simp[ak, *]))
def LK{l:List Int}{x0:AV}(d:Sl 1 (rows l) x0)(u:l.length<4611686018427387904)(o : ∀a∈l, -2147483648<=a/\a<=2147483647){Q:AV->aa->Prop}{H:aa} :
 ∀(s:List Int)(k:Nat)(i:Int),l.drop k=s->k<=l.length->i=k->(∀y,y=aI (bad (s.all iY))->Q y H) ->
 cy env Tryz.f136 0 jn [(3,aI i),(0,x0)] H Q:=by
 intro s;induction s with
 | nil=>rintro k i hs hk rfl hQ;obtain rfl:=drop_nil hs hk;refine o7 _ _ _ _ λg=>?_;simp[ak, *,gH,d.r];all_goals exact hQ _ rfl
 | cons a s j=>
  rintro k i hs hk rfl hQ;obtain⟨n,q,f,p⟩:=drop_cons hs;have v:=o a (by rw[<-q];exact fj _);refine o7 _ _ _ _ λg=>?_;have w:=iQa ((k:Int)+1) (by omega);have t:=iQa a (by omega);have c:iY a=(decide (a = -1)||uT a):=by simp[iY,uT,Bool.or_assoc]
  by_cases m:a = -1;·subst m;have b : ∀y,y=aI (bad (s.all iY))->Q y H:=λy e=>hQ y (by rw[e];simp[iY]);clear hQ;simp[ak, *,gH,d.r,d.idx,aR];exact j (k+1) _ f (by omega) (by simp) b
  cases h:uT a with| true=>have b : ∀y,y=aI (bad (s.all iY))->Q y H:=λy e=>hQ y (by rw[e];simp[c,h]);clear hQ c;simp[ak, *,gH,d.r,d.idx,aR];exact j (k+1) _ f (by omega) (by simp) b| false=>have b : ∀y,y=aI 8->Q y H:=λy e=>hQ y (by rw[e];simp[c,h,m]);clear hQ c;simp[ak, *,gH,d.r,d.idx,aR];all_goals exact b _ rfl
def SG{l:List Int}{x:AV}(c:Sl 1 (rows l) x)(f:l.length<4611686018427387904)(d : ∀a∈l, -2147483648<=a/\a<=2147483647):ay env 136 [x]=some (aI (yM l)):=by
 refine aH rfl (by kernel_rfl) (xE _ _ _ λg=>?_);by_cases b:64<l.length
 ·have:(64:Int)<l.length:=by omega
  simp[ak, *,mP,yM,c.r]
 have : ¬(64:Int)<l.length:=by omega
 have e:yM l=bad (l.all iY):=by unfold yM bad;rw[if_neg b]
 simp[ak, *,mP,c.r];exact LK c f d l 0 _ rfl (by omega) rfl (λy e=>by simp[e])
def Gq(m:UInt8)(s:UInt8)(a_3:UInt32)(n:UInt8)(f:Int)(q:UInt8)(p:UInt32)(o:UInt8)(t:Int)(j:Int)(b:UInt8)(c:UInt32)(e:UInt8)(d:Int)(h:UInt8)(i:UInt32){x:AV}{l:List Int}(k:Sl 1 (rows l) x)(N:l.length<2000000)(J : ∀a∈l, -2147483648<=a/\a<=2147483647):ay env 97 [.agg [a8 m,a8 s,bY a_3,a8 n,aI f,a8 q,bY p,a8 o,aI t,aI j,a8 b,bY c,a8 e,aI d,a8 h,bY i,x]]=some (aB (r8 (⟨m,⟨s,a_3,n⟩,f,⟨⟨⟨q,p,o⟩,t⟩,j⟩,⟨⟨b,c,e⟩,d⟩,⟨h,i⟩,l⟩:gI))):=by
 refine aH rfl (by kernel_rfl) (zA _ _ _ λg=>?_);have O:=SG k (by omega) J;have L:=EY l;unfold r8;cases M:gE ⟨s,a_3,n⟩ with
 | false=>simp[ak, *,bg,k.r]
 | true=>
 rcases GS f 1 with A | F
 ·have F : ¬1<=f:=by omega
  simp[ak, *,bg,k.r]
 have A : ¬f<1:=by omega
 rcases GS f 16777216 with I | C
 rotate_left
 ·have I : ¬f<16777216:=by omega
  simp[ak, *,bg,k.r]
 have C : ¬16777216<=f:=by omega
 cases P:oS ⟨⟨⟨q,p,o⟩,t⟩,j⟩ with| false=>simp[ak, *,bg,k.r]| true=>
 by_cases k1:m=1
 ·subst k1;unfold DU;simp only[JL,if_true];cases y:wS (⟨h,i⟩:Lab) with
  | false=>unfold wS at y;simp[ak, *,bg,k.r,mV,fN]
  | true=>
   unfold wS at y;cases D:HO ⟨q,p,o⟩ ⟨s,a_3,n⟩ with
   | false=>
    unfold HO at D;cases v:lD (⟨⟨b,c,e⟩,d⟩:Ay) with
    | false=>cases E:Ao (⟨⟨b,c,e⟩,d⟩:Ay)<;>simp[ak, *,bg,k.r,mV,fN]
    | true=>simp[ak, *,bg,k.r,mV,fN]
   | true=>
    unfold HO at D;by_cases R:(l.length:Int)=j
    ·cases v:lD (⟨⟨b,c,e⟩,d⟩:Ay) with| false=>cases E:Ao (⟨⟨b,c,e⟩,d⟩:Ay)<;>simp[ak, *,bg,k.r,mV,fN]| true=>simp[ak, *,bg,k.r,mV,fN]
    cases v:lD (⟨⟨b,c,e⟩,d⟩:Ay) with| false=>cases E:Ao (⟨⟨b,c,e⟩,d⟩:Ay)<;>simp[ak, *,bg,k.r,mV,fN]| true=>simp[ak, *,bg,k.r,mV,fN]
 by_cases u:Bm (⟨m,⟨s,a_3,n⟩,f,⟨⟨⟨q,p,o⟩,t⟩,j⟩,⟨⟨b,c,e⟩,d⟩,⟨h,i⟩,l⟩:gI)=true
 ·have w:=u;simp only[Bm,bI,iQb]at w;obtain⟨v,z⟩:=w;subst z;unfold DU;by_cases K:m=2
  ·subst K;simp only[Qq,if_true];cases y:wS (⟨h,i⟩:Lab) with
   | false=>unfold wS at y;simp[ak, *,bg,k.r,mV,fN]
   | true=>unfold wS at y;simp[ak, *,bg,k.r,mV,fN]
  by_cases H:m=3;·subst H;simp only[LJ,if_true];simp[ak, *,bg,k.r,mV,fN]
  simp[ak, *,bg,k.r,mV,fN]
 have Q:DU (⟨m,⟨s,a_3,n⟩,f,⟨⟨⟨q,p,o⟩,t⟩,j⟩,⟨⟨b,c,e⟩,d⟩,⟨h,i⟩,l⟩:gI)=false:=(by have B:Bm (⟨m,⟨s,a_3,n⟩,f,⟨⟨⟨q,p,o⟩,t⟩,j⟩,⟨⟨b,c,e⟩,d⟩,⟨h,i⟩,l⟩:gI)=false:=(by simpa using u);unfold DU Qq LJ;rw[B];simp[k1]);simp only[Bm,bI,iQb,not_and]at u;cases v:lD (⟨⟨b,c,e⟩,d⟩:Ay) with
 | false=>clear u;simp[ak, *,bg,k.r,mV,fN]
 | true=>have z:0<l.length:=yd.2 (u v);have G : ¬l=[]:=u v;clear u;simp[ak, *,bg,k.r,mV,fN]
@[simp] def aao(g:dv)(k:Nat)(n:Int):aj g k (aR n)=[]:=by cases k<;>rfl
def PR{P:Program}{g:dv}{r:Ref}{src dst:TypeId}(a:(P.underlying src).isNone=false)(hd:intKind P dst=some .i32)(x:UInt32) :
 cE P g r src dst (some (bY x))=some (aR (IntKind.i32.wrap x.toNat),[]):=by
 unfold bY;rw[pC P .i32 a hd];rfl
def R3(a b c d:UInt8):(((((a.toUInt32 <<< 24) ||| (b.toUInt32 <<< 16)) ||| (c.toUInt32 <<< 8)) ||| d.toUInt32).toNat:Int)=val [a,b,c,d]:=by
 have o:=a.toNat_lt;have p:=b.toNat_lt;have q:=c.toNat_lt;have hd:=d.toNat_lt;have g:(a.toUInt32 <<< 24).toNat=a.toNat * 16777216:=by
  rw[K6];simp[KY];omega
 have n:(b.toUInt32 <<< 16).toNat=b.toNat * 65536:=by
  rw[K6];simp[KY];omega
 have i:(c.toUInt32 <<< 8).toNat=c.toNat * 256:=by
  rw[K6];simp[KY];omega
 have j:d.toUInt32.toNat=d.toNat:=by simp
 have e : ∀(x k y:Nat),y<2 ^ k->(x * 2 ^ k) ||| y=x * 2 ^ k+y:=by
  intro x k y h;rw[KN,Ug h]
 simp only[UInt32.toNat_or,g,n,i,j];have l:a.toNat * 16777216 ||| b.toNat * 65536=(a.toNat * 256+b.toNat) * 65536:=by
  have:=e a.toNat 24 (b.toNat * 65536) (by omega);simp only[Nat.reducePow]at this;rw[this];omega
 have f:(a.toNat * 256+b.toNat) * 65536 ||| c.toNat * 256=((a.toNat * 256+b.toNat) * 256+c.toNat) * 256:=by
  have:=e (a.toNat * 256+b.toNat) 16 (c.toNat * 256) (by omega);simp only[Nat.reducePow]at this;rw[this];omega
 have m:((a.toNat * 256+b.toNat) * 256+c.toNat) * 256 ||| d.toNat=(((a.toNat * 256+b.toNat) * 256+c.toNat) * 256+d.toNat):=by
  have:=e ((a.toNat * 256+b.toNat) * 256+c.toNat) 8 d.toNat (by omega);simp only[Nat.reducePow]at this;rw[this]
 rw[l,f,m];simp[val,vp];omega
structure T2 (r r2:Ref) (info:AV) (H:aa) (out:List Int):Prop where
 fr:Fr H
 mark:H.get r=some (eU 0 info)
 n1:r2≠r
 box:(H.get r2=some ⟨1,[aY],false,false⟩/\out=[]) \/∃q:Ref,q.d=2/\q.t=43/\q.k=0/\q≠r/\q≠r2/\H.get r2=some ⟨1,[.ct q 0 out.length none],false,false⟩/\H.get q=some ⟨1,rows out,true,false⟩/\0<out.length
def Tw{r r2:Ref}{tm:List AV}{H:aa}{out:List Int}{ps:List Tmp}(j:ps=[17])(k:dE tm 2 = .ptr r2 0 0)(v:T2 r r2 (.lp 0 50 ps fw fv tm) H out)(u:out.length<60000000)(a b c d:UInt8)(f:Option Nat)(C:4<=f.getD 4) :
 ∃y o,eZ env 1 (.yld r) [.bE 1 [a8 a,a8 b,a8 c,a8 d] f] H=some (y,o)/\(y=aB true/\T2 r r2 (.lp 0 50 ps fw fv tm) o (out++[word a b c d])):=by
 subst j;refine Ku (fn:=Tryz.f196) (dep:=1) v.mark (by kernel_rfl) rfl rfl (by kernel_rfl) (by kernel_rfl) ?_;rw[<-DQ (s:=dE (vZ tm [17] [.bE 1 [a8 a,a8 b,a8 c,a8 d] f])) (l:=[(2,.ptr r2 0 0),(17,.bE 1 [a8 a,a8 b,a8 c,a8 d] f)]) (by
  intro p hp;simp only[fR,Dq,iQu]at hp;rcases hp with rfl | rfl
  ·show dE (CV tm 17 _) 2=_;rw[tI];simpa using k
  show dE (CV tm 17 _) 17=_;rw[tI];simp)]
 refine(CP r _ _ _ _ λg=>?_).h _;obtain⟨fr,mark,n1,box⟩:=v;have z:=n1.symm;have G:(H.get r).isSome=true:=by rw[mark];rfl
 have e:=λ(g:dv)(r:Ref)=>PR (P:=env.P) (g:=g) (r:=r) (src:=34) (dst:=21) (by kernel_rfl) (by kernel_rfl) ((((a.toUInt32 <<< 24) ||| (b.toUInt32 <<< 16)) ||| (c.toUInt32 <<< 8)) ||| d.toUInt32);rw[R3]at e;have n:IntKind.i32.wrap (val [a,b,c,d])=word a b c d:=rfl;rw[n]at e;clear n;rcases box with ⟨i,rfl⟩ | ⟨q,m,w,t,n2,A,i,D,J⟩
 ·have E:(H.get r2).isSome=true:=by rw[i];rfl
  simp[ak, *,rp,sD,aa.ad];refine⟨_,rfl,⟨by simp(maxDischargeDepth:=12) [eR, *],by simp(maxDischargeDepth:=12) [eR, *],n1,.inr ⟨⟨2,43,H.gen 2 43,0⟩,rfl,rfl,rfl,by simp(maxDischargeDepth:=12) [eR, *],by simp(maxDischargeDepth:=12) [eR, *],by simp(maxDischargeDepth:=12) [eR, *],?_,by simp⟩⟩⟩;simp[aa.ad,rows,xH,xI, *]
 have E:(H.get r2).isSome=true:=by rw[i];rfl
 have I:(H.get q).isSome=true:=by rw[D];rfl
 have B:=n2.symm;have x:=A.symm;obtain⟨M,F,L,O⟩:=q;simp only at m w t;subst m w t;have K:out.length+1<=17592186044416:=by omega
 have N:(out.length+1) * 4<=140737488355328:=(by omega);simp[ak, *,rp,sD,aa.ad];refine⟨_,rfl,⟨by simp(maxDischargeDepth:=12) [eR, *],by simp(maxDischargeDepth:=12) [eR, *],n1,.inr ⟨⟨2,43,H.gen 2 43,0⟩,rfl,rfl,rfl,by simp(maxDischargeDepth:=12) [eR, *],by simp(maxDischargeDepth:=12) [eR, *],by simp(maxDischargeDepth:=12) [eR, *],?_,by simp⟩⟩⟩;simp[aa.ad,rows,xH,xI, *]
def Qr{r r2:Ref}{tm:List AV}(j:dE tm 2 = .ptr r2 0 0){bs:List UInt8}{x:AV}(t:Sl 1 (aK bs) x)(D:bs.length<60000000){Q:AV->aa->Prop} :
 ∀(m k:Nat)(s:List UInt8)(i:Int)(out:List Int)(H:aa),bs.drop k=s->s.length=4 * m->k<=bs.length->i=k->out.length<=k ->
 T2 r r2 (.lp 0 50 [17] fw fv tm) H out ->
 (∀y e,T2 r r2 (.lp 0 50 [17] fw fv tm) e (out++words s)->Q y e) ->
 cy env Tryz.f145 (0+1) dy [(2,.iptr 1 [aI 4] 0 0),(4,aI i),(1,.iptr 1 [x] 0 0),(0,.yld r)] H Q:=by
 intro m;induction m with
 | zero=>
  rintro k s i out H hs hm hk rfl ho hI hQ;obtain rfl:s=[]:=si.1 (by omega);have hd:=iQf List.length hs;rw[oZ,lE]at hd;have u : ¬(k:Int)<bs.length:=by omega
  have q:=t.r;refine eB _ _ _ _ _ _ _ λg=>?_;simp[ak, *,dB];exact hQ _ _ (by simpa [words] using hI)
 | succ m A=>
  rintro k s i out H hs hm hk rfl ho hI hQ;match s,hm with
  | a :: b :: c :: d :: s,hm=>
  simp only[jP]at hm;have hd:=iQf List.length hs;rw[oZ]at hd;simp only[jP]at hd;have n:0<(aK bs).length:=by simp;omega
  obtain⟨w,rfl,f⟩:=nU t n;have l:bs.drop (k+4)=s:=(by rw[<-pN,hs];rfl);have B:(k:Int)<bs.length:=(by omega);have C:=iQa ((k:Int)) (by omega);have I:=iQa ((k:Int)+4) (by omega);have G:(aK bs).drop k=a8 a :: a8 b :: a8 c :: a8 d :: aK s:=(by have:(aK bs).drop k=aK (bs.drop k):=(by simp[aK]);rw[this,hs];rfl);have F : ¬(4 * ((m:Int)+1)<4):=(by omega);have v:((k:Int)+4).toNat - k=4:=(by omega);have z:(k:Int)<=k+4/\(k:Int)+4<=w.getD bs.length/\(k:Int)+4<=bs.length:=(by have:(aK bs).length=bs.length:=(by simp);rw[this]at f;omega);obtain⟨y,e,E,rfl,o⟩:=Tw rfl j hI (by omega) a b c d (some 4) (by simp);have p:words (a :: b :: c :: d :: s)=word a b c d :: words s:=rfl;rw[p]at hQ;clear p f;refine eB _ _ _ _ _ _ _ λg=>?_;simp[ak, *,dB,Bi];exact A (k+4) s ((k:Int)+4) (out++[word a b c d]) e l (by omega) (by omega) (by simp) (by simp;omega) o (λy e h=>hQ y e (by simpa using h))
def TF{r r2:Ref}{tm:List AV}(a:dE tm 2 = .ptr r2 0 0){bs:List UInt8}{x:AV}(i:Sl 1 (aK bs) x)(f:bs.length<60000000){m:Nat}(d:bs.length=4 * m){H:aa}
 (e:T2 r r2 (.lp 0 50 [17] fw fv tm) H []) :
 ∃y b,eZ env 0 (.fn 145) [.yld r,.iptr 1 [x] 0 0,.iptr 1 [aI 4] 0 0] H=some (y,b)/\T2 r r2 (.lp 0 50 [17] fw fv tm) b (words bs):=by
 refine wo (fn:=Tryz.f145) (c:=nm) (by kernel_rfl) (by kernel_rfl) (by kernel_rfl) (by kernel_rfl) (by kernel_rfl) ?_;refine mY _ _ _ _ _ _ λg=>?_;simp[ak, *,jY];exact Qr a i f m 0 bs _ [] H rfl d (by omega) rfl (by simp) e (λy b h=>by simpa using h)
def ab9:lS = .code (.rangeFunc (.tmp 16) #[17] fw fv) :: wb:=by kernel_rfl
def YL{bs:List UInt8}{x:AV}(a:Sl 1 (aK bs) x):ay env 107 [x,aI 4]=some (.fn (.func 145) [] [.iptr 1 [x] 0 0,.iptr 1 [aI 4] 0 0]):=by
 refine aH rfl (by kernel_rfl) (ov _ _ _ _ λg=>?_);have b:=a.r;simp[ak, *,kO]
def gK(l:List Int):AV:=if l=[] then aY else .bE 1 (rows l) none
def jG(l:List Int):Sl 1 (rows l) (gK l):=by
 unfold gK;split;·rename_i h;subst h;exact .inl ⟨rfl,rfl⟩
 exact .inr ⟨_,rfl,by simp⟩
def Yu{bs:List UInt8}{x:AV}(n:Sl 1 (aK bs) x){m:Nat}(a:bs.length=4 * m)(u:m<=64) :
 ay env 196 [x]=some (if yM (words bs)=0 then .tup [A0 1 (rows (words bs)),aI 0] else .tup [aY,aI (yM (words bs))]):=by
 refine aH rfl (by kernel_rfl) (Lj _ _ _ λg=>?_);have F:=n.r;have N:=YL n;have B : ¬((256:Int)<4 * m):=by omega
 have M:((4:Int) * m).tmod 4=0:=by rw[Aj (by omega)];omega
 have c:(words bs).length<4611686018427387904:=by have:=(vt m bs a).2;omega
 have b:=EW (jG (words bs)) c;have k:=λt xo yo=>jg env.P t xo yo .i64 (4 * (m:Int)) 4 (by decide);simp[ak, *,Ek];rw[ab9];refine⟨λL=>IF (gi:=145) (first:=[]) (captured:=[.iptr 1 [x] 0 0,.iptr 1 [aI 4] 0 0]) rfl ?_⟩;intro tm A;have G:dE tm 2 = .ptr ⟨0,2,0,0⟩ 0 0:=(A 2).trans rfl;rw[show Tryz.f196.ntmps=50 from by kernel_rfl];obtain⟨y,D,K,a⟩:=TF (r:=⟨0,50,0,0⟩) (r2:=⟨0,2,0,0⟩) (tm:=tm)
  (H:=(⟨0,50,0,0⟩,some (eU 0 (.lp 0 50 [17] fw fv tm))) :: [(⟨0,2,0,0⟩,some ⟨1,[aY],false,false⟩)])
  G n (by omega) a ⟨by simp(maxDischargeDepth:=12) [Gk, *],by simp,by decide,.inl ⟨by simp,rfl⟩⟩
 refine⟨y,D,0,_,by simpa using K,by simp only[aa.D7,aa.RI];rw[sD];exact(iQf lpO a.mark).trans (Bb _ _),.inl ⟨rfl,?_⟩⟩;have v:=DQ (s:=OK L [(16,AV.fn (.func 145) [] [.iptr 1 [x] 0 0,.iptr 1 [aI 4] 0 0]),(2,AV.ptr ⟨0,2,0,0⟩ 0 0)]) (l:=[(2,AV.ptr ⟨0,2,0,0⟩ 0 0)]) (by
  intro p hp;simp only[fR,Dq,iQu]at hp;subst hp;rfl)
 rw[<-v];refine(BY _ _ _ λg=>?_).h _;have n1:(⟨0,2,0,0⟩:Ref)≠⟨0,50,0,0⟩:=a.n1;have f:=a.box;clear v k B M N F A;generalize words bs=ws at *;rcases f with ⟨E,rfl⟩ | ⟨q,O,R,Q,n2,I,E,S,z⟩
 ·have d:gK []=aY:=rfl;have o:yM []=0:=rfl;rw[d,o]at b;simp[ak, *,qz,aa.ad];all_goals rfl
 have d:gK ws = .bE 1 (rows ws) none:=by unfold gK;rw[if_neg (by rintro rfl;simp at z)]
 have j:rows ws≠[]:=by intro e;have:=iQf List.length e;simp at this;subst this;simp at z
 rw[d]at b;rw[DO 1 j];generalize i:rows ws=rw' at *;have w:rw'.length=ws.length:=by rw[<-i];simp
 have J:=n2.symm;have C:=I.symm;by_cases o:yM ws=0<;>simp[ak, *,qz,aa.ad]
def ag1(dep:Nat){H:aa}{r:Ref}{x:AV}{l:List UInt8}{a:Nat}{b:Bool}(zero:Bool){K:AV->aa->Prop}{m:Mk K}(k:Sl 1 (aK l) x)(g:a<=l.length)(f:l.length<1000000000)
 (e:Fr H) (d:H.get r=some (wZ x a b)) (h : ∀y c,Ti H c r x (xT l a b 13) (FC l a b 13) (Cm l a b 13||Bc (xT l a b 13) zero) y->K y c):kA (eZ env dep (.fn 195) [.ptr r 0 0,.v (.bool zero)] H) K m:=by
 obtain⟨y,c,i,j⟩:=ag2 dep zero e k d g f;exact rm i (h y c j)
def Tk.pick{H e:aa}{r:Ref}{x:AV}{l bs:List UInt8}{a:Nat}{b:Bool}{y v:AV}(n:Tk H e r x l bs a b y v)(i:Nat){j:Int}(h:j=i)(hi:i<bs.length) :
 ∃p,cb env.P e.get 76 (some y) (some (.v (.int .i64 j)))=some (p,[])/\oT env.P e.get 5 (some p)=some (a8 (bs.getD i 0),[])/\(∀r i j,r.t≠31->qu p (.ptr r i j)=true)/\(∀r i j,r.t≠31->qu y (.ptr r i j)=true):=by
 subst h;obtain⟨seen,fr,box,old,spot⟩:=n;have u:bs[i]?=some (bs.getD i 0):=by simp[hi]
 have k:(i:Int)<bs.length:=by omega
 rcases seen with ⟨rfl,m⟩ | ⟨q,c,fz,rfl,g,rfl,o⟩
 ·obtain⟨s,rfl,o⟩:=nU m (by simp;omega);refine⟨.iptr 1 (aK bs) i 0,?_,?_,λ_ _ _ _=>rfl,λ_ _ _ _=>rfl⟩;·simp[hi]
  simp[aK,hi]
 have d:=spot q rfl;refine⟨.ptr q i 0,?_,?_,λr i j f=>?_,λr i j f=>?_⟩;·simp[g,hi]
 ·simp[aK,hi,g]
 ·simp;rintro rfl;exact f d
 simp;rintro rfl;exact f d
def gps(H:aa)(r:Ref)(c:bC):(H.put r (some c)).get r=some c:=by rw[aa.ad,if_pos rfl]
def Fe(bs:List UInt8):R1:=if gE (iZ bs) then iZ bs else ⟨0,0,0⟩
def Qj{v:AV}{l:List UInt8}(a:Sl 1 (aK l) v)(b:l.length=6):ay env 175 [v]=some (.tup [.agg [a8 (Fe l).lv,bY (Fe l).cats,a8 (Fe l).num],aI (bad (gE (iZ l)))]):=by
 rw[NV a b];unfold Fe;cases gE (iZ l)<;>rfl
def Ye(a b c:UInt8):orI (orI ((a.toNat:Int) * 65536) ((b.toNat:Int) * 256)) (c.toNat:Int)=val [a,b,c]:=by
 have g:=a.toNat_lt;have h:=b.toNat_lt;have i:=c.toNat_lt;have d:=LO (a:=(a.toNat:Int)) (b:=(b.toNat:Int) * 256) (k:=16) (by omega) (by omega) (by omega) (by omega) (by omega);simp only[Nat.reducePow,Int.reducePow]at d;rw[d];have e:=LO (a:=(a.toNat:Int) * 256+b.toNat) (b:=(c.toNat:Int)) (k:=8) (by omega) (by omega) (by omega) (by omega) (by omega);simp only[Nat.reducePow,Int.reducePow]at e;have f:(a.toNat:Int) * 65536+b.toNat * 256=((a.toNat:Int) * 256+b.toNat) * 256:=by omega
 rw[f,e];simp[val,vp];omega
def pJ:AV := .tup [.agg [a8 0,a8 0,bY 0,a8 0,aI 0,a8 0,bY 0,a8 0,aI 0,aI 0,a8 0,bY 0,a8 0,aI 0,a8 0,bY 0,aY],aI 0,aI 8]
def B8(o:gI):List AV:=[a8 o.kind,a8 o.h.lv,bY o.h.cats,a8 o.h.num,aI o.serial,a8 o.s.f.h.lv,bY o.s.f.h.cats,a8 o.s.f.h.num,aI o.s.f.n,aI o.s.many,a8 o.a.h.lv,bY o.a.h.cats,a8 o.a.h.num,aI o.a.n,a8 o.to.lv,bY o.to.cats]
def qx(l:List UInt8):AV:=if nR l then .tup [.agg (B8 (oJ l)++[A0 1 (rows (oJ l).l)]),aI (rB l),aI 0] else pJ
def Eh{l:List UInt8}(h:24<=l.length->rB l<=l.length->r8 (oJ l)=false):qx l=pJ:=by
 unfold qx;rw[if_neg];intro a;simp only[nR,bI,iQb]at a;rw[h a.1 a.2.1]at a;exact absurd a.2.2 (by decide)
def qD{l:List UInt8}{a n:Nat}{b:Bool}(h:Cm l a b n=false):b=false/\a+n<=l.length/\FC l a b n=a+n/\xT l a b n=(l.drop a).take n:=by
 unfold FC xT;rw[h];simp only[Cm,G1,iQc]at h;exact⟨h.1,by omega,rfl,rfl⟩
def zJ{l:List UInt8}{a n:Nat}(h:a+n<=l.length):Cm l a false n=false/\FC l a false n=a+n/\xT l a false n=(l.drop a).take n:=by
 have e:Cm l a false n=false:=by simp only[Cm,Cc,iQc];omega
 obtain⟨_,_,c,b⟩:=qD e;exact⟨e,c,b⟩
def ID(l:List UInt8)(n:Nat):((l.drop n).take 1).getD 0 0=(l.drop n).headD 0:=by
 cases l.drop n<;>rfl
def Zd{o:gI}(h:gE o.h=false):r8 o=false:=by simp[r8,h]
def Ru{o:gI}(h:oS o.s=false):r8 o=false:=by simp[r8,h]
def acG{o:gI}(h:Ao o.s.f=false):r8 o=false:=Ru (by simp[oS,h])
def LQ{o:gI}(h:DU o=false):r8 o=false:=by simp[r8,h]
def HX(l:List Int):(A0 1 (rows l)=aY/\gK l=aY)\/(A0 1 (rows l) = .fsl 1 (rows l) none/\gK l = .bE 1 (rows l) none):=by
 by_cases h:l=[];·subst h;exact .inl ⟨rfl,rfl⟩
 exact .inr ⟨DO 1 (by simpa using h),by unfold gK;rw[if_neg h]⟩
def YF{l:List UInt8}{x:AV}(hx:Sl 1 (aK l) x)(hl:l.length<60000000):ay env 176 [x]=some (qx l):=by
 refine aH rfl (by kernel_rfl) (R9 _ _ _ λg=>?_);have hr:=hx.r;have hT:=Fk (f:=194) (by kernel_rfl);have hTi:=Fk (f:=195) (by kernel_rfl);simp[ak, *,KJ,hT,hTi];refine CX 0 (a:=0) (b:=false) 1 rfl hx (Ae _) (by omega) (by omega) (by simp(maxDischargeDepth:=12) [eR, *]) (by simp[wZ]) λy1 v1 H1 E=>?_;obtain⟨p1,hp1,hl1,_⟩:=E.pick (j:=0) 0 rfl (by rw[zK];omega);have hb1:=E.old ⟨0,2,0,0⟩ _ (by decide) rfl;have hF1:=E.fr;have hr1:=E.box;have ha1:=ES (l:=l) (a:=0) false 1 (Ae _);clear E;generalize hA1:FC l 0 false 1=A1 at *;generalize hB1:Cm l 0 false 1=B1 at *;generalize hk0:(xT l 0 false 1).getD 0 0=k at *;simp[ak, *,aa.ad];have s1:(H1.get ⟨0,2,0,0⟩).isSome=true:=by rw[hb1];rfl
 refine CX 0 (a:=A1) (b:=B1) 6 rfl hx ha1 (by omega) (by omega) (by simp(maxDischargeDepth:=12) [eR, *]) (by simp(maxDischargeDepth:=12) [eR, *]) λy2 v2 H2 hk2=>?_;have hb2:=hk2.old ⟨0,2,0,0⟩ _ (by decide) (gps _ _ _);have hG:=Qj hk2.seen.sl (zK _ _);have hs2:=hk2.seen.r;have hF2:=hk2.fr;have hr2:=hk2.box;have ha2:=ES (l:=l) B1 6 ha1;clear hk2 hb1 hr1 hp1 hl1;generalize hA2:FC l A1 B1 6=A2 at *;generalize hB2:Cm l A1 B1 6=B2 at *;generalize hh2:Fe (xT l A1 B1 6)=hh at *;obtain⟨F,J,G⟩:=hh;have s2:(H2.get ⟨0,2,0,0⟩).isSome=true:=by rw[hb2];rfl
 have s2r:(H2.get ⟨0,17,0,0⟩).isSome=true:=by rw[hr2];rfl
 generalize hf2:bad (gE (iZ (xT l A1 B1 6)))=f at *;simp[ak, *,aa.ad];refine CX 0 (a:=A2) (b:=B2) 3 rfl hx ha2 (by omega) (by omega) (by simp(maxDischargeDepth:=12) [eR, *]) (by simp(maxDischargeDepth:=12) [eR, *]) λy3 v3 H3 B=>?_;have hb3:=B.old ⟨0,2,0,0⟩ _ (by decide) (by rw[aa.gS,if_neg (by simp)];exact hb2);have hb8:=B.old ⟨0,8,H2.gen 0 8,0⟩ ⟨3,[.agg [a8 F,bY J,a8 G]],false,false⟩ (by simp) (by simp);have hl3:=zK (l:=l) (a:=A2) B2 3;obtain⟨p30,hp30,hv30,hn30,hny3⟩:=B.pick (j:=0) 0 rfl (by omega);obtain⟨p31,hp31,hv31,hn31,_⟩:=B.pick (j:=1) 1 rfl (by omega);obtain⟨p32,hp32,hv32,hn32,_⟩:=B.pick (j:=2) 2 rfl (by omega);have hF3:=B.fr;have hr3:=B.box;have ha3:=ES (l:=l) B2 3 ha2;clear B hb2 hr2 hs2 hG;generalize hA3:FC l A2 B2 3=A3 at *;generalize hB3:Cm l A2 B2 3=B3 at *;have s3:(H3.get ⟨0,2,0,0⟩).isSome=true:=by rw[hb3];rfl
 have s3r:(H3.get ⟨0,17,0,0⟩).isSome=true:=by rw[hr3];rfl
 obtain⟨b30,b31,b32,e3⟩ : ∃a b c,xT l A2 B2 3=[a,b,c]:=by
  match h:xT l A2 B2 3,hl3 with
  | [a,b,c],_=>exact⟨a,b,c,rfl⟩
 rw[e3]at hv30 hv31 hv32;simp only[List.getD_cons_zero,List.getD_cons_succ]at hv30 hv31 hv32;have w30:IntKind.i64.wrap ((b30.toNat:Int) * 65536)=(b30.toNat:Int) * 65536:=iQa _ (by have:=b30.toNat_lt;omega);have w31:IntKind.i64.wrap ((b31.toNat:Int) * 256)=(b31.toNat:Int) * 256:=iQa _ (by have:=b31.toNat_lt;omega);have wsr:=Ye b30 b31 b32;simp[ak, *,aa.ad,yS];refine⟨⟨rfl,rfl,rfl⟩,?_⟩;refine ag1 0 (a:=A3) (b:=B3) false hx ha3 (by omega) (by simp(maxDischargeDepth:=12) [eR, *]) (by simp(maxDischargeDepth:=12) [eR, *]) λy4 H4 hk4=>?_;have hb4:=hk4.old ⟨0,2,0,0⟩ _ (by decide) (gps _ _ _);have hF4:=hk4.fr;have hr4:=hk4.box;have hy4:=hk4.val;have ha4:=ES (l:=l) B3 13 ha3;clear hk4 hb3 hr3 hb8 hp30 hp31 hp32 hv30 hv31 hv32 w30 w31 wsr hn30 hn31 hn32 hny3;subst hy4;generalize hA4:FC l A3 B3 13=A4 at *;generalize hB4:(Cm l A3 B3 13||Bc (xT l A3 B3 13) false)=B4 at *;generalize hi4:Tq (xT l A3 B3 13)=fi at *;obtain⟨⟨N,M,P⟩,O⟩:=fi;have s4:(H4.get ⟨0,2,0,0⟩).isSome=true:=by rw[hb4];rfl
 have s4r:(H4.get ⟨0,17,0,0⟩).isSome=true:=by rw[hr4];rfl
 generalize hsr:val [b30,b31,b32]=sr at *;simp[ak, *,aa.ad];refine CX 0 (a:=A4) (b:=B4) 1 rfl hx ha4 (by omega) (by omega) (by simp(maxDischargeDepth:=12) [eR, *]) (by simp(maxDischargeDepth:=12) [eR, *]) λy5 v5 H5 hk5=>?_;have hb5:=hk5.old ⟨0,2,0,0⟩ _ (by decide) (gps _ _ _);obtain⟨p5,hp5,hv5,_⟩:=hk5.pick (j:=0) 0 rfl (by rw[zK];omega);have hF5:=hk5.fr;have hr5:=hk5.box;have ha5:=ES (l:=l) B4 1 ha4;clear hk5 hb4 hr4;generalize hA5:FC l A4 B4 1=A5 at *;generalize hB5:Cm l A4 B4 1=B5 at *;generalize hm5:(xT l A4 B4 1).getD 0 0=m at *;have s5:(H5.get ⟨0,2,0,0⟩).isSome=true:=by rw[hb5];rfl
 have s5r:(H5.get ⟨0,17,0,0⟩).isSome=true:=by rw[hr5];rfl
 have hmI:IntKind.i64.wrap (m.toNat:Int)=m.toNat:=iQa _ (by have:=m.toNat_lt;omega);unfold wZ at hr5;clear s1 s2 s2r s3 s3r s4 s4r hF1 hF2 hF3 hF4;have hnz:=λn:Int=>show(aI n).at?=none from rfl
 cases B5 with
 | true=>
  have i:qx l=pJ:=by
   refine Eh λh24 _=>acG ?_;obtain⟨w,C,H⟩:=zJ (l:=l) (a:=0) (n:=1) (by omega);rw[w]at hB1;rw[C]at hA1;subst hB1;subst hA1;obtain⟨w,C,H⟩:=zJ (l:=l) (a:=0+1) (n:=6) (by omega);rw[w]at hB2;rw[C]at hA2;subst hB2;subst hA2;obtain⟨w,C,H⟩:=zJ (l:=l) (a:=0+1+6) (n:=3) (by omega);rw[w]at hB3;rw[C]at hA3;subst hB3;subst hA3;obtain⟨w,C,H⟩:=zJ (l:=l) (a:=0+1+6+3) (n:=13) (by omega);rw[w,H]at hB4;rw[C]at hA4;subst hA4;cases B4 with
   | true=>show Ao (kz ((l.drop 10).take 13))=false;simpa [Bc] using hB4
   | false=>obtain⟨w,C,H⟩:=zJ (l:=l) (a:=0+1+6+3+13) (n:=1) (by omega);rw[w]at hB5;cases hB5
  unfold pJ at i;simp[ak, *,aa.ad]
 | false=>
  obtain⟨rfl,t5,u5,d5⟩:=qD hB5;obtain⟨t4,hid⟩:Cm l A3 B3 13=false/\Bc (xT l A3 B3 13) false=false:=by simpa using hB4
  obtain⟨rfl,q4,u4,d4⟩:=qD t4;obtain⟨rfl,q3,u3,d3⟩:=qD hB3;obtain⟨rfl,q2,u2,d2⟩:=qD hB2;obtain⟨_,q1,u1,d1⟩:=qD hB1;rw[u1]at hA1;subst hA1;rw[u2]at hA2;subst hA2;rw[u3]at hA3;subst hA3;rw[u4]at hA4;subst hA4;rw[u5]at hA5;subst hA5;simp only[vP,Nat.reduceAdd]at *;have hk:l.headD 0=k:=by rw[<-hk0,d1];exact(ID l 0).symm
  have hm:(l.drop 23).headD 0=m:=by rw[<-hm5,d5];exact(ID l 23).symm
  rw[d2]at hh2 hf2;rw[d3]at e3;rw[d4]at hi4 hid;have hidt:Ao (kz ((l.drop 10).take 13))=true:=by simpa [Bc] using hid
  rw[Tq,if_pos hidt]at hi4;rw[<-e3]at hsr;clear d1 d2 d3 d4 d5 u1 u2 u3 u4 u5 hB1 hB2 hB3 hB4 hB5 hid t4 hl3 hk0 hm5 q1 q2 q3 q4 ha1 ha2 ha3 ha4 e3;cases hHB:gE (iZ ((l.drop 1).take 6)) with
  | false=>have i:qx l=pJ:=Eh λ_ _=>Zd hHB;rw[hHB]at hf2;subst hf2;unfold pJ at i;clear hHB hidt hi4 hsr hh2 hk hm;simp[ak, *,aa.ad,KG]
  | true=>
   rw[hHB]at hf2;subst hf2;rw[Fe,if_pos hHB]at hh2;have o:oJ l=⟨k,⟨F,J,G⟩,sr,⟨⟨⟨N,M,P⟩,O⟩,(m.toNat:Int)⟩,if k=1 then kz ((l.drop 24).take 13) else nK,if k=3 then ⟨(l.drop 24).headD 0,u32 (val ((l.drop 25).take 4))⟩ else ⟨0,0⟩,
    if k=1 then words ((l.drop 37).take (4 * m.toNat)) else []⟩:=by
    unfold oJ;rw[hk,hm,hh2,hi4,hsr]
   have D:rB l=lH k m:=by unfold rB;rw[hk,hm]
   clear hHB hidt hi4 hsr hh2 hk hm;by_cases h64:64<(m.toNat:Int);·have i:qx l=pJ:=Eh λ_ _=>Ru (by rw[o];simp only[oS,GL,iQc];exact .inr (.inr (.inl (by omega))));unfold pJ at i;clear o D;simp[ak, *,aa.ad,Eg]
   have K:m.toNat<=64:=(by omega);by_cases E:k=1
   ·subst E;simp[ak, *,aa.ad,Eg];refine ag1 0 (a:=24) (b:=false) true hx t5 (by omega) (by simp(maxDischargeDepth:=12) [eR, *]) (by simp[aa.ad,wZ, *]) λy6 H6 A=>?_;have hb6:=A.old ⟨0,2,0,0⟩ _ (by decide) (gps _ _ _);have hF6:=A.fr;have hr6:=A.box;have hy6:=A.val;have ha6:=ES (l:=l) false 13 t5;clear A hb5 hr5 hp5 hv5 s5 s5r hF5;subst hy6;generalize Y:xT l 24 false 13=L6 at *;generalize U:FC l 24 false 13=A6 at *;generalize L:(Cm l 24 false 13||Bc L6 true)=B6 at *;generalize hi6:Tq L6=ai at *;obtain⟨⟨a_1,a_2,a_3⟩,a_4⟩:=ai;have s6:(H6.get ⟨0,2,0,0⟩).isSome=true:=by rw[hb6];rfl
    have s6r:(H6.get ⟨0,17,0,0⟩).isSome=true:=by rw[hr6];rfl
    have w4:IntKind.i64.wrap (4 * (m.toNat:Int))=4 * (m.toNat:Int):=iQa _ (by omega);simp[ak, *,aa.ad];refine CX 0 (a:=A6) (b:=B6) (4 * m.toNat) (by simp) hx ha6 (by omega) (by omega) (by simp(maxDischargeDepth:=12) [eR, *]) (by simp[aa.ad, *]) λy7 v7 H7 W=>?_;have hb7:=W.old ⟨0,2,0,0⟩ _ (by decide) (gps _ _ _);have hl7:=zK (l:=l) (a:=A6) B6 (4 * m.toNat);have hF7:=W.fr;have hr7:=W.box;have u:=W.seen;have I:=W.spot;have Q:=Yu W.seen.sl hl7 K;clear W hb6 hr6 s6 s6r hF6 w4;unfold wZ at hr7;generalize hL7:xT l A6 B6 (4 * m.toNat)=L7 at *;generalize hA7:FC l A6 B6 (4 * m.toNat)=A7 at *;generalize hB7:Cm l A6 B6 (4 * m.toNat)=B7 at *;have s7:(H7.get ⟨0,2,0,0⟩).isSome=true:=by rw[hb7];rfl
    have s7r:(H7.get ⟨0,17,0,0⟩).isSome=true:=by rw[hr7];rfl
    have hsz':rB l=37+4 * m.toNat:=by rw[D];rfl
    rw[if_pos rfl,if_neg (by decide),if_pos rfl]at o;have p:=HX (words L7);cases B7 with
    | true=>
     have i:qx l=pJ:=Eh λ_ hh=>by
      rw[hsz']at hh;obtain⟨w,C,H⟩:=zJ (l:=l) (a:=24) (n:=13) (by omega);rw[w,Cc]at L;rw[C]at U;subst U;rw[H]at Y;cases B6 with
      | false=>obtain⟨w,C,H⟩:=zJ (l:=l) (a:=24+13) (n:=4 * m.toNat) (by omega);rw[w]at hB7;cases hB7
      | true=>simp only[Bc,ig,bI,ij,iQc]at L;refine LQ ?_;rw[o,Y];have hz:=IB (l:=L6) (by rw[<-Y];simp;omega);rw[iQh L.2]at hz;simp[DU,JL,hz,L.1]
     unfold pJ at i;clear o D hsz' L hB7 U hA7 Y hL7 K ha6;by_cases hE:yM (words L7)=0
     ·rw[if_pos hE]at Q;clear hE;generalize words L7=ws at *;rcases u with ⟨rfl,u⟩ | ⟨q,cq,fz,rfl,hq,rfl,T⟩
      ·have Z:=u.r;rcases p with p | p<;>rw[p.1]at Q<;>simp[ak, *,aa.ad]
      have S:q≠⟨0,2,0,0⟩:=by intro e;have:=I q rfl;rw[e]at this;cases this
      have s:q≠⟨0,17,0,0⟩:=by intro e;have:=I q rfl;rw[e]at this;cases this
      have R:=S.symm;have z:=s.symm;rcases p with p | p<;>rw[p.1]at Q<;>cases fz<;>simp[ak, *,aa.ad]
     rw[if_neg hE]at Q;clear hE p;generalize words L7=ws at *;rcases u with ⟨rfl,u⟩ | ⟨q,cq,fz,rfl,hq,rfl,T⟩
     ·have Z:=u.r;simp[ak, *,aa.ad]
     have S:q≠⟨0,2,0,0⟩:=by intro e;have:=I q rfl;rw[e]at this;cases this
     have s:q≠⟨0,17,0,0⟩:=by intro e;have:=I q rfl;rw[e]at this;cases this
     have R:=S.symm;have z:=s.symm;cases fz<;>simp[ak, *,aa.ad]
    | false=>
     obtain⟨rfl,q7,u7,d7⟩:=qD hB7;obtain⟨t6,hid6⟩:Cm l 24 false 13=false/\Bc L6 true=false:=by simpa using L
     obtain⟨_,q6,u6,d6⟩:=qD t6;rw[u6]at U;subst U;rw[u7]at hA7;subst hA7;rw[d7]at hL7;rw[d6]at Y;have i:qx l=if r8 (oJ l) then .tup [.agg (B8 (oJ l)++[A0 1 (rows (oJ l).l)]),aI (37+4 * m.toNat:Nat),aI 0] else pJ:=by
      unfold qx nR;rw[hsz'];have h1:decide (24<=l.length)=true:=by simpa using t5
      have h2:decide (37+4 * m.toNat<=l.length)=true:=by simp only[iQb];omega
      rw[h1,h2,ig,ig]
     have hai:kz L6=⟨⟨a_1,a_2,a_3⟩,a_4⟩:=by
      rw[<-hi6,Tq];split;·rfl
      rename_i hn;have hn':Ao (kz L6)=false:=by simpa using hn
      simp only[Bc,hn',zm,ig,pO,iQb]at hid6;rw[hid6];rfl
     rw[Y,hai,hL7]at o;rw[o]at i;clear o D hsz' L hB7 Y hL7 K ha6 hid6 hai d6 d7 u6 u7 t6 hi6;by_cases hE:yM (words L7)=0
     ·rw[if_pos hE]at Q;have hwl:(words L7).length<2000000:=by have:=(vt _ L7 hl7).2;have:=m.toNat_lt;omega
      have hC:=tL 1 F J G sr N M P O m.toNat a_1 a_2 a_3 a_4 0 0 (jG (words L7)) hwl;clear hE hwl;generalize words L7=ws at *;cases hO:r8 ⟨1,⟨F,J,G⟩,sr,⟨⟨⟨N,M,P⟩,O⟩,(m.toNat:Int)⟩,⟨⟨a_1,a_2,a_3⟩,a_4⟩,⟨0,0⟩,ws⟩ with
      | true=>
       simp only[hO,B8,if_true]at i;rcases p with p | p<;>rw[p.1]at Q i<;>rw[p.2]at hC
       all_goals
        rcases u with ⟨rfl,u⟩ | ⟨q,cq,fz,rfl,hq,rfl,T⟩
        ·have Z:=u.r
         simp[ak, *,aa.ad]
        have S:q≠⟨0,2,0,0⟩:=by intro e;have:=I q rfl;rw[e]at this;cases this
        have s:q≠⟨0,17,0,0⟩:=by intro e;have:=I q rfl;rw[e]at this;cases this
        have R:=S.symm
        have z:=s.symm
        cases fz<;>simp[ak, *,aa.ad]
      | false=>
       simp only[hO,pJ]at i;rcases p with p | p<;>rw[p.1]at Q<;>rw[p.2]at hC
       all_goals
        rcases u with ⟨rfl,u⟩ | ⟨q,cq,fz,rfl,hq,rfl,T⟩
        ·have Z:=u.r
         simp[ak, *,aa.ad]
        have S:q≠⟨0,2,0,0⟩:=by intro e;have:=I q rfl;rw[e]at this;cases this
        have s:q≠⟨0,17,0,0⟩:=by intro e;have:=I q rfl;rw[e]at this;cases this
        have R:=S.symm
        have z:=s.symm
        cases fz<;>simp[ak, *,aa.ad]
     rw[if_neg hE]at Q;have hz:r8 ⟨1,⟨F,J,G⟩,sr,⟨⟨⟨N,M,P⟩,O⟩,(m.toNat:Int)⟩,⟨⟨a_1,a_2,a_3⟩,a_4⟩,⟨0,0⟩,words L7⟩=false:=LQ (by
      have:HZ (words L7)=false:=(by rw[Bool.eq_false_iff];intro h;exact hE ((EY _).2 h));simp[DU,JL,this])
     rw[hz,if_neg (by decide)]at i;unfold pJ at i;clear p hz;generalize words L7=ws at *;rcases u with ⟨rfl,u⟩ | ⟨q,cq,fz,rfl,hq,rfl,T⟩
     ·have Z:=u.r;simp[ak, *,aa.ad]
     have S:q≠⟨0,2,0,0⟩:=by intro e;have:=I q rfl;rw[e]at this;cases this
     have s:q≠⟨0,17,0,0⟩:=by intro e;have:=I q rfl;rw[e]at this;cases this
     have R:=S.symm;have z:=s.symm;cases fz<;>simp[ak, *,aa.ad]
   by_cases B:k=3
   ·subst B;simp[ak, *,aa.ad,Eg];refine CX 0 (a:=24) (b:=false) 5 rfl hx t5 (by omega) (by omega) (by simp(maxDischargeDepth:=12) [eR, *]) (by simp[aa.ad,wZ, *]) λy6 v6 H6 A=>?_;have hb6:=A.old ⟨0,2,0,0⟩ _ (by decide) (gps _ _ _);have hl6:=zK (l:=l) (a:=24) false 5;obtain⟨w,C,H,c4,c5,e6⟩ : ∃a b c d e,xT l 24 false 5=[a,b,c,d,e]:=by
     match h:xT l 24 false 5,hl6 with
     | [a,b,c,d,e],_=>exact⟨a,b,c,d,e,rfl⟩
    have hF6:=A.fr;have hr6:=A.box;have y:=A.seen;have V:=A.spot;clear A hb5 hr5 hp5 hv5 s5 s5r hF5;rw[e6]at y;unfold wZ at hr6;have s6:(H6.get ⟨0,2,0,0⟩).isSome=true:=by rw[hb6];rfl
    have s6r:(H6.get ⟨0,17,0,0⟩).isSome=true:=by rw[hr6];rfl
    have hBC:=λcp=>SR cp w C H c4 c5;have hG6:=Qj (v := .bE 1 [a8 w,a8 C,a8 H,a8 c4,a8 c5,a8 0] none) (l:=[w,C,H,c4,c5,0]) (Sl.mk _ _) rfl;have hho:iZ [w,C,H,c4,c5,0]=⟨w,u32 (val [C,H,c4,c5]),0⟩:=rfl;have hgo:Fe [w,C,H,c4,c5,0]=if w<=15 then ⟨w,u32 (val [C,H,c4,c5]),0⟩ else ⟨0,0,0⟩:=(by unfold Fe;rw[hho];simp[gE])
    have hhb:gE ⟨w,u32 (val [C,H,c4,c5]),0⟩=decide (w<=15):=(by simp[gE]);rw[hho,hhb]at hG6;have hdr:Cm l 24 false 5=false->(l.drop 24).headD 0=w/\(l.drop 25).take 4=[C,H,c4,c5]/\29<=l.length:=by
     intro hB;obtain⟨_,q,_,d⟩:=qD hB;rw[d]at e6;have:l.drop 25=(l.drop 24).drop 1:=by rw[pN]
     rw[this];match hd:l.drop 24,e6 with
     | a :: t,e6=>
      have e7:a :: t.take 4=w :: [C,H,c4,c5]:=e6;injection e7 with e8 e9
      exact⟨e8,e9,q⟩
    have hbad:Cm l 24 false 5=true->qx l=pJ:=λhB=>Eh λ_ hh=>by
     rw[D]at hh;have:lH 3 m=29:=rfl;simp only[Cm,Cc,iQb]at hB;omega
    generalize L:Cm l 24 false 5=B6 at *;have U:B6=false->FC l 24 false 5=29:=λe=>(qD (L.trans e)).2.2.1;generalize FC l 24 false 5=A6 at *;cases B6 with
    | true=>
     have i:=hbad rfl;unfold pJ at i;clear o D hdr hbad K;rcases y with ⟨rfl,y⟩ | ⟨q,cq,fz,rfl,hq,rfl,T⟩
     ·obtain⟨cp,rfl,hcp⟩:=nU y (by simp);simp[ak, *,aa.ad,aK]
     have S:q≠⟨0,2,0,0⟩:=by intro e;have:=V q rfl;rw[e]at this;cases this
     have s:q≠⟨0,17,0,0⟩:=by intro e;have:=V q rfl;rw[e]at this;cases this
     have R:=S.symm;have z:=s.symm;cases fz<;>simp[ak, *,aa.ad,aK]
    | false=>
     obtain⟨d1,d2,d3⟩:=hdr rfl;obtain rfl:=U rfl;have i:qx l=if r8 (oJ l) then .tup [.agg (B8 (oJ l)++[A0 1 (rows (oJ l).l)]),aI 29,aI 0] else pJ:=by
      have hs24:rB l=29:=by rw[D];rfl
      unfold qx nR;rw[hs24];have h1:decide (24<=l.length)=true:=by simpa using t5
      have h2:decide (29<=l.length)=true:=(by simpa using d3);rw[h1,h2,ig,ig];rfl
     rw[d1,d2,if_neg (by decide),if_pos rfl,if_neg (by decide)]at o;rw[o]at i;clear o D hdr hbad K d1 d2 d3 U;by_cases X:w<=15
     ·rw[if_pos X]at hgo;rw[hgo,iQi X,Eg]at hG6;clear hgo hho hhb X;generalize u32 (val [C,H,c4,c5])=cc at *;have hC:=tL 3 F J G sr N M P O m.toNat 0 0 0 0 w cc (l:=[]) (x:=aY) (.inl ⟨rfl,rfl⟩) (by simp);cases hO:r8 ⟨3,⟨F,J,G⟩,sr,⟨⟨⟨N,M,P⟩,O⟩,(m.toNat:Int)⟩,⟨⟨0,0,0⟩,0⟩,⟨w,cc⟩,[]⟩ with
      | true=>
       simp only[nK,hO,B8,show A0 1 (rows [])=aY from rfl,if_true]at i;rcases y with ⟨rfl,y⟩ | ⟨q,cq,fz,rfl,hq,rfl,T⟩
       ·obtain⟨cp,rfl,hcp⟩:=nU y (by simp);simp[ak, *,aa.ad,aK]
       have S:q≠⟨0,2,0,0⟩:=by intro e;have:=V q rfl;rw[e]at this;cases this
       have s:q≠⟨0,17,0,0⟩:=by intro e;have:=V q rfl;rw[e]at this;cases this
       have R:=S.symm;have z:=s.symm;cases fz<;>simp[ak, *,aa.ad,aK]
      | false=>
       simp only[nK,hO,pJ]at i;rcases y with ⟨rfl,y⟩ | ⟨q,cq,fz,rfl,hq,rfl,T⟩
       ·obtain⟨cp,rfl,hcp⟩:=nU y (by simp);simp[ak, *,aa.ad,aK]
       have S:q≠⟨0,2,0,0⟩:=by intro e;have:=V q rfl;rw[e]at this;cases this
       have s:q≠⟨0,17,0,0⟩:=by intro e;have:=V q rfl;rw[e]at this;cases this
       have R:=S.symm;have z:=s.symm;cases fz<;>simp[ak, *,aa.ad,aK]
     have hz:r8 ⟨3,⟨F,J,G⟩,sr,⟨⟨⟨N,M,P⟩,O⟩,(m.toNat:Int)⟩,nK,⟨w,u32 (val [C,H,c4,c5])⟩,[]⟩=false:=LQ (by simp[DU,LJ,X]);rw[hz,if_neg (by decide)]at i;unfold pJ at i;rw[if_neg X]at hgo;rw[hgo,iQh X,KG]at hG6;clear hgo hho hhb X hz;rcases y with ⟨rfl,y⟩ | ⟨q,cq,fz,rfl,hq,rfl,T⟩
     ·obtain⟨cp,rfl,hcp⟩:=nU y (by simp);simp[ak, *,aa.ad,aK]
     have S:q≠⟨0,2,0,0⟩:=by intro e;have:=V q rfl;rw[e]at this;cases this
     have s:q≠⟨0,17,0,0⟩:=by intro e;have:=V q rfl;rw[e]at this;cases this
     have R:=S.symm;have z:=s.symm;cases fz<;>simp[ak, *,aa.ad,aK]
   have i:qx l=if r8 (oJ l) then .tup [.agg (B8 (oJ l)++[A0 1 (rows (oJ l).l)]),aI 24,aI 0] else pJ:=by
    have hs24:rB l=24:=by rw[D];unfold lH;rw[if_neg E,if_neg B]
    unfold qx nR;rw[hs24];have:decide (24<=l.length)=true:=by simpa using t5
    rw[this,ig,ig];rfl
   rw[if_neg E,if_neg B,if_neg E]at o;rw[o]at i;clear o D K;have hC:=tL k F J G sr N M P O m.toNat 0 0 0 0 0 0 (l:=[]) (x:=aY) (.inl ⟨rfl,rfl⟩) (by simp);cases hO:r8 ⟨k,⟨F,J,G⟩,sr,⟨⟨⟨N,M,P⟩,O⟩,(m.toNat:Int)⟩,⟨⟨0,0,0⟩,0⟩,⟨0,0⟩,[]⟩ with
   | true=>simp only[nK,hO,B8,show A0 1 (rows [])=aY from rfl,if_true]at i;simp[ak, *,aa.ad]
   | false=>simp only[nK,hO,pJ]at i;simp[ak, *,aa.ad]
def xN(v:UInt8)(c:UInt32)(ok:Bool):Bool:=decide (v<=15)&&(ok||(decide (v=0)&&decide (c=0)))
def s9(user:Int)(v:UInt8)(c:UInt32)(ok:Bool):Bool:=decide (0<=user)&&decide (user<8)&&xN v c ok
@[simp] def agj(user:Int)(v:UInt8)(c:UInt32)(ok:Bool):ay env 126 [.agg [aI user,a8 v,bY c,aB ok]]=some (aI (bad (s9 user v c ok))):=by
 refine aH rfl (by kernel_rfl) (Hu _ _ _ λg=>?_);cases ok
 ·simp[ak, *,wC,mV,fN];repeat' ((first | apply qO<;>intro h | apply mK<;>intro h | apply mL<;>intro h | apply mI<;>intro h | apply mJ<;>intro h)<;>(try simp only[iQb,iQc,ij,pO,bI,jf]at h)<;>(try simp[ak, *,mV,fN,s9,xN,bad]))
  all_goals (try grind)
 simp[ak, *,wC,mV,fN];repeat' ((first | apply qO<;>intro h | apply mK<;>intro h | apply mL<;>intro h | apply mI<;>intro h | apply mJ<;>intro h)<;>(try simp only[iQb,iQc,ij,pO,bI,jf]at h)<;>(try simp[ak, *,mV,fN,s9,xN,bad]))
 all_goals (try grind)
def lg(user:Int)(v:UInt8)(c:UInt32)(ok:Bool):List UInt8:=u8 user :: (if ok then 1 else 0) :: v :: be 4 c.toNat
@[simp] def ajJ(user:Int)(v:UInt8)(c:UInt32)(ok:Bool):ay env 84 [.agg [aI user,a8 v,bY c,aB ok]]=some (if s9 user v c ok then .tup [.bE 1 (aK (lg user v c ok)) none,aI 0] else .tup [aY,aI 8]):=by
 refine aH rfl (by kernel_rfl) (Ln _ _ _ λg=>?_);by_cases h:s9 user v c ok=true
 ·have a:v<=15:=by simp[s9,xN]at h;exact h.2.1
  have b:gE ⟨v,c,0⟩=true:=(by simp[gE,a]);cases ok<;>simp[ak, *,z6,bad,lg,cS,aK,vc]
 simp at h;simp[ak, *,z6,bad]
structure dY where
 kind:UInt8
 user:Int
 op:gI
 code:Int
 gu:Int
 gv:UInt8
 gc:UInt32
 gok:Bool
def my(a b:dY):Bool:=decide (a.kind=b.kind)&&(decide (a.user=b.user)&&(o9 a.op b.op&&(decide (a.code=b.code)&&(decide (a.gu=b.gu)&&(decide (a.gv=b.gv)&&decide (a.gc=b.gc)&&decide (a.gok=b.gok))))))
def Ka(k1 M:UInt8)(O N:Int)(t:UInt8)(z:UInt8)(a_3:UInt32)(s:UInt8)(C:Int)(J:UInt8)(u:UInt32)(F:UInt8)(I:Int)(p:Int)(b:UInt8)(j:UInt32)(i:UInt8)(o:Int)(e:UInt8)(h:UInt32)(w:UInt8)(K:UInt8)(A:UInt32)(H:UInt8)(D:Int)(E:UInt8)(v:UInt32)(B:UInt8)(G:Int)(k:Int)(c:UInt8)(n:UInt32)(q:UInt8)(d:Int)(f:UInt8)(a:UInt32)(P L g1 T:Int)(U R:UInt8)(Q V:UInt32)(X S:Bool){x y:AV}{l m:List Int}(Y:Sl 1 (rows l) x)(W:Sl 1 (rows m) y)(hl:l.length<1000000000) :
 ay env 55 [.agg [a8 k1,aI O,a8 t,a8 z,bY a_3,a8 s,aI C,a8 J,bY u,a8 F,aI I,aI p,a8 b,bY j,a8 i,aI o,a8 e,bY h,x,aI P,aI g1,a8 U,bY Q,aB X],.agg [a8 M,aI N,a8 w,a8 K,bY A,a8 H,aI D,a8 E,bY v,a8 B,aI G,aI k,a8 c,bY n,a8 q,aI d,a8 f,bY a,y,aI L,aI T,a8 R,bY V,aB S]] =
  some (aB (my ⟨k1,O,(⟨t,⟨z,a_3,s⟩,C,⟨⟨⟨J,u,F⟩,I⟩,p⟩,⟨⟨b,j,i⟩,o⟩,⟨e,h⟩,l⟩:gI),P,g1,U,Q,X⟩ ⟨M,N,(⟨w,⟨K,A,H⟩,D,⟨⟨⟨E,v,B⟩,G⟩,k⟩,⟨⟨c,n,q⟩,d⟩,⟨f,a⟩,m⟩:gI),L,T,R,V,S⟩)):=by
 refine aH rfl (by kernel_rfl) (Hp _ _ _ _ λg=>?_);have hq:=Vo t z a_3 s C J u F I p b j i o e h w K A H D E v B G k c n q d f a Y W hl;have hr:=Y.r;have Z:=W.r;unfold my;cases e1:decide (k1=M) with
 | false=>simp[ak, *,nr,mV,fN]
 | true=>
 cases e2:decide (O=N) with| false=>simp[ak, *,nr,mV,fN]| true=>
 cases e3:o9 (⟨t,⟨z,a_3,s⟩,C,⟨⟨⟨J,u,F⟩,I⟩,p⟩,⟨⟨b,j,i⟩,o⟩,⟨e,h⟩,l⟩:gI) (⟨w,⟨K,A,H⟩,D,⟨⟨⟨E,v,B⟩,G⟩,k⟩,⟨⟨c,n,q⟩,d⟩,⟨f,a⟩,m⟩:gI) with| false=>simp[ak, *,nr,mV,fN]| true=>
 cases e4:decide (P=L) with| false=>simp[ak, *,nr,mV,fN]| true=>simp[ak, *,nr,mV,fN]
def dS:gI:=⟨0,⟨0,0,0⟩,0,⟨⟨⟨0,0,0⟩,0⟩,0⟩,⟨⟨0,0,0⟩,0⟩,⟨0,0⟩,[]⟩
def Hb(r:dY):dY:=if r.kind=1 then ⟨1,r.user, { dS with h:=r.op.h},0,0,0,0,false⟩ else if r.kind=2 then ⟨2,0,r.op,r.code,0,0,0,false⟩ else ⟨r.kind,0,dS,0,r.gu,r.gv,r.gc,r.gok⟩
def m9(r:dY):List UInt8:=r.kind :: (if r.kind=1 then cS r.op.h++[u8 r.user] else if r.kind=2 then [u8 (r.code / 256),u8 r.code]++fW r.op else lg r.gu r.gv r.gc r.gok)
def ej(r:dY):Bool:=if r.kind=1 then (decide (0<=r.user)&&decide (r.user<=255))&&(gE r.op.h&&my r (Hb r)) else if r.kind=2 then (!decide (-1∈r.op.l)&&decide (0<=r.code)&&decide (r.code<65536))&&(r8 r.op&&my r (Hb r)) else if r.kind=3 then s9 r.gu r.gv r.gc r.gok&&my r (Hb r) else false
def Ge(r:dY):AV:=if r.kind=1 then .bE 1 (aK (r.kind :: ((if gE r.op.h then cS r.op.h else [])++[u8 r.user]))) none
 else if r.kind=2 then .bE 1 (aK (r.kind :: ([u8 (r.code / 256),u8 r.code]++(if r8 r.op then fW r.op else [])))) none
 else if r.kind=3 then (if s9 r.gu r.gv r.gc r.gok then .bE 1 (aK (r.kind :: lg r.gu r.gv r.gc r.gok)) none else .bE 1 [a8 r.kind] (some 1)) else .bE 1 [a8 r.kind] (some 1)
set_option maxHeartbeats 800000 in
def HQ(k:UInt8)(u:Int)(q:UInt8)(p:UInt8)(a_3:UInt32)(n:UInt8)(t:Int)(B:UInt8)(s:UInt32)(z:UInt8)(A:Int)(j:Int)(a:UInt8)(f:UInt32)(e:UInt8)(i:Int)(b:UInt8)(d:UInt32)(c g1:Int)(v:UInt8)(w:UInt32)(o:Bool){x:AV}{l:List Int}(O:Sl 1 (rows l) x)(hl:l.length<2000000) :
 ay env 51 [.agg [a8 k,aI u,a8 q,a8 p,bY a_3,a8 n,aI t,a8 B,bY s,a8 z,aI A,aI j,a8 a,bY f,a8 e,aI i,a8 b,bY d,x,aI c,aI g1,a8 v,bY w,aB o]]=some (.tup [Ge ⟨k,u,(⟨q,⟨p,a_3,n⟩,t,⟨⟨⟨B,s,z⟩,A⟩,j⟩,⟨⟨a,f,e⟩,i⟩,⟨b,d⟩,l⟩:gI),c,g1,v,w,o⟩,aB (ej ⟨k,u,(⟨q,⟨p,a_3,n⟩,t,⟨⟨⟨B,s,z⟩,A⟩,j⟩,⟨⟨a,f,e⟩,i⟩,⟨b,d⟩,l⟩:gI),c,g1,v,w,o⟩)]):=by
 refine aH rfl (by kernel_rfl) (rZ _ _ _ λg=>?_);have hr:=O.r;have C:=λk' u' (R:UInt8) (b_2:UInt8) (S:UInt32) (Z:UInt8) (V:Int) (X:UInt8) (Q:UInt32) (U:UInt8) (Y:Int) (L:Int) (H:UInt8) (M:UInt32) (N:UInt8) (I:Int) (J:UInt8) (G:UInt32) c' g' v' w' o' (y:AV) (m:List Int) (hy:Sl 1 (rows m) y)=>Ka k k' u u' q p a_3 n t B s z A j a f e i b d R b_2 S Z V X Q U Y L H M N I J G c c' g1 g' v v' w w' o o' O hy (by omega);by_cases k1:k=1;·subst k1;have hs:=C 1 u 0 p a_3 n 0 0 0 0 0 0 0 0 0 0 0 0 0 0 0 0 false aY [] (.inl ⟨rfl,rfl⟩);have E:ej ⟨1,u,(⟨q,⟨p,a_3,n⟩,t,⟨⟨⟨B,s,z⟩,A⟩,j⟩,⟨⟨a,f,e⟩,i⟩,⟨b,d⟩,l⟩:gI),c,g1,v,w,o⟩=((decide (0<=u)&&decide (u<=255))&&(gE ⟨p,a_3,n⟩&&my ⟨1,u,(⟨q,⟨p,a_3,n⟩,t,⟨⟨⟨B,s,z⟩,A⟩,j⟩,⟨⟨a,f,e⟩,i⟩,⟨b,d⟩,l⟩:gI),c,g1,v,w,o⟩ ⟨1,u,⟨0,⟨p,a_3,n⟩,0,⟨⟨⟨0,0,0⟩,0⟩,0⟩,⟨⟨0,0,0⟩,0⟩,⟨0,0⟩,[]⟩,0,0,0,0,false⟩)):=rfl;have D:Ge ⟨1,u,(⟨q,⟨p,a_3,n⟩,t,⟨⟨⟨B,s,z⟩,A⟩,j⟩,⟨⟨a,f,e⟩,i⟩,⟨b,d⟩,l⟩:gI),c,g1,v,w,o⟩ = .bE 1 (aK (1 :: ((if gE ⟨p,a_3,n⟩ then cS ⟨p,a_3,n⟩ else [])++[u8 u]))) none:=rfl;rw[E,D];clear C E D;generalize my ⟨1,u,(⟨q,⟨p,a_3,n⟩,t,⟨⟨⟨B,s,z⟩,A⟩,j⟩,⟨⟨a,f,e⟩,i⟩,⟨b,d⟩,l⟩:gI),c,g1,v,w,o⟩ ⟨1,u,⟨0,⟨p,a_3,n⟩,0,⟨⟨⟨0,0,0⟩,0⟩,0⟩,⟨⟨0,0,0⟩,0⟩,⟨0,0⟩,[]⟩,0,0,0,0,false⟩=sm at *;cases K:gE ⟨p,a_3,n⟩<;>by_cases c0:0<=u<;>by_cases c2:u<=255;all_goals simp[ak, *,dk,cS,aK,vc]
 by_cases P:k=2
 ·subst P;have hs:=C 2 0 q p a_3 n t B s z A j a f e i b d c 0 0 0 false x l O;have E:ej ⟨2,u,(⟨q,⟨p,a_3,n⟩,t,⟨⟨⟨B,s,z⟩,A⟩,j⟩,⟨⟨a,f,e⟩,i⟩,⟨b,d⟩,l⟩:gI),c,g1,v,w,o⟩=((!decide (-1∈l)&&decide (0<=c)&&decide (c<65536))&&(r8 (⟨q,⟨p,a_3,n⟩,t,⟨⟨⟨B,s,z⟩,A⟩,j⟩,⟨⟨a,f,e⟩,i⟩,⟨b,d⟩,l⟩:gI)&&my ⟨2,u,(⟨q,⟨p,a_3,n⟩,t,⟨⟨⟨B,s,z⟩,A⟩,j⟩,⟨⟨a,f,e⟩,i⟩,⟨b,d⟩,l⟩:gI),c,g1,v,w,o⟩ ⟨2,0,(⟨q,⟨p,a_3,n⟩,t,⟨⟨⟨B,s,z⟩,A⟩,j⟩,⟨⟨a,f,e⟩,i⟩,⟨b,d⟩,l⟩:gI),c,0,0,0,false⟩)):=rfl;have D:Ge ⟨2,u,(⟨q,⟨p,a_3,n⟩,t,⟨⟨⟨B,s,z⟩,A⟩,j⟩,⟨⟨a,f,e⟩,i⟩,⟨b,d⟩,l⟩:gI),c,g1,v,w,o⟩ = .bE 1 (aK (2 :: ([u8 (c / 256),u8 c]++(if r8 (⟨q,⟨p,a_3,n⟩,t,⟨⟨⟨B,s,z⟩,A⟩,j⟩,⟨⟨a,f,e⟩,i⟩,⟨b,d⟩,l⟩:gI) then fW (⟨q,⟨p,a_3,n⟩,t,⟨⟨⟨B,s,z⟩,A⟩,j⟩,⟨⟨a,f,e⟩,i⟩,⟨b,d⟩,l⟩:gI) else [])))) none:=rfl;have hP:=SO q p a_3 n t B s z A j a f e i b d O (by omega);have T:=YE q p a_3 n t B s z A j a f e i b d O hl;rw[E,D];unfold acx at T;have F:r8 (⟨q,⟨p,a_3,n⟩,t,⟨⟨⟨B,s,z⟩,A⟩,j⟩,⟨⟨a,f,e⟩,i⟩,⟨b,d⟩,l⟩:gI)=true->(fW (⟨q,⟨p,a_3,n⟩,t,⟨⟨⟨B,s,z⟩,A⟩,j⟩,⟨⟨a,f,e⟩,i⟩,⟨b,d⟩,l⟩:gI)).length<=293/\24<=(fW (⟨q,⟨p,a_3,n⟩,t,⟨⟨⟨B,s,z⟩,A⟩,j⟩,⟨⟨a,f,e⟩,i⟩,⟨b,d⟩,l⟩:gI)).length:=λh=>by rw[xh h];exact⟨(vY h).2,(vY h).1⟩
  clear C E D;generalize my ⟨2,u,(⟨q,⟨p,a_3,n⟩,t,⟨⟨⟨B,s,z⟩,A⟩,j⟩,⟨⟨a,f,e⟩,i⟩,⟨b,d⟩,l⟩:gI),c,g1,v,w,o⟩ ⟨2,0,(⟨q,⟨p,a_3,n⟩,t,⟨⟨⟨B,s,z⟩,A⟩,j⟩,⟨⟨a,f,e⟩,i⟩,⟨b,d⟩,l⟩:gI),c,0,0,0,false⟩=sm at *;generalize fW (⟨q,⟨p,a_3,n⟩,t,⟨⟨⟨B,s,z⟩,A⟩,j⟩,⟨⟨a,f,e⟩,i⟩,⟨b,d⟩,l⟩:gI)=bs at *;generalize decide (-1∈l)=pl at *;cases K:r8 (⟨q,⟨p,a_3,n⟩,t,⟨⟨⟨B,s,z⟩,A⟩,j⟩,⟨⟨a,f,e⟩,i⟩,⟨b,d⟩,l⟩:gI) with
  | false=>rw[K,if_neg (by decide)]at T;clear F;cases pl<;>by_cases c0:0<=c<;>by_cases c2:c<65536;all_goals simp[ak, *,dk,aK,cY,cT]
  | true=>
   rw[K,if_pos rfl]at T;have hl2:=F K;have f1:bs.length+1<=140737488355328/\bs.length+1+1<=140737488355328/\bs.length+1+1+1<=140737488355328:=by omega
   have f0:2+bs.length=bs.length+1+1:=(by omega);have f3:1+(bs.length+1+1)<=140737488355328/\1+(bs.length+1+1)=bs.length+1+1+1:=(by omega);have f2:2+bs.length<=140737488355328/\1+(2+bs.length)<=140737488355328/\2<2+bs.length/\0<bs.length:=(by omega);have hne:bs≠[]:=by rintro rfl;simp at f2
   clear F;cases pl<;>by_cases c0:0<=c<;>by_cases c2:c<65536;all_goals simp[ak, *,dk,aK,cY,cT]
 by_cases W:k=3
 ·subst W;have hs:=C 3 0 0 0 0 0 0 0 0 0 0 0 0 0 0 0 0 0 0 g1 v w o aY [] (.inl ⟨rfl,rfl⟩);have E:ej ⟨3,u,(⟨q,⟨p,a_3,n⟩,t,⟨⟨⟨B,s,z⟩,A⟩,j⟩,⟨⟨a,f,e⟩,i⟩,⟨b,d⟩,l⟩:gI),c,g1,v,w,o⟩=(s9 g1 v w o&&my ⟨3,u,(⟨q,⟨p,a_3,n⟩,t,⟨⟨⟨B,s,z⟩,A⟩,j⟩,⟨⟨a,f,e⟩,i⟩,⟨b,d⟩,l⟩:gI),c,g1,v,w,o⟩ ⟨3,0,⟨0,⟨0,0,0⟩,0,⟨⟨⟨0,0,0⟩,0⟩,0⟩,⟨⟨0,0,0⟩,0⟩,⟨0,0⟩,[]⟩,0,g1,v,w,o⟩):=rfl;have D:Ge ⟨3,u,(⟨q,⟨p,a_3,n⟩,t,⟨⟨⟨B,s,z⟩,A⟩,j⟩,⟨⟨a,f,e⟩,i⟩,⟨b,d⟩,l⟩:gI),c,g1,v,w,o⟩=if s9 g1 v w o then .bE 1 (aK (3 :: lg g1 v w o)) none else .bE 1 [a8 3] (some 1):=rfl
  rw[E,D];clear C E D;generalize my ⟨3,u,(⟨q,⟨p,a_3,n⟩,t,⟨⟨⟨B,s,z⟩,A⟩,j⟩,⟨⟨a,f,e⟩,i⟩,⟨b,d⟩,l⟩:gI),c,g1,v,w,o⟩ ⟨3,0,⟨0,⟨0,0,0⟩,0,⟨⟨⟨0,0,0⟩,0⟩,0⟩,⟨⟨0,0,0⟩,0⟩,⟨0,0⟩,[]⟩,0,g1,v,w,o⟩=sm at *;cases K:s9 g1 v w o;all_goals simp[ak, *,dk,lg,aK,vc]
 have E:ej ⟨k,u,(⟨q,⟨p,a_3,n⟩,t,⟨⟨⟨B,s,z⟩,A⟩,j⟩,⟨⟨a,f,e⟩,i⟩,⟨b,d⟩,l⟩:gI),c,g1,v,w,o⟩=false:=by unfold ej;rw[if_neg k1,if_neg P,if_neg W]
 have D:Ge ⟨k,u,(⟨q,⟨p,a_3,n⟩,t,⟨⟨⟨B,s,z⟩,A⟩,j⟩,⟨⟨a,f,e⟩,i⟩,⟨b,d⟩,l⟩:gI),c,g1,v,w,o⟩ = .bE 1 [a8 k] (some 1):=by unfold Ge;rw[if_neg k1,if_neg P,if_neg W]
 rw[E,D];clear C E D;simp[ak, *,dk]
def nX(t:TypeId)(xo yo:Operand){n:Int}(h:0<=n):bZ env.P .rem t xo yo (some (.v (.int .i64 n))) (some (.v (.int .i64 256)))=some (.v (.int .i64 (n % 256)),[]):=by
 rw[jg env.P t xo yo .i64 _ _ (by decide),Aj h]
def nZ(t:TypeId)(xo yo:Operand){n:Int}(k:Int)(b:1<k)(h:0<=n)(c:n<9223372036854775808):bZ env.P .quo t xo yo (some (.v (.int .i64 n))) (some (.v (.int .i64 k)))=some (.v (.int .i64 (n / k)),[]):=by
 rw[mz env.P t xo yo .i64 _ _ (by omega),G6 h,iQa];have a:0<=n / k:=Int.ediv_nonneg h (by omega);have d:n / k<=n:=Int.ediv_le_self _ h;constructor<;>omega
@[simp] def Yg(n:Int)(h:0<=n)(j:n<9223372036854775808):ay env 166 [aI n,aI 4]=some (.bE 1 (aK (be 4 n)) none):=by
 refine aH rfl (by kernel_rfl) (rz _ _ _ _ λg=>?_);have i:=λt xo yo=>nX t xo yo (n:=n) (by omega);have k:=λt xo yo=>nZ t xo yo (n:=n) 256 (by decide) (by omega) (by omega);have f:n / 256 / 256=n / 65536:=by omega
 have r1:=λt xo yo=>nX t xo yo (n:=(n / 256)) (by omega);have a:=λt xo yo=>nZ t xo yo (n:=(n / 256)) 256 (by decide) (by omega) (by omega);rw[f]at a;have c:n / 65536 / 256=n / 16777216:=by omega
 have r2:=λt xo yo=>nX t xo yo (n:=(n / 65536)) (by omega);have b:=λt xo yo=>nZ t xo yo (n:=(n / 65536)) 256 (by decide) (by omega) (by omega);rw[c]at b;have d:n / 16777216 / 256=n / 4294967296:=by omega
 have r3:=λt xo yo=>nX t xo yo (n:=(n / 16777216)) (by omega);have e:=λt xo yo=>nZ t xo yo (n:=(n / 16777216)) 256 (by decide) (by omega) (by omega);rw[d]at e;simp[ak, *,nE];refine bD _ _ _ _ _ _ λg=>?_;simp[ak, *,bo,me];refine bD _ _ _ _ _ _ λg=>?_;simp[ak, *,bo,me];refine bD _ _ _ _ _ _ λg=>?_;simp[ak, *,bo,me];refine bD _ _ _ _ _ _ λg=>?_;simp[ak, *,bo,me];refine bD _ _ _ _ _ _ λg=>?_;simp[ak, *,bo,me,vc,aK]
@[simp] def Yf(n:Int)(o:0<=n)(q:n<9223372036854775808):ay env 166 [aI n,aI 7]=some (.bE 1 (aK (be 7 n)) none):=by
 refine aH rfl (by kernel_rfl) (rz _ _ _ _ λg=>?_);have p:=λt xo yo=>nX t xo yo (n:=n) (by omega);have s:=λt xo yo=>nZ t xo yo (n:=n) 256 (by decide) (by omega) (by omega);have m:n / 256 / 256=n / 65536:=by omega
 have r1:=λt xo yo=>nX t xo yo (n:=(n / 256)) (by omega);have a:=λt xo yo=>nZ t xo yo (n:=(n / 256)) 256 (by decide) (by omega) (by omega);rw[m]at a;have f:n / 65536 / 256=n / 16777216:=by omega
 have r2:=λt xo yo=>nX t xo yo (n:=(n / 65536)) (by omega);have e:=λt xo yo=>nZ t xo yo (n:=(n / 65536)) 256 (by decide) (by omega) (by omega);rw[f]at e;have h:n / 16777216 / 256=n / 4294967296:=by omega
 have r3:=λt xo yo=>nX t xo yo (n:=(n / 16777216)) (by omega);have k:=λt xo yo=>nZ t xo yo (n:=(n / 16777216)) 256 (by decide) (by omega) (by omega);rw[h]at k;have j:n / 4294967296 / 256=n / 1099511627776:=by omega
 have r4:=λt xo yo=>nX t xo yo (n:=(n / 4294967296)) (by omega);have b:=λt xo yo=>nZ t xo yo (n:=(n / 4294967296)) 256 (by decide) (by omega) (by omega);rw[j]at b;have c:n / 1099511627776 / 256=n / 281474976710656:=by omega
 have r5:=λt xo yo=>nX t xo yo (n:=(n / 1099511627776)) (by omega);have i:=λt xo yo=>nZ t xo yo (n:=(n / 1099511627776)) 256 (by decide) (by omega) (by omega);rw[c]at i;have l:n / 281474976710656 / 256=n / 72057594037927936:=by omega
 have r6:=λt xo yo=>nX t xo yo (n:=(n / 281474976710656)) (by omega);have d:=λt xo yo=>nZ t xo yo (n:=(n / 281474976710656)) 256 (by decide) (by omega) (by omega);rw[l]at d;simp[ak, *,nE];refine bD _ _ _ _ _ _ λg=>?_;simp[ak, *,bo,me];refine bD _ _ _ _ _ _ λg=>?_;simp[ak, *,bo,me];refine bD _ _ _ _ _ _ λg=>?_;simp[ak, *,bo,me];refine bD _ _ _ _ _ _ λg=>?_;simp[ak, *,bo,me];refine bD _ _ _ _ _ _ λg=>?_;simp[ak, *,bo,me];refine bD _ _ _ _ _ _ λg=>?_;simp[ak, *,bo,me];refine bD _ _ _ _ _ _ λg=>?_;simp[ak, *,bo,me];refine bD _ _ _ _ _ _ λg=>?_;simp[ak, *,bo,me,QC,aK]
@[simp] def Kb(a:UInt8)(b:UInt32)(n:UInt8):ay env 138 [.agg [a8 a,bY b,a8 n]]=some (.fsl 1 (aK (cS ⟨a,b,n⟩)) none):=by
 refine aH rfl (by kernel_rfl) (xC _ _ _ λg=>?_);have c:=b.toNat_lt;have d:=Yg (b.toNat:Int) (by omega) (by omega);simp[ak, *,qW,cS,aK]
def Kc(a:UInt8)(b:UInt32)(n:UInt8)(k:Int)(d:0<=k)(c:k<9223372036854775808):ay env 167 [.agg [a8 a,bY b,a8 n,aI k]]=some (.bE 1 (aK (eN ⟨⟨a,b,n⟩,k⟩)) none):=by
 refine aH rfl (by kernel_rfl) (xD _ _ _ λg=>?_);have e:=Yf k d c;simp[ak, *,qX,eN,aK]
def Rn{r:dY}(h:ej r=true):Ge r = .bE 1 (aK (m9 r)) none:=by
 unfold ej at h;unfold Ge m9;split at h;·rename_i k1;simp only[bI]at h;rw[if_pos k1,if_pos k1,if_pos h.2.1]
 rename_i k1;rw[if_neg k1,if_neg k1];split at h;·rename_i a;simp only[bI]at h;rw[if_pos a,if_pos a,if_pos h.2.1]
 rename_i a;rw[if_neg a,if_neg a];split at h;·rename_i b;simp only[bI]at h;rw[if_pos b,if_pos h.1]
 cases h
def Ib{r:dY}(h:ej r=true):(r.kind=1/\(m9 r).length=8)\/(r.kind=2/\(m9 r).length=3+Co r.op/\r8 r.op=true)\/(r.kind=3/\(m9 r).length=8):=by
 unfold ej at h;unfold m9;split at h;·rename_i k1;refine .inl ⟨k1,?_⟩;rw[if_pos k1];simp
 rename_i k1;rw[if_neg k1];split at h;·rename_i a;simp only[bI]at h;refine .inr (.inl ⟨a,?_,h.2.1⟩);rw[if_pos a];simp[xh h.2.1];omega
 rename_i a;rw[if_neg a];split at h;·rename_i b;refine .inr (.inr ⟨b,?_⟩);simp[lg]
 cases h
def nI(r:dY):Nat:=((m9 r).length+118) / 119
def Gs{r:dY}(h:ej r=true):1<=nI r/\nI r<=3/\(r.kind=2\/nI r=1):=by
 unfold nI;rcases Ib h with ⟨k,e⟩ | ⟨k,e,a⟩ | ⟨k,e⟩
 ·rw[e];simp
 ·rw[e];have:=vY a;exact⟨by omega,by omega,.inl k⟩
 rw[e];simp
def Pt(k:UInt8)(u:Int)(n:UInt8)(q:UInt8)(a_3:UInt32)(m:UInt8)(s:Int)(B:UInt8)(p:UInt32)(y:UInt8)(A:Int)(i:Int)(a:UInt8)(h:UInt32)(f:UInt8)(j:Int)(b:UInt8)(d:UInt32)(c g1:Int)(v:UInt8)(w:UInt32)(o:Bool){x:AV}{l:List Int}(I:Sl 1 (rows l) x)(K:l.length<2000000) :
 ay env 105 [.agg [a8 k,aI u,a8 n,a8 q,bY a_3,a8 m,aI s,a8 B,bY p,a8 y,aI A,aI i,a8 a,bY h,a8 f,aI j,a8 b,bY d,x,aI c,aI g1,a8 v,bY w,aB o]]=some (if ej ⟨k,u,(⟨n,⟨q,a_3,m⟩,s,⟨⟨⟨B,p,y⟩,A⟩,i⟩,⟨⟨a,h,f⟩,j⟩,⟨b,d⟩,l⟩:gI),c,g1,v,w,o⟩ then .tup [aI (nI ⟨k,u,(⟨n,⟨q,a_3,m⟩,s,⟨⟨⟨B,p,y⟩,A⟩,i⟩,⟨⟨a,h,f⟩,j⟩,⟨b,d⟩,l⟩:gI),c,g1,v,w,o⟩),aI 0] else .tup [aI 0,aI 8]):=by
 refine aH rfl (by kernel_rfl) (Gb _ _ _ λg=>?_);have H:=HQ k u n q a_3 m s B p y A i a h f j b d c g1 v w o I K;have T:=I.r;have F := @Rn ⟨k,u,(⟨n,⟨q,a_3,m⟩,s,⟨⟨⟨B,p,y⟩,A⟩,i⟩,⟨⟨a,h,f⟩,j⟩,⟨b,d⟩,l⟩:gI),c,g1,v,w,o⟩;have C := @Ib ⟨k,u,(⟨n,⟨q,a_3,m⟩,s,⟨⟨⟨B,p,y⟩,A⟩,i⟩,⟨⟨a,h,f⟩,j⟩,⟨b,d⟩,l⟩:gI),c,g1,v,w,o⟩;have G:nI ⟨k,u,(⟨n,⟨q,a_3,m⟩,s,⟨⟨⟨B,p,y⟩,A⟩,i⟩,⟨⟨a,h,f⟩,j⟩,⟨b,d⟩,l⟩:gI),c,g1,v,w,o⟩=((m9 ⟨k,u,(⟨n,⟨q,a_3,m⟩,s,⟨⟨⟨B,p,y⟩,A⟩,i⟩,⟨⟨a,h,f⟩,j⟩,⟨b,d⟩,l⟩:gI),c,g1,v,w,o⟩).length+118) / 119:=rfl;cases E:ej ⟨k,u,(⟨n,⟨q,a_3,m⟩,s,⟨⟨⟨B,p,y⟩,A⟩,i⟩,⟨⟨a,h,f⟩,j⟩,⟨b,d⟩,l⟩:gI),c,g1,v,w,o⟩ with
 | false=>
  rw[E]at H;generalize D:Ge ⟨k,u,(⟨n,⟨q,a_3,m⟩,s,⟨⟨⟨B,p,y⟩,A⟩,i⟩,⟨⟨a,h,f⟩,j⟩,⟨b,d⟩,l⟩:gI),c,g1,v,w,o⟩=z at *;clear F C G;have Q:z = .bE 1 [a8 k] (some 1) \/∃es,z = .bE 1 es none:=by
   rw[<-D];unfold Ge;split;·exact .inr ⟨_,rfl⟩
   split;·exact .inr ⟨_,rfl⟩
   split
   ·split;·exact .inr ⟨_,rfl⟩
    exact .inl rfl
   exact .inl rfl
  clear D;rcases Q with rfl | ⟨es,rfl⟩<;>simp[ak, *,ve]
 | true=>
  rw[F E,E]at H;have S:(m9 ⟨k,u,(⟨n,⟨q,a_3,m⟩,s,⟨⟨⟨B,p,y⟩,A⟩,i⟩,⟨⟨a,h,f⟩,j⟩,⟨b,d⟩,l⟩:gI),c,g1,v,w,o⟩).length<=1000:=by
   rcases C E with ⟨_,e⟩ | ⟨_,e,N⟩ | ⟨_,e⟩
   ·omega
   ·have:=vY N;omega
   omega
  rw[G];clear F C G;generalize m9 ⟨k,u,(⟨n,⟨q,a_3,m⟩,s,⟨⟨⟨B,p,y⟩,A⟩,i⟩,⟨⟨a,h,f⟩,j⟩,⟨b,d⟩,l⟩:gI),c,g1,v,w,o⟩=bs at *;have R:=iQa ((bs.length:Int)+119) (by omega);have M:=iQa ((bs.length:Int)+119 - 1) (by omega);have J:((bs.length:Int)+119 - 1)=bs.length+118:=by omega
  have O:=λt xo yo=>mz env.P t xo yo .i64 ((bs.length:Int)+118) 119 (by decide);have L:((bs.length:Int)+118).tdiv 119=(((bs.length+118) / 119:Nat):Int):=(by rw[G6 (by omega)];omega);rw[L,iQa _ (by omega)]at O;rw[J]at M;simp[ak, *,ve]
def Mi{P:Program}{t t':TypeId}(v:qN P t=true)(c:isInt P t'=true)(s:(gX P t).cells.all AV.one=true)(H:aa)(r q:Ref)(n:Int)(m:Nat){es:List AV}{fz:Bool}(x:H.get q=some ⟨lj P t,es,true,fz⟩)(D:m=es.length)(G:0<n)(E:n<=aX)(p:(m+n.toNat) * td P t<=aX) :
 ee P true H r (some t) (some t') (.ct q 0 m none) (aI n)=some (.ct ⟨q.d,q.t,H.gen q.d q.t,0⟩ 0 (m+n.toNat) none,(⟨q.d,q.t,H.gen q.d q.t,0⟩,some ⟨lj P t,es++List.replicate n.toNat (gX P t),true,fz⟩) :: H.put q none):=by
 subst D;unfold qN at v;obtain⟨e,zz,f,l,y,b,o,F,u,A⟩:=iK v;have C:gX P t=zz:=by unfold gX;rw[f,fe,b];rfl
 rw[C]at s ⊢;have j:(P.underlying t').isNone=false:=by
  unfold isInt at c;cases h:P.underlying t' with
  | none=>rw[h]at c;cases c
  | some d=>rfl
 have B : ¬((P.underlying t').isNone=true\/isInt P t'≠isNum (aI n)):=by rw[j,c];simp[isNum]
 have hd : ¬(lj P t≠lj P t\/lj P t=0\/td P t=0\/zz.cells.length≠lj P t):=by simp[o,u,A]
 have a:nP P H.get e (aI n)=some (lj P t,List.replicate n.toNat zz):=by
  show(match fk P e,aV P e with | some w,some z=>if 0<=n/\n<=aX/\w.cells.length=z/\w.cells.all AV.one then some (z,List.replicate n.toNat w) else none | _,_=>none)=_;rw[b,l];exact if_pos ⟨by omega,E,by simp[o,u,A],s⟩
 have i:List.replicate n.toNat zz≠[]:=by
  intro h;have:=iQf List.length h;simp only[Ds,lE]at this;omega
 have g : ¬(lj P t≠lj P t\/lj P t=0\/td P t=0\/List.replicate n.toNat zz=[]\/zz.cells.length≠lj P t):=by simp only[i,false_or];exact hd
 have k:fx P H.get r (some t) (some t') (.ct q 0 es.length none) (aI n)=none:=by
  simp only[fx,fe,f,Option.map_some,cU,if_neg B,l,y,b,a,if_neg hd,if_neg i,x];simp[i]
 simp only[ee,k];simp only[mA,FK,AN,kG,fe,f,Option.map_some,cU,if_neg B,l,y,b,a,if_neg g,x,Ds];unfold aX at p;simp[p]
def Pz{l:List Int}{x0:AV}(p:Sl 1 (rows l) x0)(hl:l.length<100000)(O : ∀n∈l,iY n=true){Q:AV->aa->Prop} :
 ∀(s:List Int)(k:Nat)(i:Int)(a:List Int)(F:AV)(H:aa),l.drop k=s->k<=l.length->i=k->a.length=k->Fr H->hU [35] 1 (aK (bu a)) H F->(a=[]->F=aY) ->
 (∀y f,hU [35] 1 (aK (bu (a++s))) f y->(a++s=[]->y=aY)->Q y f) ->
 cy env Tryz.f168 0 gR [(4,aI i),(3,F),(0,x0)] H Q:=by
 intro s;induction s with
 | nil=>rintro k i a x5 H hs hk rfl ha hF hO hN hQ;obtain rfl:=drop_nil hs hk;refine pT _ _ _ _ _ λg=>?_;have j:=hQ x5 H (by simpa using hO) (by simpa using hN);clear hQ hO hN;simp[ak, *,fp,p.len];all_goals exact j
 | cons n s J=>
  rintro k i a x5 H hs hk rfl ha hF hO hN hQ;obtain⟨V,S,B,G⟩:=drop_cons hs;have I:=O n (by rw[<-S];exact fj _);have e3:=iQa ((k:Int)+1) (by omega);refine pT _ _ _ _ _ λg=>?_;have X:bP (rows l) k 0 1 false=some (.v (.int .i32 n)):=by simp[rows,G,aR]
  have o:=λz f=>J (k+1) ((k:Int)+1) (a++[n]) z f B (by omega) (by simp) (by simp;omega);have j : ∀y f,hU [35] 1 (aK (bu ((a++[n])++s))) f y->((a++[n])++s=[]->y=aY)->Q y f:=λy f h I=>hQ y f (by simpa using h) (λe=>by simp at e);have q:=nY a;have c:(aK (bu a)).length=4 * a.length:=by rw[show(aK (bu a)).length=(bu a).length from by simp,q]
  have d : ∀(g m:Nat)(f:aa),m=4 * a.length+4->f.get ⟨0,35,g,0⟩=some ⟨1,aK (bu a)++[a8 (u8 (n / 16777216)),a8 (u8 (n / 65536)),a8 (u8 (n / 256)),a8 (u8 n)],true,false⟩->hU [35] 1 (aK (bu (a++[n]))) f (.ct ⟨0,35,g,0⟩ 0 m none):=by
   intro g m f W h;subst W;have e:aK (bu (a++[n]))=aK (bu a)++[a8 (u8 (n / 16777216)),a8 (u8 (n / 65536)),a8 (u8 (n / 256)),a8 (u8 n)]:=by simp[bu,vc,aK]
   rw[e];exact .inr ⟨35,g,by simp,by rw[iX,c];rfl,h⟩
  clear hQ hN J;have w:n = -1\/(0<=n/\n<=1114111):=by
   simp only[iY,jf,bI,iQb]at I;omega
  have K:=λt xo yo=>nZ t xo yo (n:=4294967295) 16777216 (by decide) (by omega) (by omega);have Y:=λt xo yo=>nZ t xo yo (n:=4294967295) 65536 (by decide) (by omega) (by omega);have U:=λt xo yo=>nZ t xo yo (n:=4294967295) 256 (by decide) (by omega) (by omega);have T:=λt xo yo=>nX t xo yo (n:=4294967295) (by omega);have Z:=λt xo yo=>nX t xo yo (n:=65535) (by omega);have P:=λt xo yo=>nX t xo yo (n:=16777215) (by omega);simp only[show(4294967295:Int) / 16777216=255 by decide,show(4294967295:Int) / 65536=65535 by decide,show(4294967295:Int) / 256=16777215 by decide,show(4294967295:Int) % 256=255 by decide,show(65535:Int) % 256=255 by decide,show(16777215:Int) % 256=255 by decide]at K Y U T Z P;have hu:u8 255=255:=rfl;have A:u8 (-1)=255:=rfl;rcases w with rfl | ⟨p0,p1⟩
  ·have d1:(-1:Int) / 16777216 = -1:=(by decide);have d2:(-1:Int) / 65536 = -1:=(by decide);have d3:(-1:Int) / 256 = -1:=(by decide);rw[d1,d2,d3,A]at d;have L:IntKind.i64.wrap (-1) = -1:=rfl;rcases hO with ⟨rfl,C⟩ | ⟨t,E,x,rfl,D⟩
   ·have u:a=[]:=(by have:=iQf List.length C;rw[c]at this;simp only[lE]at this;exact Ak (by omega));subst u;have b:=d (H.gen 0 35) 4;clear d;simp[ak, *,fp,p.r,p.idx];exact o _ _ (by simp(maxDischargeDepth:=12) [eR, *]) (b _ rfl (by simp[bu])) (λe=>by simp at e) j
   rw[lX]at x;subst x;have R:(H.get ⟨0,35,E,0⟩).isSome=true:=by rw[D];rfl
   have M:kJ 1 1 (aK (bu a)).length true none (some ⟨1,aK (bu a),true,false⟩) (some [a8 255,a8 255,a8 255,a8 255]):=(by rw[ax,c];refine⟨rfl,c.symm ▸ rfl,.inr ⟨?_,rfl⟩⟩;simp;omega);have b:=λf=>d (H.gen 0 35) ((aK (bu a)).length+4) f (by rw[c]);clear d ha c q;generalize aK (bu a)=bs at *;simp[ak, *,fp,p.r,p.idx];exact o _ _ (by simp(maxDischargeDepth:=12) [eR, *]) (b _ (by simp)) (λe=>by simp at e) j
  have L:=iQa n (by omega);have N : ¬n<0:=by omega
  have p2:0<=n / 65536:=(by omega);have p3:0<=n / 256:=(by omega);have t1:=λt xo yo=>nZ t xo yo (n:=n) 16777216 (by decide) (by omega) (by omega);have t2:=λt xo yo=>nZ t xo yo (n:=n) 65536 (by decide) (by omega) (by omega);have t3:=λt xo yo=>nZ t xo yo (n:=n) 256 (by decide) (by omega) (by omega);have t4:=λt xo yo=>nX t xo yo (n:=n) (by omega);have t5:=λt xo yo=>nX t xo yo (n:=n / 65536) (by omega);have t6:=λt xo yo=>nX t xo yo (n:=n / 256) (by omega);rcases hO with ⟨rfl,C⟩ | ⟨t,E,x,rfl,D⟩
  ·have u:a=[]:=(by have:=iQf List.length C;rw[c]at this;simp only[lE]at this;exact Ak (by omega));subst u;have b:=d (H.gen 0 35) 4;clear d;simp[ak, *,fp,p.r,p.idx,me];exact o _ _ (by simp(maxDischargeDepth:=12) [eR, *]) (b _ rfl (by simp[bu])) (λe=>by simp at e) j
  rw[lX]at x;subst x;have R:(H.get ⟨0,35,E,0⟩).isSome=true:=by rw[D];rfl
  have M:kJ 1 1 (aK (bu a)).length true none (some ⟨1,aK (bu a),true,false⟩) (some [a8 (u8 (n / 16777216)),a8 (u8 (n / 65536)),a8 (u8 (n / 256)),a8 (u8 n)]):=(by rw[ax,c];refine⟨rfl,c.symm ▸ rfl,.inr ⟨?_,rfl⟩⟩;simp;omega);have b:=λf=>d (H.gen 0 35) ((aK (bu a)).length+4) f (by rw[c]);clear d ha c q;generalize aK (bu a)=bs at *;simp[ak, *,fp,p.r,p.idx,me];exact o _ _ (by simp(maxDischargeDepth:=12) [eR, *]) (b _ (by simp)) (λe=>by simp at e) j
def Vh{l:List Int}{x:AV}(p:Sl 1 (rows l) x)(m:l.length<100000)(i : ∀n∈l,iY n=true):ay env 168 [x]=some (cK 1 (aK (bu l))):=by
 refine aH rfl (by kernel_rfl) (yD _ _ _ λg=>?_);have b:=λH Q=>Pz p m i (H:=H) (Q:=Q) l 0 0 [] aY rfl (by omega) rfl rfl;have c : ∀y f,hU [35] 1 (aK (bu ([]++l))) f y->([]++l=[]->y=aY)->view f.get 8 y=some (cK 1 (aK (bu l))):=by
  intro y f h a;rw[sf]at h a;rcases h with ⟨rfl,j⟩ | ⟨t,q,v,rfl,o⟩
  ·rw[j];simp[cK]
  have d:aK (bu l)≠[]:=by
   intro e;have k:=iQf List.length e;have u:=nY l;have s:(aK (bu l)).length=(bu l).length:=by simp
   simp only[lE]at k;have:l=[]:=Ak (by omega);cases a this
  rw[ji 1 d];generalize aK (bu l)=bs at *;simp[o]
 simp[ak, *,rW];exact b _ _ Fr.nil (.inl ⟨rfl,rfl⟩) (λ_=>rfl) c
def Xn(H:aa)(r q:Ref){es:List AV}{fz:Bool}(b:H.get q=some ⟨1,es,true,fz⟩)(a:es.length=24) :
 ee env.P true H r (some 76) (some 3) (.ct q 0 24 none) (aI 13)=some (.ct ⟨q.d,q.t,H.gen q.d q.t,0⟩ 0 37 none,(⟨q.d,q.t,H.gen q.d q.t,0⟩,some ⟨1,es++[a8 0,a8 0,a8 0,a8 0,a8 0,a8 0,a8 0,a8 0,a8 0,a8 0,a8 0,a8 0,a8 0],true,fz⟩) :: H.put q none):=by
 have h:=Mi (P:=env.P) (t:=76) (t':=3) (by kernel_rfl) (by kernel_rfl) (by kernel_rfl) H r q 13 24 (es:=es) (fz:=fz) (by rw[WY];exact b) a.symm (by decide) (by decide) (by simp);rw[WY]at h;rw[h];have e:gX env.P 76=a8 0:=by kernel_rfl
 rw[e];rfl
def BF(v:UInt8)(q:UInt8)(a_3:UInt32)(p:UInt8)(a:Int)(o:UInt8)(j:UInt32)(k:UInt8)(m:Int)(i:Int)(b:UInt8)(d:UInt32)(c:UInt8)(f:Int)(s:UInt8)(u:UInt32){x:AV}{l:List Int}(M:Sl 1 (rows l) x)(Q:l.length<100000)(L:r8 (⟨v,⟨q,a_3,p⟩,a,⟨⟨⟨o,j,k⟩,m⟩,i⟩,⟨⟨b,d,c⟩,f⟩,⟨s,u⟩,l⟩:gI)=true):ay env 139 [.agg [a8 v,a8 q,bY a_3,a8 p,aI a,a8 o,bY j,a8 k,aI m,aI i,a8 b,bY d,a8 c,aI f,a8 s,bY u,x]]=some (.bE 1 (aK (fW (⟨v,⟨q,a_3,p⟩,a,⟨⟨⟨o,j,k⟩,m⟩,i⟩,⟨⟨b,d,c⟩,f⟩,⟨s,u⟩,l⟩:gI))) none):=by
 refine aH rfl (by kernel_rfl) (xA _ _ _ λg=>?_);have hr:=M.r;have hp:=tO L;simp only at hp;obtain⟨hs0,P,⟨V,Z⟩,Y,O,S⟩:=hp;have t1:=λt xo yo=>nZ t xo yo (n:=a) 65536 (by decide) (by omega) (by omega);have t2:=λt xo yo=>nZ t xo yo (n:=a) 256 (by decide) (by omega) (by omega);have t3:=λt xo yo=>nX t xo yo (n:=a / 256) (by omega);have t4:=λt xo yo=>nX t xo yo (n:=a) (by omega);have b1:=Kc o j k m (by omega) (by omega);have U:oU (⟨v,⟨q,a_3,p⟩,a,⟨⟨⟨o,j,k⟩,m⟩,i⟩,⟨⟨b,d,c⟩,f⟩,⟨s,u⟩,l⟩:gI)=v :: (cS ⟨q,a_3,p⟩++([u8 (a / 65536),u8 (a / 256),u8 a]++(eN ⟨⟨o,j,k⟩,m⟩++[u8 i]))):=by simp[oU,TO]
 unfold fW;rw[U];have lh:=C6 ⟨q,a_3,p⟩;have li:=P7 ⟨⟨o,j,k⟩,m⟩;rcases S with ⟨rfl,H,E,B,w⟩ | ⟨rfl,H,E,B⟩ | ⟨rfl,E,B,R⟩
 ·obtain⟨N,T,I⟩:=PC w;have K : ∀n∈l,iY n=true:=(by have:=w;simp only[HZ,bI,gP]at this;exact this.2);have hW:=Vh M Q K;have D:=nY l;have G:aK (bu l)≠[]:=(by intro e;have:=iQf List.length e;rw[gM,lE]at this;omega);rw[ji 1 G]at hW;have J:(aK (bu l)).length=4 * l.length:=by rw[gM,D]
  have F : ∀A:List UInt8,aK (A++bu l)=aK A++aK (bu l):=λA=>by simp[aK]
  rw[if_pos rfl];have f1:37+4 * l.length<=140737488355328:=by omega
  clear N I w D K L;rcases Bool.eq_false_or_eq_true (lD ⟨⟨b,d,c⟩,f⟩)with y | y
  ·have z:pr ⟨⟨b,d,c⟩,f⟩=List.replicate 13 0:=by unfold pr;rw[if_pos y]
   rw[z];have C:aK (1 :: (cS ⟨q,a_3,p⟩++([u8 (a / 65536),u8 (a / 256),u8 a]++(eN ⟨⟨o,j,k⟩,m⟩++[u8 i])))++(List.replicate 13 0++bu l))=aK (1 :: (cS ⟨q,a_3,p⟩++([u8 (a / 65536),u8 (a / 256),u8 a]++(eN ⟨⟨o,j,k⟩,m⟩++[u8 i])))++List.replicate 13 0)++aK (bu l):=by rw[<-sh,F]
   rw[C];clear F C;generalize aK (bu l)=W at *;simp[ak, *,im,aK,me,cS,eN,vc,QC];refine rm (Xn _ _ _ rfl rfl) ?_;simp[*];refine⟨by omega,?_⟩;rw[dM];·simp[vc,QC]
   simp only[jP];omega
  have z:pr ⟨⟨b,d,c⟩,f⟩=eN ⟨⟨b,d,c⟩,f⟩:=by unfold pr;rw[if_neg (by rw[y];decide)]
  rw[z];have C:aK (1 :: (cS ⟨q,a_3,p⟩++([u8 (a / 65536),u8 (a / 256),u8 a]++(eN ⟨⟨o,j,k⟩,m⟩++[u8 i])))++(eN ⟨⟨b,d,c⟩,f⟩++bu l))=aK (1 :: (cS ⟨q,a_3,p⟩++([u8 (a / 65536),u8 (a / 256),u8 a]++(eN ⟨⟨o,j,k⟩,m⟩++[u8 i])))++eN ⟨⟨b,d,c⟩,f⟩)++aK (bu l):=by rw[<-sh,F]
  rw[C];have X:=Kc b d c f (by
   rcases E with h | h;· rw[h]at y;cases y
   omega) (by
    rcases E with h | h;· rw[h]at y;cases y
    omega)
  clear F C;generalize aK (bu l)=W at *;simp[ak, *,im,aK,me,cS,eN,vc,QC];exact⟨by omega,dM (by simp;omega)⟩
 ·simp[ak, *,im,aK,me,cS,eN,vc,QC]
 simp[ak, *,im,aK,me,cS,eN,vc,QC]
def FD(k:UInt8)(m:Int):Int:=if m<1 then 0 else if 64<m then 0 else if k=1 then 37+4 * m else if k=2 then 24 else if k=3 then 29 else 0
def Vf(k:UInt8)(m:Int):ay env 205 [a8 k,aI m]=some (aI (FD k m)):=by
 refine aH rfl (by kernel_rfl) (yB _ _ _ _ λg=>?_);unfold FD;by_cases e:m<1;·simp[ak, *,gx]
 by_cases d:64<m;·simp[ak, *,gx]
 have b:=iQa (4 * m) (by omega);have f:=iQa (37+4 * m) (by omega);by_cases k1:k=1;·simp[ak, *,gx]
 by_cases a:k=2;·simp[ak, *,gx]
 by_cases c:k=3<;>simp[ak, *,gx]
def PV{l:List Int}{x:AV}(m:Sl 1 (rows l) x)(M:l.length<100000)(p:UInt8)(E:UInt8)(a_3:UInt32)(o:UInt8)(t:Int)(B:UInt8)(A:UInt32)(u:UInt8)(z:Int)(f:Int)(a:UInt8)(b:UInt32)(j:UInt8)(e:Int)(c:UInt8)(d:UInt32){r:Ref}{H:aa}(L:H.get r=some ⟨17,[.agg [a8 p,a8 E,bY a_3,a8 o,aI t,a8 B,bY A,a8 u,aI z,aI f,a8 a,bY b,a8 j,aI e,a8 c,bY d,x]],false,false⟩){Q:AV->aa->Prop} :
 ∀(s:List Int)(k:Nat)(i:Int),l.drop k=s->k<=l.length->i=k->(∀y,y=aB (!decide (-1∈s))->Q y H) ->
 cy env Tryz.f98 0 jm [(3,aI i),(1,.ptr r 0 0)] H Q:=by
 intro s;induction s with
 | nil=>rintro k i hs hk rfl hQ;obtain rfl:=drop_nil hs hk;refine o6 _ _ _ _ λg=>?_;have G:=m.r;simp[ak, *,jv];all_goals exact hQ _ (by simp)
 | cons n s C=>
  rintro k i hs hk rfl hQ;obtain⟨I,O,q,K⟩:=drop_cons hs;refine o6 _ _ _ _ λg=>?_;have N:=iQa ((k:Int)+1) (by omega);have G:=m.r;by_cases F:n = -1;·have w:=hQ (aB false) (by simp[F]);clear hQ C;simp[ak, *,jv,m.idx,rows,aR];all_goals exact w
  have v : ¬ -1=n:=λh=>F h.symm;have D:=C (k+1) ((k:Int)+1) q (by omega) (by simp) (λy J=>hQ y (by rw[J];simp[v]));clear C hQ;simp[ak, *,jv,m.idx,rows,aR];all_goals exact D
def SE(k:UInt8)(s:UInt8)(a_3:UInt32)(j:UInt8)(m:Int)(q:UInt8)(p:UInt32)(n:UInt8)(o:Int)(h:Int)(a:UInt8)(b:UInt32)(i:UInt8)(f:Int)(c:UInt8)(d:UInt32){x:AV}{l:List Int}(t:Sl 1 (rows l) x)(u:l.length<100000):ay env 98 [.agg [a8 k,a8 s,bY a_3,a8 j,aI m,a8 q,bY p,a8 n,aI o,aI h,a8 a,bY b,a8 i,aI f,a8 c,bY d,x]]=some (aB (!decide (-1∈l))):=by
 refine aH rfl (by kernel_rfl) (xz _ _ _ λg=>?_);have v:=t.r;simp[ak, *,qV];exact PV t u k s a_3 j m q p n o h a b i f c d (by simp) l 0 _ rfl (by omega) rfl (λy e=>by simp[e])
def Ve(j:UInt8)(q:UInt8)(a_3:UInt32)(i:UInt8)(k:Int)(p:UInt8)(o:UInt32)(m:UInt8)(n:Int)(f:Int)(a:UInt8)(b:UInt32)(h:UInt8)(e:Int)(c:UInt8)(d:UInt32){x:AV}{l:List Int}(s:Sl 1 (rows l) x)(u:l.length<100000):ay env 90 [.agg [a8 j,a8 q,bY a_3,a8 i,aI k,a8 p,bY o,a8 m,aI n,aI f,a8 a,bY b,a8 h,aI e,a8 c,bY d,x]]=some (.agg [a8 j,a8 q,bY a_3,a8 i,aI k,a8 p,bY o,a8 m,aI n,aI f,a8 a,bY b,a8 h,aI e,a8 c,bY d,cK 1 (rows l)]):=by
 refine aH rfl (by kernel_rfl) (yA _ _ _ λg=>?_);have v:=s.r;have w:l.length<=35184372088832/\l.length * 4<=140737488355328:=by omega
 by_cases t:rows l=[];·simp[ak, *,nD,s.kI,cK]
 rw[ji 1 t];simp[ak, *,nD,s.kI]
def EX(t:UInt8)(z:UInt8)(a_3:UInt32)(s:UInt8)(C:Int)(J:UInt8)(u:UInt32)(F:UInt8)(I:Int)(p:Int)(b:UInt8)(j:UInt32)(i:UInt8)(o:Int)(e:UInt8)(h:UInt32)(w:UInt8)(K:UInt8)(A:UInt32)(H:UInt8)(D:Int)(E:UInt8)(v:UInt32)(B:UInt8)(G:Int)(k:Int)(c:UInt8)(n:UInt32)(q:UInt8)(d:Int)(f:UInt8)(a:UInt32){x y:AV}{l m:List Int}(M:Sl 1 (rows l) x)(L:Sl 1 (rows m) y)(Q:l.length<1000000000)(W:m.length<1000000000):ay env 85 [.agg [a8 t,a8 z,bY a_3,a8 s,aI C,a8 J,bY u,a8 F,aI I,aI p,a8 b,bY j,a8 i,aI o,a8 e,bY h,x],.agg [a8 w,a8 K,bY A,a8 H,aI D,a8 E,bY v,a8 B,aI G,aI k,a8 c,bY n,a8 q,aI d,a8 f,bY a,y]]=some (aB (o9 (⟨t,⟨z,a_3,s⟩,C,⟨⟨⟨J,u,F⟩,I⟩,p⟩,⟨⟨b,j,i⟩,o⟩,⟨e,h⟩,l⟩:gI) (⟨w,⟨K,A,H⟩,D,⟨⟨⟨E,v,B⟩,G⟩,k⟩,⟨⟨c,n,q⟩,d⟩,⟨f,a⟩,m⟩:gI))):=by
 refine aH rfl (by kernel_rfl) (yC _ _ _ _ λg=>?_);have X:=U7 M L (by omega);have S:=M.r;have N:=L.r;unfold o9;cases U:decide (t=w) with
 | false=>simp[ak, *,dW,mV,fN]
 | true=>
 cases O:(decide (z=K)&&decide (a_3=A)&&decide (s=H)) with| false=>simp[ak, *,dW,mV,fN]| true=>
 cases R:decide (C=D) with| false=>simp[ak, *,dW,mV,fN]| true=>
 cases V:(decide (J=E)&&decide (u=v)&&decide (F=B)&&decide (I=G)&&decide (p=k)) with| false=>simp[ak, *,dW,mV,fN]| true=>
 cases P:(decide (b=c)&&decide (j=n)&&decide (i=q)&&decide (o=d)) with| false=>simp[ak, *,dW,mV,fN]| true=>
 cases T:(decide (e=f)&&decide (h=a)) with| false=>simp[ak, *,dW,mV,fN]| true=>simp[ak, *,dW,mV,fN]
def CY{v:AV}{l:List UInt8}(h:Sl 1 (aK l) v)(k:l.length=6):ay env 206 [v]=some (.agg [a8 (iZ l).lv,bY (iZ l).cats,a8 (iZ l).num]):=by
 obtain⟨a,b,c,d,e,f,rfl⟩:=Lz k;obtain⟨w,rfl,A⟩:=nU h (by simp[aK]);refine aH rfl (by kernel_rfl) (wK _ _ _ λg=>?_);have m:=b.toNat_lt;have p:=c.toNat_lt;have y:=d.toNat_lt;have n:=e.toNat_lt;have o:=iQa ((b.toNat:Int)) (by omega);have z:=iQa (256 * (b.toNat:Int)) (by omega);have q:=iQa (256 * (b.toNat:Int)+c.toNat) (by omega);have t:=iQa (256 * (256 * (b.toNat:Int)+c.toNat)) (by omega);have x:=iQa (256 * (256 * (b.toNat:Int)+c.toNat)+d.toNat) (by omega);have u:=iQa (256 * (256 * (256 * (b.toNat:Int)+c.toNat)+d.toNat)) (by omega);have s:=iQa (256 * (256 * (256 * (b.toNat:Int)+c.toNat)+d.toNat)+e.toNat) (by omega);have j:val [b,c,d,e]=256 * (256 * (256 * (b.toNat:Int)+c.toNat)+d.toNat)+e.toNat:=by simp[val,vp]
 have i:iZ [a,b,c,d,e,f]=⟨a,u32 (val [b,c,d,e]),f⟩:=rfl;rw[i,j];simp[ak, *,ql];refine fU _ _ _ _ _ _ λg=>?_;simp[ak, *,eQ,aK];refine fU _ _ _ _ _ _ λg=>?_;simp[ak, *,eQ,aK];refine fU _ _ _ _ _ _ λg=>?_;simp[ak, *,eQ,aK];refine fU _ _ _ _ _ _ λg=>?_;simp[ak, *,eQ,aK];refine fU _ _ _ _ _ _ λg=>?_;simp[ak, *,eQ,aK]
def VB{x0:AV}{l:List UInt8}(o:Sl 1 (aK l) x0)(h:l.length=13){r:Ref}{c0:bC}{H:aa}(p:H.get r=some ⟨4,[.agg [a8 0,bY 0,a8 0,aI 0]],false,false⟩){Q:AV->aa->Prop}
 (e : ∀n,n=val (l.drop 6)->cy env Tryz.f207 0 iH [(4,aI 13),(0,x0),(3,aI n),(2,.ptr r 0 0)] H Q) :
 ∀(s:List UInt8)(k:Nat)(i a:Int),l.drop k=s->k<=l.length->i=k->6<=k->0<=a->a<256 ^ (k - 6)->vp a s=val (l.drop 6) ->
 cy env Tryz.f207 0 iH [(4,aI i),(0,x0),(3,aI a),(2,.ptr r 0 0)] H Q:=by
 intro s;induction s with
 | nil=>rintro k i a hs hk rfl h6 h0 h1 hV;obtain rfl:=drop_nil hs hk;rw[h];exact e a hV
 | cons b s f=>
  rintro k i a hs hk rfl h6 h0 h1 hV;obtain⟨j,w,c,m⟩:=drop_cons hs;have u:=b.toNat_lt;have t:(256:Int) ^ (k - 6)<=256 ^ 6:=by
   have:=rD (k:=k - 6) 6 (by omega);exact this
  refine ry _ _ _ _ _ _ λg=>?_;have q:=iQa (256 * a) (by omega);have x:=iQa (256 * a+b.toNat) (by omega);have v:=iQa ((k:Int)+1) (by omega);have lt:(k:Int)<13:=by omega
  have d:=f (k+1) ((k:Int)+1) (256 * a+b.toNat) c (by omega) (by simp) (by omega) (by omega) (by
   rw[show k+1 - 6=(k - 6)+1 by omega,AB];omega) (by rw[<-hV];rfl)
  clear f e;simp[ak, *,nC,o.idx];all_goals exact d
def Vd{v:AV}{l:List UInt8}(u:Sl 1 (aK l) v)(t:l.length=13):ay env 207 [v]=some (.agg [a8 (kz l).h.lv,bY (kz l).h.cats,a8 (kz l).h.num,aI (kz l).n]):=by
 refine aH rfl (by kernel_rfl) (Au _ _ _ λg=>?_);simp[ak, *,tA];refine VB u t (c0:=default) (by simp) (λn x=>?_) (l.drop 6) 6 6 0 rfl (by omega) rfl (by omega) (by omega) (by simp) rfl;refine ry _ _ _ _ _ _ λg=>?_;have e:kz l=⟨iZ l,n⟩:=by rw[x];rfl
 have y:iZ (l.take 6)=iZ l:=by
  obtain⟨a,b,c,d,e,f,g,i,j,k,m,n,o,rfl⟩:=AR t;rfl
 rw[e];clear x e;obtain⟨w,rfl,s⟩:=nU u (by simp;omega);have q:=λc s=>CY (v := .bE 1 (aK (l.take 6)) c) (l:=l.take 6) (.inr ⟨c,rfl,s⟩) (by simp;omega);rw[y]at q;have A:aK (l.take 6)=(aK l).take 6:=by simp[aK]
 rw[A]at q;have p:(aK l).length=13:=by rw[gM,t]
 have z:=q w (by rw[p]at s;rw[oM,p];cases w with | none=>simp | some c=>simp at s ⊢;omega);clear q;generalize iZ l=ha at *;simp[ak, *,nC]
def R2(a b c d:UInt8):word a b c d=(if val [a,b,c,d]=4294967295 then -1 else if val [a,b,c,d]<2147483648 then val [a,b,c,d] else val [a,b,c,d] - 4294967296)/\0<=val [a,b,c,d]/\val [a,b,c,d]<4294967296:=by
 have h:=yF [a,b,c,d];simp only[jP,lE]at h;have e:val [a,b,c,d]<4294967296:=by have:=h.2;simpa using this
 refine⟨?_,h.1,e⟩;unfold word;rw[iQv];split;·omega
 split<;>omega
def ac8(a b c d:UInt8):IntKind.i64.wrap (16777216 * (a.toNat:Int))=16777216 * (a.toNat:Int)/\IntKind.i64.wrap (65536 * (b.toNat:Int))=65536 * (b.toNat:Int) /\
 IntKind.i64.wrap (16777216 * (a.toNat:Int)+65536 * (b.toNat:Int))=16777216 * (a.toNat:Int)+65536 * (b.toNat:Int)/\IntKind.i64.wrap (256 * (c.toNat:Int))=256 * (c.toNat:Int) /\
 IntKind.i64.wrap (16777216 * (a.toNat:Int)+65536 * (b.toNat:Int)+256 * (c.toNat:Int))=16777216 * (a.toNat:Int)+65536 * (b.toNat:Int)+256 * (c.toNat:Int) /\
 16777216 * (a.toNat:Int)+65536 * (b.toNat:Int)+256 * (c.toNat:Int)+(d.toNat:Int)=val [a,b,c,d]/\IntKind.i64.wrap (val [a,b,c,d])=val [a,b,c,d]:=by
 have i:=a.toNat_lt;have h:=b.toNat_lt;have f:=c.toNat_lt;have g:=d.toNat_lt;have e:16777216 * (a.toNat:Int)+65536 * (b.toNat:Int)+256 * (c.toNat:Int)+(d.toNat:Int)=val [a,b,c,d]:=by simp[val,vp];omega
 exact⟨iQa _ (by omega),iQa _ (by omega),iQa _ (by omega),iQa _ (by omega),iQa _ (by omega),e,iQa _ (by omega)⟩
def PL{bs:List UInt8}{x0:AV}(J:Sl 1 (aK bs) x0)(hl:bs.length<1000000)(h4:bs.length % 4=0){Q:AV->aa->Prop} :
 ∀(m k:Nat)(s:List UInt8)(i:Int)(out:List Int)(x4:AV)(H:aa),bs.drop k=s->s.length=4 * m->k<=bs.length->i=k->out.length<=k->Fr H->hU [50,57] 1 (rows out) H x4->(out=[]->x4=aY) ->
 (∀y f,(words s).all iY=true->hU [50,57] 1 (rows (out++words s)) f y->(out++words s=[]->y=aY)->Q (.tup [y,aI 0]) f)->((words s).all iY=false ->∀f,Q (.tup [aY,aI 8]) f) ->
 cy env Tryz.f208 0 fL [(5,aI i),(4,x4),(0,x0)] H Q:=by
 intro m;induction m with
 | zero=>
  rintro k s i out x4 H hs G hk rfl ho hF hO hN hQ hQ2;obtain rfl:s=[]:=si.1 (by omega);have hd:=iQf List.length hs;rw[oZ,lE]at hd;have e1 : ¬((k:Int)+3<bs.length):=by omega
  have w1:=iQa ((k:Int)+3) (by omega);have e2:(bs.length:Int).tmod 4=0:=by rw[Aj (by omega)];omega
  have W:=λt xo yo=>jg env.P t xo yo .i64 (bs.length:Int) 4 (by decide);rw[e2]at W;have hr:=J.r;have F:=hQ x4 H rfl (by simpa [words] using hO) (by simpa [words] using hN);refine j4 _ _ _ _ _ λg=>?_;clear hQ hQ2 hO hN;simp[ak, *,eP];all_goals exact F
 | succ m ih=>
  rintro k s i out x4 H hs G hk rfl ho hF hO hN hQ hQ2;match s,G with
  | a :: b :: c :: d :: s,G=>
  simp only[jP]at G;have hd:=iQf List.length hs;rw[oZ]at hd;simp only[jP]at hd;have L:bs.drop (k+4)=s:=by rw[<-pN,hs];rfl
  have hw:words (a :: b :: c :: d :: s)=word a b c d :: words s:=rfl;rw[hw]at hQ hQ2;have K : ∀j,(bs.drop k)[j]?=bs[k+j]?:=λj=>Cf;rw[hs]at K;have ga:bs[k]?=some a:=(K 0).symm;have gb:bs[k+1]?=some b:=(K 1).symm;have gc:bs[k+2]?=some c:=(K 2).symm;have gd:bs[k+3]?=some d:=(K 3).symm;clear K;have w1:=iQa ((k:Int)+1) (by omega);have w2:=iQa ((k:Int)+2) (by omega);have w3:=iQa ((k:Int)+3) (by omega);have w4:=iQa ((k:Int)+4) (by omega);have l1:(k:Int)<bs.length/\(k:Int)+1<bs.length/\(k:Int)+2<bs.length/\(k:Int)+3<bs.length:=by omega
  have l2:0<=(k:Int)/\0<=(k:Int)+1/\0<=(k:Int)+2/\0<=(k:Int)+3:=(by omega);have l3:((k:Int)+1).toNat=k+1/\((k:Int)+2).toNat=k+2/\((k:Int)+3).toNat=k+3:=(by omega);have f1:out.length+1<=35184372088832:=(by omega);have f2:(out.length+1) * 4<=140737488355328:=(by omega);have a1:k+4<=bs.length:=(by omega);have a2:(out++[word a b c d]).length<=k+4:=by simp;omega
  have a3:s.length=4 * m:=(by omega);obtain⟨v1,v2,v3,v4,v5,eV,v6⟩:=ac8 a b c d;obtain⟨u,u0,u1⟩:=R2 a b c d;have l1:(k:Int)<bs.length/\(k:Int)+1<bs.length/\(k:Int)+2<bs.length/\(k:Int)+3<bs.length:=by omega
  have l2:0<=(k:Int)/\0<=(k:Int)+1/\0<=(k:Int)+2/\0<=(k:Int)+3:=(by omega);have l3:((k:Int)+1).toNat=k+1/\((k:Int)+2).toNat=k+2/\((k:Int)+3).toNat=k+3:=(by omega);have hr:=J.r;have O:=λx f=>ih (k+4) s ((k:Int)+4) (out++[word a b c d]) x f L a3 a1 (by simp) a2;have n : ∀(t g m:Nat)(f:aa),t=50\/t=57->m=out.length+1->f.get ⟨0,t,g,0⟩=some ⟨1,rows out++[aR (word a b c d)],true,false⟩->hU [50,57] 1 (rows (out++[word a b c d])) f (.ct ⟨0,t,g,0⟩ 0 m none):=by
   intro t g m f z G h;subst G;have e:rows (out++[word a b c d])=rows out++[aR (word a b c d)]:=by simp[rows]
   rw[e];exact .inr ⟨t,g,by simpa using z,by simp,h⟩
  have p:iY (word a b c d)=true ->∀x f,Fr f->hU [50,57] 1 (rows (out++[word a b c d])) f x->cy env Tryz.f208 0 fL [(5,aI ((k:Int)+4)),(4,x),(0,x0)] f Q:=λA x f Z hO'=>O x f Z hO' (λe=>by simp at e)
   (λy f X h2 h3=>hQ y f (by simp[A,X]) (by simpa using h2) (λe=>by simp at e)) (λX f=>hQ2 (by simp[A,X]) f)
  have l:iY (word a b c d)=false ->∀f,Q (.tup [aY,aI 8]) f:=λA f=>hQ2 (by simp[A]) f;clear a1 a2 a3 O hQ hQ2 ih hs L hw hd G hl;generalize words s=ws at *;by_cases C:val [a,b,c,d]=4294967295
  ·have T:word a b c d = -1:=(by rw[u,if_pos C]);rw[T]at n p l;have q:=p (by decide);clear p l u;refine j4 _ _ _ _ _ λg=>?_;rcases hO with ⟨rfl,U⟩ | ⟨t,V,z,rfl,I⟩
   ·have D:out=[]:=(by simpa using U);subst D;have o:=n 50 (H.gen 0 50) 1;clear n;simp[ak, *,eP,J.idx];exact q _ _ (by simp(maxDischargeDepth:=12) [eR, *]) (o _ (.inl rfl) rfl (by simp[aR]))
   have l6:(H.get ⟨0,t,V,0⟩).isSome=true:=by rw[I];rfl
   have B:t=50\/t=57:=(by simpa using z);have E:t≠49:=by rintro rfl;simp at z
   have N : ¬49=t:=λe=>E e.symm;have f4:kJ 1 4 out.length true none (some ⟨1,rows out,true,false⟩) (some [.v (.int .i32 (-1))]):=(by rw[ax];refine⟨rfl,by simp,.inr ⟨?_,rfl⟩⟩;simpa using f2);have o:=λm f=>n t (H.gen 0 t) m f B;clear n z;simp[ak, *,eP,J.idx];exact q _ _ (by simp(maxDischargeDepth:=12) [eR, *]) (o _ _ (by simp) (by simp[aR]))
  cases M:uT (val [a,b,c,d]) with| false=>have hq:iY (word a b c d)=false:=(by rw[u,if_neg C];simp only[uT,G1,GL,iQc]at M;simp only[iY,G1,GL,iQc];split<;>omega);have F:=l hq H;have Y:=Vi (val [a,b,c,d]);rw[M]at Y;clear p n l u hq hO hN;refine j4 _ _ _ _ _ λg=>?_;simp[ak, *,eP,J.idx];all_goals exact F| true=>
   have A:val [a,b,c,d]<2147483648/\iY (val [a,b,c,d])=true:=(by simp only[uT,jf,bI,iQb]at M;simp only[iY,jf,bI,iQb];omega);have T:word a b c d=val [a,b,c,d]:=(by rw[u,if_neg C,if_pos A.1]);rw[T]at n p l;have q:=p A.2;have Y:=Vi (val [a,b,c,d]);rw[M]at Y;have S:IntKind.i32.wrap (val [a,b,c,d])=val [a,b,c,d]:=by rw[iQv];omega
   have R:=λ(g:dv)(r:Ref)=>pC (P:=env.P) (g:=g) (r:=r) (src:=3) (dst:=21) .i32 (k' := .i64) (by kernel_rfl) (by kernel_rfl) (val [a,b,c,d]);rw[S]at R;clear p l u A T M S;generalize val [a,b,c,d]=w at *;refine j4 _ _ _ _ _ λg=>?_;rcases hO with ⟨rfl,U⟩ | ⟨t,V,z,rfl,I⟩
   ·have D:out=[]:=(by simpa using U);subst D;have o:=n 57 (H.gen 0 57) 1;clear n;simp[ak, *,eP,J.idx];exact q _ _ (by simp(maxDischargeDepth:=12) [eR, *]) (o _ (.inr rfl) rfl (by simp[aR]))
   have l6:(H.get ⟨0,t,V,0⟩).isSome=true:=by rw[I];rfl
   have B:t=50\/t=57:=(by simpa using z);have E:t≠56:=by rintro rfl;simp at z
   have N : ¬56=t:=λe=>E e.symm;have f4:kJ 1 4 out.length true none (some ⟨1,rows out,true,false⟩) (some [.v (.int .i32 w)]):=(by rw[ax];refine⟨rfl,by simp,.inr ⟨?_,rfl⟩⟩;simpa using f2);have o:=λm f=>n t (H.gen 0 t) m f B;clear n z;simp[ak, *,eP,J.idx];exact q _ _ (by simp(maxDischargeDepth:=12) [eR, *]) (o _ _ (by simp) (by simp[aR]))
end
section
attribute [local simp] aN aG ar aD aC bT kp aP ax aJ bG bF aX aO af a9 dM
attribute [local simp] BT bsO dG
@[simp] def Yi(n:Int)(b:0<=n):ay env 109 [aI n,aI 4]=some (.bE 1 (aK (be 4 n)) none):=by
 refine aH rfl (by kernel_rfl) (yl _ _ _ _ λg=>?_);have c:IntKind.i64.wrap (-1) = -1:=rfl;have a:IntKind.i64.wrap 0=0:=rfl;simp[ak, *,tY];refine fu _ _ _ _ _ λg=>?_;simp[ak, *,eO,cY,cT];refine fu _ _ _ _ _ λg=>?_;simp[ak, *,eO,cY,cT];refine fu _ _ _ _ _ λg=>?_;simp[ak, *,eO,cY,cT];refine fu _ _ _ _ _ λg=>?_;simp[ak, *,eO,cY,cT];refine fu _ _ _ _ _ λg=>?_;simp[ak, *,eO,vc,aK]
@[simp] def Yj(n:Int)(b:0<=n):ay env 109 [aI n,aI 3]=some (.bE 1 (aK (be 3 n)) none):=by
 refine aH rfl (by kernel_rfl) (yl _ _ _ _ λg=>?_);have c:IntKind.i64.wrap (-1) = -1:=rfl;have a:IntKind.i64.wrap 0=0:=rfl;simp[ak, *,tY];refine fu _ _ _ _ _ λg=>?_;simp[ak, *,eO,cY,cT];refine fu _ _ _ _ _ λg=>?_;simp[ak, *,eO,cY,cT];refine fu _ _ _ _ _ λg=>?_;simp[ak, *,eO,cY,cT];refine fu _ _ _ _ _ λg=>?_;simp[ak, *,eO,TO,aK]
def PB{x5:AV}{Q:AV->aa->Prop}{l:List UInt8}(m:Sl 1 (aK l) x5)(u:l.length<=7) : ∀(s:List UInt8)(k:Nat)(i a:Int)(H:aa),l.drop k=s->k<=l.length->i=k->0<=a->a<256 ^ k ->
 (∀y h,y=aI (vp a s)->Q y h) ->
 cy env Tryz.f118 0 pF [(7,aI i),(2,aI a),(5,x5),(6,aI l.length)] H Q:=by
 intro s;induction s with
 | nil=>rintro k i a H hs hk rfl h0 h1 hQ;obtain rfl:=drop_nil hs hk;refine yj _ _ _ _ _ _ λg=>?_;simp[ak, *,tX];exact hQ _ _ rfl
 | cons b s f=>rintro k i a H hs hk rfl h0 h1 hQ;obtain⟨d,t,c,j⟩:=drop_cons hs;refine yj _ _ _ _ _ _ λg=>?_;have p:=b.toNat_lt;have n:=rD (k:=k) 6 (by omega);have e:=Gv h0 (by omega) b;have q:=iQa (a * 256) (by omega);have o:=iQa ((k:Int)+1) (by omega);simp[ak, *,tX,yS,m.idx];exact f (k+1) _ _ _ c (by omega) (by simp) (by omega) (by rw[AB];omega) hQ
@[simp] def LB{x:AV}{l:List UInt8}(a:Sl 1 (aK l) x)(b:l.length<=7):ay env 118 [x]=some (aI (val l)):=by
 refine aH rfl (by kernel_rfl) (Hn _ _ _ λg=>?_);have h:=a.len;simp[ak, *,Bq];exact PB a b l 0 _ _ _ rfl (by omega) rfl (by omega) (by simp) (λy c e=>by simp[e,val])
def l9(st nu a of:Int):Bool:=decide (1<=st)&&decide (st<2147483648)&&decide (1<=nu)&&decide (nu<16777216)&&decide (1<=of)&&decide (of<=4)&&decide (0<=a)&&decide (a<of)
@[simp] def aga(st nu a of:Int):ay env 106 [.agg [aI st,aI nu,aI a,aI of]]=some (aB (l9 st nu a of)):=by
 refine aH rfl (by kernel_rfl) (Jm _ _ _ λg=>?_);simp[ak, *,CF];repeat' ((first | apply qO<;>intro h | apply mK<;>intro h | apply mL<;>intro h | apply mI<;>intro h | apply mJ<;>intro h)<;>(try simp only[iQb,iQc,ij,pO,bI,jf]at h)<;>(try simp[ak, *,l9]))
 all_goals (try (simp[l9];omega))
structure Hd where
 st:Int
 nu:Int
 ix:Int
 of:Int
deriving DecidableEq
def Hd.val(h:Hd):AV := .agg [aI h.st,aI h.nu,aI h.ix,aI h.of]
def du(b:List UInt8):Hd:=⟨Ab.val (b.take 4),Ab.val ((b.drop 4).take 3),(b.getD 7 0).toNat,(b.getD 8 0).toNat⟩
def gV(b:List UInt8):Bool:=decide (b.length=128)&&l9 (du b).st (du b).nu (du b).ix (du b).of
def EV{x:AV}{b:List UInt8}(f:Sl 1 (aK b) x):ay env 76 [x]=some (if gV b then .tup [(du b).val,aI 0] else .tup [(⟨0,0,0,0⟩:Hd).val,aI 8]):=by
 refine aH rfl (by kernel_rfl) (Hq _ _ _ λg=>?_);have m:=f.r;unfold gV;by_cases n:b.length=128
 ·have e:(b.length:Int)=128:=by omega
  obtain⟨d,rfl,a⟩:=nU f (by simp;omega);rw[gM]at a;have r4:=λc=>LB (x := .bE 1 (aK (b.take 4)) c) (l:=b.take 4);have r3:=λc=>LB (x := .bE 1 (aK ((b.drop 4).take 3)) c) (l:=(b.drop 4).take 3);have r4:=r4 d (by rw[Xs];cases d<;>simp at a ⊢ <;> omega) (by simp;omega);have r3:=r3 (d.map (· - 4)) (by rw[Xs];cases d<;>simp at a ⊢ <;> omega) (by simp;omega);have i:b.getD 7 0=b[7]'(by omega):=by rw[iQB,eu (by omega)];rfl
  have h:b.getD 8 0=b[8]'(by omega):=by rw[iQB,eu (by omega)];rfl
  unfold Hd.val du;rw[i,h];clear i h;have j:(4:Int)<=d.getD b.length:=by omega
  cases k:l9 (Ab.val (b.take 4)) (Ab.val ((b.drop 4).take 3)) (b[7]'(by omega)).toNat (b[8]'(by omega)).toNat with| false=>simp[ak, *,sO,IZ,Ee]| true=>simp[ak, *,sO,IZ,Ee]
 have e : ¬(b.length:Int)=128:=by omega
 simp[ak, *,sO,Hd.val]
def F1{P:Program}{t t':TypeId}(u:qN P t=true)(f:isInt P t'=true)(s:(gX P t).cells.all AV.one=true){H:aa}{r q:Ref}{es:List AV}{fz:Bool}(v:H.get q=some ⟨lj P t,es,true,fz⟩)(n:Nat)(D:(n:Int)<=aX)(p:(es.length+n) * td P t<=aX) :
 ee P true H r (some t) (some t') (.ct q 0 es.length none) (aI n)=if n=0 then some (.ct q 0 es.length none,H) else some (.ct ⟨q.d,q.t,H.gen q.d q.t,0⟩ 0 (es.length+n) none,(⟨q.d,q.t,H.gen q.d q.t,0⟩,some ⟨lj P t,es++List.replicate n (gX P t),true,fz⟩) :: H.put q none):=by
 unfold qN at u;obtain⟨e,zz,g,o,x,c,j,F,k,m⟩:=iK u;have B:gX P t=zz:=by unfold gX;rw[g,fe,c];rfl
 rw[B]at s ⊢;have l:(P.underlying t').isNone=false:=by
  unfold isInt at f;cases h:P.underlying t' with
  | none=>rw[h]at f;cases f
  | some d=>rfl
 have A : ¬((P.underlying t').isNone=true\/isInt P t'≠isNum (aI n)):=by rw[l,f];simp[isNum]
 have hd : ¬(lj P t≠lj P t\/lj P t=0\/td P t=0\/zz.cells.length≠lj P t):=by simp[j,k,m]
 have a:nP P H.get e (aI n)=some (lj P t,List.replicate n zz):=by
  show(match fk P e,aV P e with | some w,some z=>if 0<=(n:Int)/\(n:Int)<=aX/\w.cells.length=z/\w.cells.all AV.one then some (z,List.replicate (n:Int).toNat w) else none | _,_=>none)=_;rw[c,o];exact if_pos ⟨by omega,D,by simp[j,k,m],s⟩
 have y : ¬(lj P t≠lj P t\/true=false):=by simp
 by_cases b:n=0;·subst b;simp only[ee,fx,fe,g,Option.map_some,cU,if_neg A,o,x,c,a,if_neg hd,v,if_neg y,K2,if_true];rfl
 have C:List.replicate n zz≠[]:=(by intro h;have:=iQf List.length h;simp only[Ds,lE]at this;omega);have i : ¬(lj P t≠lj P t\/lj P t=0\/td P t=0\/List.replicate n zz=[]\/zz.cells.length≠lj P t):=(by simp[j,k,m,b]);have E:(0=0/\true=true/\lj P t=lj P t/\es.length=es.length/\(es.length+(List.replicate n zz).length) * td P t<=aX):=⟨rfl,rfl,rfl,rfl,by rw[Ds];exact p⟩;rw[if_neg b];simp only[ee,fx,kG,fe,g,Option.map_some,cU,if_neg A,o,x,c,a,if_neg hd,if_neg i,if_neg C,v,if_neg y,Ds,iQs,if_pos p];rfl
def nJ(st nu of i:Int)(x:List UInt8):List UInt8:=be 4 st++(be 3 nu++([u8 i,u8 of]++(x++List.replicate (119 - x.length) 0)))
def rC(st nu of:Int):Int->List (List UInt8)->List (List UInt8)
 | _,[]=>[]
 | i,x :: xs=>nJ st nu of i x :: rC st nu of (i+1) xs
def E5:Nat->List UInt8->List (List UInt8)
 | 0,_=>[]
 | m+1,s=>if s=[] then [] else s.take 119 :: E5 m (s.drop 119)
def JQ(b:List UInt8):AV := .bE 1 (aK b) none
def fF(l:List (List UInt8)):List AV:=l.map JQ
@[simp] def BX(l:List (List UInt8)):(fF l).length=l.length:=by simp[fF]
def Dd(l:List (List UInt8))(b:List UInt8):fF l++[AV.bE 1 (aK b) none]=fF (l++[b]):=by simp[fF,JQ]
def Yo(st nu of i:Int)(x:List UInt8)(a:Option Nat)(b:x.length<=a.getD x.length)(c:x.length<=119):ay env 108 [.bE 1 [.bE 1 (aK (be 4 st)) none,.bE 1 (aK (be 3 nu)) none,.bE 1 [a8 (u8 i),a8 (u8 of)] (some 2),.bE 1 (aK x) a] (some 4)] =
 some (.fsl 1 (aK (be 4 st++(be 3 nu++([u8 i,u8 of]++x)))) none):=by
 have e:lU [(be 4 st,AV.bE 1 (aK (be 4 st)) none),(be 3 nu,.bE 1 (aK (be 3 nu)) none),([u8 i,u8 of],.bE 1 [a8 (u8 i),a8 (u8 of)] (some 2)),(x,.bE 1 (aK x) a)]=be 4 st++(be 3 nu++([u8 i,u8 of]++x)):=by
  simp only[lU,nL,Ey,tg]
 rw[<-e];refine HT (ps:=[(be 4 st,AV.bE 1 (aK (be 4 st)) none),(be 3 nu,.bE 1 (aK (be 3 nu)) none),([u8 i,u8 of],.bE 1 [a8 (u8 i),a8 (u8 of)] (some 2)),(x,.bE 1 (aK x) a)]) (.inr ⟨some 4,rfl,by simp⟩) ?_ (by simp) (by rw[e];simp;omega) (by rw[e];simp;omega);intro p hp;simp only[fR,Dq,iQu]at hp;rcases hp with rfl | rfl | rfl | rfl
 ·exact Sl.mk _ _
 ·exact Sl.mk _ _
 ·exact .inr ⟨some 2,rfl,by simp⟩
 exact Sl.Zi (by simpa using b)
structure I9 (r r6 r10 r5 r4:Ref) (info:AV) (st nu of:Int) (H:aa) (out:List (List UInt8)):Prop where
 fr:Fr H
 mark:H.get r=some (eU 0 info)
 ne:r6≠r/\r10≠r/\r5≠r/\r4≠r/\r10≠r6/\r5≠r6/\r4≠r6
 b10:H.get r10=some ⟨1,[aI of],false,false⟩
 b5:H.get r5=some ⟨1,[aI nu],false,false⟩
 b4:H.get r4=some ⟨1,[aI st],false,false⟩
 box:(H.get r6=some ⟨1,[aY],false,false⟩/\out=[]) \/∃q:Ref,q.d=2/\q.t=56/\q.k=0/\q≠r/\q≠r6/\q≠r10/\q≠r5/\q≠r4/\H.get r6=some ⟨1,[.ct q 0 out.length none],false,false⟩/\H.get q=some ⟨1,fF out,true,false⟩/\0<out.length
def Y0(st nu of i:Int)(x:List UInt8):be 4 st++(be 3 nu++([u8 i,u8 of]++x))++List.replicate (119 - x.length) 0=nJ st nu of i x:=by
 simp[nJ]
def S8{r r6 r10 r5 r4:Ref}{tm:List AV}{H:aa}{st nu of:Int}{out:List (List UInt8)}(X:0<=st)(Y:0<=nu)(t6:dE tm 6 = .ptr r6 0 0)(V:dE tm 10 = .ptr r10 0 0)(t5:dE tm 5 = .ptr r5 0 0)(t4:dE tm 4 = .ptr r4 0 0)
 (R:I9 r r6 r10 r5 r4 (.lp 0 58 [35] bK bJ tm) st nu of H out) (Q:out.length<1000000) (x:List UInt8) (hx:x.length<=119) (j:Option Nat) (m:x.length<=j.getD x.length) :
 ∃y c,eZ env 1 (.yld r) [.bE 1 (aK x) j] H=some (y,c)/\(y=aB true/\I9 r r6 r10 r5 r4 (.lp 0 58 [35] bK bJ tm) st nu of c (out++[nJ st nu of out.length x])):=by
 refine Ku (fn:=Tryz.f70) (dep:=1) R.mark (by kernel_rfl) rfl rfl (by kernel_rfl) (by kernel_rfl) ?_;rw[<-DQ (s:=dE (vZ tm [35] [.bE 1 (aK x) j])) (l:=[(6,.ptr r6 0 0),(10,.ptr r10 0 0),(5,.ptr r5 0 0),(4,.ptr r4 0 0),(35,.bE 1 (aK x) j)]) (by
  intro p hp;simp only[fR,Dq,iQu]at hp;rcases hp with rfl | rfl | rfl | rfl | rfl<;>(show dE (CV tm 35 _) _=_;rw[tI];simp[*]))]
 refine(BZ r _ _ _ _ _ _ _ λg=>?_).h _;obtain⟨fr,mark,⟨n1,n2,E,G,I,F,o⟩,b10,b5,b4,box⟩:=R;have m1:=n1.symm;have m2:=n2.symm;have m3:=E.symm;have m4:=G.symm;have m5:=I.symm;have m6:=F.symm;have m7:=o.symm;have l1:(H.get r).isSome=true:=by rw[mark];rfl
 have Z:(H.get r10).isSome=true:=by rw[b10];rfl
 have l5:(H.get r5).isSome=true:=by rw[b5];rfl
 have l4:(H.get r4).isSome=true:=by rw[b4];rfl
 have k4:=Yi st X;have k3:=Yj nu Y;have k:=Yo st nu of out.length x j m hx;have M:=Y0 st nu of out.length x;have i:(be 4 st++(be 3 nu++([u8 (out.length:Int),u8 of]++x))).length=9+x.length:=by simp;omega
 generalize be 4 st++(be 3 nu++([u8 (out.length:Int),u8 of]++x))=B at *;have J:IntKind.i64.wrap (128 - (9+(x.length:Int)))=((119 - x.length:Nat):Int):=by rw[iQa _ (by omega)];omega
 have f:=F1 (P:=env.P) (t:=76) (t':=3) (by kernel_rfl) (by kernel_rfl) (by kernel_rfl) (H:=({ d:=2,t:=48,g:=H.gen 2 48},some { esz:=1,es:=aK B,arr:=true,jq:=false}) :: H.put r (some (eU 1 (AV.lp 0 58 [35] bK bJ tm)))) (r:=⟨2,54,H.gen 2 54,0⟩) (q:=⟨2,48,H.gen 2 48,0⟩) (es:=aK B) (fz:=false) (by simp) (119 - x.length) (by simp[aX];omega) (by rw[show td env.P 76=1 from by kernel_rfl];simp[aX];omega);rw[gM,i,show lj env.P 76=1 from by kernel_rfl,show gX env.P 76=a8 0 from by kernel_rfl]at f;have a:aK B++List.replicate (119 - x.length) (a8 0)=aK (nJ st nu of out.length x):=by rw[<-M];simp[aK]
 clear M m;rcases box with ⟨v,rfl⟩ | ⟨q,K,S,O,U,p2,p3,T,p5,v,hq,L⟩
 ·have W:(H.get r6).isSome=true:=by rw[v];rfl
  rw[show u8 (([]:List (List UInt8)).length:Int)=0 from rfl]at k;have N:fF ([]++[nJ st nu of ((([]:List (List UInt8)).length:Nat):Int) x])=[AV.bE 1 (aK (nJ st nu of ((([]:List (List UInt8)).length:Nat):Int) x)) none]:=rfl;have b : ∀c:aa,Fr c->c.get r=some (eU 0 (AV.lp 0 58 [35] bK bJ tm))->c.get r10=some ⟨1,[aI of],false,false⟩->c.get r5=some ⟨1,[aI nu],false,false⟩->c.get r4=some ⟨1,[aI st],false,false⟩ ->
   c.get r6=some ⟨1,[.ct ⟨2,56,H.gen 2 56,0⟩ 0 1 none],false,false⟩->c.get ⟨2,56,H.gen 2 56,0⟩=some ⟨1,[AV.bE 1 (aK (nJ st nu of ((([]:List (List UInt8)).length:Nat):Int) x)) none],true,false⟩ ->
   I9 r r6 r10 r5 r4 (AV.lp 0 58 [35] bK bJ tm) st nu of c ([]++[nJ st nu of ((([]:List (List UInt8)).length:Nat):Int) x]):=λc a1 w z A u D n=>
   ⟨a1,w,⟨n1,n2,E,G,I,F,o⟩,z,A,u,.inr ⟨⟨2,56,H.gen 2 56,0⟩,rfl,rfl,rfl,by simp(maxDischargeDepth:=12) [eR, *],by simp(maxDischargeDepth:=12) [eR, *],by simp(maxDischargeDepth:=12) [eR, *],by simp(maxDischargeDepth:=12) [eR, *],by simp(maxDischargeDepth:=12) [eR, *],D,by rw[N];exact n,by simp⟩⟩
  clear N;by_cases e:x.length=119;·rw[if_pos (by omega),e,show 9+119=128 from rfl,show(((119 - 119:Nat)):Int)=0 from rfl]at f;rw[e]at i J;rw[e,vO,K2,tg]at a;rw[<-a]at b;clear a;simp[ak, *,kX,sD,aa.ad];refine⟨_,rfl,b _ ?_ ?_ ?_ ?_ ?_ ?_ ?_⟩<;>simp(maxDischargeDepth:=12) [eR, *]
  rw[if_neg (by omega),a,show 9+x.length+(119 - x.length)=128 by omega]at f;have C:(aK (nJ st nu of ((([]:List (List UInt8)).length:Nat):Int) x)).length=128:=by rw[<-a];simp;omega
  clear a;generalize aK (nJ st nu of ((([]:List (List UInt8)).length:Nat):Int) x)=BB at *;simp[ak, *,kX,sD,aa.ad];refine⟨_,rfl,b _ ?_ ?_ ?_ ?_ ?_ ?_ ?_⟩<;>simp(maxDischargeDepth:=12) [eR, *]
 have W:(H.get r6).isSome=true:=by rw[v];rfl
 have l7:(H.get q).isSome=true:=by rw[hq];rfl
 have s1:=U.symm;have s2:=p2.symm;have s3:=p3.symm;have s4:=T.symm;have s5:=p5.symm;obtain⟨qd,qt,qg,qk⟩:=q;simp only at K S O;subst K S O;have f1:out.length+1<=17592186044416:=by omega
 have f2:(out.length+1) * 24<=140737488355328:=(by omega);have b : ∀c:aa,Fr c->c.get r=some (eU 0 (AV.lp 0 58 [35] bK bJ tm))->c.get r10=some ⟨1,[aI of],false,false⟩->c.get r5=some ⟨1,[aI nu],false,false⟩->c.get r4=some ⟨1,[aI st],false,false⟩ ->
  c.get r6=some ⟨1,[.ct ⟨2,56,H.gen 2 56,0⟩ 0 (out.length+1) none],false,false⟩->c.get ⟨2,56,H.gen 2 56,0⟩=some ⟨1,fF out++[AV.bE 1 (aK (nJ st nu of out.length x)) none],true,false⟩ ->
  I9 r r6 r10 r5 r4 (AV.lp 0 58 [35] bK bJ tm) st nu of c (out++[nJ st nu of out.length x]):=λc a1 w z A u D n=>
  ⟨a1,w,⟨n1,n2,E,G,I,F,o⟩,z,A,u,.inr ⟨⟨2,56,H.gen 2 56,0⟩,rfl,rfl,rfl,by simp(maxDischargeDepth:=12) [eR, *],by simp(maxDischargeDepth:=12) [eR, *],by simp(maxDischargeDepth:=12) [eR, *],by simp(maxDischargeDepth:=12) [eR, *],by simp(maxDischargeDepth:=12) [eR, *],by rw[D];simp,by rw[n,Dd],by simp⟩⟩
 by_cases e:x.length=119;·rw[if_pos (by omega),e,show 9+119=128 from rfl,show(((119 - 119:Nat)):Int)=0 from rfl]at f;rw[e]at i J;rw[e,vO,K2,tg]at a;rw[<-a]at b;clear a;simp[ak, *,kX,sD,aa.ad];refine⟨_,rfl,b _ ?_ ?_ ?_ ?_ ?_ ?_ ?_⟩<;>simp(maxDischargeDepth:=12) [eR, *]
 rw[if_neg (by omega),a,show 9+x.length+(119 - x.length)=128 by omega]at f;have C:(aK (nJ st nu of out.length x)).length=128:=by rw[<-a];simp;omega
 clear a;generalize aK (nJ st nu of out.length x)=BB at *;simp[ak, *,kX,sD,aa.ad];refine⟨_,rfl,b _ ?_ ?_ ?_ ?_ ?_ ?_ ?_⟩<;>simp(maxDischargeDepth:=12) [eR, *]
end
section
attribute [local simp] aN aG ar aD aC bT kp aP ax aJ bG bF aX aO af a9 dM
@[simp] def aiF(m:Nat):E5 m []=[]:=by cases m<;>rfl
def Nw{r r6 r10 r5 r4:Ref}{tm:List AV}{st nu of:Int}(I:0<=st)(K:0<=nu)(M:dE tm 6 = .ptr r6 0 0)(t:dE tm 10 = .ptr r10 0 0)(N:dE tm 5 = .ptr r5 0 0)(J:dE tm 4 = .ptr r4 0 0)
 {bs:List UInt8} {x:AV} (E:Sl 1 (aK bs) x) (V:bs.length<100000) {Q:AV->aa->Prop} :
 ∀(m k:Nat)(s:List UInt8)(i:Int)(out:List (List UInt8)) (H:aa),bs.drop k=s->s.length<=119 * m->k<200000->i=k->out.length<=k ->
 I9 r r6 r10 r5 r4 (.lp 0 58 [35] bK bJ tm) st nu of H out ->
 (∀y j,I9 r r6 r10 r5 r4 (.lp 0 58 [35] bK bJ tm) st nu of j (out++rC st nu of out.length (E5 m s))->Q y j) ->
 cy env Tryz.f145 (0+1) dy [(2,.iptr 1 [aI 119] 0 0),(4,aI i),(1,.iptr 1 [x] 0 0),(0,.yld r)] H Q:=by
 intro m;have nil : ∀(m k:Nat)(out:List (List UInt8)) (H:aa),bs.drop k=[] ->
  (∀y j,I9 r r6 r10 r5 r4 (.lp 0 58 [35] bK bJ tm) st nu of j (out++rC st nu of out.length (E5 m []))->Q y j)->I9 r r6 r10 r5 r4 (.lp 0 58 [35] bK bJ tm) st nu of H out ->
  cy env Tryz.f145 (0+1) dy [(2,.iptr 1 [aI 119] 0 0),(4,aI k),(1,.iptr 1 [x] 0 0),(0,.yld r)] H Q:=by
  intro m k out H c e l;have hd:=iQf List.length c;rw[oZ,lE]at hd;have F : ¬(k:Int)<bs.length:=by omega
  have C:=E.r;refine eB _ _ _ _ _ _ _ λg=>?_;simp[ak, *,dB];exact e _ _ (by simpa [rC] using l)
 induction m with
 | zero=>rintro k s i out H c hm hk rfl ho l e;obtain rfl:s=[]:=si.1 (by omega);exact nil 0 k out H c e l
 | succ m D=>
  rintro k s i out H c hm hk rfl ho l e;by_cases f:s=[];·subst f;exact nil (m+1) k out H c e l
  have hd:=iQf List.length c;rw[oZ]at hd;have w:0<s.length:=yd.2 f;have u:0<(aK bs).length:=by simp;omega
  obtain⟨A,rfl,n⟩:=nU E u;rw[gM]at n;have q:bs.drop (k+119)=s.drop 119:=by rw[<-pN,c]
  have P:(k:Int)<bs.length:=(by omega);have o:E5 (m+1) s=s.take 119 :: E5 m (s.drop 119):=(by rw[E5,if_neg f]);rw[o]at e;clear nil o;have L:(aK bs).drop k=aK s:=by rw[Ee,c]
  have W:=iQa ((k:Int)+119) (by omega);obtain⟨y,j,B,rfl,p⟩:=S8 I K M t N J l (by omega) (s.take 119) (by simp;omega) (some (min 119 s.length)) (by simp);have d : ∀(y:AV)(b:aa),I9 r r6 r10 r5 r4 (.lp 0 58 [35] bK bJ tm) st nu of b ((out++[nJ st nu of out.length (s.take 119)])++rC st nu of (out++[nJ st nu of out.length (s.take 119)]).length (E5 m (s.drop 119)))->Q y b:=λy b h=>e y b (by
   rw[sh,iX]at h;simpa [rC] using h)
  have O:=D (k+119) (s.drop 119) ((k:Int)+119) (out++[nJ st nu of out.length (s.take 119)]) j q (by rw[oZ];omega) (by omega) (by simp) (by simp;omega) p d;clear D e d l p;by_cases z:s.length<119
  ·have a:min 119 s.length=s.length:=(by omega);have v:s.take 119=s:=dM (by omega);rw[a,v]at B;have c0:k<=bs.length:=by omega
   have Z:(s.length:Int)<119:=(by omega);have S:IntKind.i64.wrap ((k:Int)+(s.length:Int))=bs.length:=by rw[iQa _ (by omega)];omega
   have R:(k:Int)<=bs.length:=(by omega);have G:(bs.length:Int)<=A.getD bs.length:=(by omega);refine eB _ _ _ _ _ _ _ λg=>?_;clear n;simp[ak, *,dB,Bi]
  have a:min 119 s.length=119:=(by omega);rw[a]at B;have c0:k<=bs.length:=by omega
  have G : ¬(s.length:Int)<119:=(by omega);have c4:(k:Int)+119<=A.getD bs.length:=(by omega);have T:(k:Int)+119<=bs.length:=(by omega);have X:((k:Int)+119).toNat - k=119:=(by omega);have U:List.take 119 (aK s)=aK (s.take 119):=IZ _ _;have Y:(k:Int)<=k+119:=by omega
  refine eB _ _ _ _ _ _ _ λg=>?_;clear n;simp[ak, *,dB,Bi]
def PW{r r6 r10 r5 r4:Ref}{tm:List AV}{st nu of:Int}(j:0<=st)(n:0<=nu)(e:dE tm 6 = .ptr r6 0 0)(b:dE tm 10 = .ptr r10 0 0)(k:dE tm 5 = .ptr r5 0 0)(l:dE tm 4 = .ptr r4 0 0)
 {bs:List UInt8} {x:AV} (o:Sl 1 (aK bs) x) (d:bs.length<100000) {m:Nat} (f:bs.length<=119 * m) {H:aa}
 (i:I9 r r6 r10 r5 r4 (.lp 0 58 [35] bK bJ tm) st nu of H []) :
 ∃y a,eZ env 0 (.fn 145) [.yld r,.iptr 1 [x] 0 0,.iptr 1 [aI 119] 0 0] H=some (y,a)/\I9 r r6 r10 r5 r4 (.lp 0 58 [35] bK bJ tm) st nu of a (rC st nu of 0 (E5 m bs)):=by
 refine wo (fn:=Tryz.f145) (c:=nm) (by kernel_rfl) (by kernel_rfl) (by kernel_rfl) (by kernel_rfl) (by kernel_rfl) ?_;refine mY _ _ _ _ _ _ λg=>?_;simp[ak, *,jY];exact Nw j n e b k l o d m 0 bs _ [] H rfl f (by omega) rfl (by simp) i (λy a h=>by simpa using h)
def ab8:kU = .code (.rangeFunc (.tmp 34) #[35] bK bJ) :: vj:=by kernel_rfl
def Py{bs:List UInt8}{x:AV}(a:Sl 1 (aK bs) x):ay env 107 [x,aI 119]=some (.fn (.func 145) [] [.iptr 1 [x] 0 0,.iptr 1 [aI 119] 0 0]):=by
 refine aH rfl (by kernel_rfl) (ov _ _ _ _ λg=>?_);have b:=a.r;simp[ak, *,kO]
def dY.val(r:dY)(x:AV):AV := .agg [a8 r.kind,aI r.user,a8 r.op.kind,a8 r.op.h.lv,bY r.op.h.cats,a8 r.op.h.num,aI r.op.serial,a8 r.op.s.f.h.lv,bY r.op.s.f.h.cats,a8 r.op.s.f.h.num,aI r.op.s.f.n,aI r.op.s.many,
 a8 r.op.a.h.lv,bY r.op.a.h.cats,a8 r.op.a.h.num,aI r.op.a.n,a8 r.op.to.lv,bY r.op.to.cats,x,aI r.code,aI r.gu,a8 r.gv,bY r.gc,aB r.gok]
def de(r:dY)(st nu:Int):List (List UInt8):=rC st nu (nI r) 0 (E5 3 (m9 r))
def VW(r:dY)(st nu:Int):AV:=if ej r then (if l9 st nu 0 (nI r) then .tup [.bE 1 (fF (de r st nu)) none,aI 0] else .tup [aY,aI 2]) else .tup [aY,aI 8]
def zM{r:dY}(h:ej r=true):(m9 r).length<=119 * 3/\8<=(m9 r).length:=by
 rcases Ib h with ⟨_,e⟩ | ⟨_,e,a⟩ | ⟨_,e⟩
 ·omega
 ·have:=vY a;omega
 omega
def VE{st nu of i:Int}{l:List (List UInt8)}(h:l≠[]):rC st nu of i l≠[]:=by
 cases l with| nil=>exact absurd rfl h| cons a l=>simp[rC]
def I1{r:dY}(h:ej r=true)(st nu:Int):de r st nu≠[]:=by
 refine VE ?_;have:=(zM h).2;rw[E5,if_neg (by intro e;rw[e]at this;simp at this)];simp
def U9(r:dY){x:AV}(P:Sl 1 (rows r.op.l) x)(R:r.op.l.length<2000000)(st nu:Int):ay env 70 [r.val x,aI st,aI nu]=some (VW r st nu):=by
 refine aH rfl (by kernel_rfl) (Jn _ _ _ _ _ λg=>?_);obtain⟨k,u,⟨n,⟨A,a_3,m⟩,B,⟨⟨⟨E,t,C⟩,D⟩,j⟩,⟨⟨a,f,e⟩,i⟩,⟨b,d⟩,l⟩,c,g1,v,w,o⟩:=r;simp only at P R;have S:=HQ k u n A a_3 m B E t C D j a f e i b d c g1 v w o P R;have T:=Pt k u n A a_3 m B E t C D j a f e i b d c g1 v w o P R;have hr:=P.r;unfold dY.val VW;simp only;have G := @zM ⟨k,u,(⟨n,⟨A,a_3,m⟩,B,⟨⟨⟨E,t,C⟩,D⟩,j⟩,⟨⟨a,f,e⟩,i⟩,⟨b,d⟩,l⟩:gI),c,g1,v,w,o⟩;have F := @I1 ⟨k,u,(⟨n,⟨A,a_3,m⟩,B,⟨⟨⟨E,t,C⟩,D⟩,j⟩,⟨⟨a,f,e⟩,i⟩,⟨b,d⟩,l⟩:gI),c,g1,v,w,o⟩;have Q := @Rn ⟨k,u,(⟨n,⟨A,a_3,m⟩,B,⟨⟨⟨E,t,C⟩,D⟩,j⟩,⟨⟨a,f,e⟩,i⟩,⟨b,d⟩,l⟩:gI),c,g1,v,w,o⟩;have I:de ⟨k,u,(⟨n,⟨A,a_3,m⟩,B,⟨⟨⟨E,t,C⟩,D⟩,j⟩,⟨⟨a,f,e⟩,i⟩,⟨b,d⟩,l⟩:gI),c,g1,v,w,o⟩ st nu=rC st nu (nI ⟨k,u,(⟨n,⟨A,a_3,m⟩,B,⟨⟨⟨E,t,C⟩,D⟩,j⟩,⟨⟨a,f,e⟩,i⟩,⟨b,d⟩,l⟩:gI),c,g1,v,w,o⟩) 0 (E5 3 (m9 ⟨k,u,(⟨n,⟨A,a_3,m⟩,B,⟨⟨⟨E,t,C⟩,D⟩,j⟩,⟨⟨a,f,e⟩,i⟩,⟨b,d⟩,l⟩:gI),c,g1,v,w,o⟩)):=rfl;cases K:ej ⟨k,u,(⟨n,⟨A,a_3,m⟩,B,⟨⟨⟨E,t,C⟩,D⟩,j⟩,⟨⟨a,f,e⟩,i⟩,⟨b,d⟩,l⟩:gI),c,g1,v,w,o⟩ with
 | false=>
  rw[K]at S;generalize M:Ge ⟨k,u,(⟨n,⟨A,a_3,m⟩,B,⟨⟨⟨E,t,C⟩,D⟩,j⟩,⟨⟨a,f,e⟩,i⟩,⟨b,d⟩,l⟩:gI),c,g1,v,w,o⟩=z at *;have V:z = .bE 1 [a8 k] (some 1) \/∃es,z = .bE 1 es none:=by
   rw[<-M];unfold Ge;split;·exact .inr ⟨_,rfl⟩
   split;·exact .inr ⟨_,rfl⟩
   split
   ·split;·exact .inr ⟨_,rfl⟩
    exact .inl rfl
   exact .inl rfl
  clear M Q G F I T;rcases V with rfl | ⟨es,rfl⟩<;>simp[ak, *,uj]
 | true=>
  rw[Q K,K]at S;rw[K,if_pos rfl]at T;have G:=G K;have F:=F K st nu;rw[I]at F ⊢;clear Q I;generalize (nI ⟨k,u,(⟨n,⟨A,a_3,m⟩,B,⟨⟨⟨E,t,C⟩,D⟩,j⟩,⟨⟨a,f,e⟩,i⟩,⟨b,d⟩,l⟩:gI),c,g1,v,w,o⟩:Int)=N at *;generalize m9 ⟨k,u,(⟨n,⟨A,a_3,m⟩,B,⟨⟨⟨E,t,C⟩,D⟩,j⟩,⟨⟨a,f,e⟩,i⟩,⟨b,d⟩,l⟩:gI),c,g1,v,w,o⟩=bs at *;clear K;cases hh:l9 st nu 0 N with
  | false=>clear F G;simp[ak, *,uj]
  | true=>
   have V:=Py (bs:=bs) (x := .bE 1 (aK bs) none) (Sl.mk _ _);have Y:0<=st/\0<=nu:=by simp[l9]at hh;omega
   simp[ak, *,uj];rw[ab8];refine⟨λg'=>IF (gi:=145) (first:=[]) (captured:=[.iptr 1 [.bE 1 (aK bs) none] 0 0,.iptr 1 [aI 119] 0 0]) rfl ?_⟩;intro tm O;have t6:dE tm 6 = .ptr ⟨0,6,0,0⟩ 0 0:=(O 6).trans rfl;have L:dE tm 10 = .ptr ⟨0,10,0,0⟩ 0 0:=(O 10).trans rfl;have t5:dE tm 5 = .ptr ⟨0,5,0,0⟩ 0 0:=(O 5).trans rfl;have Z:dE tm 4 = .ptr ⟨0,4,0,0⟩ 0 0:=(O 4).trans rfl;rw[show Tryz.f70.ntmps=58 from by kernel_rfl];generalize J:[AV.agg [a8 k,aI u,a8 n,a8 A,bY a_3,a8 m,aI B,a8 E,bY t,a8 C,aI D,aI j,a8 a,bY f,a8 e,aI i,a8 b,bY d,x,aI c,aI g1,a8 v,bY w,aB o]]=cell;obtain⟨y,H',hy,hm⟩:=PW (r:=⟨0,58,0,0⟩) (r6:=⟨0,6,0,0⟩) (r10:=⟨0,10,0,0⟩) (r5:=⟨0,5,0,0⟩) (r4:=⟨0,4,0,0⟩) (tm:=tm) (of:=N) Y.1 Y.2 t6 L t5 Z (bs:=bs) (x := .bE 1 (aK bs) none) (Sl.mk _ _) (by omega) G.1
    (H:=(⟨0,58,0,0⟩,some (eU 0 (.lp 0 58 [35] bK bJ tm))) :: [(⟨0,10,0,0⟩,some ⟨1,[aI N],false,false⟩),(⟨0,6,0,0⟩,some ⟨1,[aY],false,false⟩),(⟨0,5,0,0⟩,some ⟨1,[aI nu],false,false⟩),(⟨0,4,0,0⟩,some ⟨1,[aI st],false,false⟩),(⟨0,3,0,0⟩,some ⟨24,cell,false,false⟩)])
    ⟨by simp(maxDischargeDepth:=12) [Gk, *],by simp,by simp,by simp,by simp,by simp,.inl ⟨by simp,rfl⟩⟩
   refine⟨y,H',0,_,by simpa using hy,by simp only[aa.D7,aa.RI];rw[sD];exact(iQf lpO hm.mark).trans (Bb _ _),.inl ⟨rfl,?_⟩⟩;have X:=DQ (s:=OK g' [(34,AV.fn (.func 145) [] [.iptr 1 [.bE 1 (aK bs) none] 0 0,.iptr 1 [aI 119] 0 0]),(6,AV.ptr ⟨0,6,0,0⟩ 0 0),(10,AV.ptr ⟨0,10,0,0⟩ 0 0),(5,AV.ptr ⟨0,5,0,0⟩ 0 0),(4,AV.ptr ⟨0,4,0,0⟩ 0 0)]) (l:=[(6,AV.ptr ⟨0,6,0,0⟩ 0 0)]) (by
    intro p hp;simp only[fR,Dq,iQu]at hp;subst hp;rfl)
   rw[<-X];refine(AP _ _ _ λg=>?_).h _;obtain⟨fr,mark,⟨n1,_⟩,b10,b5,b4,U⟩:=hm;clear X hy O t6 L t5 Z T S V G J b10 b5 b4;generalize rC st nu N 0 (E5 3 bs)=ws at *;rcases U with ⟨hb,rfl⟩ | ⟨q,q1,q2,q3,p1,p2,p3,p4,p5,hb,hq,W⟩
   ·exact absurd rfl F
   have s1:=p1.symm;have s2:=p2.symm;simp[ak, *,uN,aa.ad]
def YA{bs:List UInt8}{x:AV}(q:Sl 1 (aK bs) x){m:Nat}(s:bs.length=4 * m)(o:m<=64) :
 ay env 208 [x]=some (if (words bs).all iY then .tup [gK (words bs),aI 0] else .tup [aY,aI 8]):=by
 refine aH rfl (by kernel_rfl) (zF _ _ _ λg=>?_);have p:=q.r;have u : ¬((256:Int)<4 * m):=by omega
 obtain⟨b,a⟩ : ∃b,b=(if (words bs).all iY then AV.tup [gK (words bs),aI 0] else AV.tup [aY,aI 8]):=⟨_,rfl⟩;rw[<-a];have d:=λH Q=>PL q (by omega) (by omega) (H:=H) (Q:=Q) m 0 bs 0 [] aY rfl s (by omega) rfl (by simp);have i : ∀y h,(words bs).all iY=true->hU [50,57] 1 (rows ([]++words bs)) h y->([]++words bs=[]->y=aY)->view h.get 8 (.tup [y,aI 0])=some b:=by
  intro y h j n c;rw[sf]at n c;rw[a,if_pos j];rcases n with ⟨rfl,k⟩ | ⟨t,v,w,rfl,p⟩
  ·have:words bs=[]:=(by simpa using k);rw[this];rfl
  have l:words bs≠[]:=λe=>by cases c e
  have k:gK (words bs) = .bE 1 (rows (words bs)) none:=by unfold gK;rw[if_neg l]
  rw[k];generalize words bs=ws at *;simp[p]
 have f:(words bs).all iY=false ->∀h:aa,view h.get 8 (.tup [aY,aI 8])=some b:=by
  intro j h;rw[a,if_neg (by rw[j];decide)];simp
 clear a;simp[ak, *,sW];exact d _ _ Fr.nil (.inl ⟨rfl,rfl⟩) (λ_=>rfl) i f
def X4(a b c:UInt8):IntKind.i64.wrap (65536 * (a.toNat:Int))=65536 * (a.toNat:Int)/\IntKind.i64.wrap (256 * (b.toNat:Int))=256 * (b.toNat:Int) /\
 IntKind.i64.wrap (65536 * (a.toNat:Int)+256 * (b.toNat:Int))=65536 * (a.toNat:Int)+256 * (b.toNat:Int) /\
 65536 * (a.toNat:Int)+256 * (b.toNat:Int)+(c.toNat:Int)=val [a,b,c]/\IntKind.i64.wrap (val [a,b,c])=val [a,b,c]:=by
 have g:=a.toNat_lt;have f:=b.toNat_lt;have e:=c.toNat_lt;have d:65536 * (a.toNat:Int)+256 * (b.toNat:Int)+(c.toNat:Int)=val [a,b,c]:=by simp[val,vp];omega
 exact⟨iQa _ (by omega),iQa _ (by omega),iQa _ (by omega),d,iQa _ (by omega)⟩
def UW{k m:UInt8}(h:FD k (m.toNat:Int)≠0):FD k (m.toNat:Int)=(lH k m:Int)/\1<=m.toNat/\m.toNat<=64/\(k=1\/k=2\/k=3):=by
 unfold FD at h ⊢;unfold lH;split at h;·exact absurd rfl h
 rename_i d;rw[if_neg d];split at h;·exact absurd rfl h
 rename_i c;rw[if_neg c];split at h;·rename_i k1;rw[if_pos k1,if_pos k1];exact⟨by omega,by omega,by omega,.inl k1⟩
 rename_i k1;rw[if_neg k1,if_neg k1];split at h;·rename_i a;rw[if_pos a,if_neg (by rw[a];decide)];exact⟨rfl,by omega,by omega,.inr (.inl a)⟩
 rename_i a;rw[if_neg a];split at h;·rename_i b;rw[if_pos b,if_pos b];exact⟨rfl,by omega,by omega,.inr (.inr b)⟩
 exact absurd rfl h
def UU{k m:UInt8}(c:1<=m.toNat)(b:m.toNat<=64)(a:k=1\/k=2\/k=3):FD k (m.toNat:Int)≠0:=by
 unfold FD;rw[if_neg (by omega),if_neg (by omega)];rcases a with rfl | rfl | rfl
 ·rw[if_pos rfl];omega
 ·rw[if_neg (by decide),if_pos rfl];omega
 rw[if_neg (by decide),if_neg (by decide),if_pos rfl];omega
def sI(l:List UInt8):AV:=if nR l then .tup [.agg (B8 (oJ l)++[gK (oJ l).l]),aI (rB l),aI 0] else pJ
def Yx{l:List UInt8}{x:AV}(hx:Sl 1 (aK l) x)(hl:l.length<1000000):ay env 200 [x]=some (sI l):=by
 refine aH rfl (by kernel_rfl) (zB _ _ _ λg=>?_);have hr:=hx.r;by_cases h24:(l.length:Int)<24;·have i:sI l=pJ:=(by unfold sI;rw[if_neg];intro h;simp only[nR,bI,iQb]at h;omega);unfold pJ at i;simp[ak, *,cJ]
 obtain⟨W,rfl,hc⟩:=nU hx (by simp;omega);have Q:24<=l.length:=by omega
 obtain⟨k,hh,ss,ff,m,rest,D,h6,h3,U⟩:=Q4 Q;obtain⟨A,e2⟩:=Ie k hh ss ff m rest h6 h3 U;rw[<-D]at A e2;obtain⟨s1,s2,s3,rfl⟩ : ∃a b c,ss=[a,b,c]:=by
  match ss,h3 with
  | [a,b,c],_=>exact⟨a,b,c,rfl⟩
 have hlr:l.length=24+rest.length:=by rw[D];simp;omega
 have hrest:rest.length=l.length - 24:=(by omega);clear hlr;have d1:l.drop 1=hh++([s1,s2,s3]++(ff++(m :: rest))):=by rw[D];rfl
 have d7:l.drop 7=[s1,s2,s3]++(ff++(m :: rest)):=(by have:l.drop 7=(l.drop 1).drop 6:=(by rw[pN]);rw[this,d1];exact Dn h6);have R:l.drop 10=ff++(m :: rest):=(by have:l.drop 10=(l.drop 7).drop 3:=(by rw[pN]);rw[this,d7];rfl);have V:l.drop 23=m :: rest:=(by have:l.drop 23=(l.drop 10).drop 13:=(by rw[pN]);rw[this,R];exact Dn U);have N:l.drop 24=rest:=(by have:l.drop 24=(l.drop 23).drop 1:=(by rw[pN]);rw[this,V];rfl);have gd : ∀a j,(l.drop a)[j]?=l[a+j]?:=λa j=>Cf;have g0:l[0]?=some k:=by rw[D];rfl
 have g7:l[7]?=some s1:=by rw[<-gd 7 0,d7];rfl
 have g8:l[8]?=some s2:=by rw[<-gd 7 1,d7];rfl
 have g9:l[9]?=some s3:=by rw[<-gd 7 2,d7];rfl
 have g23:l[23]?=some m:=by rw[<-gd 23 0,V];rfl
 have z : ∀a,(aK l).drop a=aK (l.drop a):=λa=>by simp[aK]
 have w : ∀a (q:List UInt8),(aK q).take a=aK (q.take a):=λa q=>by simp[aK]
 have t1:List.take 6 (List.drop 1 (aK l))=aK hh:=(by rw[z,w,d1,Af h6]);rw[iQQ]at t1;have t2:List.take 13 (List.drop 10 (aK l))=aK ff:=by rw[z,w,R,Af U]
 have t3:List.take 13 (List.drop 24 (aK l))=aK (rest.take 13):=(by rw[z,w,N]);have t4 : ∀n,List.take n (List.drop 37 (aK l))=aK ((rest.drop 13).take n):=λn=>by
  have:l.drop 37=(l.drop 24).drop 13:=(by rw[pN]);rw[z,w,this,N]
 have t5:List.take 5 (List.drop 24 (aK l))=aK (rest.take 5):=(by rw[z,w,N]);have hH:=λc hc=>CY (v := .bE 1 (aK hh) c) (l:=hh) (.inr ⟨c,rfl,hc⟩) h6;have hI:=λc hc=>Vd (v := .bE 1 (aK ff) c) (l:=ff) (.inr ⟨c,rfl,hc⟩) U;have hS:=Vf k (m.toNat:Int);have qm:=m.toNat_lt;have wm:=iQa (m.toNat:Int) (by omega);obtain⟨v1,v2,v3,eV,v4⟩:=X4 s1 s2 s3;have u : ∀a n,a+n<=(aK l).length->n<=(W.map (· - a)).getD n:=by
  intro a n h;cases W with
  | none=>simp
  | some c=>simp at hc ⊢;simp at h;omega
 have Z:(aK l).length=l.length:=(by simp);have p0:0<l.length:=(by omega);have g0' : ∀h:0<l.length,l[0]'h=k:=λh=>by have:=g0;rw[eu h]at this;exact KT this
 have l0:(0:Int)<l.length/\(7:Int)<l.length/\(8:Int)<l.length/\(9:Int)<l.length/\(23:Int)<l.length/\(7:Int)<=l.length/\(23:Int)<=l.length:=(by omega);have C:(oJ l).kind=k:=by rw[A];rfl
 have B:(oJ l).s.many=m.toNat:=by rw[A];rfl
 by_cases hz:FD k (m.toNat:Int)=0
 ·have i:sI l=pJ:=by
   unfold sI;rw[if_neg];intro h;simp only[nR,bI,iQb]at h;have hp:=tO h.2.2;rw[C,B]at hp;refine UU (k:=k) (m:=m) (by omega) (by omega) ?_ hz;rcases hp.2.2.2.2.2 with ⟨h,_⟩ | ⟨h,_⟩ | ⟨h,_⟩
   ·exact .inl h
   ·exact .inr (.inl h)
   exact .inr (.inr h)
  rw[hz]at hS;unfold pJ at i;clear hH hI t1 t2 t3 t4 t5 d1 d7 R V N A e2 D gd z w u C B hz;simp[ak, *,cJ]
 obtain⟨z1,z2,z3,z4⟩:=UW hz;have hz0 : ¬(lH k m=0):=λe=>hz (by rw[z1,e];rfl);rw[z1]at hS;by_cases hlt:l.length<lH k m;·have i:sI l=pJ:=(by unfold sI;rw[if_neg];intro h;simp only[nR,bI,iQb]at h;rw[e2]at h;omega);have M:(l.length:Int)<(lH k m:Int):=(by omega);unfold pJ at i;clear hH hI t1 t2 t3 t4 t5 d1 d7 R V N A e2 D gd z w u C B hz z1;simp[ak, *,cJ]
 have M : ¬(l.length:Int)<(lH k m:Int):=(by omega);have i:sI l=if r8 (oJ l) then .tup [.agg (B8 (oJ l)++[gK (oJ l).l]),aI (lH k m:Nat),aI 0] else pJ:=by
  unfold sI nR;rw[e2];have h1:decide (24<=l.length)=true:=by simpa using Q
  have h2:decide (lH k m<=l.length)=true:=by simp only[iQb];omega
  rw[h1,h2,ig,ig]
 have o:r8 (oJ l)=true->fW (oJ l)=l.take (lH k m):=λp=>by
  have hg:nR l=true:=(by simp only[nR,bI,iQb];rw[e2];exact⟨Q,by omega,p⟩);have:=(TM hg).1;rw[e2]at this;exact this
 have hle:(lH k m:Int)<=l.length:=(by omega);have hcv:=λ(g:dv)(r:Ref)=>Sl.conv (P:=env.P) (src:=76) (dst:=9) (l:=l.take (lH k m)) (x := .bE 1 (List.take (lH k m) (aK l)) W) (by
  rw[w];refine .inr ⟨W,rfl,?_⟩;rw[gM,oM];cases W with
  | none=>simp
  | some c=>simp at hc ⊢;omega) (by kernel_rfl) (by kernel_rfl) g r
 have hH':=hH (W.map (· - 1)) (by rw[gM,h6];exact u 1 6 (by rw[Z];omega));have hI':=hI (W.map (· - 10)) (by rw[gM,U];exact u 10 13 (by rw[Z];omega));clear hH hI d1 d7 R V N e2 D gd z w C B hz z1;obtain⟨⟨F,L,H⟩,hh0⟩ : ∃h:R1,iZ hh=h:=⟨_,rfl⟩;obtain⟨⟨⟨G,E,K⟩,J⟩,ff0⟩ : ∃f:Ay,kz ff=f:=⟨_,rfl⟩;rw[hh0]at hH';rw[ff0]at hI';unfold Cs at A;rw[hh0,ff0]at A;generalize val [s1,s2,s3]=sr at *;rcases z4 with rfl | rfl | rfl
 ·rw[if_pos rfl,if_neg (by decide),if_pos rfl]at A;have T:lH 1 m=37+4 * m.toNat:=rfl;have l13:(rest.take 13).length=13:=by rw[oM];omega
  have Y:((rest.drop 13).take (4 * m.toNat)).length=4 * m.toNat:=by rw[oM,oZ];omega
  have t4':List.take (lH 1 m - 37) (List.drop 37 (aK l))=aK ((rest.drop 13).take (4 * m.toNat)):=by rw[t4,T];congr 2;omega
  have hI2:=Vd (v := .bE 1 (aK (rest.take 13)) (W.map (· - 24))) (l:=rest.take 13) (.inr ⟨_,rfl,by rw[gM,l13];exact u 24 13 (by rw[Z];omega)⟩) l13;have hR4:=YA (bs:=(rest.drop 13).take (4 * m.toNat)) (x := .bE 1 (aK ((rest.drop 13).take (4 * m.toNat))) (W.map (· - 37))) (.inr ⟨_,rfl,by rw[gM,Y];exact u 37 (4 * m.toNat) (by rw[Z];omega)⟩) Y z3;have hwl:=(vt m.toNat _ Y).2;have S1:(37:Int)<=(lH 1 m:Int)/\37<=lH 1 m:=by rw[T];omega
  have S2:(37:Int)<=l.length:=(by omega);obtain⟨⟨⟨a_1,a_2,a_3⟩,a_4⟩,aa0⟩ : ∃f:Ay,kz (rest.take 13)=f:=⟨_,rfl⟩;rw[aa0]at hI2 A;clear u t4 t5 Y l13 aa0 T;generalize lH 1 m=S at *;generalize words ((rest.drop 13).take (4 * m.toNat))=ws at *;generalize (rest.drop 13).take (4 * m.toNat)=rb at *;generalize rest.take 13=ra at *;cases I:ws.all iY with
  | false=>
   have p:r8 (oJ l)=false:=LQ (by
    rw[A];have:HZ ws=false:=by simp[HZ,I]
    simp[DU,JL,this])
   rw[p]at i;simp only[pJ,gB,iQe]at i;rw[I,if_neg (by decide)]at hR4;clear A o p I;simp[ak, *,cJ]
  | true=>
   rw[I,if_pos rfl]at hR4;have hRr : ∀a∈ws, -2147483648<=a/\a<=2147483647:=(by intro a ha;have:=gP.1 I a ha;simp only[iY,jf,bI,iQb]at this;omega);have hM:=Gq 1 F L H sr G E K J m.toNat a_1 a_2 a_3 a_4 0 0 (jG ws) (by omega) hRr;have hg:=(jG ws).r;cases p:r8 (oJ l) with
   | false=>rw[p]at i;simp only[pJ,gB,iQe]at i;rw[A]at p;rw[p]at hM;clear A o I hRr;simp[ak, *,cJ]
   | true=>rw[p]at i;have y:=o p;rw[A]at p y i;simp only[B8,if_true]at i;have hB:=BF 1 F L H sr G E K J m.toNat a_1 a_2 a_3 a_4 0 0 (jG ws) (by omega) p;rw[p]at hM;rw[y]at hB;clear A o y I hRr;simp[ak, *,cJ]
 ·rw[if_neg (by decide),if_neg (by decide),if_neg (by decide)]at A;have O:lH 2 m=24:=rfl;have l24:(24:Int)<=l.length:=by omega
  rw[O]at hS M hlt i o hcv hle hz0;have hM:=Gq 2 F L H sr G E K J m.toNat 0 0 0 0 0 0 (l:=[]) (x:=aY) (.inl ⟨rfl,rfl⟩) (by simp) (by simp);cases p:r8 (oJ l) with
  | false=>rw[p]at i;simp only[pJ,gB,iQe]at i;rw[A]at p;unfold nK at p;rw[p]at hM;clear A o u t3 t4 t5;simp[ak, *,cJ]
  | true=>rw[p]at i;have y:=o p;rw[A]at p y i;simp only[B8,nK,show gK []=aY from rfl,if_true]at i;unfold nK at p y;have hB:=BF 2 F L H sr G E K J m.toNat 0 0 0 0 0 0 (l:=[]) (x:=aY) (.inl ⟨rfl,rfl⟩) (by simp) p;rw[p]at hM;rw[y]at hB;clear A o y u t3 t4 t5;simp[ak, *,cJ]
 rw[if_neg (by decide),if_pos rfl,if_neg (by decide)]at A;have O:lH 3 m=29:=rfl;rw[O]at hS M hlt i o hcv hle hz0;obtain⟨c1,c2,c3,c4,c5,rest',hr5⟩ : ∃a b c d e t,rest=a :: b :: c :: d :: e :: t:=by
  match rest,(show 5<=rest.length by omega) with
  | a :: b :: c :: d :: e :: t,_=>exact⟨a,b,c,d,e,t,rfl⟩
 rw[hr5]at A t5;have X:oJ l=⟨3,⟨F,L,H⟩,sr,⟨⟨⟨G,E,K⟩,J⟩,(m.toNat:Int)⟩,nK,⟨c1,u32 (val [c2,c3,c4,c5])⟩,[]⟩:=A;have t5':List.take 5 (List.drop 24 (aK l))=[a8 c1,a8 c2,a8 c3,a8 c4,a8 c5]:=t5;have l29:(29:Int)<=l.length:=hle;have q29 : ¬(l.length:Int)<29:=M;have hT:=CY (v := .bE 1 [a8 c1,a8 c2,a8 c3,a8 c4,a8 c5,a8 0] none) (l:=[c1,c2,c3,c4,c5,0]) (Sl.mk _ _) rfl;have hT':iZ [c1,c2,c3,c4,c5,0]=⟨c1,u32 (val [c2,c3,c4,c5]),0⟩:=rfl;rw[hT']at hT;generalize u32 (val [c2,c3,c4,c5])=cc at *;have hM:=Gq 3 F L H sr G E K J m.toNat 0 0 0 0 c1 cc (l:=[]) (x:=aY) (.inl ⟨rfl,rfl⟩) (by simp) (by simp);clear A t5 hT' hr5;cases p:r8 (oJ l) with
 | false=>rw[p]at i;simp only[pJ,gB,iQe]at i;rw[X]at p;unfold nK at p;rw[p]at hM;clear X o u t3 t4;simp[ak, *,cJ]
 | true=>rw[p]at i;have y:=o p;rw[X]at p y i;simp only[B8,nK,show gK []=aY from rfl,if_true]at i;unfold nK at p y;have hB:=BF 3 F L H sr G E K J m.toNat 0 0 0 0 c1 cc (l:=[]) (x:=aY) (.inl ⟨rfl,rfl⟩) (by simp) p;rw[p]at hM;rw[y]at hB;clear X o y u t3 t4;simp[ak, *,cJ]
def bV(l:List (List UInt8 × AV)):List AV:=l.map (·.2)
def okB(l:List (List UInt8 × AV)):Prop :=∀p∈l,Sl 1 (aK p.1) p.2
def ib(l:List (List UInt8 × AV)):List (List UInt8):=l.map (·.1)
@[simp] def aj4(l:List (List UInt8 × AV)):(bV l).length=l.length:=by simp[bV]
@[simp] def aji(l:List (List UInt8 × AV)):(ib l).length=l.length:=by simp[ib]
def WW{x y:AV}{l m:List (List UInt8 × AV)}(C:Sl 1 (bV l) x)(A:Sl 1 (bV m) y)(G:okB l)(J:okB m)(b:l.length=m.length)(w:l.length<1000000){Q:AV->aa->Prop}{H:aa} :
 ∀(s:List (List UInt8 × AV)) (k:Nat) (i:Int),l.drop k=s->k<=l.length->i=k->ib (l.take k)=ib (m.take k)->(Q (aB (decide (ib l=ib m))) H) ->
 cy env Tryz.f153 0 ck [(17,aI i),(2,.fn (.func 87) [] []),(1,y),(15,x),(16,aI l.length)] H Q:=by
 intro s;induction s with
 | nil=>rintro k i hs hk rfl he hQ;obtain rfl:=drop_nil hs hk;rw[Ce,b,Ce]at he;rw[he]at hQ;refine dD _ _ _ _ _ _ _ λg=>?_;simp[ak, *,cm];all_goals simpa using hQ
 | cons p s u=>
  rintro k i hs hk rfl he hQ;obtain⟨I,K,t,o⟩:=drop_cons hs;have h:k<m.length:=by omega
  have d:=G p (K ▸ fj _);have j:=J (m[k]) (fj _);have B:=DH d j;have L:=iQa ((k:Int)+1) (by omega);have c:m[k]?=some m[k]:=eu h;generalize F:m[k]=q at *;have E:=d.r;have D:=j.r;by_cases a:p.1=q.1;·have f:ib (l.take (k+1))=ib (m.take (k+1)):=(by unfold ib at he ⊢;rw[Ez,Ez,o,c,AL,AL,he];simp[a]);have v:=u (k+1) ((k:Int)+1) t (by omega) (by simp) f hQ;clear u hQ he f;have hd:decide (p.1=q.1)=true:=iQi a;rw[hd]at B;refine dD _ _ _ _ _ _ _ λg=>?_;clear a;rw[b]at v;simp[ak, *,cm,C.idx,A.idx,bV]
  have n : ¬ib l=ib m:=(by intro e;have:=iQf (λz=>z[k]?) e;simp only[ib,nM,o,c,Option.map_some,eS]at this;exact a this);rw[iQh n]at hQ;rw[iQh a]at B;clear u a n;refine dD _ _ _ _ _ _ _ λg=>?_;simp[ak, *,cm,C.idx,A.idx,bV]
def agm{x y:AV}{l m:List (List UInt8 × AV)}(k:Sl 1 (bV l) x)(f:Sl 1 (bV m) y)(j:okB l)(i:okB m)(b:l.length<1000000) :
 ay env 153 [x,y,.fn (.func 87) [] []]=some (aB (decide (ib l=ib m))):=by
 refine aH rfl (by kernel_rfl) (k5 _ _ _ _ _ λg=>?_);have o:=k.r;have n:=f.r;by_cases a:l.length=m.length
 ·have h:=WW k f j i a b (Q:=λv H=>ed env 153 v H (aB (decide (ib l=ib m)))) (H:=[]) l 0 0 rfl (by omega) rfl (by simp) (by simp);have d:(l.length:Int)=m.length:=by omega
  clear j i;simp[ak, *,dL];all_goals (first | exact h | simpa [a] using h)
 have d : ¬(l.length:Int)=m.length:=by omega
 have c : ¬ib l=ib m:=by intro e;exact a (by simpa using iQf List.length e)
 rw[iQh c];clear c a;simp[ak, *,dL]
def qw(b:List UInt8):dY:=if decide (b.getD 1 0<=1)&&s9 (b.getD 0 0).toNat (b.getD 2 0) (u32 (val ((b.drop 3).take 4))) (decide (b.getD 1 0=1)) then ⟨0,0,dS,0,(b.getD 0 0).toNat,b.getD 2 0,u32 (val ((b.drop 3).take 4)),decide (b.getD 1 0=1)⟩ else ⟨0,0,dS,0,0,0,0,false⟩
def YH{c:Option Nat}{b0 b1 b2 b3 b4 b5 b6:UInt8}(l:7<=c.getD 7) : ∃e,ay env 177 [.bE 1 [a8 b0,a8 b1,a8 b2,a8 b3,a8 b4,a8 b5,a8 b6] c] =
 some (.tup [.agg [aI (qw [b0,b1,b2,b3,b4,b5,b6]).gu,a8 (qw [b0,b1,b2,b3,b4,b5,b6]).gv,bY (qw [b0,b1,b2,b3,b4,b5,b6]).gc,aB (qw [b0,b1,b2,b3,b4,b5,b6]).gok],aI e]):=by
 have i:qw [b0,b1,b2,b3,b4,b5,b6]=if decide (b1<=1)&&s9 b0.toNat b2 (u32 (val [b3,b4,b5,b6])) (decide (b1=1)) then ⟨0,0,dS,0,b0.toNat,b2,u32 (val [b3,b4,b5,b6]),decide (b1=1)⟩ else ⟨0,0,dS,0,0,0,0,false⟩:=rfl
 rw[i];clear i;have k:(7:Int)<=c.getD 7:=by omega
 have j:=FE (c:=none) (a:=b2) (n:=0) (b1:=b3) (b2:=b4) (b3:=b5) (b4:=b6) (by simp);generalize u32 (val [b3,b4,b5,b6])=cats at *;by_cases h:b1<=1
 ·by_cases d:s9 b0.toNat b2 cats (decide (b1=1))=true
  ·refine⟨0,?_⟩;refine aH rfl (by kernel_rfl) (zp _ _ _ λg=>?_);have f:gE ⟨b2,cats,0⟩=true:=by simp[s9,xN]at d;simp[gE,d.2.1]
   have b : ¬1<b1:=UInt8.not_lt.2 h;simp[ak, *,vB,bad]
  refine⟨8,?_⟩;refine aH rfl (by kernel_rfl) (zp _ _ _ λg=>?_);have b : ¬1<b1:=UInt8.not_lt.2 h;simp only[Bool.not_eq_true]at d;cases f:gE ⟨b2,cats,0⟩<;>simp[ak, *,vB,bad]
 refine⟨8,?_⟩;refine aH rfl (by kernel_rfl) (zp _ _ _ λg=>?_);have b:1<b1:=UInt8.not_le.1 h;simp[ak, *,vB]
def PZ(b:List UInt8):gI:=if nR b then oJ b else dS
def bW(b:List UInt8):dY:=if b.getD 0 0=1 then ⟨1,(b.getD 7 0).toNat, { dS with h:=Fe ((b.drop 1).take 6)},0,0,0,0,false⟩
 else if b.getD 0 0=2 then ⟨2,0,PZ (b.drop 3),val ((b.drop 1).take 2),0,0,0,false⟩
 else if b.getD 0 0=3 then { qw ((b.drop 1).take 7)with kind:=3}
 else ⟨b.getD 0 0,0,dS,0,0,0,0,false⟩
def Be(b:List UInt8):(qw b).user=0/\(qw b).op=dS/\(qw b).code=0:=by
 unfold qw;split<;>exact⟨rfl,rfl,rfl⟩
def uD:gK []=aY:=rfl
def Ym{b:List UInt8}{x:AV}(E:Sl 1 (aK b) x)(y:8<=b.length)(w:b.length<50000000):ay env 152 [x]=some ((bW b).val (gK (bW b).op.l)):=by
 refine aH rfl (by kernel_rfl) (Ga _ _ _ λg=>?_);match b,y with
 | b0 :: b1 :: b2 :: b3 :: b4 :: b5 :: b6 :: a :: t,_=>
 obtain⟨d,rfl,f⟩:=nU E (by simp);rw[gM]at f;simp only[jP]at f w;have k:t.length+7<=(d.map (· - 1)).getD (t.length+7):=by cases d<;>simp at f ⊢ <;> omega
 have I:(6:Int)<=(d.map (· - 1)).getD (t.length+7):=by omega
 have C:(6:Int)<=((t.length+7:Nat):Int):=by omega
 have L:(7:Int)<=(d.map (· - 1)).getD (t.length+7):=by omega
 have J:(2:Int)<=(d.map (· - 1)).getD (t.length+7):=by omega
 have H:(0:Int) < ↑t.length+1+1+1+1+1+1+1+1:=by omega
 have F:(1:Int) <= ↑t.length+1+1+1+1+1+1+1+1:=by omega
 have P:((t.length:Int)+1+1+1+1+1+1+1+1).toNat - 1=t.length+7:=by omega
 have G:List.take (t.length+7) (a8 b1 :: a8 b2 :: a8 b3 :: a8 b4 :: a8 b5 :: a8 b6 :: a8 a :: List.map a8 t)=a8 b1 :: a8 b2 :: a8 b3 :: a8 b4 :: a8 b5 :: a8 b6 :: a8 a :: List.map a8 t:=dM (by simp);have O:Option.map ((λx:Nat=>x) ∘ λx=>x - 1) d=Option.map (λx=>x - 1) d:=rfl;have z:6<=(d.map (· - 1)).getD 6:=by cases d<;>simp at f ⊢ <;> omega
 have u:7<=(d.map (· - 1)).getD 7:=by cases d<;>simp at f ⊢ <;> omega
 have A:2<=(d.map (· - 1)).getD 2:=by cases d<;>simp at f ⊢ <;> omega
 have N:(2:Int) <= ↑t.length+1+1+1+1+1+1+1:=by omega
 have K:((t.length:Int)+1+1+1+1+1+1+1).toNat - 2=t.length+5:=by omega
 have M:List.take (t.length+5) (a8 b3 :: a8 b4 :: a8 b5 :: a8 b6 :: a8 a :: List.map a8 t)=a8 b3 :: a8 b4 :: a8 b5 :: a8 b6 :: a8 a :: List.map a8 t:=dM (by simp);clear k;by_cases k1:b0=1;·subst k1;have e:bW (1 :: b1 :: b2 :: b3 :: b4 :: b5 :: b6 :: a :: t)=⟨1,a.toNat, { dS with h:=Fe [b1,b2,b3,b4,b5,b6]},0,0,0,0,false⟩:=rfl;rw[e];have D:=Qj (v := .bE 1 [a8 b1,a8 b2,a8 b3,a8 b4,a8 b5,a8 b6] (d.map (· - 1))) (l:=[b1,b2,b3,b4,b5,b6]) (by rw[show[a8 b1,a8 b2,a8 b3,a8 b4,a8 b5,a8 b6]=aK [b1,b2,b3,b4,b5,b6] from rfl];exact Sl.Zi (by simpa using z)) rfl;unfold dY.val dS;simp only[uD];generalize Fe [b1,b2,b3,b4,b5,b6]=hh at *;simp[ak, *,oC,aK];omega
 by_cases p:b0=2
 ·subst p;have e:bW (2 :: b1 :: b2 :: b3 :: b4 :: b5 :: b6 :: a :: t)=⟨2,0,PZ (b3 :: b4 :: b5 :: b6 :: a :: t),val [b1,b2],0,0,0,false⟩:=rfl;rw[e];have s:=LB (l:=[b1,b2]) (x := .bE 1 [a8 b1,a8 b2] (d.map (· - 1))) (by rw[show[a8 b1,a8 b2]=aK [b1,b2] from rfl];exact Sl.Zi (by simpa using A)) (by simp);have j:Sl 1 (aK (b3 :: b4 :: b5 :: b6 :: a :: t)) (.bE 1 (a8 b3 :: a8 b4 :: a8 b5 :: a8 b6 :: a8 a :: List.map a8 t) (Option.map ((λx=>x - 2) ∘ λx=>x - 1) d)):=by
   rw[show a8 b3 :: a8 b4 :: a8 b5 :: a8 b6 :: a8 a :: List.map a8 t=aK (b3 :: b4 :: b5 :: b6 :: a :: t) from rfl];exact Sl.Zi (by cases d<;>simp at f ⊢ <;> omega)
  have i:=YF j (by simp only[jP];omega);have q:qx (b3 :: b4 :: b5 :: b6 :: a :: t) = .tup [.agg (B8 (PZ (b3 :: b4 :: b5 :: b6 :: a :: t))++[A0 1 (rows (PZ (b3 :: b4 :: b5 :: b6 :: a :: t)).l)]),aI (if nR (b3 :: b4 :: b5 :: b6 :: a :: t) then rB (b3 :: b4 :: b5 :: b6 :: a :: t) else 0),aI (if nR (b3 :: b4 :: b5 :: b6 :: a :: t) then 0 else 8)]:=(by unfold qx PZ pJ;split<;>rfl);rw[q]at i;unfold dY.val;generalize PZ (b3 :: b4 :: b5 :: b6 :: a :: t)=o at *;simp only[B8]at i;have B:=(jG o.l).r;have m:=HX o.l;generalize gK o.l=ro at *;generalize A0 1 (rows o.l)=rq at *;generalize rows o.l=rw' at *;generalize val [b1,b2]=cd at *;clear q j;rcases m with ⟨rfl,rfl⟩ | ⟨rfl,rfl⟩<;>simp[ak, *,oC,aK]
 by_cases n:b0=3;·subst n;have e:bW (3 :: b1 :: b2 :: b3 :: b4 :: b5 :: b6 :: a :: t) = { qw [b1,b2,b3,b4,b5,b6,a]with kind:=3}:=rfl;rw[e];obtain⟨Q,D⟩:=YH (c:=d.map (· - 1)) (b0:=b1) (b1:=b2) (b2:=b3) (b3:=b4) (b4:=b5) (b5:=b6) (b6:=a) u;obtain⟨f1,f2,f3⟩:=Be [b1,b2,b3,b4,b5,b6,a];unfold dY.val;simp only[f1,f2,f3];unfold dS;simp only[uD];generalize qw [b1,b2,b3,b4,b5,b6,a]=gg at *;simp[ak, *,oC,aK];omega
 have e:bW (b0 :: b1 :: b2 :: b3 :: b4 :: b5 :: b6 :: a :: t)=⟨b0,0,dS,0,0,0,0,false⟩:=(by unfold bW;simp[k1,p,n]);rw[e];unfold dY.val dS;simp only[uD];simp[ak, *,oC,aK]
def iL(l:List (List UInt8)):List UInt8:=l.flatMap (·.drop 9)
def kg:dY:=⟨0,0,dS,0,0,0,0,false⟩
def zf:AV := .tup [kg.val aY,(⟨0,0,0,0⟩:Hd).val,aI 8]
def y9(l:List (List UInt8))(h:Hd)(b:List UInt8):Bool:=decide (8<=b.length)&&(ej (bW b)&&l9 h.st h.nu 0 (nI (bW b))&&decide (de (bW b) h.st h.nu=l))
def D6(l:List (List UInt8))(h:Hd)(b:List UInt8):AV:=if y9 l h b then .tup [(bW b).val (gK (bW b).op.l),h.val,aI 0] else zf
def xM(l:List (List UInt8)):Option (dY × Hd):=if gV (l.headD [])&&y9 l (du (l.headD [])) (iL l) then some (bW (iL l),du (l.headD [])) else none
def Cz(l:List (List UInt8)):AV:=match xM l with
 | some (r,h) => .tup [r.val (gK r.op.l),h.val,aI 0]
 | none=>zf
def Zg(b:List UInt8):(PZ b).l.length<=64:=by
 unfold PZ;split
 ·rename_i h;unfold nR at h;simp only[bI,iQb]at h;have hp:=tO h.2.2;rcases hp.2.2.2.2.2 with ⟨_,_,_,e,_⟩ | ⟨_,_,_,e⟩ | ⟨_,_,e,_⟩
  ·have:=hp.2.2.2.2.1;omega
  ·rw[e];simp
  rw[e];simp
 exact Ae _
def we(b:List UInt8):(bW b).op.l.length<=64:=by
 unfold bW;split;·exact Ae _
 split;·exact Zg _
 split;·show(qw _).op.l.length<=64;rw[(Be _).2.1];exact Ae _
 exact Ae _
def GB(l:List (List UInt8)):okB (l.map λb=>(b,JQ b)):=λp hp=>by
 obtain⟨b,_,rfl⟩:=mo.1 hp;exact Sl.mk _ _
def GC(l:List (List UInt8)):bV (l.map λb=>(b,JQ b))=fF l:=by simp[bV,fF]
def Bk(l:List (List UInt8)):ib (l.map λb=>(b,JQ b))=l:=by
 unfold ib;rw[GU];exact List.map_id' _
def EZ(st nu of:Int) : ∀(l:List (List UInt8)) (i:Int),(rC st nu of i l).length=l.length
 | [],_=>rfl
 | _ :: l,i=>by simp only[rC,jP,EZ st nu of l (i+1)]
def Rq : ∀(m:Nat)(s:List UInt8),(E5 m s).length<=m
 | 0,_=>bM _
 | m+1,s=>by
  rw[E5];split;·simp
  have:=Rq m (s.drop 119);simp only[jP];omega
def YM(l:List Int):gK l=aY\/gK l = .bE 1 (rows l) none:=by
 unfold gK;split;·exact .inl rfl
 exact .inr rfl
def Zz{x0:AV}{l:List (List UInt8 × AV)}(C:Sl 1 (bV l) x0)(I:okB l)(S:l.length<100000){B:List UInt8}(D:B.length<50000000)(h:Hd){x5:AV}{H:aa}{r2 r3:Ref}
 (z:Fp 1 (aK B) H x5) (T:Fr H) (F:H.get r2=some ⟨24,[kg.val aY],false,false⟩) (A:H.get r3=some ⟨4,[h.val],false,false⟩) (u:r2≠r3) (o:x5.at?≠some r2) (s:x5.at?≠some r3) {Q:AV->aa->Prop} (c : ∀G,Q (D6 (ib l) h B) G) :
 cy env Tryz.f117 0 mj [(29,aI l.length),(5,x5),(27,x0),(2,.ptr r2 0 0),(3,.ptr r3 0 0),(0,x0),(28,aI l.length)] H Q:=by
 have O:=u.symm;have J:=C.r;have V:(H.get r2).isSome=true:=by rw[F];rfl
 have U:(H.get r3).isSome=true:=by rw[A];rfl
 unfold Hd.val at A;by_cases p:8<=B.length
 ·have w:aK B≠[]:=by intro e;have:=iQf List.length e;simp at this;rw[this]at p;simp at p
  obtain⟨q,rfl,N⟩:=z.ct w;have K:q≠r2:=λe=>o (by rw[e];rfl);have P:q≠r3:=λe=>s (by rw[e];rfl);have M:=K.symm;have E:=P.symm;clear o s;rw[gM];have R:(H.get q).isSome=true:=by rw[N];rfl
  have hp:=Ym (b:=B) (x := .bE 1 (aK B) none) (Sl.mk _ _) p D;have a:=U9 (bW B) (x:=gK (bW B).op.l) (jG _) (by have:=we B;omega) h.st h.nu;have v : ¬(B.length:Int)<8:=by omega
  have n:D6 (ib l) h B=if (ej (bW B)&&l9 h.st h.nu 0 (nI (bW B))&&decide (de (bW B) h.st h.nu=ib l)) then .tup [(bW B).val (gK (bW B).op.l),h.val,aI 0] else zf:=(by unfold D6 y9;rw[iQi p,ig])
  rw[n]at c;have i:=agm (x := .bE 1 (fF (de (bW B) h.st h.nu)) none) (y:=x0) (l:=(de (bW B) h.st h.nu).map λb=>(b,JQ b)) (m:=l) (by rw[GC];exact Sl.mk _ _) C (GB _) I (by
   rw[AM,de,EZ];have:=Rq 3 (m9 (bW B));omega)
  rw[Bk]at i;clear n;have L:=(jG (bW B).op.l).r;have j:=YM (bW B).op.l;have t:D6 (ib l) h B=D6 (ib l) h B:=rfl;clear t;generalize gK (bW B).op.l=ro at *;generalize bW B=r at *;unfold VW at a;unfold zf kg dY.val Hd.val dS at c;unfold dY.val kg dS at *;cases d:ej r with
  | false=>
   rw[d,if_neg (by decide)]at a;rw[d]at c;simp only[oY,gB,iQe]at c;clear i d;refine ox _ _ _ _ _ _ _ _ _ λg=>?_;rcases j with rfl | rfl
   ·simp[ak, *,fG,aa.ad]
   simp[ak, *,fG,aa.ad]
  | true=>
   cases k:l9 h.st h.nu 0 (nI r) with
   | false=>
    rw[d,k,if_pos rfl,if_neg (by decide)]at a;rw[d,k]at c;simp only[oY,CN,gB,iQe]at c;clear i d k;refine ox _ _ _ _ _ _ _ _ _ λg=>?_;rcases j with rfl | rfl
    ·simp[ak, *,fG,aa.ad]
    simp[ak, *,fG,aa.ad]
   | true=>
    rw[d,k,if_pos rfl,if_pos rfl]at a;rw[d,k,Eu,ig]at c;clear d k;generalize decide (de r h.st h.nu=ib l)=db at *;refine ox _ _ _ _ _ _ _ _ _ λg=>?_;rcases j with rfl | rfl
    ·cases db;·simp only[gB,iQe]at c;simp[ak, *,fG,aa.ad]
     simp only[if_true]at c;simp[ak, *,fG,aa.ad]
    cases db;·simp only[gB,iQe]at c;simp[ak, *,fG,aa.ad]
    simp only[if_true]at c;simp[ak, *,fG,aa.ad]
 have v:(B.length:Int)<8:=by omega
 have f:=z.len;have n:D6 (ib l) h B=zf:=(by unfold D6 y9;rw[iQh p,oY];rfl);rw[n]at c;unfold zf kg dY.val Hd.val dS at c;unfold dY.val kg dS at *;clear n;rw[gM]at f;refine ox _ _ _ _ _ _ _ _ _ λg=>?_;simp[ak, *,fG,aa.ad]
def WH{x0:AV}{l:List (List UInt8 × AV)}(D:Sl 1 (bV l) x0)(B:okB l)(F:l.length<100000)(E:(iL (ib l)).length<50000000)(h:Hd){r2 r3:Ref}(m:r2≠r3){Q:AV->aa->Prop}(G : ∀b,Q (D6 (ib l) h (iL (ib l))) b) :
 ∀(s:List (List UInt8 × AV)) (k:Nat) (i:Int) (x5:AV) (H:aa),l.drop k=s->k<=l.length->i=k->Fp 1 (aK (iL (ib (l.take k)))) H x5->Fr H->H.get r2=some ⟨24,[kg.val aY],false,false⟩->H.get r3=some ⟨4,[h.val],false,false⟩->x5.at?≠some r2->x5.at?≠some r3 ->
 cy env Tryz.f117 0 mj [(29,aI i),(5,x5),(27,x0),(2,.ptr r2 0 0),(3,.ptr r3 0 0),(0,x0),(28,aI l.length)] H Q:=by
 intro s;induction s with
 | nil=>rintro k i x5 H hs hk rfl ho hF h2 h3 n52 n53;obtain rfl:=drop_nil hs hk;rw[Ce]at ho;exact Zz D B F E h ho hF h2 h3 m n52 n53 G
 | cons p s C=>
  rintro k i x5 H hs hk rfl ho hF h2 h3 n52 n53;obtain⟨I,M,j,x⟩:=drop_cons hs;have hp:=B p (M ▸ fj _);have J:=hp.r;have a:iL (ib (l.take (k+1)))=iL (ib (l.take k))++p.1.drop 9:=by
   unfold iL ib;rw[Ez,x];simp
  have c:(iL (ib (l.take (k+1)))).length<=(iL (ib l)).length:=by
   have e:ib l=ib (l.take (k+1))++ib (l.drop (k+1)):=by unfold ib;rw[<-AL,Dt]
   rw[e];unfold iL;rw[ED,iX];omega
  rw[a]at c;have O:=iQa ((k:Int)+1) (by omega);have key : ∀(n:Nat)(v:AV),n=min p.1.length 9->(∃H0:aa,v=v)->Sl 1 ((aK p.1).drop n) v ->∃d b,ee env.P true H ⟨0,39,H.gen 0 39,0⟩ (some 76) (some 76) x5 v=some (d,b) /\
   cy env Tryz.f117 0 mj [(29,aI ((k:Int)+1)),(5,d),(27,x0),(2,.ptr r2 0 0),(3,.ptr r3 0 0),(0,x0),(28,aI l.length)] b Q:=by
   intro n v K _ y;have hd:(aK p.1).drop n=aK (p.1.drop 9):=by
    rw[Ee,K];congr 1;by_cases A:p.1.length<=9;·rw[Ew A,Ex,Fz A]
    rw[OP (by omega)]
   rw[hd]at y;have w:=Xk (P:=env.P) (t:=76) (t':=76) (z:=1) (by':=1) (by kernel_rfl) (by kernel_rfl) H 0 39 ho (y.Jf _) (by rw[gM,gM];rw[iX]at c;show(_+_) * 1<=140737488355328;omega) hF;obtain⟨d,b,a1,u,L,f⟩:=w;rw[Qu,<-a]at u;exact⟨d,b,a1,C (k+1) _ d b j (by omega) (by simp) u L (f _ _ h2 n52).1 (f _ _ h3 n53).1 (f _ _ h2 n52).2 (f _ _ h3 n53).2⟩
  clear C c a;refine ox _ _ _ _ _ _ _ _ _ λg=>?_;have q:=Pn (P:=env.P) (t:=76) (z:=1) (by kernel_rfl) H.get hp (n:=if 9<(p.1.length:Int) then 9 else (p.1.length:Int)) (by split<;>omega) (by rw[gM];split<;>omega);obtain⟨v,N,o⟩:=q;obtain⟨d,b,a1,u⟩:=key _ v (by split<;>omega) ⟨H,rfl⟩ o;clear key;simp[ak, *,fG,D.idx,bV]
def Va{x0:AV}{l:List (List UInt8 × AV)}(a:Sl 1 (bV l) x0)(f:okB l)(n:l.length<100000)(i:(iL (ib l)).length<50000000):ay env 117 [x0]=some (Cz (ib l)):=by
 refine aH rfl (by kernel_rfl) (Jo _ _ _ λg=>?_);have k:=a.r;cases l with
 | nil=>unfold ib Cz xM zf kg dY.val Hd.val dS;simp[ak, *,uo,gV]
 | cons p l=>
  have hp:=f p (j1 ..);have c:=EV hp;have m:=hp.r;have o : ¬((l.length:Int)+1=0):=by omega
  have s:(0:Int)<(l.length:Int)+1:=(by omega);have hd:(ib (p :: l)).headD []=p.1:=rfl;unfold Cz xM;rw[hd];cases e:gV p.1 with
  | false=>rw[e,if_neg (by decide)]at c;unfold zf kg dY.val Hd.val dS;unfold Hd.val at c;simp[ak, *,uo,a.idx,bV]
  | true=>
   rw[e,if_pos rfl]at c;rw[ig];have j:(match (if y9 (ib (p :: l)) (du p.1) (iL (ib (p :: l)))=true then some (bW (iL (ib (p :: l))),du p.1) else none)with | some (r,h)=>AV.tup [r.val (gK r.op.l),h.val,aI 0] | none=>zf)=D6 (ib (p :: l)) (du p.1) (iL (ib (p :: l))):=(by unfold D6;cases y9 (ib (p :: l)) (du p.1) (iL (ib (p :: l)))<;>rfl);have b:=λ(H:aa)=>WH a f n i (du p.1) (r2:=⟨0,2,0,0⟩) (r3:=⟨0,3,0,0⟩) (by decide) (Q:=λv H=>view H.get 8 v=some (D6 (ib (p :: l)) (du p.1) (iL (ib (p :: l))))) (by
    intro q;unfold D6;generalize y9 (ib (p :: l)) (du p.1) (iL (ib (p :: l)))=eo;generalize bW (iL (ib (p :: l)))=r;have d:=(jG r.op.l).r;unfold zf kg dY.val Hd.val dS;cases eo<;>simp[uD,d]) (p :: l) 0 0 aY H rfl (by omega) rfl (Gu _ _)
   rw[show(match (if y9 (ib (p :: l)) (du p.1) (iL (ib (p :: l)))=true then some (bW (iL (ib (p :: l))),du p.1) else none)with | some (r,h)=>AV.tup [r.val (gK r.op.l),h.val,aI 0] | none=>zf)=D6 (ib (p :: l)) (du p.1) (iL (ib (p :: l))) from j];generalize D6 (ib (p :: l)) (du p.1) (iL (ib (p :: l)))=ans at *;unfold kg dY.val dS at b;generalize du p.1=hd0 at *;unfold Hd.val at *;clear f j i hd e;rw[show(((p :: l).length:Nat):Int)=(l.length:Int)+1 from by simp]at b;simp[ak, *,uo,a.idx,bV];exact b _ (by simp(maxDischargeDepth:=12) [Gk, *]) rfl rfl (by simp[AV.at?]) (by simp[AV.at?])
end
end Go.Proofs.YtiidajnodhkidaaGreat
