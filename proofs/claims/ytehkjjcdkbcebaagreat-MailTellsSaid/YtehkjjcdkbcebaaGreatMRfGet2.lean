/-
  Operations: whether they may be. No statement of a seat is proved here.
-/
import Derived.Test.YtehkjjcdkbcebaaGreatMCatFns
set_option linter.unusedVariables false
set_option linter.unusedSimpArgs false
set_option linter.unusedSectionVars false
set_option linter.unnecessarySimpa false
set_option maxRecDepth 1000000
set_option linter.defProp false
namespace Go.Proofs.YtehkjjcdkbcebaaGreat
open Go.Ab
section
attribute [local simp] a7 aL au aJ aH bF kV bc aA aN cw cu aY ba ah bG fG
def Hg:AV := .agg [.v .nilFunc,.v .nilFunc,.fn (.func 146) [] [.iptr 1 [.fn (.func 145) [] []] 0 0],.fn (.func 147) [] [],
 .fn (.func 148) [] [.iptr 1 [.fn (.func 145) [] []] 0 0,.iptr 1 [.fn (.func 144) [] []] 0 0],.fn (.func 149) [] [],.fn (.func 150) [] [.iptr 1 [.fn (.func 144) [] []] 0 0],.fn (.func 151) [] []]
def Tt:aK env 138 []=some Hg:=Cq (n:=2000) (by kernel_rfl)
@[simp] def ab0:aK env 141 []=some (.agg [a8 0,cH 0]):=by
 refine bo rfl (by kernel_rfl) (DK _ _ λg=>?_);simp[ak, *,xN]
section
variable(m:UInt8)(u:UInt8)(q:UInt32)(p:UInt8)(o:Int)(t:UInt8)(w:UInt32)(s:UInt8)(y:Int)(k:Int)(d:UInt8)(a:UInt32)(f:UInt8)(c:Int)(i:UInt8)(j:UInt32){x:AV}{l:List Int}(z:Sl 1 (rows l) x)(A:l.length<2000000)
include z A
theorem Qj:aK env 144 [.agg [a8 m,a8 u,cH q,a8 p,aI o,a8 t,cH w,a8 s,aI y,aI k,a8 d,cH a,a8 f,aI c,a8 i,cH j,x]]=some (aB (xL (⟨m,⟨u,q,p⟩,o,⟨⟨⟨t,w,s⟩,y⟩,k⟩,⟨⟨d,a,f⟩,c⟩,⟨i,j⟩,l⟩:bp))):=by
 refine bo rfl (by kernel_rfl) (Fj _ _ _ λg=>?_);unfold xL;cases b:iQ (⟨⟨d,a,f⟩,c⟩:wS) with
 | true=>unfold iQ at b;simp[ak, *,tA,z.r,mj,eZ]
 | false=>unfold iQ at b;simp[ak, *,tA,z.r,mj,eZ]
theorem MF:aK env 145 [.agg [a8 m,a8 u,cH q,a8 p,aI o,a8 t,cH w,a8 s,aI y,aI k,a8 d,cH a,a8 f,aI c,a8 i,cH j,x]]=some (aB (sC (⟨i,j⟩:Wb))):=by
 refine bo rfl (by kernel_rfl) (Fi _ _ _ λg=>?_);simp[ak, *,yT,z.r,mj,eZ,sC]
theorem Qi:aK env 148 [.agg [a8 m,a8 u,cH q,a8 p,aI o,a8 t,cH w,a8 s,aI y,aI k,a8 d,cH a,a8 f,aI c,a8 i,cH j,x],.iptr 1 [.fn (.func 145) [] []] 0 0,.iptr 1 [.fn (.func 144) [] []] 0 0]=some (aB (LQ (⟨m,⟨u,q,p⟩,o,⟨⟨⟨t,w,s⟩,y⟩,k⟩,⟨⟨d,a,f⟩,c⟩,⟨i,j⟩,l⟩:bp))):=by
 refine bo rfl (by kernel_rfl) (Fg _ _ _ _ _ λg=>?_);have b:=Qj m u q p o t w s y k d a f c i j z A;have h:=MF m u q p o t w s y k d a f c i j z A;unfold LQ;cases e:sC (⟨i,j⟩:Wb)<;>simp[ak, *,yS,z.r]
theorem Ts:aK env 150 [.agg [a8 m,a8 u,cH q,a8 p,aI o,a8 t,cH w,a8 s,aI y,aI k,a8 d,cH a,a8 f,aI c,a8 i,cH j,x],.iptr 1 [.fn (.func 144) [] []] 0 0]=some (aB (Hc (⟨m,⟨u,q,p⟩,o,⟨⟨⟨t,w,s⟩,y⟩,k⟩,⟨⟨d,a,f⟩,c⟩,⟨i,j⟩,l⟩:bp))):=by
 refine bo rfl (by kernel_rfl) (Ff _ _ _ _ λg=>?_);have e:=Qj m u q p o t w s y k d a f c i j z A;unfold Hc;cases b:xL (⟨m,⟨u,q,p⟩,o,⟨⟨⟨t,w,s⟩,y⟩,k⟩,⟨⟨d,a,f⟩,c⟩,⟨i,j⟩,l⟩:bp)<;>simp[ak, *,yR,z.r]
theorem Qg:aK env 146 [.agg [a8 m,a8 u,cH q,a8 p,aI o,a8 t,cH w,a8 s,aI y,aI k,a8 d,cH a,a8 f,aI c,a8 i,cH j,x],.iptr 1 [.fn (.func 145) [] []] 0 0]=some (aB (Fx (⟨m,⟨u,q,p⟩,o,⟨⟨⟨t,w,s⟩,y⟩,k⟩,⟨⟨d,a,f⟩,c⟩,⟨i,j⟩,l⟩:bp))):=by
 refine bo rfl (by kernel_rfl) (Fh _ _ _ _ λg=>?_);have D:=MF m u q p o t w s y k d a f c i j z A;have C:=Bt z (by omega);have v:=Bv l;unfold Fx;cases B:sC (⟨i,j⟩:Wb) with
 | false=>
  cases e:iQ (⟨⟨d,a,f⟩,c⟩:wS) with| false=>unfold iQ at e;simp[ak, *,gZ,z.r,mj,eZ]| true=>unfold iQ at e;simp[ak, *,gZ,z.r,mj,eZ]
 | true=>
  have key : ∀b:Bool,(iQ (⟨⟨d,a,f⟩,c⟩:wS)||wB (⟨⟨d,a,f⟩,c⟩:wS))=b->True:=λ_ _=>trivial;cases n:D2 ⟨t,w,s⟩ ⟨u,q,p⟩ with
  | false=>
   unfold D2 at n;cases e:iQ (⟨⟨d,a,f⟩,c⟩:wS) with
   | false=>unfold iQ at e;cases h:wB (⟨⟨d,a,f⟩,c⟩:wS)<;>simp[ak, *,gZ,z.r,mj,eZ]
   | true=>unfold iQ at e;simp[ak, *,gZ,z.r,mj,eZ]
  | true=>
   unfold D2 at n;by_cases E:(l.length:Int)=k
   ·cases e:iQ (⟨⟨d,a,f⟩,c⟩:wS) with| false=>unfold iQ at e;cases h:wB (⟨⟨d,a,f⟩,c⟩:wS)<;>simp[ak, *,gZ,z.r,mj,eZ]| true=>unfold iQ at e;simp[ak, *,gZ,z.r,mj,eZ]
   cases e:iQ (⟨⟨d,a,f⟩,c⟩:wS) with| false=>unfold iQ at e;cases h:wB (⟨⟨d,a,f⟩,c⟩:wS)<;>simp[ak, *,gZ,z.r,mj,eZ]| true=>unfold iQ at e;simp[ak, *,gZ,z.r,mj,eZ]
theorem pN:aK env 116 [.agg [a8 m,a8 u,cH q,a8 p,aI o,a8 t,cH w,a8 s,aI y,aI k,a8 d,cH a,a8 f,aI c,a8 i,cH j,x]]=some (aI (bad (my (⟨m,⟨u,q,p⟩,o,⟨⟨⟨t,w,s⟩,y⟩,k⟩,⟨⟨d,a,f⟩,c⟩,⟨i,j⟩,l⟩:bp)))):=by
 refine bo rfl (by kernel_rfl) (Ir _ _ _ λg=>?_);have I:=Qg m u q p o t w s y k d a f c i j z A;have M:=Qi m u q p o t w s y k d a f c i j z A;have L:=Ts m u q p o t w s y k d a f c i j z A;have G:=Tt;unfold my Ap;by_cases C:m=0;·subst C;simp[ak, *,iZ,z.r]
 by_cases b:4<=m
 ·have n1 : ¬m=1:=by rintro rfl;exact absurd b (by decide)
  have n2 : ¬m=2:=by rintro rfl;exact absurd b (by decide)
  have H : ¬m=3:=by rintro rfl;exact absurd b (by decide)
  simp[ak, *,iZ,z.r]
 cases c1:jt ⟨u,q,p⟩ with| false=>simp[ak, *,iZ,z.r]| true=>
 rcases Dg o 1 with v | D
 ·have D : ¬1<=o:=by omega
  simp[ak, *,iZ,z.r]
 have v : ¬o<1:=by omega
 rcases Dg o 16777216 with F | n
 rotate_left
 ·have F : ¬o<16777216:=by omega
  simp[ak, *,iZ,z.r]
 have n : ¬16777216<=o:=by omega
 cases J:mg ⟨⟨⟨t,w,s⟩,y⟩,k⟩ with| false=>simp[ak, *,iZ,z.r]| true=>
 have E:m=1\/m=2\/m=3:=by
  have e:m.toNat<4:=by have:=UInt8.not_le.1 b;exact this
  have K:m.toNat≠0:=λh=>C (pr.1 h);rcases(show m.toNat=1\/m.toNat=2\/m.toNat=3 by omega)with h | h | h
  ·exact .inl (pr.1 h)
  ·exact .inr (.inl (pr.1 h))
  exact .inr (.inr (pr.1 h))
 rcases E with rfl | rfl | rfl
 ·cases B:Fx (⟨1,⟨u,q,p⟩,o,⟨⟨⟨t,w,s⟩,y⟩,k⟩,⟨⟨d,a,f⟩,c⟩,⟨i,j⟩,l⟩:bp)<;>simp[ak, *,iZ,z.r,Hg,By,El]
 ·cases B:LQ (⟨2,⟨u,q,p⟩,o,⟨⟨⟨t,w,s⟩,y⟩,k⟩,⟨⟨d,a,f⟩,c⟩,⟨i,j⟩,l⟩:bp)<;>simp[ak, *,iZ,z.r,Hg,By,El]
 cases B:Hc (⟨3,⟨u,q,p⟩,o,⟨⟨⟨t,w,s⟩,y⟩,k⟩,⟨⟨d,a,f⟩,c⟩,⟨i,j⟩,l⟩:bp)<;>simp[ak, *,iZ,z.r,Hg,By,El]
end
def Ez(t:Int):List Int->Nat->Int
 | [],_ => -1
 | a :: l,k=>if t=a then k else Ez t l (k+1)
def RK(t:Int)(l:List Int) : ∀k:Nat,(0<=Ez t l k↔t∈l):=by
 induction l with| nil=>intro k;simp[Ez]| cons a l b=>
  intro k;unfold Ez;by_cases h:t=a;·simp[h]
  rw[if_neg h,b];simp[h]
def Jp{h:AV}{Q:AV->ab->Prop}{l:List Int}(c:Sl 1 (rows l) h)(d:l.length<4611686018427387904){t:Int}{H:ab} :
 ∀(s:List Int)(k:Nat)(i:Int),l.drop k=s->k<=l.length->i=k->(∀y,y=aI (Ez t s k)->Q y H) ->
 bL env Tryz.f132 0 dZ [(8,aI i),(0,h),(1,aR t),(7,aI l.length)] H Q:=by
 intro s;induction s with
 | nil=>rintro k i hs hk rfl hQ;obtain rfl:=drop_nil hs hk;refine jJ _ _ _ _ _ _ λg=>?_;simp[ak, *,ei];all_goals exact hQ _ rfl
 | cons a s m=>
  rintro k i hs hk rfl hQ;obtain⟨n,u,b,p⟩:=drop_cons hs;refine jJ _ _ _ _ _ _ λg=>?_;have q:=iQa ((k:Int)+1) (by omega);by_cases j:t=a
  ·have e:Ez t (a :: s) k=k:=by unfold Ez;rw[if_pos j]
   simp[ak, *,ei,c.idx,rows,aR];all_goals exact hQ _ (by simp[e])
  have e:Ez t (a :: s) k=Ez t s (k+1):=(by rw[Ez,if_neg j]);have f:=m (k+1) ((k:Int)+1) b (by omega) (by simp) (λy o=>hQ y (by rw[o,e]));clear m hQ e;simp[ak, *,ei,c.idx,rows,aR];exact f
section
variable{x:AV}{l:List Int}(c:Sl 1 (rows l) x)(d:l.length<4611686018427387904)
include c d
theorem QB(t:Int):aK env 132 [x,aR t]=some (aI (Ez t l 0)):=by
 refine bo rfl (by kernel_rfl) (pH _ _ _ _ λg=>?_);have h:=c.len;simp[ak, *,kK];exact Jp c d l 0 _ rfl (by omega) rfl (λy e=>by simp[e])
theorem IJ(t:Int):aK env 105 [x,aR t]=some (aB (decide (t∈l))):=by
 refine bo rfl (by kernel_rfl) (oQ _ _ _ _ λg=>?_);have h:=QB c d t;have a:=c.r;have e:=RK t l 0;simp[ak, *,jv]
end
def N9(q:UInt8)(o:UInt8)(s:UInt32)(p:UInt8)(m:Int)(n:UInt8)(u:UInt32)(t:UInt8)(v:Int)(e:Int)(b:UInt8)(f:UInt32)(k:UInt8)(a:Int)(i:UInt8)(j:UInt32){x:AV}{l:List Int}(c:Sl 1 (rows l) x)(d:l.length<4611686018427387904):aK env 69 [.agg [a8 q,a8 o,cH s,a8 p,aI m,a8 n,cH u,a8 t,aI v,aI e,a8 b,cH f,a8 k,aI a,a8 i,cH j,x]]=some (aB (!decide (-1∈l))):=by
 refine bo rfl (by kernel_rfl) (Iq _ _ _ λg=>?_);have h:=IJ c d (-1);have w:=c.r;unfold aR at h;simp[ak, *,CA]
def qx(a b:bp):Bool:=decide (a.kind=b.kind)&&((decide (a.h.lv=b.h.lv)&&decide (a.h.cats=b.h.cats)&&decide (a.h.num=b.h.num))&&(decide (a.serial=b.serial) &&
 ((decide (a.s.f.h.lv=b.s.f.h.lv)&&decide (a.s.f.h.cats=b.s.f.h.cats)&&decide (a.s.f.h.num=b.s.f.h.num)&&decide (a.s.f.n=b.s.f.n)&&decide (a.s.many=b.s.many)) &&
 ((decide (a.a.h.lv=b.a.h.lv)&&decide (a.a.h.cats=b.a.h.cats)&&decide (a.a.h.num=b.a.h.num)&&decide (a.a.n=b.a.n))&&((decide (a.to.lv=b.to.lv)&&decide (a.to.cats=b.to.cats))&&decide (a.l=b.l))))))
def Qs(H:UInt8)(F:UInt8)(w:UInt32)(G:UInt8)(M:Int)(C:UInt8)(K:UInt32)(J:UInt8)(N:Int)(e:Int)(o:UInt8)(p:UInt32)(h:UInt8)(k:Int)(f:UInt8)(t:UInt32)(v:UInt8)(D:UInt8)(L:UInt32)(I:UInt8)(B:Int)(u:UInt8)(z:UInt32)(A:UInt8)(E:Int)(q:Int)(j:UInt8)(n:UInt32)(s:UInt8)(i:Int)(a:UInt8)(b:UInt32){x y:AV}{l m:List Int}(c:Sl 1 (rows l) x)(O:Sl 1 (rows m) y)(d:l.length<1000000000):aK env 45 [.agg [a8 H,a8 F,cH w,a8 G,aI M,a8 C,cH K,a8 J,aI N,aI e,a8 o,cH p,a8 h,aI k,a8 f,cH t,x],.agg [a8 v,a8 D,cH L,a8 I,aI B,a8 u,cH z,a8 A,aI E,aI q,a8 j,cH n,a8 s,aI i,a8 a,cH b,y]]=some (aB (qx (⟨H,⟨F,w,G⟩,M,⟨⟨⟨C,K,J⟩,N⟩,e⟩,⟨⟨o,p,h⟩,k⟩,⟨f,t⟩,l⟩:bp) (⟨v,⟨D,L,I⟩,B,⟨⟨⟨u,z,A⟩,E⟩,q⟩,⟨⟨j,n,s⟩,i⟩,⟨a,b⟩,m⟩:bp))):=by
 refine bo rfl (by kernel_rfl) (KC _ _ _ _ λg=>?_);have R:=N2 c O (by omega);have Q:=c.r;have P:=O.r;unfold qx;cases c1:decide (H=v) with
 | false=>simp[ak, *,m6,mj,eZ]
 | true=>
 cases S:(decide (F=D)&&decide (w=L)&&decide (G=I)) with| false=>simp[ak, *,m6,mj,eZ]| true=>
 cases V:decide (M=B) with| false=>simp[ak, *,m6,mj,eZ]| true=>
 cases U:(decide (C=u)&&decide (K=z)&&decide (J=A)&&decide (N=E)&&decide (e=q)) with| false=>simp[ak, *,m6,mj,eZ]| true=>
 cases W:(decide (o=j)&&decide (p=n)&&decide (h=s)&&decide (k=i)) with| false=>simp[ak, *,m6,mj,eZ]| true=>
 cases T:(decide (f=a)&&decide (t=b)) with| false=>simp[ak, *,m6,mj,eZ]| true=>simp[ak, *,m6,mj,eZ]
end
section
attribute [local simp] a7 aL au aJ aH bF kV bc aA aN cw cu aY ba ah bG fG
def bsO(z:Nat)(zz:AV)(H:ab)(r:Ref)(n:Nat)(a:List (Nat × AV))(refs:List Ref):bU:=match gR (List.replicate n zz) a with
 | some es=>some (.bO r 0 n (some n),(r,some ⟨z,es,true,false⟩) :: bQ H refs)
 | none=>none
def Pe{P:Program}{a:Bool}{t:TypeId}(o:qF P t=true)(H:ab)(d j g:Nat)(n:Nat)(ps:List (Nat × AV))(c:n * lO P t<=16777216)(u:(eU H.get ps).isSome=true)
 (m:((eU H.get ps).getD []).all (λp=>p.2.cells.length == lO P t&&p.2.cells.all AV.one)=true) (b:(gR (List.replicate n (j6 P t)) ((eU H.get ps).getD [])).isSome=true) (h:lW H.get (bW H.get (ps.map (·.2)))=false) :
 mn P a true H ⟨d,j,g,0⟩ t n (some ps)=bsO (lO P t) (j6 P t) H ⟨d,j,g,0⟩ n ((eU H.get ps).getD []) (bW H.get (ps.map (·.2))):=by
 obtain⟨ws,hw⟩:=fP.1 u;rw[hw,dP]at m b ⊢;obtain⟨es,b⟩:=fP.1 b;unfold qF at o;obtain⟨e,zz,l,x,y,k,v,q,s,z⟩:=fx o;have i:j6 P t=zz:=by unfold j6;rw[l,cR,k];rfl
 rw[i]at b ⊢;have f:mkSlice P H.get t n ps=some ⟨lO P t,es,true,false⟩:=by
  simp only[mkSlice,l,hw,k,x];rw[if_pos ⟨wb s,c,v,q,by simpa using m⟩,b];rfl
 have w:gw P a H.get ⟨d,j,g,0⟩ t n (some ps)=none:=by
  simp only[gw,h,hU,iQf]
 unfold mn bsO;rw[w,b];simp only[kj,CT,iQn,iT,f,Option.map_some]
attribute [local simp] Pe bsO eU
def ml(o:bp):List UInt8:=[o.kind]++(dq o.h++(be 3 o.serial++(cY o.s.f++[u8 o.s.many])))
def Sn(n:Int):be 3 n=[u8 (n / 65536),u8 (n / 256),u8 n]:=by simp[C0]
def D4(c:UInt8)(h:NI)(a:Int)(f:wS)(b:Int):aK env 49 [.cC 1 [.cC 1 [a8 c] (some 1),.cC 1 (aQ (dq h)) none,.cC 1 [a8 (u8 (a / 65536)),a8 (u8 (a / 256)),a8 (u8 a)] (some 3),.cC 1 (aQ (cY f)) none,.cC 1 [a8 (u8 b)] (some 1)] (some 5)] =
 some (.fsl 1 (aQ ([c]++(dq h++(be 3 a++(cY f++[u8 b]))))) none):=by
 have e:jW [([c],AV.cC 1 [a8 c] (some 1)),(dq h,.cC 1 (aQ (dq h)) none),(be 3 a,.cC 1 [a8 (u8 (a / 65536)),a8 (u8 (a / 256)),a8 (u8 a)] (some 3)),(cY f,.cC 1 (aQ (cY f)) none),([u8 b],.cC 1 [a8 (u8 b)] (some 1))]=[c]++(dq h++(be 3 a++(cY f++[u8 b]))):=by
  simp only[jW,kY,Dm,mz]
 rw[<-e];refine IK (ps:=[([c],AV.cC 1 [a8 c] (some 1)),(dq h,.cC 1 (aQ (dq h)) none),(be 3 a,.cC 1 [a8 (u8 (a / 65536)),a8 (u8 (a / 256)),a8 (u8 a)] (some 3)),(cY f,.cC 1 (aQ (cY f)) none),([u8 b],.cC 1 [a8 (u8 b)] (some 1))]) (.inr ⟨some 5,rfl,by simp⟩) ?_ (by simp) (by rw[e];simp) (by rw[e];simp);intro p hp;simp only[dG,Bc,iQM]at hp;rcases hp with rfl | rfl | rfl | rfl | rfl
 ·exact .inr ⟨some 1,rfl,by simp⟩
 ·exact Sl.mk _ _
 ·exact .inr ⟨some 3,by rw[Sn];rfl,by simp⟩
 ·exact Sl.mk _ _
 exact .inr ⟨some 1,rfl,by simp⟩
def Qv(s:UInt8)(j:UInt8)(m:UInt32)(k:UInt8)(q:Int)(i:UInt8)(o:UInt32)(n:UInt8)(p:Int)(a:Int)(c:UInt8)(d:UInt32)(h:UInt8)(b:Int)(e:UInt8)(f:UInt32){x:AV}{l:List Int}(u:Sl 1 (rows l) x)(w:l.length<2000000)(t:my (⟨s,⟨j,m,k⟩,q,⟨⟨⟨i,o,n⟩,p⟩,a⟩,⟨⟨c,d,h⟩,b⟩,⟨e,f⟩,l⟩:bp)=true)(y:s=2):aK env 90 [.agg [a8 s,a8 j,cH m,a8 k,aI q,a8 i,cH o,a8 n,aI p,aI a,a8 c,cH d,a8 h,aI b,a8 e,cH f,x]]=some (.tup [.cC 1 (aQ (ml (⟨s,⟨j,m,k⟩,q,⟨⟨⟨i,o,n⟩,p⟩,a⟩,⟨⟨c,d,h⟩,b⟩,⟨e,f⟩,l⟩:bp))) none,aI 0]):=by
 refine bo rfl (by kernel_rfl) (xR _ _ _ λg=>?_);have v:=pN s j m k q i o n p a c d h b e f u w;rw[t]at v;have B:jt ⟨j,m,k⟩=true:=by simp only[my,bD]at t;exact t.1
 have A:wB ⟨⟨i,o,n⟩,p⟩=true:=by
  simp only[my,bD]at t;have:=t.2.2.2.1;simp only[mg,bD]at this;exact this.1
 clear t;subst y;have z:=D4 2 ⟨j,m,k⟩ q ⟨⟨i,o,n⟩,p⟩ a;unfold ml;simp[ak, *,rL,u.r,bad,gM,fv]
def Qu(t:UInt8)(f:UInt8)(i:UInt32)(h:UInt8)(n:Int)(d:UInt8)(k:UInt32)(j:UInt8)(m:Int)(c:Int)(p:UInt8)(q:UInt32)(s:UInt8)(o:Int)(b:UInt8)(a:UInt32){x:AV}{l:List Int}(z:Sl 1 (rows l) x)(D:l.length<2000000)(u:my (⟨t,⟨f,i,h⟩,n,⟨⟨⟨d,k,j⟩,m⟩,c⟩,⟨⟨p,q,s⟩,o⟩,⟨b,a⟩,l⟩:bp)=true)(F:t=3):aK env 90 [.agg [a8 t,a8 f,cH i,a8 h,aI n,a8 d,cH k,a8 j,aI m,aI c,a8 p,cH q,a8 s,aI o,a8 b,cH a,x]]=some (.tup [.cC 1 (aQ (ml (⟨t,⟨f,i,h⟩,n,⟨⟨⟨d,k,j⟩,m⟩,c⟩,⟨⟨p,q,s⟩,o⟩,⟨b,a⟩,l⟩:bp)++(b :: be 4 a.toNat))) none,aI 0]):=by
 refine bo rfl (by kernel_rfl) (xR _ _ _ λg=>?_);have B:=pN t f i h n d k j m c p q s o b a z D;rw[u]at B;subst F;have I:jt ⟨f,i,h⟩=true:=by simp only[my,bD]at u;exact u.1
 have H:wB ⟨⟨d,k,j⟩,m⟩=true:=by
  simp only[my,bD]at u;have:=u.2.2.2.1;simp only[mg,bD]at this;exact this.1
 have A:jt ⟨b,a,0⟩=true:=by
  simp only[my,bD]at u;have:=u.2.2.2.2;simp only[Ap,Hc]at this;simp at this;simp[jt,this]
 clear u;have G:=D4 3 ⟨f,i,h⟩ n ⟨⟨d,k,j⟩,m⟩ c;unfold ml;have y:dq ⟨b,a,0⟩=b :: (be 4 a.toNat++[0]):=rfl;have v:(aQ ([(3:UInt8)]++(dq ⟨f,i,h⟩++(be 3 n++(cY ⟨⟨d,k,j⟩,m⟩++[u8 c]))))).length=24:=by simp
 have w:=IH b a 0;rw[if_pos A,y,wP]at w;rw[wP];rw[show aQ (([(3:UInt8)]++(dq ⟨f,i,h⟩++(be 3 n++(cY ⟨⟨d,k,j⟩,m⟩++[u8 c]))))++[b,u8 (↑a.toNat / 16777216),u8 (↑a.toNat / 65536),u8 (↑a.toNat / 256),u8 ↑a.toNat])=aQ ([(3:UInt8)]++(dq ⟨f,i,h⟩++(be 3 n++(cY ⟨⟨d,k,j⟩,m⟩++[u8 c]))))++[a8 b,a8 (u8 (↑a.toNat / 16777216)),a8 (u8 (↑a.toNat / 65536)),a8 (u8 (↑a.toNat / 256)),a8 (u8 ↑a.toNat)] from xg ..];have E:aQ ([(3:UInt8)]++(dq ⟨f,i,h⟩++(be 3 n++(cY ⟨⟨d,k,j⟩,m⟩++[u8 c]))))≠[]:=by intro e;rw[e]at v;cases v
 generalize aQ ([(3:UInt8)]++(dq ⟨f,i,h⟩++(be 3 n++(cY ⟨⟨d,k,j⟩,m⟩++[u8 c]))))=C at *;clear A y;simp[ak, *,rL,z.r,bad,gM,fv];rfl
def ME(C A R:List UInt8)(a:Option Nat)(b:A.length<=a.getD A.length)(d:0<C.length)(c:C.length+A.length+R.length<1000000):aK env 49 [.cC 1 [.cC 1 (aQ C) none,.cC 1 (aQ A) a,.cC 1 (aQ R) none] (some 3)]=some (.fsl 1 (aQ (C++(A++R))) none):=by
 have e:jW [(C,AV.cC 1 (aQ C) none),(A,.cC 1 (aQ A) a),(R,.cC 1 (aQ R) none)]=C++(A++R):=by
  simp only[jW,kY,Dm,mz]
 rw[<-e];refine IK (ps:=[(C,AV.cC 1 (aQ C) none),(A,.cC 1 (aQ A) a),(R,.cC 1 (aQ R) none)]) (.inr ⟨some 3,rfl,by simp⟩) ?_ (by simp) (by rw[e];simp;omega) (by rw[e];simp;omega);intro p hp;simp only[dG,Bc,iQM]at hp;rcases hp with rfl | rfl | rfl
 ·exact Sl.mk _ _
 ·exact .inr ⟨a,rfl,by simpa using b⟩
 exact Sl.mk _ _
def Qt(n:UInt8)(k:UInt8)(o:UInt32)(m:UInt8)(i:Int)(j:UInt8)(q:UInt32)(p:UInt8)(s:Int)(c:Int)(b:UInt8)(d:UInt32)(h:UInt8)(a:Int)(e:UInt8)(f:UInt32){x:AV}{l:List Int}(u:Sl 1 (rows l) x)(w:l.length<2000000)(t:my (⟨n,⟨k,o,m⟩,i,⟨⟨⟨j,q,p⟩,s⟩,c⟩,⟨⟨b,d,h⟩,a⟩,⟨e,f⟩,l⟩:bp)=false):aK env 90 [.agg [a8 n,a8 k,cH o,a8 m,aI i,a8 j,cH q,a8 p,aI s,aI c,a8 b,cH d,a8 h,aI a,a8 e,cH f,x]]=some (.tup [a9,aI 8]):=by
 refine bo rfl (by kernel_rfl) (xR _ _ _ λg=>?_);have v:=pN n k o m i j q p s c b d h a e f u w;rw[t]at v;clear t;simp[ak, *,rL,u.r,bad]
@[simp] def ac3(r:Ref):wu env.P r 27 (some (.v (.int .i64 13))) (some (.v (.int .i64 13)))=some (.bO r 0 13 none,[⟨1,[a8 0,a8 0,a8 0,a8 0,a8 0,a8 0,a8 0,a8 0,a8 0,a8 0,a8 0,a8 0,a8 0],true,false⟩]):=by kernel_rfl
def OH{o:bp}(h:my o=true):mg o.s=true:=by
 simp only[my,bD]at h;exact h.2.2.2.1
def KX{l:List Int}(h:D9 l=true):uq l=0/\l.length<=64 /\∀n∈l, -2147483648<=n/\n<=2147483647:=by
 simp only[D9,bD,iQb]at h;refine⟨by unfold uq;rw[if_neg (by omega),if_pos h.2],h.1,λn a=>?_⟩;have:=eC.1 h.2 n a;simp only[fK,lI,bD,iQb]at this;omega
def mY(a:wS):List UInt8:=if iQ a then List.replicate 13 0 else cY a
def Qw(u:UInt8)(i:UInt8)(k:UInt32)(j:UInt8)(p:Int)(h:UInt8)(n:UInt32)(m:UInt8)(o:Int)(f:Int)(b:UInt8)(c:UInt32)(d:UInt8)(a:Int)(s:UInt8)(t:UInt32){x:AV}{l:List Int}(B:Sl 1 (rows l) x)(M:l.length<2000000)(y:my (⟨u,⟨i,k,j⟩,p,⟨⟨⟨h,n,m⟩,o⟩,f⟩,⟨⟨b,c,d⟩,a⟩,⟨s,t⟩,l⟩:bp)=true)(N:u=1):aK env 90 [.agg [a8 u,a8 i,cH k,a8 j,aI p,a8 h,cH n,a8 m,aI o,aI f,a8 b,cH c,a8 d,aI a,a8 s,cH t,x]]=some (.tup [.cC 1 (aQ (ml (⟨u,⟨i,k,j⟩,p,⟨⟨⟨h,n,m⟩,o⟩,f⟩,⟨⟨b,c,d⟩,a⟩,⟨s,t⟩,l⟩:bp)++(mY ⟨⟨b,c,d⟩,a⟩++aU l))) none,aI 0]):=by
 refine bo rfl (by kernel_rfl) (xR _ _ _ λg=>?_);have L:=pN u i k j p h n m o f b c d a s t B M;rw[y]at L;subst N;have U:jt ⟨i,k,j⟩=true:=by simp only[my,bD]at y;exact y.1
 have A:=OH y;have T:wB ⟨⟨h,n,m⟩,o⟩=true:=by
  have:=A;simp only[mg,bD]at this;exact this.1
 obtain⟨E,hlen,v⟩:(iQ ⟨⟨b,c,d⟩,a⟩||wB ⟨⟨b,c,d⟩,a⟩)=true/\(l.length:Int)=f/\D9 l=true:=by
  simp only[my,bD]at y;have:=y.2.2.2.2;simp[Ap,Fx]at this;refine⟨by simpa using this.2.1,this.2.2.2.1,this.2.2.2.2⟩
 obtain⟨G,O,F⟩:=KX v;have H:=Mz A;simp only at H;have w:=Tv B (by omega) F;rw[if_pos G]at w;have J:=ly l;have D:aQ (aU l)≠[]:=by
  intro e;have:=iQh List.length e;have S:(aQ (aU l)).length=(aU l).length:=by simp
  simp only[oq]at this;omega
 rw[qf 1 D]at w;clear y v G F H;have Q:=D4 1 ⟨i,k,j⟩ p ⟨⟨h,n,m⟩,o⟩ f;unfold ml;have P:([(1:UInt8)]++(dq ⟨i,k,j⟩++(be 3 p++(cY ⟨⟨h,n,m⟩,o⟩++[u8 f])))).length=24:=by simp
 generalize ([(1:UInt8)]++(dq ⟨i,k,j⟩++(be 3 p++(cY ⟨⟨h,n,m⟩,o⟩++[u8 f]))))=C at *;generalize aU l=R at *;cases q:iQ ⟨⟨b,c,d⟩,a⟩ with
 | true=>
  have I:=ME C (List.replicate 13 0) R none (by simp) (by omega) (by simp;omega);rw[show mY ⟨⟨b,c,d⟩,a⟩=List.replicate 13 0 by unfold mY;rw[if_pos q]];obtain⟨⟨⟨rfl,rfl⟩,rfl⟩,rfl⟩:((b=0/\c=0)/\d=0)/\a=0:=by simpa [iQ] using q
  have z:aQ (List.replicate 13 0)=[a8 0,a8 0,a8 0,a8 0,a8 0,a8 0,a8 0,a8 0,a8 0,a8 0,a8 0,a8 0,a8 0]:=rfl;rw[z]at I;generalize aQ (C++(List.replicate 13 0++R))=W at *;clear q E hlen;simp[ak, *,rL,B.r,bad,gM,fv,mj,eZ]
 | false=>rw[q,nk]at E;have I:=ME C (cY ⟨⟨b,c,d⟩,a⟩) R none (by simp) (by omega) (by simp;omega);rw[show mY ⟨⟨b,c,d⟩,a⟩=cY ⟨⟨b,c,d⟩,a⟩ by unfold mY;rw[if_neg (by rw[q];decide)]];generalize aQ (C++(cY ⟨⟨b,c,d⟩,a⟩++R))=W at *;have K:(decide (b=0)&&decide (c=0)&&decide (d=0)&&decide (a=0))=false:=q;clear q hlen;simp[ak, *,rL,B.r,bad,gM,fv,mj,eZ]
end
section
attribute [local simp] a7 aL au aJ aH bF kV bc aA aN cw cu aY ba ah bG fG
def Od(c:Option Nat)(b1 b2 b3 b4 a:UInt8):aK env 130 [.cC 1 [a8 b1,a8 b2,a8 b3,a8 b4,a8 a] c]=some (.fsl 1 [a8 b1,a8 b2,a8 b3,a8 b4,a8 a] none):=by
 refine bo rfl (by kernel_rfl) (DN _ _ _ λg=>?_);simp[ak, *,xP]
def QD{x y:AV}{l m:List UInt8}(d:Sl 1 (aQ l) x)(f:Sl 1 (aQ m) y):aK env 57 [x,y]=some (aB (decide (l=m))):=by
 refine bo rfl (by kernel_rfl) (DM _ _ _ _ λg=>?_);have e : ∀l:List UInt8,aQ l=[]->l=[]:=λl h=>by simpa [aQ] using h
 rcases d with ⟨rfl,a⟩ | ⟨c,rfl,a⟩<;>rcases f with ⟨rfl,b⟩ | ⟨i,rfl,b⟩
 ·obtain rfl:=e l a;obtain rfl:=e m b;simp[ak, *,m8]
 ·obtain rfl:=e l a;simp[ak, *,m8];try exact⟨λh=>h.symm,λh=>h.symm⟩
 ·obtain rfl:=e m b;simp[ak, *,m8]
 simp[ak, *,m8]
def bY{f:FuncId}(a:(env.mode f == 2)=true)(dep:Nat)(H:ab)(r:Ref)(first args captured:List AV) :
 c9 env true (aK env) (cU env dep) H r (some (.fn (.func f) first captured)) args=cU env dep (.fn f) (first++args++captured) H:=by
 have h:env.mode f=2:=by simpa using a
 simp[c9,jR,l8,kj,CT,h]
def iY(l:List UInt8):NI:=⟨l.getD 0 0,u32 (val ((l.drop 1).take 4)),l.getD 5 0⟩
def ic(l:List UInt8):wS:=⟨iY l,val (l.drop 6)⟩
def KM{l:List UInt8}(h:l.length=6) : ∃a b c d e f,l=[a,b,c,d,e,f]:=by
 match l,h with
 | [a,b,c,d,e,f],_=>exact⟨a,b,c,d,e,f,rfl⟩
def xi{l:List UInt8}(h:l.length=13) : ∃a b c d e f g i j k m n o,l=[a,b,c,d,e,f,g,i,j,k,m,n,o]:=by
 match l,h with
 | [a,b,c,d,e,f,g,i,j,k,m,n,o],_=>exact⟨a,b,c,d,e,f,g,i,j,k,m,n,o,rfl⟩
def rV{z:Nat}{es:List AV}{x:AV}(h:Sl z es x)(a:0<es.length) : ∃c,x = .cC z es c/\es.length<=c.getD es.length:=by
 rcases h with ⟨rfl,rfl⟩ | ⟨c,rfl,h⟩
 ·simp at a
 exact⟨c,rfl,h⟩
def Jy{v:AV}{l:List UInt8}(g:Sl 1 (aQ l) v)(i:l.length=6):aK env 100 [v] =
 some (if jt (iY l) then .tup [.agg [a8 (iY l).lv,cH (iY l).cats,a8 (iY l).num],aI 0] else .tup [.agg [a8 0,cH 0,a8 0],aI 8]):=by
 obtain⟨a,b,c,d,e,f,rfl⟩:=KM i;obtain⟨j,rfl,h⟩:=rV g (by simp[aQ]);exact II (by simpa [aQ] using h)
def Xs{v:AV}{l:List UInt8}(p:Sl 1 (aQ l) v)(s:l.length=13):aK env 143 [v] =
 some (if wB (ic l) then .tup [.agg [a8 (ic l).h.lv,cH (ic l).h.cats,a8 (ic l).h.num,aI (ic l).n],aI 0] else .tup [.agg [a8 0,cH 0,a8 0,aI 0],aI 8]):=by
 obtain⟨a,b,c,d,e,f,g,i,j,k,m,n,o,rfl⟩:=xi s;obtain⟨t,rfl,q⟩:=rV p (by simp[aQ]);exact Wr (by simpa [aQ] using q)
def yD(l:List UInt8)(a:Nat)(b:Bool)(n:Nat):Bool:=b||decide (l.length<a+n)
def Cc(l:List UInt8)(a:Nat)(b:Bool)(n:Nat):Nat:=if yD l a b n then a else a+n
def tG(l:List UInt8)(a:Nat)(b:Bool)(n:Nat):List UInt8:=if yD l a b n then List.replicate n 0 else (l.drop a).take n
def Bq{l:List UInt8}{a:Nat}(b:Bool)(n:Nat)(h:a<=l.length):Cc l a b n<=l.length:=by
 unfold Cc yD;split;·exact h
 rename_i c;simp at c;omega
def vl{l:List UInt8}{a:Nat}(b:Bool)(n:Nat):(tG l a b n).length=n:=by
 unfold tG;split;·simp
 rename_i c;simp[yD]at c;simp;omega
def sK(x:AV)(a:Nat)(b:Bool):aP:=⟨3,[.agg [x,aI a,aB b]],false,false⟩
structure Tk (H H':ab) (r:Ref) (x:AV) (l bs:List UInt8) (a:Nat) (b:Bool) (y v:AV):Prop where
 seen:lS 1 (aQ bs) H' y v
 fr:Fr H'
 box:H'.get r=some (sK x a b)
 old : ∀q c,q≠r->H.get q=some c->H'.get q=some c
 spot : ∀q,y.at?=some q->q.t=31
def PZ(d:Nat){H:ab}{r:Ref}{x:AV}{l:List UInt8}{a n:Nat}{c:aP}(g:Fr H)(h:H.get r=some c) :
 ∃v,Tk H ((⟨d,31,H.gen d 31,0⟩,some ⟨1,List.replicate n (a8 0),true,false⟩) :: H.put r (some ⟨3,[.agg [x,aI a,aB true]],false,false⟩)) r x l (List.replicate n 0) a true (.bO ⟨d,31,H.gen d 31,0⟩ 0 n none) v:=by
 have j:(H.get r).isSome=true:=by rw[h];rfl
 have b:aQ (List.replicate n 0)=List.replicate n (a8 0):=by simp[aQ]
 refine⟨.cC 1 (aQ (List.replicate n 0)) none,?_,by simp(maxDischargeDepth:=12) [rE, *],?_,?_,?_⟩
 ·refine .inr ⟨⟨d,31,H.gen d 31,0⟩,none,false,?_,?_,rfl,?_⟩;·rw[b];simp
  ·rw[b];simp
  simp
 ·rw[ab.aZ,if_neg (b8 g j _ _ _),ab.get_put,if_pos rfl];rfl
 ·intro q k i f;rw[ab.aZ,if_neg (b8 g (by rw[f];rfl) _ _ _),ab.get_put,if_neg (λe=>i e)];exact f
 intro q e;cases e;rfl
def Wi{H:ab}{r:Ref}{x y:AV}{l bs:List UInt8}{a:Nat}{c:aP}{b1 b2:Option aP}(n:Fr H)(i:H.get r=some c)(g:Sl 1 (aQ bs) y)(d : ∃f,b1=some f)(b:b2=some ⟨3,[.agg [x,aI a,aB false]],false,false⟩) :
 ∃v,Tk H ((H.put r b1).put r b2) r x l bs a false y v:=by
 have k:(H.get r).isSome=true:=by rw[i];rfl
 subst b;refine⟨y,lS.of g _,?_,?_,?_,?_⟩;·obtain⟨f,rfl⟩:=d;simp(maxDischargeDepth:=12) [rE, *]
 ·rw[ab.get_put,if_pos rfl];rfl
 ·intro q m h j;rw[ab.get_put,if_neg (λe=>h e),ab.get_put,if_neg (λe=>h e)];exact j
 intro q e;rcases g with ⟨rfl,_⟩ | ⟨c,rfl,_⟩<;>cases e
def Th(dep:Nat){H:ab}{r:Ref}{x:AV}{l:List UInt8}{a:Nat}{b:Bool}(n:Nat)(j:Fr H)(o:Sl 1 (aQ l) x)(f:H.get r=some (sK x a b))(J:a<=l.length)(K:l.length<1000000000)(I:n<1000000) :
 ∃y H',cU env dep (.fn 127) [.ptr r 0 0,aI n] H=some (y,H') /\∃v,Tk H H' r x l (tG l a b n) (Cc l a b n) (yD l a b n) y v:=by
 refine cQ (fn:=Tryz.f127) (c:=pq) (by kernel_rfl) (by kernel_rfl) (by kernel_rfl) (by kernel_rfl) (by kernel_rfl) ?_;refine po _ _ _ _ _ λg=>?_;unfold sK at f;have s:=o.len;have F:=iQa ((l.length:Int) - a) (by omega);have L:=λr=>QQ (P:=env.P) (r:=r) (t:=27) (z:=1) (by':=1) (zz:=a8 0) (by kernel_rfl) (by kernel_rfl) (n:=n) (by unfold aY;omega) (by omega);have C:aQ (List.replicate n 0)=List.replicate n (a8 0):=by simp[aQ]
 cases b with| true=>have e:yD l a true n=true:=rfl;have i:Cc l a true n=a:=rfl;have k:tG l a true n=List.replicate n 0:=rfl;simp[ak, *,eB,f];exact PZ _ j f| false=>
  by_cases d:(l.length:Int) - a<n
  ·have e:yD l a false n=true:=by simp only[yD,nk,iQb];omega
   have i:Cc l a false n=a:=by unfold Cc;rw[e];rfl
   have k:tG l a false n=List.replicate n 0:=by unfold tG;rw[e];rfl
   have B:decide ((l.length:Int) - a<n)=true:=iQj d;clear d;simp[ak, *,eB,f];exact PZ _ j f
  have e:yD l a false n=false:=by simp only[yD,nk,iQd];omega
  have i:Cc l a false n=a+n:=by unfold Cc;rw[e];rfl
  have k:tG l a false n=(l.drop a).take n:=by unfold tG;rw[e];rfl
  have B:decide ((l.length:Int) - a<n)=false:=iQq d;have E:=iQa ((a:Int)+n) (by omega);have G:=iQa (a:Int) (by omega);have A:=iQa ((a:Int)+n - n) (by omega);have u:(a:Int)+n - n=a:=by omega
  rw[u]at A;have q:a+n<=l.length:=by omega
  have h:=λg=>NX (P:=env.P) (t:=27) (z:=1) (by kernel_rfl) g o (lo:=(a:Int)) (hi:=(a:Int)+n) (by omega) (by omega) (by simp;omega);have p:((a:Int)+n).toNat - (a:Int).toNat=n:=by omega
  rw[p,BW]at h;clear d p u;simp[ak, *,eB,f];obtain⟨y,w,m⟩:=h _;refine EN w ?_;have D:Sl 1 (aQ ((l.drop a).take n)) y:=by simpa [aQ] using m
  rw[i,e,k];exact Wi j f D ⟨_,rfl⟩ rfl
end
section
def Mr{a b:Int}(h:a % 256=b % 256):u8 a=u8 b:=by
 apply pr.1;have c:=DO a;have d:=DO b;omega
def wrap32(n:Int) : ∃j,IntKind.i32.wrap n=n+4294967296 * j /\ -2147483648<=IntKind.i32.wrap n/\IntKind.i32.wrap n<=2147483647:=by
 rw[iQu];exact⟨-((n+2147483648) / 4294967296),by omega,by omega,by omega⟩
def word(a b c d:UInt8):Int:=IntKind.i32.wrap (val [a,b,c,d])
def words:List UInt8->List Int
 | a :: b :: c :: d :: l=>word a b c d :: words l
 | _=>[]
def Nw(n j:Int):be 4 (n+4294967296 * j)=be 4 n:=by
 rw[wP,wP,Mr (a:=(n+4294967296 * j) / 16777216) (b:=n / 16777216) (by omega),Mr (a:=(n+4294967296 * j) / 65536) (b:=n / 65536) (by omega),
  Mr (a:=(n+4294967296 * j) / 256) (b:=n / 256) (by omega),Mr (a:=n+4294967296 * j) (b:=n) (by omega)]
def Nv(a b c d:UInt8):be 4 (word a b c d)=[a,b,c,d]:=by
 obtain⟨j,h,_⟩:=wrap32 (val [a,b,c,d]);unfold word;rw[h,Nw];exact AM rfl
def JA{P:List UInt8->Prop}(g:P [])(e : ∀a b c d l,P l->P (a :: b :: c :: d :: l)) : ∀(n:Nat)(l:List UInt8),l.length=4 * n->P l:=by
 intro n;induction n with
 | zero=>intro l h;obtain rfl:l=[]:=wc.1 (by omega);exact g
 | succ n f=>
  intro l h;match l,h with
  | a :: b :: c :: d :: l,h=>exact e a b c d l (f l (by simp only[lZ]at h;omega))
def rp(n:Nat)(l:List UInt8)(h:l.length=4 * n):aU (words l)=l/\(words l).length=n:=by
 constructor
 ·exact JA (P:=λl=>aU (words l)=l) rfl (λa b c d l e=>by
   show be 4 (word a b c d)++aU (words l)=_;rw[e,Nv];rfl) n l h
 have:=ly (words l);rw[JA (P:=λl=>aU (words l)=l) rfl (λa b c d l e=>by
  show be 4 (word a b c d)++aU (words l)=_;rw[e,Nv];rfl) n l h]at this
 omega
def SW{n:Int}(f : -2147483648<=n)(c:n<=2147483647):word (u8 (n / 16777216)) (u8 (n / 65536)) (u8 (n / 256)) (u8 n)=n:=by
 obtain⟨j,h,d,b⟩:=wrap32 (val [u8 (n / 16777216),u8 (n / 65536),u8 (n / 256),u8 n]);unfold word;rw[<-wP]at *;have e:val (be 4 n)=n\/val (be 4 n)=n+4294967296:=by
  rcases Dg n 0 with a | a
  ·right;have:=Nw n 1;rw[<-this];exact Bp (by omega) (by omega)
  exact .inl (Bp a (by omega))
 omega
def GS(l:List Int)(h : ∀n∈l, -2147483648<=n/\n<=2147483647):words (aU l)=l:=by
 induction l with| nil=>rfl| cons n l b=>have a:=h n (im ..);show words (be 4 n++aU l)=_;rw[wP];show word _ _ _ _ :: words (aU l)=_;rw[SW a.1 a.2,b λm c=>h m (iR _ c)]
def DP(c:UInt32):u32 (val (be 4 (c.toNat:Int)))=c:=by
 have:=c.toNat_lt;rw[Bp (by omega) (by omega)];simp
def EZ(l:List UInt8)(h:l.length=4):be 4 ((u32 (val l)).toNat:Int)=l:=by
 have a:=ku l;rw[h]at a;have e:((u32 (val l)).toNat:Int)=val l:=by
  rw[rS];omega
 rw[e];exact AM h
def AA(h:NI):iY (dq h)=h:=by
 obtain⟨a,b,c⟩:=h;have:=DP b;rw[wP]at this;simp[iY,dq,wP];simpa using this
def AB{l:List UInt8}(h:l.length=6):dq (iY l)=l:=by
 obtain⟨a,b,c,d,e,f,rfl⟩:=KM h;have:=EZ [b,c,d,e] rfl;simp[iY,dq,this]
def Az{i:wS}(g:0<=i.n)(d:i.n<72057594037927936):ic (cY i)=i:=by
 obtain⟨h,n⟩:=i;have e:iY (dq h++be 7 n)=h:=by
  have:=AA h;obtain⟨a,b,c⟩:=h;simp only[iY,dq,wP]at *;simpa using this
 have f:(dq h++be 7 n).drop 6=be 7 n:=xe (ED h);unfold ic cY;rw[e,f,Bp g (by simpa using d)]
def vJ{l:List UInt8}(h:l.length=13):cY (ic l)=l:=by
 have p:iY l=iY (l.take 6):=by
  obtain⟨a,b,c,d,e,f,g,i,j,k,m,n,o,rfl⟩:=xi h;rfl
 unfold cY ic;rw[p,AB (by simp;omega),AM (by simp;omega),mA]
def EA{l:List UInt8}(h:l.length=13):iQ (ic l)=decide (l=List.replicate 13 0):=by
 rw[Bool.eq_iff_iff,tL,iQb];constructor;·intro e;rw[<-vJ h,e];rfl
 rintro rfl;rfl
def ck(o:bp):List UInt8:=ml o++(if o.kind=1 then mY o.a++aU o.l else if o.kind=3 then o.to.lv :: be 4 o.to.cats.toNat else [])
def fR(l:List UInt8):bp:=⟨l.headD 0,iY ((l.drop 1).take 6),val ((l.drop 7).take 3),⟨ic ((l.drop 10).take 13),(((l.drop 23).headD 0).toNat:Int)⟩,
 if l.headD 0=1 then ic ((l.drop 24).take 13) else kW,if l.headD 0=3 then ⟨(l.drop 24).headD 0,u32 (val ((l.drop 25).take 4))⟩ else ⟨0,0⟩,
 if l.headD 0=1 then words ((l.drop 37).take (4 * ((l.drop 23).headD 0).toNat)) else []⟩
def iW(k m:UInt8):Nat:=if k=1 then 37+4 * m.toNat else if k=3 then 29 else 24
def jO(l:List UInt8):Nat:=iW (l.headD 0) ((l.drop 23).headD 0)
def nD(l:List UInt8):Bool:=decide (24<=l.length)&&(decide (jO l<=l.length)&&my (fR l))
def Mx{l:List UInt8}(h:24<=l.length) : ∃k d c a m rest,l=k :: (d++(c++(a++(m :: rest))))/\d.length=6/\c.length=3/\a.length=13:=by
 match l,h with
 | k :: l,h=>
  simp only[lZ]at h;refine⟨k,l.take 6,(l.drop 6).take 3,(l.drop 9).take 13,(l.drop 22).headD 0,l.drop 23,?_,by simp;omega,by simp;omega,by simp;omega⟩;have f:l.drop 22=(l.drop 22).headD 0 :: l.drop 23:=by
   match b:l.drop 22 with
   | []=>have:=iQh List.length b;simp at this;omega
   | m :: t=>have:l.drop 23=(l.drop 22).drop 1:=(by rw[lY]);rw[this,b];rfl
  rw[<-f];have g:(l.drop 9).take 13++l.drop 22=l.drop 9:=(by have:l.drop 22=(l.drop 9).drop 13:=(by rw[lY]);rw[this,mA]);have e:(l.drop 6).take 3++l.drop 9=l.drop 6:=(by have:l.drop 9=(l.drop 6).drop 3:=(by rw[lY]);rw[this,mA]);rw[g,e,mA]
def yK(k:UInt8)(c b a:List UInt8)(m:UInt8)(rest:List UInt8):bp:=⟨k,iY c,val b,⟨ic a,(m.toNat:Int)⟩,
 if k=1 then ic (rest.take 13) else kW,if k=3 then ⟨rest.headD 0,u32 (val ((rest.drop 1).take 4))⟩ else ⟨0,0⟩,
 if k=1 then words ((rest.drop 13).take (4 * m.toNat)) else []⟩
def Ed(k:UInt8)(c b a:List UInt8)(m:UInt8)(rest:List UInt8)(n:c.length=6)(o:b.length=3)(e:a.length=13):fR (k :: (c++(b++(a++(m :: rest)))))=yK k c b a m rest/\jO (k :: (c++(b++(a++(m :: rest)))))=iW k m:=by
 have d1:(k :: (c++(b++(a++(m :: rest))))).drop 1=c++(b++(a++(m :: rest))):=rfl;have d7:(k :: (c++(b++(a++(m :: rest))))).drop 7=b++(a++(m :: rest)):=by
  show(c++(b++(a++(m :: rest)))).drop 6=_;exact xe n
 have g:(k :: (c++(b++(a++(m :: rest))))).drop 10=a++(m :: rest):=by
  have:(k :: (c++(b++(a++(m :: rest))))).drop 10=((k :: (c++(b++(a++(m :: rest))))).drop 7).drop 3:=(by rw[lY]);rw[this,d7];exact xe o
 have d:(k :: (c++(b++(a++(m :: rest))))).drop 23=m :: rest:=by
  have:(k :: (c++(b++(a++(m :: rest))))).drop 23=((k :: (c++(b++(a++(m :: rest))))).drop 10).drop 13:=(by rw[lY]);rw[this,g];exact xe e
 have l : ∀j,(k :: (c++(b++(a++(m :: rest))))).drop (24+j)=rest.drop j:=by
  intro j;have:(k :: (c++(b++(a++(m :: rest))))).drop (24+j)=((k :: (c++(b++(a++(m :: rest))))).drop 23).drop (1+j):=by rw[lY];congr 1;omega
  rw[this,d,Nat.add_comm];rfl
 have i:=l 0;have h:=l 1;have f:=l 13;simp only[wW,uW,Nat.reduceAdd]at i h f;constructor;·unfold fR yK;rw[d1,d7,g,d,i,h,f,zI n,zI o,zI e];rfl
 unfold jO;rw[d];rfl
def Sm{a:List UInt8}(h:a.length=3):be 3 (val a)=a:=AM h
def PS(m:UInt8):u8 (m.toNat:Int)=m:=by simp
def uK{l:List UInt8}(h:nD l=true):ck (fR l)=l.take (jO l)/\my (fR l)=true/\jO l<=l.length/\24<=jO l:=by
 simp only[nD,bD,iQb]at h;obtain⟨q,g,u⟩:=h;refine⟨?_,u,g,by unfold jO iW;split<;>first | omega | (split<;>omega)⟩;obtain⟨k,d,c,b,m,rest,rfl,s,v,n⟩:=Mx q;obtain⟨x,z⟩:=Ed k d c b m rest s v n;rw[z]at g ⊢;rw[x]at u ⊢;have o:(k :: (d++(c++(b++(m :: rest))))).length=24+rest.length:=by simp only[lZ,eS];omega
 have B:ml (yK k d c b m rest)=k :: (d++(c++(b++[m]))):=by
  unfold ml yK;simp only[AB s,Sm v,vJ n,PS];rfl
 have i : ∀j,(k :: (d++(c++(b++(m :: rest))))).take (24+j)=(k :: (d++(c++(b++[m]))))++rest.take j:=by
  intro j;have:k :: (d++(c++(b++(m :: rest))))=(k :: (d++(c++(b++[m]))))++rest:=by simp
  rw[this,List.take_append];have e:(k :: (d++(c++(b++[m])))).length=24:=by simp only[lZ,eS,oq];omega
  rw[e,fG (by omega)];congr 2;omega
 unfold ck;rw[B];have C:(yK k d c b m rest).kind=k:=rfl;rw[C];rw[o]at g;by_cases k1:k=1
 ·subst k1;have f:iW 1 m=24+(13+4 * m.toNat):=by unfold iW;rw[if_pos rfl];omega
  rw[f]at g ⊢;rw[i,if_pos rfl];congr 1;have w:(yK 1 d c b m rest).a=ic (rest.take 13):=rfl;have y:(yK 1 d c b m rest).l=words ((rest.drop 13).take (4 * m.toNat)):=rfl;rw[w,y,(rp m.toNat _ (by simp;omega)).1,List.take_add];congr 1;unfold mY;rw[EA (by simp;omega)];split;·rename_i e;simp only[iQb]at e;rw[e]
  exact vJ (by simp;omega)
 rw[if_neg k1];by_cases p:k=3
 ·subst p;have f:iW 3 m=24+5:=by unfold iW;rfl
  rw[f]at g ⊢;rw[i,if_pos rfl];congr 1;match rest,g with
  | t :: rest,g=>simp only[lZ]at g;have A:(yK 3 d c b m (t :: rest)).to=⟨t,u32 (val (rest.take 4))⟩:=rfl;rw[A];simp only[EZ _ (show(rest.take 4).length=4 by simp;omega)];rfl
 have f:iW k m=24+0:=by unfold iW;rw[if_neg k1,if_neg p]
 rw[f,i,if_neg p];simp
def JV(o:bp):(ml o).length=24:=by simp[ml]
def lT{o:bp}(h:my o=true):1<=o.serial/\o.serial<16777216/\(1<=o.s.f.n/\o.s.f.n<=1099511627776)/\1<=o.s.many/\o.s.many<=64 /\
 ((o.kind=1/\o.to=⟨0,0⟩/\(o.a=kW\/(1<=o.a.n/\o.a.n<=1099511627776))/\(o.l.length:Int)=o.s.many/\D9 o.l=true)\/(o.kind=2/\o.to=⟨0,0⟩/\o.a=kW/\o.l=[])\/(o.kind=3/\o.a=kW/\o.l=[]/\o.to.lv<=15)):=by
 simp only[my,bD,iQb]at h;obtain⟨p,i,m,d,hm⟩:=h;have g:=Mz d;have hi:=F9 (P7 d);refine⟨i,m,hi,g.2.1,g.2.2.1,?_⟩;have c : ∀t:Wb,sC t=true->t=⟨0,0⟩:=by
  rintro⟨a,b⟩ h;simp[sC]at h;rw[h.1,h.2]
 unfold Ap at hm;split at hm
 ·rename_i k1;simp only[Fx,bD,lI,iQb]at hm;refine .inl ⟨k1,c _ hm.1,?_,hm.2.2.2.1,hm.2.2.2.2⟩;rcases hm.2.1 with e | e
  ·exact .inl ((tL _).1 e)
  exact .inr (F9 e)
 split at hm;·rename_i k;simp only[LQ,xL,bD,iQb]at hm;exact .inr (.inl ⟨k,c _ hm.1,(tL _).1 hm.2.1,hm.2.2⟩)
 split at hm;·rename_i j;simp only[Hc,xL,bD,iQb]at hm;exact .inr (.inr ⟨j,(tL _).1 hm.1.1,hm.1.2,hm.2⟩)
 cases hm
def zZ(o:bp):Nat:=if o.kind=1 then 37+4 * o.s.many.toNat else if o.kind=3 then 29 else 24
def zx(a:wS):(mY a).length=13:=by unfold mY;split<;>simp
def oA{o:bp}(h:my o=true):(ck o).length=zZ o:=by
 have hp:=lT h;unfold ck zZ;rw[eS,JV];rcases hp.2.2.2.2.2 with ⟨k,_,_,a,_⟩ | ⟨k,_⟩ | ⟨k,_⟩
 ·rw[if_pos k,if_pos k,eS,zx,ly];omega
 ·rw[k];rfl
 rw[k];simp
end
section
attribute [local simp] a7 aL au aJ aH bF kV bc aA aN cw cu aY ba ah bG fG
def zY{o:bp}(h:my o=true):24<=zZ o/\zZ o<=293:=by
 have hp:=lT h;unfold zZ;split;·omega
 split<;>omega
def T6(o:bp):AV:=if my o then .tup [.cC 1 (aQ (ck o)) none,aI 0] else .tup [a9,aI 8]
def TB(k:UInt8)(i:UInt8)(m:UInt32)(j:UInt8)(p:Int)(h:UInt8)(o:UInt32)(n:UInt8)(q:Int)(c:Int)(b:UInt8)(d:UInt32)(g:UInt8)(a:Int)(e:UInt8)(f:UInt32){x:AV}{l:List Int}(u:Sl 1 (rows l) x)(v:l.length<2000000):aK env 90 [.agg [a8 k,a8 i,cH m,a8 j,aI p,a8 h,cH o,a8 n,aI q,aI c,a8 b,cH d,a8 g,aI a,a8 e,cH f,x]]=some (T6 (⟨k,⟨i,m,j⟩,p,⟨⟨⟨h,o,n⟩,q⟩,c⟩,⟨⟨b,d,g⟩,a⟩,⟨e,f⟩,l⟩:bp)):=by
 unfold T6;cases t:my (⟨k,⟨i,m,j⟩,p,⟨⟨⟨h,o,n⟩,q⟩,c⟩,⟨⟨b,d,g⟩,a⟩,⟨e,f⟩,l⟩:bp) with
 | false=>rw[Qt k i m j p h o n q c b d g a e f u v t];rfl
 | true=>
  have hp:=lT t;rw[if_pos rfl];unfold ck;rcases hp.2.2.2.2.2 with ⟨s,_⟩ | ⟨s,_⟩ | ⟨s,_⟩
  ·rw[Qw k i m j p h o n q c b d g a e f u v t s,if_pos s]
  ·simp only at s;rw[Qv k i m j p h o n q c b d g a e f u v t s,if_neg (by simp[s]),if_neg (by simp[s]),mz]
  simp only at s;rw[Qu k i m j p h o n q c b d g a e f u v t s,if_neg (by simp[s]),if_pos s]
end
section
def On{o:bp}(h:my o=true)(b:List UInt8):fR (ck o++b)=o/\jO (ck o++b)=zZ o/\nD (ck o++b)=true:=by
 have hp:=lT h;have j:=oA h;obtain⟨k,g,e,⟨f,m⟩,a,to,l⟩:=o;simp only at hp;obtain⟨C,F,⟨x,A⟩,v,B,D⟩:=hp;have z:((u8 m).toNat:Int)=m:=by rw[DO];omega
 have n:(u8 m).toNat=m.toNat:=by omega
 have d:ck ⟨k,g,e,⟨f,m⟩,a,to,l⟩++b=k :: (dq g++(be 3 e++(cY f++(u8 m :: ((if k=1 then mY a++aU l else if k=3 then to.lv :: be 4 to.cats.toNat else [])++b))))):=by
  simp[ck,ml]
 obtain⟨w,y⟩:=Ed k (dq g) (be 3 e) (cY f) (u8 m) ((if k=1 then mY a++aU l else if k=3 then to.lv :: be 4 to.cats.toNat else [])++b) (by simp) (by simp) (by simp);have s:fR (ck ⟨k,g,e,⟨f,m⟩,a,to,l⟩++b)=⟨k,g,e,⟨f,m⟩,a,to,l⟩:=by
  rw[d,w];unfold yK;rw[AA,Bp (by omega) (by omega),Az (by omega) (by omega),z,n];rcases D with ⟨rfl,rfl,u,H,i⟩ | ⟨rfl,rfl,rfl,rfl⟩ | ⟨rfl,rfl,rfl,_⟩
  ·have q:(aU l).length=4 * m.toNat:=by rw[ly];omega
   simp only[if_true];rw[il,zI (zx a),xe (zx a),zI q,GS _ (KX i).2.2];have:ic (mY a)=a:=by
    unfold mY;rcases u with rfl | u
    ·rfl
    split;·rename_i p;rw[(tL _).1 p];rfl
    exact Az (by omega) (by omega)
   rw[this];rfl
  ·rfl
  obtain⟨t,c⟩:=to;have E:((t :: be 4 (c.toNat:Int))++b).drop 1=be 4 (c.toNat:Int)++b:=rfl;have G:((t :: be 4 (c.toNat:Int))++b).headD 0=t:=rfl;simp only[show ¬(3:UInt8)=1 by decide,iQf,if_true];rw[E,G,zI (EY _ _),DP]
 have p:jO (ck ⟨k,g,e,⟨f,m⟩,a,to,l⟩++b)=zZ ⟨k,g,e,⟨f,m⟩,a,to,l⟩:=by
  rw[d,y];unfold iW zZ;rw[n]
 refine⟨s,p,?_⟩;simp only[nD,bD,iQb];rw[s,p,eS,j];exact⟨by unfold zZ;split<;>first | omega | (split<;>omega),by omega,h⟩
end
section
attribute [local simp] a7 aL au aJ aH bF kV bc aA aN cw cu aY ba ah bG fG
def OR(bs:List UInt8):wS:=if wB (ic bs) then ic bs else kW
def xB(bs:List UInt8)(zero:Bool):Bool := !wB (ic bs) && !(zero&&decide (bs=List.replicate 13 0))
structure Ti (H H':ab) (r:Ref) (x:AV) (bs:List UInt8) (a:Nat) (b:Bool) (y:AV):Prop where
 val:y = .agg [a8 (OR bs).h.lv,cH (OR bs).h.cats,a8 (OR bs).h.num,aI (OR bs).n]
 fr:Fr H'
 box:H'.get r=some (sK x a b)
 old : ∀q c,q≠r->H.get q=some c->H'.get q=some c
def za(dep:Nat){H:ab}{r:Ref}{x:AV}{l:List UInt8}{a:Nat}{b:Bool}(n:Nat){i:Int}{K:AV->ab->Prop}{m:Mk K}(hi:i=n)(d:Sl 1 (aQ l) x)(j:a<=l.length)(o:l.length<1000000000)(g:n<1000000)
 (e:Fr H) (c:H.get r=some (sK x a b)) (h : ∀y v H',Tk H H' r x l (tG l a b n) (Cc l a b n) (yD l a b n) y v->K y H'):jF (cU env dep (.fn 127) [.ptr r 0 0,aI i] H) K m:=by
 subst hi;obtain⟨y,H',f,v,k⟩:=Th dep n e d c j o g;exact jd f (h y v H' k)
def aaF(dep:Nat){H:ab}{r:Ref}{x:AV}{l:List UInt8}{a:Nat}{b:Bool}(zero:Bool)(A:Fr H)(S:Sl 1 (aQ l) x)(K:H.get r=some (sK x a b))(N:a<=l.length)(V:l.length<1000000000) :
 ∃y H',cU env dep (.fn 128) [.ptr r 0 0,aB zero] H=some (y,H')/\Ti H H' r x (tG l a b 13) (Cc l a b 13) (yD l a b 13||xB (tG l a b 13) zero) y:=by
 refine cQ (fn:=Tryz.f128) (c:=qH) (by kernel_rfl) (by kernel_rfl) (by kernel_rfl) (by kernel_rfl) (by kernel_rfl) ?_;refine qv _ _ _ _ _ λg=>?_;have B:(H.get r).isSome=true:=by rw[K];rfl
 have R:=bY (f:=127) (by kernel_rfl);simp[ak, *,eT,R, -aL];refine za (dep+1) 13 rfl S N V (by omega) (by simp(maxDischargeDepth:=12) [rE, *]) (by rw[ab.aZ,if_neg (b8 A B _ _ _)];exact K) λy v p P=>?_;obtain⟨t,fr,j,old,spot⟩:=P;have w:=vl (l:=l) (a:=a) b 13;have W:=Xs t.sl w;have Z:aK env 57 [v,.cC 1 [a8 0,a8 0,a8 0,a8 0,a8 0,a8 0,a8 0,a8 0,a8 0,a8 0,a8 0,a8 0,a8 0] none]=some (aB (decide (tG l a b 13=List.replicate 13 0))):=QD t.sl (Sl.mk 1 (aQ (List.replicate 13 0)));have U:=old ⟨dep+1,4,H.gen (dep+1) 4,0⟩ ⟨4,[.agg [a8 0,cH 0,a8 0,aI 0]],false,false⟩ (b8 A B _ _ _) (by simp);have n1:(⟨dep+1,4,H.gen (dep+1) 4,0⟩:Ref)≠r:=b8 A B _ _ _;have n2:=n1.symm;have l2:(p.get r).isSome=true:=by rw[j];rfl
 have l3:(p.get ⟨dep+1,4,H.gen (dep+1) 4,0⟩).isSome=true:=by rw[U];rfl
 unfold sK at j;have k : ∀(u:ab)(y:AV)(z:Bool),y = .agg [a8 (OR (tG l a b 13)).h.lv,cH (OR (tG l a b 13)).h.cats,a8 (OR (tG l a b 13)).h.num,aI (OR (tG l a b 13)).n]->Fr u->u.get r=some ⟨3,[.agg [x,aI (Cc l a b 13),aB z]],false,false⟩ ->
  (∀q c,q≠r->q≠⟨dep+1,4,H.gen (dep+1) 4,0⟩->p.get q=some c->u.get q=some c)->Ti H u r x (tG l a b 13) (Cc l a b 13) z y:=by
  intro u y z T D C O;refine⟨T,D,C,λq c d o=>?_⟩;have I:q≠⟨dep+1,4,H.gen (dep+1) 4,0⟩:=λe=>b8 A (by rw[o];rfl) _ _ _ e.symm;exact O q c d I (old q c d (by rw[ab.aZ,if_neg (λe=>I e.symm)];exact o))
 have G:OR (tG l a b 13)=if wB (ic (tG l a b 13)) then ic (tG l a b 13) else kW:=rfl
 have e2:xB (tG l a b 13) zero=(!wB (ic (tG l a b 13)) && !(zero&&decide (tG l a b 13=List.replicate 13 0))):=rfl;generalize tG l a b 13=bs at *;generalize Cc l a b 13=a' at *;generalize yD l a b 13=b' at *;clear N old;generalize decide (bs=List.replicate 13 0)=dz at *;generalize hi:ic bs=i at *;obtain⟨⟨k1,M,L⟩,J⟩:=i;rcases t with ⟨rfl,t⟩ | ⟨q,c,fz,rfl,d,rfl,o⟩
 ·have Y:=t.r;cases E:wB ⟨⟨k1,M,L⟩,J⟩<;>cases zero<;>cases b';all_goals simp[ak, *,eT,kW]
  all_goals
   refine k _ _ _ ?_ (by simp(maxDischargeDepth:=12) [rE, *]) ?_ ?_;·simp[G,E,kW]
   ·simp[ab.get_put,dR,dS, *]
   intro q c d m o
   have Q:(p.get q).isSome=true:=by rw[o];rfl
   have F:=d.symm
   have s:=m.symm
   simp[ab.get_put,dR,dS, *]
 have X:(p.get q).isSome=true:=by rw[d];rfl
 cases E:wB ⟨⟨k1,M,L⟩,J⟩<;>cases zero<;>cases b';all_goals simp[ak, *,eT,kW]
 all_goals
  refine k _ _ _ ?_ (by simp(maxDischargeDepth:=12) [rE, *]) ?_ ?_;·simp[G,E,kW]
  ·simp[ab.get_put,dR,dS, *]
  intro q c d m o
  have Q:(p.get q).isSome=true:=by rw[o];rfl
  have F:=d.symm
  have s:=m.symm
  simp[ab.get_put,dR,dS, *]
@[simp] def abZ(a:UInt8)(b:UInt32):aK env 120 [.agg [a8 a,cH b]]=some (aB (decide (a<=15))):=by
 refine bo rfl (by kernel_rfl) (vi _ _ _ λg=>?_);simp[ak, *,pj]
@[simp] def Tx(a:UInt8)(b:UInt32)(n:UInt8):aK env 95 [.agg [a8 a,cH b,a8 n]]=some (aB (jt ⟨a,b,n⟩)):=by
 refine bo rfl (by kernel_rfl) (qL _ _ _ λg=>?_);simp[ak, *,lR,jt];repeat' ((first | apply Cy<;>intro h | apply xG<;>intro h | apply xH<;>intro h | apply xE<;>intro h | apply xF<;>intro h)<;>(try simp only[iQb,iQd,jH,zJ,bD,lI]at h)<;>(try simp[ak, *]))
@[simp] def abY(a:UInt8)(b:UInt32)(n:UInt8)(k:Int):aK env 122 [.agg [a8 a,cH b,a8 n,aI k]]=some (aB (wB ⟨⟨a,b,n⟩,k⟩)):=by
 refine bo rfl (by kernel_rfl) (vg _ _ _ λg=>?_);simp[ak, *,pg,wB];repeat' ((first | apply Cy<;>intro h | apply xG<;>intro h | apply xH<;>intro h | apply xE<;>intro h | apply xF<;>intro h)<;>(try simp only[iQb,iQd,jH,zJ,bD,lI]at h)<;>(try simp[ak, *]))
@[simp] def Wq(a:UInt8)(b:UInt32)(n:UInt8)(k m:Int):aK env 121 [.agg [a8 a,cH b,a8 n,aI k,aI m]]=some (aB (mg ⟨⟨⟨a,b,n⟩,k⟩,m⟩)):=by
 refine bo rfl (by kernel_rfl) (rR _ _ _ λg=>?_);cases c:wB ⟨⟨a,b,n⟩,k⟩ with
 | false=>simp[ak, *,eH,mg]
 | true=>
  have d:=F9 c;simp only at d;by_cases f:1<=m
  ·by_cases j:m<=64
   ·have i:=iQa (1099511627777 - m) (by omega);have e:decide (k+m - 1<=1099511627776)=decide (k<=1099511627777 - m):=by
     by_cases h:k<=1099511627777 - m;·rw[iQj h,iQj (by omega)]
     rw[iQq h,iQq (by omega)]
    simp[ak, *,eH,mg]
   simp[ak, *,eH,mg]
  simp[ak, *,eH,mg]
@[simp] def ZR(a:UInt8)(b:UInt32)(n:UInt8)(k:Int):aK env 108 [.agg [a8 a,cH b,a8 n,aI k]]=some (aB (iQ ⟨⟨a,b,n⟩,k⟩)):=by
 refine bo rfl (by kernel_rfl) (tZ _ _ _ λg=>?_);simp[ak, *,oN,mj,eZ,iQ]
@[simp] def Qq(n:Int):aK env 134 [aI n]=some (aB (qM n)):=by
 refine bo rfl (by kernel_rfl) (wO _ _ _ λg=>?_);have e:qM n=(decide (0<=n)&&(decide (n<=1114111)&&(decide (n<55296)||decide (57343<n)))):=by
  unfold qM;rw[Bool.eq_iff_iff];simp only[lI,bD,iQb];omega
 rw[e];simp[ak, *,pE];repeat' ((first | apply Cy<;>intro h | apply xG<;>intro h | apply xH<;>intro h | apply xE<;>intro h | apply xF<;>intro h)<;>(try simp only[iQb,iQd,jH,zJ,bD,lI]at h)<;>(try simp[ak, *]))
def Hd{l:List Int}{m:AV}(d:Sl 1 (rows l) m)(v:l.length<4611686018427387904)(o : ∀a∈l, -2147483648<=a/\a<=2147483647){Q:AV->ab->Prop}{H:ab} :
 ∀(s:List Int)(k:Nat)(i:Int),l.drop k=s->k<=l.length->i=k->(∀y,y=aI (bad (s.all fK))->Q y H) ->
 bL env Tryz.f123 0 fW [(3,aI i),(0,m)] H Q:=by
 intro s;induction s with
 | nil=>rintro k i hs hk rfl hQ;obtain rfl:=drop_nil hs hk;refine mL _ _ _ _ λg=>?_;simp[ak, *,eI,d.r];all_goals exact hQ _ rfl
 | cons a s n=>
  rintro k i hs hk rfl hQ;obtain⟨q,t,f,p⟩:=drop_cons hs;have u:=o a (by rw[<-t];exact kq _);refine mL _ _ _ _ λg=>?_;have w:=iQa ((k:Int)+1) (by omega);have x:=iQa a (by omega);have c:fK a=(decide (a = -1)||qM a):=by simp[fK,qM,iQN]
  by_cases h:a = -1;·subst h;have b : ∀y,y=aI (bad (s.all fK))->Q y H:=λy e=>hQ y (by rw[e];simp[fK]);clear hQ;simp[ak, *,eI,d.r,d.idx,aR];exact n (k+1) _ f (by omega) (by simp) b
  cases j:qM a with| true=>have b : ∀y,y=aI (bad (s.all fK))->Q y H:=λy e=>hQ y (by rw[e];simp[c,j]);clear hQ c;simp[ak, *,eI,d.r,d.idx,aR];exact n (k+1) _ f (by omega) (by simp) b| false=>have b : ∀y,y=aI 8->Q y H:=λy e=>hQ y (by rw[e];simp[c,j,h]);clear hQ c;simp[ak, *,eI,d.r,d.idx,aR];all_goals exact b _ rfl
def N8{l:List Int}{x:AV}(c:Sl 1 (rows l) x)(f:l.length<4611686018427387904)(d : ∀a∈l, -2147483648<=a/\a<=2147483647):aK env 123 [x]=some (aI (uq l)):=by
 refine bo rfl (by kernel_rfl) (th _ _ _ λg=>?_);by_cases b:64<l.length
 ·have:(64:Int)<l.length:=by omega
  simp[ak, *,j9,uq,c.r]
 have : ¬(64:Int)<l.length:=by omega
 have e:uq l=bad (l.all fK):=by unfold uq bad;rw[if_neg b]
 simp[ak, *,j9,c.r];exact Hd c f d l 0 _ rfl (by omega) rfl (λy e=>by simp[e])
def CQ(m:UInt8)(o:UInt8)(q:UInt32)(p:UInt8)(f:Int)(n:UInt8)(t:UInt32)(s:UInt8)(u:Int)(h:Int)(c:UInt8)(d:UInt32)(e:UInt8)(b:Int)(i:UInt8)(j:UInt32){x:AV}{l:List Int}(k:Sl 1 (rows l) x)(Q:l.length<2000000)(G : ∀a∈l, -2147483648<=a/\a<=2147483647):aK env 96 [.agg [a8 m,a8 o,cH q,a8 p,aI f,a8 n,cH t,a8 s,aI u,aI h,a8 c,cH d,a8 e,aI b,a8 i,cH j,x]]=some (aB (my (⟨m,⟨o,q,p⟩,f,⟨⟨⟨n,t,s⟩,u⟩,h⟩,⟨⟨c,d,e⟩,b⟩,⟨i,j⟩,l⟩:bp))):=by
 refine bo rfl (by kernel_rfl) (ve _ _ _ λg=>?_);have M:=N8 k (by omega) G;have O:=Bv l;unfold my;cases c1:jt ⟨o,q,p⟩ with
 | false=>simp[ak, *,aE,k.r]
 | true=>
 rcases Dg f 1 with D | J
 ·have J : ¬1<=f:=by omega
  simp[ak, *,aE,k.r]
 have D : ¬f<1:=by omega
 rcases Dg f 16777216 with L | B
 rotate_left
 ·have L : ¬f<16777216:=by omega
  simp[ak, *,aE,k.r]
 have B : ¬16777216<=f:=by omega
 cases P:mg ⟨⟨⟨n,t,s⟩,u⟩,h⟩ with| false=>simp[ak, *,aE,k.r]| true=>
 by_cases k1:m=1
 ·subst k1;unfold Ap;simp only[Fx,if_true];cases y:sC (⟨i,j⟩:Wb) with
  | false=>unfold sC at y;simp[ak, *,aE,k.r,mj,eZ]
  | true=>
   unfold sC at y;cases F:D2 ⟨n,t,s⟩ ⟨o,q,p⟩ with
   | false=>
    unfold D2 at F;cases w:iQ (⟨⟨c,d,e⟩,b⟩:wS) with
    | false=>cases E:wB (⟨⟨c,d,e⟩,b⟩:wS)<;>simp[ak, *,aE,k.r,mj,eZ]
    | true=>simp[ak, *,aE,k.r,mj,eZ]
   | true=>
    unfold D2 at F;by_cases N:(l.length:Int)=h
    ·cases w:iQ (⟨⟨c,d,e⟩,b⟩:wS) with| false=>cases E:wB (⟨⟨c,d,e⟩,b⟩:wS)<;>simp[ak, *,aE,k.r,mj,eZ]| true=>simp[ak, *,aE,k.r,mj,eZ]
    cases w:iQ (⟨⟨c,d,e⟩,b⟩:wS) with| false=>cases E:wB (⟨⟨c,d,e⟩,b⟩:wS)<;>simp[ak, *,aE,k.r,mj,eZ]| true=>simp[ak, *,aE,k.r,mj,eZ]
 by_cases v:xL (⟨m,⟨o,q,p⟩,f,⟨⟨⟨n,t,s⟩,u⟩,h⟩,⟨⟨c,d,e⟩,b⟩,⟨i,j⟩,l⟩:bp)=true
 ·have z:=v;simp only[xL,bD,iQb]at z;obtain⟨w,A⟩:=z;subst A;unfold Ap;by_cases I:m=2
  ·subst I;simp only[LQ,if_true];cases y:sC (⟨i,j⟩:Wb) with
   | false=>unfold sC at y;simp[ak, *,aE,k.r,mj,eZ]
   | true=>unfold sC at y;simp[ak, *,aE,k.r,mj,eZ]
  by_cases H:m=3;·subst H;simp only[Hc,if_true];simp[ak, *,aE,k.r,mj,eZ]
  simp[ak, *,aE,k.r,mj,eZ]
 have R:Ap (⟨m,⟨o,q,p⟩,f,⟨⟨⟨n,t,s⟩,u⟩,h⟩,⟨⟨c,d,e⟩,b⟩,⟨i,j⟩,l⟩:bp)=false:=(by have C:xL (⟨m,⟨o,q,p⟩,f,⟨⟨⟨n,t,s⟩,u⟩,h⟩,⟨⟨c,d,e⟩,b⟩,⟨i,j⟩,l⟩:bp)=false:=(by simpa using v);unfold Ap LQ Hc;rw[C];simp[k1]);simp only[xL,bD,iQb,not_and]at v;cases w:iQ (⟨⟨c,d,e⟩,b⟩:wS) with
 | false=>clear v;simp[ak, *,aE,k.r,mj,eZ]
 | true=>have A:0<l.length:=BY.2 (v w);have K : ¬l=[]:=v w;clear v;simp[ak, *,aE,k.r,mj,eZ]
@[simp] def U6(g:cb)(k:Nat)(n:Int):ad g k (aR n)=[]:=by cases k<;>rfl
def K8{P:Program}{g:cb}{r:Ref}{src dst:TypeId}(a:(P.underlying src).isNone=false)(b:intKind P dst=some .i32)(x:UInt32) :
 bM P g r src dst (some (cH x))=some (aR (IntKind.i32.wrap x.toNat),[]):=by
 unfold cH;rw[oz P .i32 a b];rfl
def NK(a b c d:UInt8):(((((a.toUInt32 <<< 24) ||| (b.toUInt32 <<< 16)) ||| (c.toUInt32 <<< 8)) ||| d.toUInt32).toNat:Int)=val [a,b,c,d]:=by
 have s:=a.toNat_lt;have o:=b.toNat_lt;have p:=c.toNat_lt;have q:=d.toNat_lt;have f:(a.toUInt32 <<< 24).toNat=a.toNat * 16777216:=by
  rw[GM];simp[GG];omega
 have m:(b.toUInt32 <<< 16).toNat=b.toNat * 65536:=by
  rw[GM];simp[GG];omega
 have i:(c.toUInt32 <<< 8).toNat=c.toNat * 256:=by
  rw[GM];simp[GG];omega
 have j:d.toUInt32.toNat=d.toNat:=by simp
 have e : ∀(x k y:Nat),y<2 ^ k->(x * 2 ^ k) ||| y=x * 2 ^ k+y:=by
  intro x k y h;rw[Gt,PF h]
 simp only[UInt32.toNat_or,f,m,i,j];have l:a.toNat * 16777216 ||| b.toNat * 65536=(a.toNat * 256+b.toNat) * 65536:=by
  have:=e a.toNat 24 (b.toNat * 65536) (by omega);simp only[Nat.reducePow]at this;rw[this];omega
 have n:(a.toNat * 256+b.toNat) * 65536 ||| c.toNat * 256=((a.toNat * 256+b.toNat) * 256+c.toNat) * 256:=by
  have:=e (a.toNat * 256+b.toNat) 16 (c.toNat * 256) (by omega);simp only[Nat.reducePow]at this;rw[this];omega
 have g:((a.toNat * 256+b.toNat) * 256+c.toNat) * 256 ||| d.toNat=(((a.toNat * 256+b.toNat) * 256+c.toNat) * 256+d.toNat):=by
  have:=e ((a.toNat * 256+b.toNat) * 256+c.toNat) 8 d.toNat (by omega);simp only[Nat.reducePow]at this;rw[this]
 rw[l,n,g];simp[val,zT];omega
structure Pn (r r2:Ref) (info:AV) (H:ab) (out:List Int):Prop where
 fr:Fr H
 mark:H.get r=some (eu 0 info)
 n1:r2≠r
 box:(H.get r2=some ⟨1,[a9],false,false⟩/\out=[]) \/∃q:Ref,q.d=2/\q.t=43/\q.k=0/\q≠r/\q≠r2/\H.get r2=some ⟨1,[.bO q 0 out.length none],false,false⟩/\H.get q=some ⟨1,rows out,true,false⟩/\0<out.length
def OZ{r r2:Ref}{tm:List AV}{H:ab}{out:List Int}{ps:List Tmp}(i:ps=[17])(j:dc tm 2 = .ptr r2 0 0)(u:Pn r r2 (.lp 0 50 ps dD dC tm) H out)(v:out.length<60000000)(a b c d:UInt8)(f:Option Nat)(z:4<=f.getD 4) :
 ∃y H',cU env 1 (.yld r) [.cC 1 [a8 a,a8 b,a8 c,a8 d] f] H=some (y,H')/\(y=aB true/\Pn r r2 (.lp 0 50 ps dD dC tm) H' (out++[word a b c d])):=by
 subst i;refine OO (fn:=Tryz.f129) (dep:=1) u.mark (by kernel_rfl) rfl rfl (by kernel_rfl) (by kernel_rfl) ?_;rw[<-I9 (s:=dc (tj tm [17] [.cC 1 [a8 a,a8 b,a8 c,a8 d] f])) (l:=[(2,.ptr r2 0 0),(17,.cC 1 [a8 a,a8 b,a8 c,a8 d] f)]) (by
  intro p hp;simp only[dG,Bc,iQM]at hp;rcases hp with rfl | rfl
  ·show dc (zV tm 17 _) 2=_;rw[rF];simpa using j
  show dc (zV tm 17 _) 17=_;rw[rF];simp)]
 refine(yY r _ _ _ _ λg=>?_).h _;obtain⟨fr,mark,n1,box⟩:=u;have D:=n1.symm;have E:(H.get r).isSome=true:=by rw[mark];rfl
 have e:=λ(g:cb)(r:Ref)=>K8 (P:=env.P) (g:=g) (r:=r) (src:=43) (dst:=21) (by kernel_rfl) (by kernel_rfl) ((((a.toUInt32 <<< 24) ||| (b.toUInt32 <<< 16)) ||| (c.toUInt32 <<< 8)) ||| d.toUInt32);rw[NK]at e;have o:IntKind.i32.wrap (val [a,b,c,d])=word a b c d:=rfl;rw[o]at e;clear o;rcases box with ⟨k,rfl⟩ | ⟨q,t,m,n,n2,A,k,w,I⟩
 ·have B:(H.get r2).isSome=true:=by rw[k];rfl
  simp[ak, *,oo,yh,ab.get_put];refine⟨_,rfl,⟨by simp(maxDischargeDepth:=12) [rE, *],by simp(maxDischargeDepth:=12) [rE, *],n1,.inr ⟨⟨2,43,H.gen 2 43,0⟩,rfl,rfl,rfl,by simp(maxDischargeDepth:=12) [rE, *],by simp(maxDischargeDepth:=12) [rE, *],by simp(maxDischargeDepth:=12) [rE, *],?_,by simp⟩⟩⟩;simp[ab.get_put,rows,dR,dS, *]
 have B:(H.get r2).isSome=true:=by rw[k];rfl
 have L:(H.get q).isSome=true:=by rw[w];rfl
 have x:=n2.symm;have C:=A.symm;obtain⟨M,K,F,J⟩:=q;simp only at t m n;subst t m n;have G:out.length+1<=17592186044416:=by omega
 have N:(out.length+1) * 4<=140737488355328:=(by omega);simp[ak, *,oo,yh,ab.get_put];refine⟨_,rfl,⟨by simp(maxDischargeDepth:=12) [rE, *],by simp(maxDischargeDepth:=12) [rE, *],n1,.inr ⟨⟨2,43,H.gen 2 43,0⟩,rfl,rfl,rfl,by simp(maxDischargeDepth:=12) [rE, *],by simp(maxDischargeDepth:=12) [rE, *],by simp(maxDischargeDepth:=12) [rE, *],?_,by simp⟩⟩⟩;simp[ab.get_put,rows,dR,dS, *]
def LS{r r2:Ref}{tm:List AV}(n:dc tm 2 = .ptr r2 0 0){bs:List UInt8}{x:AV}(p:Sl 1 (aQ bs) x)(I:bs.length<60000000){Q:AV->ab->Prop} :
 ∀(m k:Nat)(s:List UInt8)(i:Int)(out:List Int)(H:ab),bs.drop k=s->s.length=4 * m->k<=bs.length->i=k->out.length<=k ->
 Pn r r2 (.lp 0 50 [17] dD dC tm) H out ->
 (∀y H',Pn r r2 (.lp 0 50 [17] dD dC tm) H' (out++words s)->Q y H') ->
 bL env Tryz.f92 (0+1) ed [(2,.iptr 1 [aI 4] 0 0),(4,aI i),(1,.iptr 1 [x] 0 0),(0,.yld r)] H Q:=by
 intro m;induction m with
 | zero=>
  rintro k s i out H hs hm hk rfl ho hI hQ;obtain rfl:s=[]:=wc.1 (by omega);have f:=iQh List.length hs;rw[rP,oq]at f;have u : ¬(k:Int)<bs.length:=by omega
  have t:=p.r;refine jM _ _ _ _ _ _ _ λg=>?_;simp[ak, *,gp];exact hQ _ _ (by simpa [words] using hI)
 | succ m z=>
  rintro k s i out H hs hm hk rfl ho hI hQ;match s,hm with
  | a :: b :: c :: d :: s,hm=>
  simp only[lZ]at hm;have f:=iQh List.length hs;rw[rP]at f;simp only[lZ]at f;have o:0<(aQ bs).length:=by simp;omega
  obtain⟨w,rfl,e⟩:=rV p o;have l:bs.drop (k+4)=s:=(by rw[<-lY,hs];rfl);have C:(k:Int)<bs.length:=(by omega);have F:=iQa ((k:Int)) (by omega);have E:=iQa ((k:Int)+4) (by omega);have D:(aQ bs).drop k=a8 a :: a8 b :: a8 c :: a8 d :: aQ s:=(by have:(aQ bs).drop k=aQ (bs.drop k):=(by simp[aQ]);rw[this,hs];rfl);have B : ¬(4 * ((m:Int)+1)<4):=(by omega);have A:((k:Int)+4).toNat - k=4:=(by omega);have v:(k:Int)<=k+4/\(k:Int)+4<=w.getD bs.length/\(k:Int)+4<=bs.length:=(by have:(aQ bs).length=bs.length:=(by simp);rw[this]at e;omega);obtain⟨y,H',G,rfl,j⟩:=OZ rfl n hI (by omega) a b c d (some 4) (by simp);have q:words (a :: b :: c :: d :: s)=word a b c d :: words s:=rfl;rw[q]at hQ;clear q e;refine jM _ _ _ _ _ _ _ λg=>?_;simp[ak, *,gp,JY];exact z (k+4) s ((k:Int)+4) (out++[word a b c d]) H' l (by omega) (by omega) (by simp) (by simp;omega) j (λy H' h=>hQ y H' (by simpa using h))
def Pa{r r2:Ref}{tm:List AV}(a:dc tm 2 = .ptr r2 0 0){bs:List UInt8}{x:AV}(d:Sl 1 (aQ bs) x)(e:bs.length<60000000){m:Nat}(f:bs.length=4 * m){H:ab}
 (b:Pn r r2 (.lp 0 50 [17] dD dC tm) H []) :
 ∃y H',cU env 0 (.fn 92) [.yld r,.iptr 1 [x] 0 0,.iptr 1 [aI 4] 0 0] H=some (y,H')/\Pn r r2 (.lp 0 50 [17] dD dC tm) H' (words bs):=by
 refine cQ (fn:=Tryz.f92) (c:=pW) (by kernel_rfl) (by kernel_rfl) (by kernel_rfl) (by kernel_rfl) (by kernel_rfl) ?_;refine pK _ _ _ _ _ _ λg=>?_;simp[ak, *,kL];exact LS a d e m 0 bs _ [] H rfl f (by omega) rfl (by simp) b (λy H' h=>by simpa using h)
def Wt:jc = .code (.rangeFunc (.tmp 16) #[17] dD dC) :: rY:=by kernel_rfl
def TE{bs:List UInt8}{x:AV}(a:Sl 1 (aQ bs) x):aK env 48 [x,aI 4]=some (.fn (.func 92) [] [.iptr 1 [x] 0 0,.iptr 1 [aI 4] 0 0]):=by
 refine bo rfl (by kernel_rfl) (qK _ _ _ _ λg=>?_);have b:=a.r;simp[ak, *,lQ]
def lV(l:List Int):AV:=if l=[] then a9 else .cC 1 (rows l) none
def qe(l:List Int):Sl 1 (rows l) (lV l):=by
 unfold lV;split;·rename_i h;subst h;exact .inl ⟨rfl,rfl⟩
 exact .inr ⟨_,rfl,by simp⟩
def Tw{bs:List UInt8}{x:AV}(d:Sl 1 (aQ bs) x){m:Nat}(a:bs.length=4 * m)(o:m<=64) :
 aK env 129 [x]=some (if uq (words bs)=0 then .tup [ru 1 (rows (words bs)),aI 0] else .tup [a9,aI (uq (words bs))]):=by
 refine bo rfl (by kernel_rfl) (GY _ _ _ λg=>?_);have G:=d.r;have K:=TE d;have D : ¬((256:Int)<4 * m):=by omega
 have J:((4:Int) * m).tmod 4=0:=by rw[Kv (by omega)];omega
 have k:(words bs).length<4611686018427387904:=by have:=(rp m bs a).2;omega
 have b:=Bt (qe (words bs)) k;have n:=λt xo N=>Ei env.P t xo N .i64 (4 * (m:Int)) 4 (by decide);simp[ak, *,AU];rw[Wt];refine⟨λM=>LH (gi:=92) (first:=[]) (captured:=[.iptr 1 [x] 0 0,.iptr 1 [aI 4] 0 0]) rfl ?_⟩;intro tm w;have E:dc tm 2 = .ptr ⟨0,2,0,0⟩ 0 0:=(w 2).trans rfl;rw[show Tryz.f129.ntmps=50 from by kernel_rfl];obtain⟨y,H',F,a⟩:=Pa (r:=⟨0,50,0,0⟩) (r2:=⟨0,2,0,0⟩) (tm:=tm)
  (H:=(⟨0,50,0,0⟩,some (eu 0 (.lp 0 50 [17] dD dC tm))) :: [(⟨0,2,0,0⟩,some ⟨1,[a9],false,false⟩)])
  E d (by omega) a ⟨by simp(maxDischargeDepth:=12) [SJ, *],by simp,by decide,.inl ⟨by simp,rfl⟩⟩
 refine⟨y,H',0,_,by simpa using F,by simp only[ab.AE,ab.Up];rw[yh];exact(iQh lpO a.mark).trans (Av _ _),.inl ⟨rfl,?_⟩⟩;have v:=I9 (s:=Lo M [(16,AV.fn (.func 92) [] [.iptr 1 [x] 0 0,.iptr 1 [aI 4] 0 0]),(2,AV.ptr ⟨0,2,0,0⟩ 0 0)]) (l:=[(2,AV.ptr ⟨0,2,0,0⟩ 0 0)]) (by
  intro p hp;simp only[dG,Bc,iQM]at hp;subst hp;rfl)
 rw[<-v];refine(yp _ _ _ λg=>?_).h _;have n1:(⟨0,2,0,0⟩:Ref)≠⟨0,50,0,0⟩:=a.n1;have i:=a.box;clear v n D J K G w;generalize words bs=ws at *;rcases i with ⟨C,rfl⟩ | ⟨q,S,O,Q,n2,B,C,R,A⟩
 ·have c:lV []=a9:=rfl;have u:uq []=0:=rfl;rw[c,u]at b;simp[ak, *,nL,ab.get_put];all_goals rfl
 have c:lV ws = .cC 1 (rows ws) none:=by unfold lV;rw[if_neg (by rintro rfl;simp at A)]
 have j:rows ws≠[]:=by intro e;have:=iQh List.length e;simp at this;subst this;simp at A
 rw[c]at b;rw[rr 1 j];generalize f:rows ws=rw' at *;have z:rw'.length=ws.length:=by rw[<-f];simp
 have L:=n2.symm;have I:=B.symm;by_cases u:uq ws=0<;>simp[ak, *,nL,ab.get_put]
def aaE(dep:Nat){H:ab}{r:Ref}{x:AV}{l:List UInt8}{a:Nat}{b:Bool}(zero:Bool){K:AV->ab->Prop}{m:Mk K}(d:Sl 1 (aQ l) x)(g:a<=l.length)(j:l.length<1000000000)
 (e:Fr H) (c:H.get r=some (sK x a b)) (h : ∀y H',Ti H H' r x (tG l a b 13) (Cc l a b 13) (yD l a b 13||xB (tG l a b 13) zero) y->K y H'):jF (cU env dep (.fn 128) [.ptr r 0 0,.v (.bool zero)] H) K m:=by
 obtain⟨y,H',f,i⟩:=aaF dep zero e d c g j;exact jd f (h y H' i)
def Tk.pick{H H':ab}{r:Ref}{x:AV}{l bs:List UInt8}{a:Nat}{b:Bool}{y v:AV}(n:Tk H H' r x l bs a b y v)(i:Nat){j:Int}(g:j=i)(hi:i<bs.length) :
 ∃p,bI env.P H'.get 27 (some y) (some (.v (.int .i64 j)))=some (p,[])/\mP env.P H'.get 5 (some p)=some (a8 (bs.getD i 0),[])/\(∀r i j,r.t≠31->lu p (.ptr r i j)=true)/\(∀r i j,r.t≠31->lu y (.ptr r i j)=true):=by
 subst g;obtain⟨seen,fr,box,old,spot⟩:=n;have s:bs[i]?=some (bs.getD i 0):=by simp[hi]
 have h:(i:Int)<bs.length:=by omega
 rcases seen with ⟨rfl,k⟩ | ⟨q,c,fz,rfl,f,rfl,m⟩
 ·obtain⟨o,rfl,m⟩:=rV k (by simp;omega);refine⟨.iptr 1 (aQ bs) i 0,?_,?_,λ_ _ _ _=>rfl,λ_ _ _ _=>rfl⟩;·simp[hi]
  simp[aQ,hi]
 have d:=spot q rfl;refine⟨.ptr q i 0,?_,?_,λr i j e=>?_,λr i j e=>?_⟩;·simp[f,hi]
 ·simp[aQ,hi,f]
 ·simp;rintro rfl;exact e d
 simp;rintro rfl;exact e d
def YQ(H:ab)(r:Ref)(c:aP):(H.put r (some c)).get r=some c:=by rw[ab.get_put,if_pos rfl]
def Jv(bs:List UInt8):NI:=if jt (iY bs) then iY bs else ⟨0,0,0⟩
def RO{v:AV}{l:List UInt8}(a:Sl 1 (aQ l) v)(b:l.length=6):aK env 100 [v]=some (.tup [.agg [a8 (Jv l).lv,cH (Jv l).cats,a8 (Jv l).num],aI (bad (jt (iY l)))]):=by
 rw[Jy a b];unfold Jv;cases jt (iY l)<;>rfl
def To(a b c:UInt8):WT (WT ((a.toNat:Int) * 65536) ((b.toNat:Int) * 256)) (c.toNat:Int)=val [a,b,c]:=by
 have i:=a.toNat_lt;have g:=b.toNat_lt;have h:=c.toNat_lt;have d:=Hh (a:=(a.toNat:Int)) (b:=(b.toNat:Int) * 256) (k:=16) (by omega) (by omega) (by omega) (by omega) (by omega);simp only[Nat.reducePow,Int.reducePow]at d;rw[d];have e:=Hh (a:=(a.toNat:Int) * 256+b.toNat) (b:=(c.toNat:Int)) (k:=8) (by omega) (by omega) (by omega) (by omega) (by omega);simp only[Nat.reducePow,Int.reducePow]at e;have f:(a.toNat:Int) * 65536+b.toNat * 256=((a.toNat:Int) * 256+b.toNat) * 256:=by omega
 rw[f,e];simp[val,zT];omega
def ni:AV := .tup [.agg [a8 0,a8 0,cH 0,a8 0,aI 0,a8 0,cH 0,a8 0,aI 0,aI 0,a8 0,cH 0,a8 0,aI 0,a8 0,cH 0,a9],aI 0,aI 8]
def jS(o:bp):List AV:=[a8 o.kind,a8 o.h.lv,cH o.h.cats,a8 o.h.num,aI o.serial,a8 o.s.f.h.lv,cH o.s.f.h.cats,a8 o.s.f.h.num,aI o.s.f.n,aI o.s.many,a8 o.a.h.lv,cH o.a.h.cats,a8 o.a.h.num,aI o.a.n,a8 o.to.lv,cH o.to.cats]
def nK(l:List UInt8):AV:=if nD l then .tup [.agg (jS (fR l)++[ru 1 (rows (fR l).l)]),aI (jO l),aI 0] else ni
def AS{l:List UInt8}(h:24<=l.length->jO l<=l.length->my (fR l)=false):nK l=ni:=by
 unfold nK;rw[if_neg];intro a;simp only[nD,bD,iQb]at a;rw[h a.1 a.2.1]at a;exact absurd a.2.2 (by decide)
def nN{l:List UInt8}{a n:Nat}{b:Bool}(h:yD l a b n=false):b=false/\a+n<=l.length/\Cc l a b n=a+n/\tG l a b n=(l.drop a).take n:=by
 unfold Cc tG;rw[h];simp only[yD,Dq,iQd]at h;exact⟨h.1,by omega,rfl,rfl⟩
def vk{l:List UInt8}{a n:Nat}(h:a+n<=l.length):yD l a false n=false/\Cc l a false n=a+n/\tG l a false n=(l.drop a).take n:=by
 have e:yD l a false n=false:=by simp only[yD,nk,iQd];omega
 obtain⟨_,_,b,c⟩:=nN e;exact⟨e,b,c⟩
def EC(l:List UInt8)(n:Nat):((l.drop n).take 1).getD 0 0=(l.drop n).headD 0:=by
 cases l.drop n<;>rfl
def T8{o:bp}(h:jt o.h=false):my o=false:=by simp[my,h]
def MU{o:bp}(h:mg o.s=false):my o=false:=by simp[my,h]
def WV{o:bp}(h:wB o.s.f=false):my o=false:=MU (by simp[mg,h])
def Hl{o:bp}(h:Ap o=false):my o=false:=by simp[my,h]
def ze(l:List Int):(ru 1 (rows l)=a9/\lV l=a9)\/(ru 1 (rows l) = .fsl 1 (rows l) none/\lV l = .cC 1 (rows l) none):=by
 by_cases h:l=[];·subst h;exact .inl ⟨rfl,rfl⟩
 exact .inr ⟨rr 1 (by simpa using h),by unfold lV;rw[if_neg h]⟩
set_option maxHeartbeats 1000000 in
def TC{l:List UInt8}{x:AV}(hx:Sl 1 (aQ l) x)(hl:l.length<60000000):aK env 101 [x]=some (nK l):=by
 refine bo rfl (by kernel_rfl) (NP _ _ _ λg=>?_);have hr:=hx.r;have hT:=bY (f:=127) (by kernel_rfl);have hTi:=bY (f:=128) (by kernel_rfl);simp[ak, *,Gn,hT,hTi];refine za 0 (a:=0) (b:=false) 1 rfl hx (uT _) (by omega) (by omega) (by simp(maxDischargeDepth:=12) [rE, *]) (by simp[sK]) λy1 v1 H1 G=>?_;obtain⟨p1,hp1,hl1,_⟩:=G.pick (j:=0) 0 rfl (by rw[vl];omega);have hb1:=G.old ⟨0,2,0,0⟩ _ (by decide) rfl;have hF1:=G.fr;have hr1:=G.box;have ha1:=Bq (l:=l) (a:=0) false 1 (uT _);clear G;generalize hA1:Cc l 0 false 1=A1 at *;generalize hB1:yD l 0 false 1=B1 at *;generalize hk0:(tG l 0 false 1).getD 0 0=k at *;simp[ak, *,ab.get_put];have s1:(H1.get ⟨0,2,0,0⟩).isSome=true:=by rw[hb1];rfl
 refine za 0 (a:=A1) (b:=B1) 6 rfl hx ha1 (by omega) (by omega) (by simp(maxDischargeDepth:=12) [rE, *]) (by simp(maxDischargeDepth:=12) [rE, *]) λy2 v2 H2 hk2=>?_;have hb2:=hk2.old ⟨0,2,0,0⟩ _ (by decide) (YQ _ _ _);have hG:=RO hk2.seen.sl (vl _ _);have hs2:=hk2.seen.r;have hF2:=hk2.fr;have hr2:=hk2.box;have ha2:=Bq (l:=l) B1 6 ha1;clear hk2 hb1 hr1 hp1 hl1;generalize hA2:Cc l A1 B1 6=A2 at *;generalize hB2:yD l A1 B1 6=B2 at *;generalize hh2:Jv (tG l A1 B1 6)=hh at *;obtain⟨H,F,E⟩:=hh;have s2:(H2.get ⟨0,2,0,0⟩).isSome=true:=by rw[hb2];rfl
 have s2r:(H2.get ⟨0,17,0,0⟩).isSome=true:=by rw[hr2];rfl
 generalize hf2:bad (jt (iY (tG l A1 B1 6)))=f at *;simp[ak, *,ab.get_put];refine za 0 (a:=A2) (b:=B2) 3 rfl hx ha2 (by omega) (by omega) (by simp(maxDischargeDepth:=12) [rE, *]) (by simp(maxDischargeDepth:=12) [rE, *]) λy3 v3 H3 A=>?_;have hb3:=A.old ⟨0,2,0,0⟩ _ (by decide) (by rw[ab.aZ,if_neg (by simp)];exact hb2);have hb8:=A.old ⟨0,8,H2.gen 0 8,0⟩ ⟨3,[.agg [a8 H,cH F,a8 E]],false,false⟩ (by simp) (by simp);have hl3:=vl (l:=l) (a:=A2) B2 3;obtain⟨p30,hp30,hv30,hn30,hny3⟩:=A.pick (j:=0) 0 rfl (by omega);obtain⟨p31,hp31,hv31,hn31,_⟩:=A.pick (j:=1) 1 rfl (by omega);obtain⟨p32,hp32,hv32,hn32,_⟩:=A.pick (j:=2) 2 rfl (by omega);have hF3:=A.fr;have hr3:=A.box;have ha3:=Bq (l:=l) B2 3 ha2;clear A hb2 hr2 hs2 hG;generalize hA3:Cc l A2 B2 3=A3 at *;generalize hB3:yD l A2 B2 3=B3 at *;have s3:(H3.get ⟨0,2,0,0⟩).isSome=true:=by rw[hb3];rfl
 have s3r:(H3.get ⟨0,17,0,0⟩).isSome=true:=by rw[hr3];rfl
 obtain⟨b30,b31,b32,e3⟩ : ∃a b c,tG l A2 B2 3=[a,b,c]:=by
  match h:tG l A2 B2 3,hl3 with
  | [a,b,c],_=>exact⟨a,b,c,rfl⟩
 rw[e3]at hv30 hv31 hv32;simp only[List.getD_cons_zero,List.getD_cons_succ]at hv30 hv31 hv32;have w30:IntKind.i64.wrap ((b30.toNat:Int) * 65536)=(b30.toNat:Int) * 65536:=iQa _ (by have:=b30.toNat_lt;omega);have w31:IntKind.i64.wrap ((b31.toNat:Int) * 256)=(b31.toNat:Int) * 256:=iQa _ (by have:=b31.toNat_lt;omega);have wsr:=To b30 b31 b32;simp[ak, *,ab.get_put,xt];refine⟨⟨rfl,rfl,rfl⟩,?_⟩;refine aaE 0 (a:=A3) (b:=B3) false hx ha3 (by omega) (by simp(maxDischargeDepth:=12) [rE, *]) (by simp(maxDischargeDepth:=12) [rE, *]) λy4 H4 hk4=>?_;have hb4:=hk4.old ⟨0,2,0,0⟩ _ (by decide) (YQ _ _ _);have hF4:=hk4.fr;have hr4:=hk4.box;have hy4:=hk4.val;have ha4:=Bq (l:=l) B3 13 ha3;clear hk4 hb3 hr3 hb8 hp30 hp31 hp32 hv30 hv31 hv32 w30 w31 wsr hn30 hn31 hn32 hny3;subst hy4;generalize hA4:Cc l A3 B3 13=A4 at *;generalize hB4:(yD l A3 B3 13||xB (tG l A3 B3 13) false)=B4 at *;generalize hi4:OR (tG l A3 B3 13)=fi at *;obtain⟨⟨M,L,K⟩,N⟩:=fi;have s4:(H4.get ⟨0,2,0,0⟩).isSome=true:=by rw[hb4];rfl
 have s4r:(H4.get ⟨0,17,0,0⟩).isSome=true:=by rw[hr4];rfl
 generalize hsr:val [b30,b31,b32]=sr at *;simp[ak, *,ab.get_put];refine za 0 (a:=A4) (b:=B4) 1 rfl hx ha4 (by omega) (by omega) (by simp(maxDischargeDepth:=12) [rE, *]) (by simp(maxDischargeDepth:=12) [rE, *]) λy5 v5 H5 hk5=>?_;have hb5:=hk5.old ⟨0,2,0,0⟩ _ (by decide) (YQ _ _ _);obtain⟨p5,hp5,hv5,_⟩:=hk5.pick (j:=0) 0 rfl (by rw[vl];omega);have hF5:=hk5.fr;have hr5:=hk5.box;have ha5:=Bq (l:=l) B4 1 ha4;clear hk5 hb4 hr4;generalize hA5:Cc l A4 B4 1=A5 at *;generalize hB5:yD l A4 B4 1=B5 at *;generalize hm5:(tG l A4 B4 1).getD 0 0=m at *;have s5:(H5.get ⟨0,2,0,0⟩).isSome=true:=by rw[hb5];rfl
 have s5r:(H5.get ⟨0,17,0,0⟩).isSome=true:=by rw[hr5];rfl
 have hmI:IntKind.i64.wrap (m.toNat:Int)=m.toNat:=iQa _ (by have:=m.toNat_lt;omega);unfold sK at hr5;clear s1 s2 s2r s3 s3r s4 s4r hF1 hF2 hF3 hF4;have hnz:=λn:Int=>show(aI n).at?=none from rfl
 cases B5 with
 | true=>
  have i:nK l=ni:=by
   refine AS λh24 _=>WV ?_;obtain⟨c1,B,I⟩:=vk (l:=l) (a:=0) (n:=1) (by omega);rw[c1]at hB1;rw[B]at hA1;subst hB1;subst hA1;obtain⟨c1,B,I⟩:=vk (l:=l) (a:=0+1) (n:=6) (by omega);rw[c1]at hB2;rw[B]at hA2;subst hB2;subst hA2;obtain⟨c1,B,I⟩:=vk (l:=l) (a:=0+1+6) (n:=3) (by omega);rw[c1]at hB3;rw[B]at hA3;subst hB3;subst hA3;obtain⟨c1,B,I⟩:=vk (l:=l) (a:=0+1+6+3) (n:=13) (by omega);rw[c1,I]at hB4;rw[B]at hA4;subst hA4;cases B4 with
   | true=>show wB (ic ((l.drop 10).take 13))=false;simpa [xB] using hB4
   | false=>obtain⟨c1,B,I⟩:=vk (l:=l) (a:=0+1+6+3+13) (n:=1) (by omega);rw[c1]at hB5;cases hB5
  unfold ni at i;simp[ak, *,ab.get_put]
 | false=>
  obtain⟨rfl,t5,u5,d5⟩:=nN hB5;obtain⟨t4,hid⟩:yD l A3 B3 13=false/\xB (tG l A3 B3 13) false=false:=by simpa using hB4
  obtain⟨rfl,q4,u4,d4⟩:=nN t4;obtain⟨rfl,q3,u3,d3⟩:=nN hB3;obtain⟨rfl,q2,u2,d2⟩:=nN hB2;obtain⟨_,q1,u1,d1⟩:=nN hB1;rw[u1]at hA1;subst hA1;rw[u2]at hA2;subst hA2;rw[u3]at hA3;subst hA3;rw[u4]at hA4;subst hA4;rw[u5]at hA5;subst hA5;simp only[qZ,Nat.reduceAdd]at *;have hk:l.headD 0=k:=by rw[<-hk0,d1];exact(EC l 0).symm
  have hm:(l.drop 23).headD 0=m:=by rw[<-hm5,d5];exact(EC l 23).symm
  rw[d2]at hh2 hf2;rw[d3]at e3;rw[d4]at hi4 hid;have hidt:wB (ic ((l.drop 10).take 13))=true:=by simpa [xB] using hid
  rw[OR,if_pos hidt]at hi4;rw[<-e3]at hsr;clear d1 d2 d3 d4 d5 u1 u2 u3 u4 u5 hB1 hB2 hB3 hB4 hB5 hid t4 hl3 hk0 hm5 q1 q2 q3 q4 ha1 ha2 ha3 ha4 e3;cases hHB:jt (iY ((l.drop 1).take 6)) with
  | false=>have i:nK l=ni:=AS λ_ _=>T8 hHB;rw[hHB]at hf2;subst hf2;unfold ni at i;clear hHB hidt hi4 hsr hh2 hk hm;simp[ak, *,ab.get_put,Gk]
  | true=>
   rw[hHB]at hf2;subst hf2;rw[Jv,if_pos hHB]at hh2;have o:fR l=⟨k,⟨H,F,E⟩,sr,⟨⟨⟨M,L,K⟩,N⟩,(m.toNat:Int)⟩,if k=1 then ic ((l.drop 24).take 13) else kW,if k=3 then ⟨(l.drop 24).headD 0,u32 (val ((l.drop 25).take 4))⟩ else ⟨0,0⟩,
    if k=1 then words ((l.drop 37).take (4 * m.toNat)) else []⟩:=by
    unfold fR;rw[hk,hm,hh2,hi4,hsr]
   have C:jO l=iW k m:=by unfold jO;rw[hk,hm]
   clear hHB hidt hi4 hsr hh2 hk hm;by_cases h64:64<(m.toNat:Int);·have i:nK l=ni:=AS λ_ _=>MU (by rw[o];simp only[mg,Bg,iQd];exact .inr (.inr (.inl (by omega))));unfold ni at i;clear o C;simp[ak, *,ab.get_put,AQ]
   have J:m.toNat<=64:=(by omega);by_cases G:k=1
   ·subst G;simp[ak, *,ab.get_put,AQ];refine aaE 0 (a:=24) (b:=false) true hx t5 (by omega) (by simp(maxDischargeDepth:=12) [rE, *]) (by simp[ab.get_put,sK, *]) λy6 H6 z=>?_;have hb6:=z.old ⟨0,2,0,0⟩ _ (by decide) (YQ _ _ _);have hF6:=z.fr;have hr6:=z.box;have hy6:=z.val;have ha6:=Bq (l:=l) false 13 t5;clear z hb5 hr5 hp5 hv5 s5 s5r hF5;subst hy6;generalize X:tG l 24 false 13=L6 at *;generalize R:Cc l 24 false 13=A6 at *;generalize O:(yD l 24 false 13||xB L6 true)=B6 at *;generalize hi6:OR L6=ai at *;obtain⟨⟨a_1,a_2,a_3⟩,a_4⟩:=ai;have s6:(H6.get ⟨0,2,0,0⟩).isSome=true:=by rw[hb6];rfl
    have s6r:(H6.get ⟨0,17,0,0⟩).isSome=true:=by rw[hr6];rfl
    have w4:IntKind.i64.wrap (4 * (m.toNat:Int))=4 * (m.toNat:Int):=iQa _ (by omega);simp[ak, *,ab.get_put];refine za 0 (a:=A6) (b:=B6) (4 * m.toNat) (by simp) hx ha6 (by omega) (by omega) (by simp(maxDischargeDepth:=12) [rE, *]) (by simp[ab.get_put, *]) λy7 v7 H7 V=>?_;have hb7:=V.old ⟨0,2,0,0⟩ _ (by decide) (YQ _ _ _);have hl7:=vl (l:=l) (a:=A6) B6 (4 * m.toNat);have hF7:=V.fr;have hr7:=V.box;have u:=V.seen;have D:=V.spot;have P:=Tw V.seen.sl hl7 J;clear V hb6 hr6 s6 s6r hF6 w4;unfold sK at hr7;generalize hL7:tG l A6 B6 (4 * m.toNat)=L7 at *;generalize hA7:Cc l A6 B6 (4 * m.toNat)=A7 at *;generalize hB7:yD l A6 B6 (4 * m.toNat)=B7 at *;have s7:(H7.get ⟨0,2,0,0⟩).isSome=true:=by rw[hb7];rfl
    have s7r:(H7.get ⟨0,17,0,0⟩).isSome=true:=by rw[hr7];rfl
    have Y:jO l=37+4 * m.toNat:=by rw[C];rfl
    rw[if_pos rfl,if_neg (by decide),if_pos rfl]at o;have p:=ze (words L7);cases B7 with
    | true=>
     have i:nK l=ni:=AS λ_ hh=>by
      rw[Y]at hh;obtain⟨c1,B,I⟩:=vk (l:=l) (a:=24) (n:=13) (by omega);rw[c1,nk]at O;rw[B]at R;subst R;rw[I]at X;cases B6 with
      | false=>obtain⟨c1,B,I⟩:=vk (l:=l) (a:=24+13) (n:=4 * m.toNat) (by omega);rw[c1]at hB7;cases hB7
      | true=>simp only[xB,kX,bD,jH,iQd]at O;refine Hl ?_;rw[o,X];have hz:=EA (l:=L6) (by rw[<-X];simp;omega);rw[iQq O.2]at hz;simp[Ap,Fx,hz,O.1]
     unfold ni at i;clear o C Y O hB7 R hA7 X hL7 J ha6;by_cases hE:uq (words L7)=0
     ·rw[if_pos hE]at P;clear hE;generalize words L7=ws at *;rcases u with ⟨rfl,u⟩ | ⟨q,cq,fz,rfl,hq,rfl,T⟩
      ·have Z:=u.r;rcases p with p | p<;>rw[p.1]at P<;>simp[ak, *,ab.get_put]
      have S:q≠⟨0,2,0,0⟩:=by intro e;have:=D q rfl;rw[e]at this;cases this
      have s:q≠⟨0,17,0,0⟩:=by intro e;have:=D q rfl;rw[e]at this;cases this
      have Q:=S.symm;have y:=s.symm;rcases p with p | p<;>rw[p.1]at P<;>cases fz<;>simp[ak, *,ab.get_put]
     rw[if_neg hE]at P;clear hE p;generalize words L7=ws at *;rcases u with ⟨rfl,u⟩ | ⟨q,cq,fz,rfl,hq,rfl,T⟩
     ·have Z:=u.r;simp[ak, *,ab.get_put]
     have S:q≠⟨0,2,0,0⟩:=by intro e;have:=D q rfl;rw[e]at this;cases this
     have s:q≠⟨0,17,0,0⟩:=by intro e;have:=D q rfl;rw[e]at this;cases this
     have Q:=S.symm;have y:=s.symm;cases fz<;>simp[ak, *,ab.get_put]
    | false=>
     obtain⟨rfl,q7,u7,d7⟩:=nN hB7;obtain⟨t6,hid6⟩:yD l 24 false 13=false/\xB L6 true=false:=by simpa using O
     obtain⟨_,q6,u6,d6⟩:=nN t6;rw[u6]at R;subst R;rw[u7]at hA7;subst hA7;rw[d7]at hL7;rw[d6]at X;have i:nK l=if my (fR l) then .tup [.agg (jS (fR l)++[ru 1 (rows (fR l).l)]),aI (37+4 * m.toNat:Nat),aI 0] else ni:=by
      unfold nK nD;rw[Y];have h1:decide (24<=l.length)=true:=by simpa using t5
      have h2:decide (37+4 * m.toNat<=l.length)=true:=by simp only[iQb];omega
      rw[h1,h2,kX,kX]
     have hai:ic L6=⟨⟨a_1,a_2,a_3⟩,a_4⟩:=by
      rw[<-hi6,OR];split;·rfl
      rename_i hn;have hn':wB (ic L6)=false:=by simpa using hn
      simp only[xB,hn',sF,kX,zJ,iQb]at hid6;rw[hid6];rfl
     rw[X,hai,hL7]at o;rw[o]at i;clear o C Y O hB7 X hL7 J ha6 hid6 hai d6 d7 u6 u7 t6 hi6;by_cases hE:uq (words L7)=0
     ·rw[if_pos hE]at P;have hwl:(words L7).length<2000000:=by have:=(rp _ L7 hl7).2;have:=m.toNat_lt;omega
      have hC:=pN 1 H F E sr M L K N m.toNat a_1 a_2 a_3 a_4 0 0 (qe (words L7)) hwl;clear hE hwl;generalize words L7=ws at *;cases hO:my ⟨1,⟨H,F,E⟩,sr,⟨⟨⟨M,L,K⟩,N⟩,(m.toNat:Int)⟩,⟨⟨a_1,a_2,a_3⟩,a_4⟩,⟨0,0⟩,ws⟩ with
      | true=>
       simp only[hO,jS,if_true]at i;rcases p with p | p<;>rw[p.1]at P i<;>rw[p.2]at hC
       all_goals
        rcases u with ⟨rfl,u⟩ | ⟨q,cq,fz,rfl,hq,rfl,T⟩
        ·have Z:=u.r
         simp[ak, *,ab.get_put]
        have S:q≠⟨0,2,0,0⟩:=by intro e;have:=D q rfl;rw[e]at this;cases this
        have s:q≠⟨0,17,0,0⟩:=by intro e;have:=D q rfl;rw[e]at this;cases this
        have Q:=S.symm
        have y:=s.symm
        cases fz<;>simp[ak, *,ab.get_put]
      | false=>
       simp only[hO,ni]at i;rcases p with p | p<;>rw[p.1]at P<;>rw[p.2]at hC
       all_goals
        rcases u with ⟨rfl,u⟩ | ⟨q,cq,fz,rfl,hq,rfl,T⟩
        ·have Z:=u.r
         simp[ak, *,ab.get_put]
        have S:q≠⟨0,2,0,0⟩:=by intro e;have:=D q rfl;rw[e]at this;cases this
        have s:q≠⟨0,17,0,0⟩:=by intro e;have:=D q rfl;rw[e]at this;cases this
        have Q:=S.symm
        have y:=s.symm
        cases fz<;>simp[ak, *,ab.get_put]
     rw[if_neg hE]at P;have hz:my ⟨1,⟨H,F,E⟩,sr,⟨⟨⟨M,L,K⟩,N⟩,(m.toNat:Int)⟩,⟨⟨a_1,a_2,a_3⟩,a_4⟩,⟨0,0⟩,words L7⟩=false:=Hl (by
      have:D9 (words L7)=false:=(by rw[Bool.eq_false_iff];intro h;exact hE ((Bv _).2 h));simp[Ap,Fx,this])
     rw[hz,if_neg (by decide)]at i;unfold ni at i;clear p hz;generalize words L7=ws at *;rcases u with ⟨rfl,u⟩ | ⟨q,cq,fz,rfl,hq,rfl,T⟩
     ·have Z:=u.r;simp[ak, *,ab.get_put]
     have S:q≠⟨0,2,0,0⟩:=by intro e;have:=D q rfl;rw[e]at this;cases this
     have s:q≠⟨0,17,0,0⟩:=by intro e;have:=D q rfl;rw[e]at this;cases this
     have Q:=S.symm;have y:=s.symm;cases fz<;>simp[ak, *,ab.get_put]
   by_cases A:k=3
   ·subst A;simp[ak, *,ab.get_put,AQ];refine za 0 (a:=24) (b:=false) 5 rfl hx t5 (by omega) (by omega) (by simp(maxDischargeDepth:=12) [rE, *]) (by simp[ab.get_put,sK, *]) λy6 v6 H6 z=>?_;have hb6:=z.old ⟨0,2,0,0⟩ _ (by decide) (YQ _ _ _);have hl6:=vl (l:=l) (a:=24) false 5;obtain⟨c1,B,I,c4,c5,e6⟩ : ∃a b c d e,tG l 24 false 5=[a,b,c,d,e]:=by
     match h:tG l 24 false 5,hl6 with
     | [a,b,c,d,e],_=>exact⟨a,b,c,d,e,rfl⟩
    have hF6:=z.fr;have hr6:=z.box;have w:=z.seen;have U:=z.spot;clear z hb5 hr5 hp5 hv5 s5 s5r hF5;rw[e6]at w;unfold sK at hr6;have s6:(H6.get ⟨0,2,0,0⟩).isSome=true:=by rw[hb6];rfl
    have s6r:(H6.get ⟨0,17,0,0⟩).isSome=true:=by rw[hr6];rfl
    have hBC:=λcp=>Od cp c1 B I c4 c5;have hG6:=RO (v := .cC 1 [a8 c1,a8 B,a8 I,a8 c4,a8 c5,a8 0] none) (l:=[c1,B,I,c4,c5,0]) (Sl.mk _ _) rfl;have hho:iY [c1,B,I,c4,c5,0]=⟨c1,u32 (val [B,I,c4,c5]),0⟩:=rfl;have hgo:Jv [c1,B,I,c4,c5,0]=if c1<=15 then ⟨c1,u32 (val [B,I,c4,c5]),0⟩ else ⟨0,0,0⟩:=(by unfold Jv;rw[hho];simp[jt])
    have hhb:jt ⟨c1,u32 (val [B,I,c4,c5]),0⟩=decide (c1<=15):=(by simp[jt]);rw[hho,hhb]at hG6;have hdr:yD l 24 false 5=false->(l.drop 24).headD 0=c1/\(l.drop 25).take 4=[B,I,c4,c5]/\29<=l.length:=by
     intro hB;obtain⟨_,q,_,d⟩:=nN hB;rw[d]at e6;have:l.drop 25=(l.drop 24).drop 1:=by rw[lY]
     rw[this];match hd:l.drop 24,e6 with
     | a :: t,e6=>
      have e7:a :: t.take 4=c1 :: [B,I,c4,c5]:=e6;injection e7 with e8 e9
      exact⟨e8,e9,q⟩
    have hbad:yD l 24 false 5=true->nK l=ni:=λhB=>AS λ_ hh=>by
     rw[C]at hh;have:iW 3 m=29:=rfl;simp only[yD,nk,iQb]at hB;omega
    generalize O:yD l 24 false 5=B6 at *;have R:B6=false->Cc l 24 false 5=29:=λe=>(nN (O.trans e)).2.2.1;generalize Cc l 24 false 5=A6 at *;cases B6 with
    | true=>
     have i:=hbad rfl;unfold ni at i;clear o C hdr hbad J;rcases w with ⟨rfl,w⟩ | ⟨q,cq,fz,rfl,hq,rfl,T⟩
     ·obtain⟨cp,rfl,hcp⟩:=rV w (by simp);simp[ak, *,ab.get_put,aQ]
     have S:q≠⟨0,2,0,0⟩:=by intro e;have:=U q rfl;rw[e]at this;cases this
     have s:q≠⟨0,17,0,0⟩:=by intro e;have:=U q rfl;rw[e]at this;cases this
     have Q:=S.symm;have y:=s.symm;cases fz<;>simp[ak, *,ab.get_put,aQ]
    | false=>
     obtain⟨d1,d2,d3⟩:=hdr rfl;obtain rfl:=R rfl;have i:nK l=if my (fR l) then .tup [.agg (jS (fR l)++[ru 1 (rows (fR l).l)]),aI 29,aI 0] else ni:=by
      have hs24:jO l=29:=by rw[C];rfl
      unfold nK nD;rw[hs24];have h1:decide (24<=l.length)=true:=by simpa using t5
      have h2:decide (29<=l.length)=true:=(by simpa using d3);rw[h1,h2,kX,kX];rfl
     rw[d1,d2,if_neg (by decide),if_pos rfl,if_neg (by decide)]at o;rw[o]at i;clear o C hdr hbad J d1 d2 d3 R;by_cases W:c1<=15
     ·rw[if_pos W]at hgo;rw[hgo,iQj W,AQ]at hG6;clear hgo hho hhb W;generalize u32 (val [B,I,c4,c5])=cc at *;have hC:=pN 3 H F E sr M L K N m.toNat 0 0 0 0 c1 cc (l:=[]) (x:=a9) (.inl ⟨rfl,rfl⟩) (by simp);cases hO:my ⟨3,⟨H,F,E⟩,sr,⟨⟨⟨M,L,K⟩,N⟩,(m.toNat:Int)⟩,⟨⟨0,0,0⟩,0⟩,⟨c1,cc⟩,[]⟩ with
      | true=>
       simp only[kW,hO,jS,show ru 1 (rows [])=a9 from rfl,if_true]at i;rcases w with ⟨rfl,w⟩ | ⟨q,cq,fz,rfl,hq,rfl,T⟩
       ·obtain⟨cp,rfl,hcp⟩:=rV w (by simp);simp[ak, *,ab.get_put,aQ]
       have S:q≠⟨0,2,0,0⟩:=by intro e;have:=U q rfl;rw[e]at this;cases this
       have s:q≠⟨0,17,0,0⟩:=by intro e;have:=U q rfl;rw[e]at this;cases this
       have Q:=S.symm;have y:=s.symm;cases fz<;>simp[ak, *,ab.get_put,aQ]
      | false=>
       simp only[kW,hO,ni]at i;rcases w with ⟨rfl,w⟩ | ⟨q,cq,fz,rfl,hq,rfl,T⟩
       ·obtain⟨cp,rfl,hcp⟩:=rV w (by simp);simp[ak, *,ab.get_put,aQ]
       have S:q≠⟨0,2,0,0⟩:=by intro e;have:=U q rfl;rw[e]at this;cases this
       have s:q≠⟨0,17,0,0⟩:=by intro e;have:=U q rfl;rw[e]at this;cases this
       have Q:=S.symm;have y:=s.symm;cases fz<;>simp[ak, *,ab.get_put,aQ]
     have hz:my ⟨3,⟨H,F,E⟩,sr,⟨⟨⟨M,L,K⟩,N⟩,(m.toNat:Int)⟩,kW,⟨c1,u32 (val [B,I,c4,c5])⟩,[]⟩=false:=Hl (by simp[Ap,Hc,W]);rw[hz,if_neg (by decide)]at i;unfold ni at i;rw[if_neg W]at hgo;rw[hgo,iQq W,Gk]at hG6;clear hgo hho hhb W hz;rcases w with ⟨rfl,w⟩ | ⟨q,cq,fz,rfl,hq,rfl,T⟩
     ·obtain⟨cp,rfl,hcp⟩:=rV w (by simp);simp[ak, *,ab.get_put,aQ]
     have S:q≠⟨0,2,0,0⟩:=by intro e;have:=U q rfl;rw[e]at this;cases this
     have s:q≠⟨0,17,0,0⟩:=by intro e;have:=U q rfl;rw[e]at this;cases this
     have Q:=S.symm;have y:=s.symm;cases fz<;>simp[ak, *,ab.get_put,aQ]
   have i:nK l=if my (fR l) then .tup [.agg (jS (fR l)++[ru 1 (rows (fR l).l)]),aI 24,aI 0] else ni:=by
    have hs24:jO l=24:=by rw[C];unfold iW;rw[if_neg G,if_neg A]
    unfold nK nD;rw[hs24];have:decide (24<=l.length)=true:=by simpa using t5
    rw[this,kX,kX];rfl
   rw[if_neg G,if_neg A,if_neg G]at o;rw[o]at i;clear o C J;have hC:=pN k H F E sr M L K N m.toNat 0 0 0 0 0 0 (l:=[]) (x:=a9) (.inl ⟨rfl,rfl⟩) (by simp);cases hO:my ⟨k,⟨H,F,E⟩,sr,⟨⟨⟨M,L,K⟩,N⟩,(m.toNat:Int)⟩,⟨⟨0,0,0⟩,0⟩,⟨0,0⟩,[]⟩ with
   | true=>simp only[kW,hO,jS,show ru 1 (rows [])=a9 from rfl,if_true]at i;simp[ak, *,ab.get_put]
   | false=>simp only[kW,hO,ni]at i;simp[ak, *,ab.get_put]
def jy(t:TypeId)(xo a:Operand){n:Int}(h:0<=n):bE env.P .rem t xo a (some (.v (.int .i64 n))) (some (.v (.int .i64 256)))=some (.v (.int .i64 (n % 256)),[]):=by
 rw[Ei env.P t xo a .i64 _ _ (by decide),Kv h]
def jz(t:TypeId)(xo a:Operand){n:Int}(k:Int)(e:1<k)(h:0<=n)(d:n<9223372036854775808):bE env.P .quo t xo a (some (.v (.int .i64 n))) (some (.v (.int .i64 k)))=some (.v (.int .i64 (n / k)),[]):=by
 rw[QY env.P t xo a .i64 _ _ (by omega),Int.tdiv_eq_ediv_of_nonneg h,iQa];have c:0<=n / k:=Int.ediv_nonneg h (by omega);have b:n / k<=n:=Int.ediv_le_self _ h;constructor<;>omega
@[simp] def Tq(n:Int)(l:0<=n)(i:n<9223372036854775808):aK env 133 [aI n,aI 4]=some (.cC 1 (aQ (be 4 n)) none):=by
 refine bo rfl (by kernel_rfl) (ox _ _ _ _ λg=>?_);have j:=λt xo a=>jy t xo a (n:=n) (by omega);have k:=λt xo a=>jz t xo a (n:=n) 256 (by decide) (by omega) (by omega);have h:n / 256 / 256=n / 65536:=by omega
 have r1:=λt xo a=>jy t xo a (n:=(n / 256)) (by omega);have e:=λt xo a=>jz t xo a (n:=(n / 256)) 256 (by decide) (by omega) (by omega);rw[h]at e;have d:n / 65536 / 256=n / 16777216:=by omega
 have r2:=λt xo a=>jy t xo a (n:=(n / 65536)) (by omega);have b:=λt xo a=>jz t xo a (n:=(n / 65536)) 256 (by decide) (by omega) (by omega);rw[d]at b;have f:n / 16777216 / 256=n / 4294967296:=by omega
 have r3:=λt xo a=>jy t xo a (n:=(n / 16777216)) (by omega);have c:=λt xo a=>jz t xo a (n:=(n / 16777216)) 256 (by decide) (by omega) (by omega);rw[f]at c;simp[ak, *,kS];refine aX _ _ _ _ _ _ λg=>?_;simp[ak, *,aT,jx];refine aX _ _ _ _ _ _ λg=>?_;simp[ak, *,aT,jx];refine aX _ _ _ _ _ _ λg=>?_;simp[ak, *,aT,jx];refine aX _ _ _ _ _ _ λg=>?_;simp[ak, *,aT,jx];refine aX _ _ _ _ _ _ λg=>?_;simp[ak, *,aT,jx,wP,aQ]
@[simp] def Tp(n:Int)(w:0<=n)(p:n<9223372036854775808):aK env 133 [aI n,aI 7]=some (.cC 1 (aQ (be 7 n)) none):=by
 refine bo rfl (by kernel_rfl) (ox _ _ _ _ λg=>?_);have q:=λt xo a=>jy t xo a (n:=n) (by omega);have u:=λt xo a=>jz t xo a (n:=n) 256 (by decide) (by omega) (by omega);have o:n / 256 / 256=n / 65536:=by omega
 have r1:=λt xo a=>jy t xo a (n:=(n / 256)) (by omega);have l:=λt xo a=>jz t xo a (n:=(n / 256)) 256 (by decide) (by omega) (by omega);rw[o]at l;have h:n / 65536 / 256=n / 16777216:=by omega
 have r2:=λt xo a=>jy t xo a (n:=(n / 65536)) (by omega);have b:=λt xo a=>jz t xo a (n:=(n / 65536)) 256 (by decide) (by omega) (by omega);rw[h]at b;have m:n / 16777216 / 256=n / 4294967296:=by omega
 have r3:=λt xo a=>jy t xo a (n:=(n / 16777216)) (by omega);have c:=λt xo a=>jz t xo a (n:=(n / 16777216)) 256 (by decide) (by omega) (by omega);rw[m]at c;have i:n / 4294967296 / 256=n / 1099511627776:=by omega
 have s:=λt xo a=>jy t xo a (n:=(n / 4294967296)) (by omega);have j:=λt xo a=>jz t xo a (n:=(n / 4294967296)) 256 (by decide) (by omega) (by omega);rw[i]at j;have f:n / 1099511627776 / 256=n / 281474976710656:=by omega
 have r5:=λt xo a=>jy t xo a (n:=(n / 1099511627776)) (by omega);have k:=λt xo a=>jz t xo a (n:=(n / 1099511627776)) 256 (by decide) (by omega) (by omega);rw[f]at k;have d:n / 281474976710656 / 256=n / 72057594037927936:=by omega
 have v:=λt xo a=>jy t xo a (n:=(n / 281474976710656)) (by omega);have e:=λt xo a=>jz t xo a (n:=(n / 281474976710656)) 256 (by decide) (by omega) (by omega);rw[d]at e;simp[ak, *,kS];refine aX _ _ _ _ _ _ λg=>?_;simp[ak, *,aT,jx];refine aX _ _ _ _ _ _ λg=>?_;simp[ak, *,aT,jx];refine aX _ _ _ _ _ _ λg=>?_;simp[ak, *,aT,jx];refine aX _ _ _ _ _ _ λg=>?_;simp[ak, *,aT,jx];refine aX _ _ _ _ _ _ λg=>?_;simp[ak, *,aT,jx];refine aX _ _ _ _ _ _ λg=>?_;simp[ak, *,aT,jx];refine aX _ _ _ _ _ _ λg=>?_;simp[ak, *,aT,jx];refine aX _ _ _ _ _ _ λg=>?_;simp[ak, *,aT,jx,LZ,aQ]
@[simp] def Yd(a:UInt8)(b:UInt32)(n:UInt8):aK env 106 [.agg [a8 a,cH b,a8 n]]=some (.fsl 1 (aQ (dq ⟨a,b,n⟩)) none):=by
 refine bo rfl (by kernel_rfl) (tf _ _ _ λg=>?_);have d:=b.toNat_lt;have c:=Tq (b.toNat:Int) (by omega) (by omega);simp[ak, *,oa,dq,aQ]
def FL(a:UInt8)(b:UInt32)(n:UInt8)(k:Int)(d:0<=k)(c:k<9223372036854775808):aK env 107 [.agg [a8 a,cH b,a8 n,aI k]]=some (.cC 1 (aQ (cY ⟨⟨a,b,n⟩,k⟩)) none):=by
 refine bo rfl (by kernel_rfl) (tg _ _ _ λg=>?_);have e:=Tp k d c;simp[ak, *,ob,cY,aQ]
def HR{P:Program}{t t':TypeId}(C:qF P t=true)(b:isInt P t'=true)(o:(j6 P t).cells.all AV.one=true)(H:ab)(r q:Ref)(n:Int)(m:Nat){es:List AV}{fz:Bool}(x:H.get q=some ⟨lO P t,es,true,fz⟩)(F:m=es.length)(I:0<n)(D:n<=aY)(p:(m+n.toNat) * tv P t<=aY) :
 dK P true H r (some t) (some t') (.bO q 0 m none) (aI n)=some (.bO ⟨q.d,q.t,H.gen q.d q.t,0⟩ 0 (m+n.toNat) none,(⟨q.d,q.t,H.gen q.d q.t,0⟩,some ⟨lO P t,es++List.replicate n.toNat (j6 P t),true,fz⟩) :: H.put q none):=by
 subst F;unfold qF at C;obtain⟨e,zz,g,l,A,c,B,G,s,u⟩:=fx C;have E:j6 P t=zz:=by unfold j6;rw[g,cR,c];rfl
 rw[E]at o ⊢;have i:(P.underlying t').isNone=false:=by
  unfold isInt at b;cases h:P.underlying t' with
  | none=>rw[h]at b;cases b
  | some d=>rfl
 have v : ¬((P.underlying t').isNone=true\/isInt P t'≠isNum (aI n)):=by rw[i,b];simp[isNum]
 have y : ¬(lO P t≠lO P t\/lO P t=0\/tv P t=0\/zz.cells.length≠lO P t):=by simp[B,s,u]
 have a:lN P H.get e (aI n)=some (lO P t,List.replicate n.toNat zz):=by
  show(match eJ P e,av P e with | some w,some z=>if 0<=n/\n<=aY/\w.cells.length=z/\w.cells.all AV.one then some (z,List.replicate n.toNat w) else none | _,_=>none)=_;rw[c,l];exact if_pos ⟨by omega,D,by simp[B,s,u],o⟩
 have j:List.replicate n.toNat zz≠[]:=by
  intro h;have:=iQh List.length h;simp only[GJ,oq]at this;omega
 have f : ¬(lO P t≠lO P t\/lO P t=0\/tv P t=0\/List.replicate n.toNat zz=[]\/zz.cells.length≠lO P t):=by simp only[j,false_or];exact y
 have k:dY P H.get r (some t) (some t') (.bO q 0 es.length none) (aI n)=none:=by
  simp only[dY,cR,g,Option.map_some,dP,if_neg v,l,A,c,a,if_neg y,if_neg j,x];simp[j]
 simp only[dK,k];simp only[kj,CT,xf,iH,cR,g,Option.map_some,dP,if_neg v,l,A,c,a,if_neg f,x,GJ];unfold aY at p;simp[p]
def KV{l:List Int}{J:AV}(o:Sl 1 (rows l) J)(hl:l.length<100000)(M : ∀n∈l,fK n=true){Q:AV->ab->Prop} :
 ∀(s:List Int)(k:Nat)(i:Int)(a:List Int)(x3:AV)(H:ab),l.drop k=s->k<=l.length->i=k->a.length=k->Fr H->sq [35] 1 (aQ (aU a)) H x3->(a=[]->x3=a9) ->
 (∀y H',sq [35] 1 (aQ (aU (a++s))) H' y->(a++s=[]->y=a9)->Q y H') ->
 bL env Tryz.f109 0 eQ [(4,aI i),(3,x3),(0,J)] H Q:=by
 intro s;induction s with
 | nil=>rintro k i a x5 H hs hk rfl ha hF hO hN hQ;obtain rfl:=drop_nil hs hk;refine ny _ _ _ _ _ λg=>?_;have j:=hQ x5 H (by simpa using hO) (by simpa using hN);clear hQ hO hN;simp[ak, *,dA,o.len];all_goals exact j
 | cons n s I=>
  rintro k i a x5 H hs hk rfl ha hF hO hN hQ;obtain⟨V,Z,A,E⟩:=drop_cons hs;have G:=M n (by rw[<-Z];exact kq _);have e3:=iQa ((k:Int)+1) (by omega);refine ny _ _ _ _ _ λg=>?_;have S:dQ (rows l) k 0 1 false=some (.v (.int .i32 n)):=by simp[rows,E,aR]
  have p:=λF H'=>I (k+1) ((k:Int)+1) (a++[n]) F H' A (by omega) (by simp) (by simp;omega);have j : ∀y H',sq [35] 1 (aQ (aU ((a++[n])++s))) H' y->((a++[n])++s=[]->y=a9)->Q y H':=λy H' h G=>hQ y H' (by simpa using h) (λe=>by simp at e);have q:=ly a;have c:(aQ (aU a)).length=4 * a.length:=by rw[show(aQ (aU a)).length=(aU a).length from by simp,q]
  have f : ∀(g m:Nat)(H':ab),m=4 * a.length+4->H'.get ⟨0,35,g,0⟩=some ⟨1,aQ (aU a)++[a8 (u8 (n / 16777216)),a8 (u8 (n / 65536)),a8 (u8 (n / 256)),a8 (u8 n)],true,false⟩->sq [35] 1 (aQ (aU (a++[n]))) H' (.bO ⟨0,35,g,0⟩ 0 m none):=by
   intro g m H' Y h;subst Y;have e:aQ (aU (a++[n]))=aQ (aU a)++[a8 (u8 (n / 16777216)),a8 (u8 (n / 65536)),a8 (u8 (n / 256)),a8 (u8 n)]:=by simp[aU,wP,aQ]
   rw[e];exact .inr ⟨35,g,by simp,by rw[eS,c];rfl,h⟩
  clear hQ hN I;have w:n = -1\/(0<=n/\n<=1114111):=by
   simp only[fK,lI,bD,iQb]at G;omega
  have O:=λt xo d=>jz t xo d (n:=4294967295) 16777216 (by decide) (by omega) (by omega);have K:=λt xo d=>jz t xo d (n:=4294967295) 65536 (by decide) (by omega) (by omega);have L:=λt xo d=>jz t xo d (n:=4294967295) 256 (by decide) (by omega) (by omega);have R:=λt xo d=>jy t xo d (n:=4294967295) (by omega);have T:=λt xo d=>jy t xo d (n:=65535) (by omega);have W:=λt xo d=>jy t xo d (n:=16777215) (by omega);simp only[show(4294967295:Int) / 16777216=255 by decide,show(4294967295:Int) / 65536=65535 by decide,show(4294967295:Int) / 256=16777215 by decide,show(4294967295:Int) % 256=255 by decide,show(65535:Int) % 256=255 by decide,show(16777215:Int) % 256=255 by decide]at O K L R T W;have hu:u8 255=255:=rfl;have C:u8 (-1)=255:=rfl;rcases w with rfl | ⟨p0,p1⟩
  ·have d1:(-1:Int) / 16777216 = -1:=(by decide);have d2:(-1:Int) / 65536 = -1:=(by decide);have d3:(-1:Int) / 256 = -1:=(by decide);rw[d1,d2,d3,C]at f;have N:IntKind.i64.wrap (-1) = -1:=rfl;rcases hO with ⟨rfl,z⟩ | ⟨t,B,x,rfl,D⟩
   ·have u:a=[]:=(by have:=iQh List.length z;rw[c]at this;simp only[oq]at this;exact we (by omega));subst u;have b:=f (H.gen 0 35) 4;clear f;simp[ak, *,dA,o.r,o.idx];exact p _ _ (by simp(maxDischargeDepth:=12) [rE, *]) (b _ rfl (by simp[aU])) (λe=>by simp at e) j
   rw[l7]at x;subst x;have U:(H.get ⟨0,35,B,0⟩).isSome=true:=by rw[D];rfl
   have P:rB 1 1 (aQ (aU a)).length true none (some ⟨1,aQ (aU a),true,false⟩) (some [a8 255,a8 255,a8 255,a8 255]):=(by rw[aA,c];refine⟨rfl,c.symm ▸ rfl,.inr ⟨?_,rfl⟩⟩;simp;omega);have b:=λH'=>f (H.gen 0 35) ((aQ (aU a)).length+4) H' (by rw[c]);clear f ha c q;generalize aQ (aU a)=bs at *;simp[ak, *,dA,o.r,o.idx];exact p _ _ (by simp(maxDischargeDepth:=12) [rE, *]) (b _ (by simp)) (λe=>by simp at e) j
  have N:=iQa n (by omega);have X : ¬n<0:=by omega
  have p2:0<=n / 65536:=(by omega);have p3:0<=n / 256:=(by omega);have t1:=λt xo d=>jz t xo d (n:=n) 16777216 (by decide) (by omega) (by omega);have t2:=λt xo d=>jz t xo d (n:=n) 65536 (by decide) (by omega) (by omega);have t3:=λt xo d=>jz t xo d (n:=n) 256 (by decide) (by omega) (by omega);have t4:=λt xo d=>jy t xo d (n:=n) (by omega);have t5:=λt xo d=>jy t xo d (n:=n / 65536) (by omega);have t6:=λt xo d=>jy t xo d (n:=n / 256) (by omega);rcases hO with ⟨rfl,z⟩ | ⟨t,B,x,rfl,D⟩
  ·have u:a=[]:=(by have:=iQh List.length z;rw[c]at this;simp only[oq]at this;exact we (by omega));subst u;have b:=f (H.gen 0 35) 4;clear f;simp[ak, *,dA,o.r,o.idx,jx];exact p _ _ (by simp(maxDischargeDepth:=12) [rE, *]) (b _ rfl (by simp[aU])) (λe=>by simp at e) j
  rw[l7]at x;subst x;have U:(H.get ⟨0,35,B,0⟩).isSome=true:=by rw[D];rfl
  have P:rB 1 1 (aQ (aU a)).length true none (some ⟨1,aQ (aU a),true,false⟩) (some [a8 (u8 (n / 16777216)),a8 (u8 (n / 65536)),a8 (u8 (n / 256)),a8 (u8 n)]):=(by rw[aA,c];refine⟨rfl,c.symm ▸ rfl,.inr ⟨?_,rfl⟩⟩;simp;omega);have b:=λH'=>f (H.gen 0 35) ((aQ (aU a)).length+4) H' (by rw[c]);clear f ha c q;generalize aQ (aU a)=bs at *;simp[ak, *,dA,o.r,o.idx,jx];exact p _ _ (by simp(maxDischargeDepth:=12) [rE, *]) (b _ (by simp)) (λe=>by simp at e) j
def Qp{l:List Int}{x:AV}(j:Sl 1 (rows l) x)(m:l.length<100000)(k : ∀n∈l,fK n=true):aK env 109 [x]=some (oR 1 (aQ (aU l))):=by
 refine bo rfl (by kernel_rfl) (uf _ _ _ λg=>?_);have b:=λH Q=>KV j m k (H:=H) (Q:=Q) l 0 0 [] a9 rfl (by omega) rfl rfl;have c : ∀y H',sq [35] 1 (aQ (aU ([]++l))) H' y->([]++l=[]->y=a9)->view H'.get 8 y=some (oR 1 (aQ (aU l))):=by
  intro y H' f a;rw[ko]at f a;rcases f with ⟨rfl,i⟩ | ⟨t,q,p,rfl,o⟩
  ·rw[i];simp[oR]
  have d:aQ (aU l)≠[]:=by
   intro e;have h:=iQh List.length e;have u:=ly l;have s:(aQ (aU l)).length=(aU l).length:=by simp
   simp only[oq]at h;have:l=[]:=we (by omega);cases a this
  rw[qf 1 d];generalize aQ (aU l)=bs at *;simp[o]
 simp[ak, *,oO];exact b _ _ Fr.nil (.inl ⟨rfl,rfl⟩) (λ_=>rfl) c
def Sy(H:ab)(r q:Ref){es:List AV}{fz:Bool}(a:H.get q=some ⟨1,es,true,fz⟩)(b:es.length=24) :
 dK env.P true H r (some 27) (some 3) (.bO q 0 24 none) (aI 13)=some (.bO ⟨q.d,q.t,H.gen q.d q.t,0⟩ 0 37 none,(⟨q.d,q.t,H.gen q.d q.t,0⟩,some ⟨1,es++[a8 0,a8 0,a8 0,a8 0,a8 0,a8 0,a8 0,a8 0,a8 0,a8 0,a8 0,a8 0,a8 0],true,fz⟩) :: H.put q none):=by
 have h:=HR (P:=env.P) (t:=27) (t':=3) (by kernel_rfl) (by kernel_rfl) (by kernel_rfl) H r q 13 24 (es:=es) (fz:=fz) (by rw[R2];exact a) b.symm (by decide) (by decide) (by simp);rw[R2]at h;rw[h];have e:j6 env.P 27=a8 0:=by kernel_rfl
 rw[e];rfl
def xY(w:UInt8)(q:UInt8)(p:UInt32)(s:UInt8)(a:Int)(j:UInt8)(m:UInt32)(k:UInt8)(o:Int)(i:Int)(d:UInt8)(f:UInt32)(b:UInt8)(c:Int)(u:UInt8)(v:UInt32){x:AV}{l:List Int}(N:Sl 1 (rows l) x)(hl:l.length<100000)(L:my (⟨w,⟨q,p,s⟩,a,⟨⟨⟨j,m,k⟩,o⟩,i⟩,⟨⟨d,f,b⟩,c⟩,⟨u,v⟩,l⟩:bp)=true):aK env 84 [.agg [a8 w,a8 q,cH p,a8 s,aI a,a8 j,cH m,a8 k,aI o,aI i,a8 d,cH f,a8 b,aI c,a8 u,cH v,x]]=some (.cC 1 (aQ (ck (⟨w,⟨q,p,s⟩,a,⟨⟨⟨j,m,k⟩,o⟩,i⟩,⟨⟨d,f,b⟩,c⟩,⟨u,v⟩,l⟩:bp))) none):=by
 refine bo rfl (by kernel_rfl) (te _ _ _ λg=>?_);have hr:=N.r;have hp:=lT L;simp only at hp;obtain⟨S,U,⟨R,hf1⟩,P,hm1,T⟩:=hp;have t1:=λt xo C=>jz t xo C (n:=a) 65536 (by decide) (by omega) (by omega);have t2:=λt xo C=>jz t xo C (n:=a) 256 (by decide) (by omega) (by omega);have t3:=λt xo C=>jy t xo C (n:=a / 256) (by omega);have t4:=λt xo C=>jy t xo C (n:=a) (by omega);have b1:=FL j m k o (by omega) (by omega);have X:ml (⟨w,⟨q,p,s⟩,a,⟨⟨⟨j,m,k⟩,o⟩,i⟩,⟨⟨d,f,b⟩,c⟩,⟨u,v⟩,l⟩:bp)=w :: (dq ⟨q,p,s⟩++([u8 (a / 65536),u8 (a / 256),u8 a]++(cY ⟨⟨j,m,k⟩,o⟩++[u8 i]))):=by simp[ml,Sn]
 unfold ck;rw[X];have lh:=ED ⟨q,p,s⟩;have li:=LC ⟨⟨j,m,k⟩,o⟩;rcases T with ⟨rfl,K,H,D,y⟩ | ⟨rfl,K,H,D⟩ | ⟨rfl,H,D,Z⟩
 ·obtain⟨Y,V,I⟩:=KX y;have M : ∀n∈l,fK n=true:=(by have:=y;simp only[D9,bD,eC]at this;exact this.2);have hW:=Qp N hl M;have E:=ly l;have J:aQ (aU l)≠[]:=(by intro e;have:=iQh List.length e;rw[fh,oq]at this;omega);rw[qf 1 J]at hW;have O:(aQ (aU l)).length=4 * l.length:=by rw[fh,E]
  have G : ∀A:List UInt8,aQ (A++aU l)=aQ A++aQ (aU l):=λA=>by simp[aQ]
  rw[if_pos rfl];have f1:37+4 * l.length<=140737488355328:=by omega
  clear Y I y E M L;rcases Bool.eq_false_or_eq_true (iQ ⟨⟨d,f,b⟩,c⟩)with z | z
  ·have B:mY ⟨⟨d,f,b⟩,c⟩=List.replicate 13 0:=by unfold mY;rw[if_pos z]
   rw[B];have F:aQ (1 :: (dq ⟨q,p,s⟩++([u8 (a / 65536),u8 (a / 256),u8 a]++(cY ⟨⟨j,m,k⟩,o⟩++[u8 i])))++(List.replicate 13 0++aU l))=aQ (1 :: (dq ⟨q,p,s⟩++([u8 (a / 65536),u8 (a / 256),u8 a]++(cY ⟨⟨j,m,k⟩,o⟩++[u8 i])))++List.replicate 13 0)++aQ (aU l):=by rw[<-il,G]
   rw[F];clear G F;generalize aQ (aU l)=W at *;simp[ak, *,fa,aQ,jx,dq,cY,wP,LZ];refine jd (Sy _ _ _ rfl rfl) ?_;simp[*];refine⟨by omega,?_⟩;rw[fG];·simp[wP,LZ]
   simp only[lZ];omega
  have B:mY ⟨⟨d,f,b⟩,c⟩=cY ⟨⟨d,f,b⟩,c⟩:=by unfold mY;rw[if_neg (by rw[z];decide)]
  rw[B];have F:aQ (1 :: (dq ⟨q,p,s⟩++([u8 (a / 65536),u8 (a / 256),u8 a]++(cY ⟨⟨j,m,k⟩,o⟩++[u8 i])))++(cY ⟨⟨d,f,b⟩,c⟩++aU l))=aQ (1 :: (dq ⟨q,p,s⟩++([u8 (a / 65536),u8 (a / 256),u8 a]++(cY ⟨⟨j,m,k⟩,o⟩++[u8 i])))++cY ⟨⟨d,f,b⟩,c⟩)++aQ (aU l):=by rw[<-il,G]
  rw[F];have Q:=FL d f b c (by
   rcases H with h | h;· rw[h]at z;cases z
   omega) (by
    rcases H with h | h;· rw[h]at z;cases z
    omega)
  clear G F;generalize aQ (aU l)=W at *;simp[ak, *,fa,aQ,jx,dq,cY,wP,LZ];exact⟨by omega,fG (by simp;omega)⟩
 ·simp[ak, *,fa,aQ,jx,dq,cY,wP,LZ]
 simp[ak, *,fa,aQ,jx,dq,cY,wP,LZ]
def Cd(k:UInt8)(m:Int):Int:=if m<1 then 0 else if 64<m then 0 else if k=1 then 37+4 * m else if k=2 then 24 else if k=3 then 29 else 0
def Qn(k:UInt8)(m:Int):aK env 110 [a8 k,aI m]=some (aI (Cd k m)):=by
 refine bo rfl (by kernel_rfl) (ud _ _ _ _ λg=>?_);unfold Cd;by_cases b:m<1;·simp[ak, *,ew]
 by_cases d:64<m;·simp[ak, *,ew]
 have a:=iQa (4 * m) (by omega);have f:=iQa (37+4 * m) (by omega);by_cases k1:k=1;·simp[ak, *,ew]
 by_cases c:k=2;·simp[ak, *,ew]
 by_cases e:k=3<;>simp[ak, *,ew]
def Ld{l:List Int}{x:AV}(m:Sl 1 (rows l) x)(N:l.length<100000)(z:UInt8)(t:UInt8)(A:UInt32)(w:UInt8)(o:Int)(q:UInt8)(C:UInt32)(B:UInt8)(F:Int)(c:Int)(b:UInt8)(d:UInt32)(j:UInt8)(a:Int)(e:UInt8)(f:UInt32){r:Ref}{H:ab}(M:H.get r=some ⟨17,[.agg [a8 z,a8 t,cH A,a8 w,aI o,a8 q,cH C,a8 B,aI F,aI c,a8 b,cH d,a8 j,aI a,a8 e,cH f,x]],false,false⟩){Q:AV->ab->Prop} :
 ∀(s:List Int)(k:Nat)(i:Int),l.drop k=s->k<=l.length->i=k->(∀y,y=aB (!decide (-1∈s))->Q y H) ->
 bL env Tryz.f82 0 fV [(3,aI i),(1,.ptr r 0 0)] H Q:=by
 intro s;induction s with
 | nil=>rintro k i hs hk rfl hQ;obtain rfl:=drop_nil hs hk;refine mK _ _ _ _ λg=>?_;have I:=m.r;simp[ak, *,gq];all_goals exact hQ _ (by simp)
 | cons n s D=>
  rintro k i hs hk rfl hQ;obtain⟨K,P,p,J⟩:=drop_cons hs;refine mK _ _ _ _ λg=>?_;have O:=iQa ((k:Int)+1) (by omega);have I:=m.r;by_cases G:n = -1;·have E:=hQ (aB false) (by simp[G]);clear hQ D;simp[ak, *,gq,m.idx,rows,aR];all_goals exact E
  have u : ¬ -1=n:=λh=>G h.symm;have v:=D (k+1) ((k:Int)+1) p (by omega) (by simp) (λy L=>hQ y (by rw[L];simp[u]));clear D hQ;simp[ak, *,gq,m.idx,rows,aR];all_goals exact v
def N7(o:UInt8)(m:UInt8)(p:UInt32)(n:UInt8)(j:Int)(k:UInt8)(s:UInt32)(q:UInt8)(t:Int)(c:Int)(b:UInt8)(d:UInt32)(i:UInt8)(a:Int)(f:UInt8)(h:UInt32){x:AV}{l:List Int}(u:Sl 1 (rows l) x)(v:l.length<100000):aK env 82 [.agg [a8 o,a8 m,cH p,a8 n,aI j,a8 k,cH s,a8 q,aI t,aI c,a8 b,cH d,a8 i,aI a,a8 f,cH h,x]]=some (aB (!decide (-1∈l))):=by
 refine bo rfl (by kernel_rfl) (td _ _ _ λg=>?_);have w:=u.r;simp[ak, *,nZ];exact Ld u v o m p n j k s q t c b d i a f h (by simp) l 0 _ rfl (by omega) rfl (λy e=>by simp[e])
def Qm(n:UInt8)(k:UInt8)(o:UInt32)(m:UInt8)(i:Int)(j:UInt8)(q:UInt32)(p:UInt8)(s:Int)(c:Int)(b:UInt8)(d:UInt32)(h:UInt8)(a:Int)(e:UInt8)(f:UInt32){x:AV}{l:List Int}(t:Sl 1 (rows l) x)(w:l.length<100000):aK env 35 [.agg [a8 n,a8 k,cH o,a8 m,aI i,a8 j,cH q,a8 p,aI s,aI c,a8 b,cH d,a8 h,aI a,a8 e,cH f,x]]=some (.agg [a8 n,a8 k,cH o,a8 m,aI i,a8 j,cH q,a8 p,aI s,aI c,a8 b,cH d,a8 h,aI a,a8 e,cH f,oR 1 (rows l)]):=by
 refine bo rfl (by kernel_rfl) (uc _ _ _ λg=>?_);have v:=t.r;have y:l.length<=35184372088832/\l.length * 4<=140737488355328:=by omega
 by_cases u:rows l=[];·simp[ak, *,kR,t.kg,oR]
 rw[qf 1 u];simp[ak, *,kR,t.kg]
def N6(F:UInt8)(D:UInt8)(u:UInt32)(E:UInt8)(K:Int)(A:UInt8)(I:UInt32)(H:UInt8)(L:Int)(c:Int)(k:UInt8)(n:UInt32)(e:UInt8)(i:Int)(d:UInt8)(q:UInt32)(t:UInt8)(B:UInt8)(J:UInt32)(G:UInt8)(z:Int)(s:UInt8)(v:UInt32)(w:UInt8)(C:Int)(o:Int)(h:UInt8)(j:UInt32)(p:UInt8)(f:Int)(a:UInt8)(b:UInt32){x y:AV}{l m:List Int}(M:Sl 1 (rows l) x)(N:Sl 1 (rows m) y)(V:l.length<1000000000)(X:m.length<1000000000):aK env 43 [.agg [a8 F,a8 D,cH u,a8 E,aI K,a8 A,cH I,a8 H,aI L,aI c,a8 k,cH n,a8 e,aI i,a8 d,cH q,x],.agg [a8 t,a8 B,cH J,a8 G,aI z,a8 s,cH v,a8 w,aI C,aI o,a8 h,cH j,a8 p,aI f,a8 a,cH b,y]]=some (aB (qx (⟨F,⟨D,u,E⟩,K,⟨⟨⟨A,I,H⟩,L⟩,c⟩,⟨⟨k,n,e⟩,i⟩,⟨d,q⟩,l⟩:bp) (⟨t,⟨B,J,G⟩,z,⟨⟨⟨s,v,w⟩,C⟩,o⟩,⟨⟨h,j,p⟩,f⟩,⟨a,b⟩,m⟩:bp))):=by
 refine bo rfl (by kernel_rfl) (ue _ _ _ _ λg=>?_);have Q:=Qk M N (by omega);have P:=M.r;have O:=N.r;unfold qx;cases c1:decide (F=t) with
 | false=>simp[ak, *,cN,mj,eZ]
 | true=>
 cases R:(decide (D=B)&&decide (u=J)&&decide (E=G)) with| false=>simp[ak, *,cN,mj,eZ]| true=>
 cases U:decide (K=z) with| false=>simp[ak, *,cN,mj,eZ]| true=>
 cases T:(decide (A=s)&&decide (I=v)&&decide (H=w)&&decide (L=C)&&decide (c=o)) with| false=>simp[ak, *,cN,mj,eZ]| true=>
 cases W:(decide (k=h)&&decide (n=j)&&decide (e=p)&&decide (i=f)) with| false=>simp[ak, *,cN,mj,eZ]| true=>
 cases S:(decide (d=a)&&decide (q=b)) with| false=>simp[ak, *,cN,mj,eZ]| true=>simp[ak, *,cN,mj,eZ]
end
section
def kJ(p:bp × AV):AV := .agg [a8 p.1.kind,a8 p.1.h.lv,cH p.1.h.cats,a8 p.1.h.num,aI p.1.serial,a8 p.1.s.f.h.lv,cH p.1.s.f.h.cats,a8 p.1.s.f.h.num,aI p.1.s.f.n,aI p.1.s.many,
 a8 p.1.a.h.lv,cH p.1.a.h.cats,a8 p.1.a.h.num,aI p.1.a.n,a8 p.1.to.lv,cH p.1.to.cats,p.2]
def a6(l:List (bp × AV)):List AV:=l.map kJ
@[simp] def BO(l:List (bp × AV)):(a6 l).length=l.length:=by simp[a6]
def uS(p:bp × AV):Prop:=Sl 1 (rows p.1.l) p.2/\p.1.l.length<2000000
def bt(many:Nat)(n:Int):Bool:=decide (n<0)||decide (256 ^ many<=n)
structure aD where
 kind:UInt8
 user:Int
 serial:Int
 code:Int
 fromN:Int
 total:Int
 asked:UInt8
 t0:Int
 t1:Int
 t2:Int
 t3:Int
def aD.bu(m:aD)(xo:AV):aP:=⟨12,[.agg [a8 m.kind,aI m.user,aI m.serial,aI m.code,aI m.fromN,aI m.total,a8 m.asked,aI m.t0,aI m.t1,aI m.t2,aI m.t3,xo]],false,false⟩
def kE(n:Nat):Option Nat:=if n=0 then none else if n<=10 then some (n - 1) else none
def aD.val(m:aD)(xo:AV):AV := .agg [a8 m.kind,aI m.user,aI m.serial,aI m.code,aI m.fromN,aI m.total,a8 m.asked,aI m.t0,aI m.t1,aI m.t2,aI m.t3,xo]
def mv:List (bp × AV)->List UInt8 × Bool
 | []=>([],false)
 | p :: l=>if my p.1 then (ck p.1++(mv l).1,(mv l).2) else ([],true)
abbrev AY:=Option (List UInt8 × aD × List (bp × AV))
def rN(many:Nat)(set:aD->Int->aD)(st:AY):AY:=st.bind λ(l,m,ol)=>if l.length<many then none else some (l.drop many,set m (val (l.take many)),ol)
def I8(st:AY):AY:=st.bind λ(l,m,ol)=>if nD l then some (l.drop (jO l),m,ol++[(fR l,lV (fR l).l)]) else none
def vx:Nat->AY->AY
 | 0,st=>st
 | k+1,st=>vx k (I8 st)
def FX(k:Nat):vx k none=none:=by
 induction k with| zero=>rfl| succ k a=>exact a
def sO(st:AY):AY:=st.bind λ(l,m,ol)=>if l.length<1 then none else if 3<val (l.take 1) then none else vx (val (l.take 1)).toNat (some (l.drop 1,m,ol))
def aM(k:UInt8):aD:=⟨k,0,0,0,0,0,0,0,0,0,0⟩
def qC(n:Nat)(st:AY):AY:=match n with
 | 1=>rN 1 (λm v => { m with user:=v}) st
 | 2=>vx 1 st
 | 3=>rN 3 (λm v => { m with fromN:=v}) st
 | 4=>rN 1 (λm v => { m with asked:=u8 v}) st
 | 5=>st
 | 6=>rN 2 (λm v => { m with code:=v}) st
 | 7=>rN 2 (λm v => { m with code:=v}) (rN 3 (λm v => { m with serial:=v}) st)
 | 8=>sO (rN 3 (λm v => { m with total:=v}) (rN 3 (λm v => { m with fromN:=v}) st))
 | 9=>rN 3 (λm v => { m with t3:=v}) (rN 3 (λm v => { m with t2:=v}) (rN 3 (λm v => { m with t1:=v}) (rN 3 (λm v => { m with t0:=v}) (rN 1 (λm v => { m with asked:=u8 v}) st))))
 | 10=>rN 2 (λm v => { m with code:=v}) st
 | _=>none
def eK(n:Nat)(m:aD)(ol:List (bp × AV)):List UInt8 × Bool:=match n with
 | 1=>(be 1 m.user,bt 1 m.user)
 | 2=>mv ol
 | 3=>(be 3 m.fromN,bt 3 m.fromN)
 | 4=>([m.asked],false)
 | 5=>([],false)
 | 6=>(be 2 m.code,bt 2 m.code)
 | 7=>(be 3 m.serial++be 2 m.code,bt 3 m.serial||bt 2 m.code)
 | 8=>(be 3 m.fromN++(be 3 m.total++([u8 (ol.length:Int)]++(mv ol).1)),bt 3 m.fromN||bt 3 m.total||decide (3<ol.length)||(mv ol).2)
 | 9=>([m.asked]++(be 3 m.t0++(be 3 m.t1++(be 3 m.t2++be 3 m.t3))),bt 3 m.t0||(bt 3 m.t1||(bt 3 m.t2||bt 3 m.t3)))
 | 10=>(be 2 m.code,bt 2 m.code)
 | _=>([],true)
def jV(n:Nat)(m:aD)(ol:List (bp × AV)):Bool:=match n with
 | 2=>(match ol with | [p] => !decide (-1∈p.1.l) | _=>false)
 | 4=>decide (m.asked=1)||decide (m.asked=2)
 | 7=>decide (0<m.serial)
 | 9=>decide (m.asked=1)||decide (m.asked=2)
 | _=>true
def fl{l:List UInt8}{k:Nat}(h : ¬l.length<k):be k (val (l.take k))=l.take k/\bt k (val (l.take k))=false:=by
 have a:(l.take k).length=k:=by rw[kp];omega
 refine⟨AM a,?_⟩;have b:=ku (l.take k);rw[a]at b;simp only[bt,Dq,iQd];omega
def G3{l:List UInt8}(h : ¬l.length<1):[u8 (val (l.take 1))]=l.take 1:=by
 have:=(fl h).1;simpa [be] using this
def mh{many:Nat}{set:aD->Int->aD}{st:AY}{c:List UInt8}{b:aD}{a:List (bp × AV)}(h:rN many set st=some (c,b,a)) :
 ∃l m,st=some (l,m,a) /\¬l.length<many/\c=l.drop many/\b=set m (val (l.take many)):=by
 cases st with| none=>cases h| some s=>
  obtain⟨l,m,ol⟩:=s;simp only[rN,cR]at h;split at h;·cases h
  rename_i d;cases h;exact⟨l,m,rfl,d,rfl,rfl⟩
def Rg{st:AY}{c:List UInt8}{b:aD}{a:List (bp × AV)}(h:I8 st=some (c,b,a)) :
 ∃l ol o,st=some (l,b,ol)/\my o=true/\l=ck o++c/\a=ol++[(o,lV o.l)]:=by
 cases st with| none=>cases h| some s=>
  obtain⟨l,m,ol⟩:=s;simp only[I8,cR]at h;split at h;·rename_i f;obtain⟨e,d,g,i⟩:=uK f;cases h;exact⟨l,ol,fR l,rfl,d,by rw[e,mA],rfl⟩
  cases h
def Cs(ol:List (bp × AV)):Prop :=∀p∈ol,my p.1=true/\p.2=lV p.1.l
def FV(k:Nat) : ∀ {st:AY} {c:List UInt8} {d:aD} {a:List (bp × AV)},vx k st=some (c,d,a) ->
 ∃l ol b,st=some (l,d,ol)/\a=ol++b/\b.length=k/\Cs b/\l=(mv b).1++c/\(mv b).2=false:=by
 induction k with| zero=>intro st c d a h;exact⟨c,a,[],h,(mz _).symm,rfl,λp hp=>by simp at hp,rfl,rfl⟩| succ k m=>
  intro st c d a h;obtain⟨s,i,b,e,g,j,q,n,f⟩:=m (h:vx k (I8 st)=_);obtain⟨l,ol,o,f1,f2,f3,f4⟩:=Rg e;refine⟨l,ol,(o,lV o.l) :: b,f1,by rw[g,f4,il];rfl,by simp[j],?_,?_,?_⟩
  ·intro p hp;rcases dG.1 hp with rfl | hp
   ·exact⟨f2,rfl⟩
   exact q p hp
  ·simp only[mv,f2,if_true];rw[f3,n,il]
  simp only[mv,f2,if_true];exact f
def Lf{st:AY}{c:List UInt8}{b:aD}{a:List (bp × AV)}(h:sO st=some (c,b,a)) :
 ∃l m ol,st=some (l,m,ol) /\¬l.length<1 /\¬3<val (l.take 1)/\vx (val (l.take 1)).toNat (some (l.drop 1,m,ol))=some (c,b,a):=by
 cases st with| none=>cases h| some s=>
  obtain⟨l,m,ol⟩:=s;simp only[sO,cR]at h;split at h;·cases h
  split at h;·cases h
  rename_i d e;exact⟨l,m,ol,rfl,d,e,h⟩
def F7{n:Nat}{k:UInt8}{l t:List UInt8}{m:aD}{ol:List (bp × AV)}(h:qC n (some (l,aM k,[]))=some (t,m,ol)) :
 m.kind=k/\Cs ol/\ol.length<=3/\(n=2->ol.length=1)/\(n≠2->n≠8->ol=[])/\l=(eK n m ol).1++t/\(eK n m ol).2=false:=by
 have g:Cs []:=λp hp=>by simp at hp
 unfold qC at h;split at h;·obtain⟨f,i,b,a,c,d⟩:=mh h;cases b;obtain⟨e,f2⟩:=fl a;subst d c;exact⟨rfl,g,by simp,by simp,λ_ _=>rfl,by simp only[eK,e,mA],f2⟩
 ·obtain⟨f,D,nl,b,a,c,d,R,I⟩:=FV 1 h;cases b;rw[ko]at a;subst a;exact⟨rfl,d,by omega,λ_=>c,λh=>absurd rfl h,R,I⟩
 ·obtain⟨f,i,b,a,c,d⟩:=mh h;cases b;obtain⟨e,f2⟩:=fl a;subst d c;exact⟨rfl,g,by simp,by simp,λ_ _=>rfl,by simp only[eK,e,mA],f2⟩
 ·obtain⟨f,i,b,a,c,d⟩:=mh h;cases b;have e:=G3 a;subst d c;exact⟨rfl,g,by simp,by simp,λ_ _=>rfl,by simp only[eK,e,mA],rfl⟩
 ·cases h;exact⟨rfl,g,by simp,by simp,λ_ _=>rfl,rfl,rfl⟩
 ·obtain⟨f,i,b,a,c,d⟩:=mh h;cases b;obtain⟨e,f2⟩:=fl a;subst d c;exact⟨rfl,g,by simp,by simp,λ_ _=>rfl,by simp only[eK,e,mA],f2⟩
 ·obtain⟨u,s,b,a,c,d⟩:=mh h;obtain⟨f,i,d1,d2,d3,d4⟩:=mh b;cases d1;obtain⟨e,f2⟩:=fl a;obtain⟨c1,j⟩:=fl d2;subst d c d4;refine⟨rfl,g,by simp,by simp,λ_ _=>rfl,?_,?_⟩;·simp only[eK,e,c1,il,mA];rw[d3,mA]
  simp only[eK,f2,j,vY]
 ·obtain⟨q,H,w,M,G,V,S⟩:=Lf h;obtain⟨u,s,b,a,c,d⟩:=mh M;obtain⟨f,i,d1,d2,d3,d4⟩:=mh b;cases d1;obtain⟨E,C,nl,b1,b2,b3,b4,B,N⟩:=FV _ S;cases b1;rw[ko]at b2;subst b2;obtain⟨e,f2⟩:=fl a;obtain⟨c1,j⟩:=fl d2;have W:=ku (q.take 1);have o:((ol.length:Nat):Int)=val (q.take 1):=by rw[b3];omega
  have v:=G3 G;rw[<-o]at v;subst d d4;refine⟨rfl,b4,by omega,λh=>absurd h (by decide),λ_ h=>absurd rfl h,?_,?_⟩;·simp only[eK,e,c1,il];rw[<-B,v,mA,c,mA,d3,mA]
  have:decide (3<ol.length)=false:=by rw[iQd];omega
  simp only[eK,f2,j,this,N,vY]
 ·obtain⟨E,Y,O,T,P,Q⟩:=mh h;obtain⟨U,X,F,x,y,J⟩:=mh O;obtain⟨q,H,r1,r2,r3,A⟩:=mh F;obtain⟨u,s,b,a,c,d⟩:=mh r1;obtain⟨f,i,d1,d2,d3,d4⟩:=mh b;cases d1;obtain⟨K,z⟩:=fl T;obtain⟨b1,b2⟩:=fl x;obtain⟨c1,j⟩:=fl r2;obtain⟨e,f2⟩:=fl a;have L:=G3 d2;subst Q J A d d4;refine⟨rfl,g,by simp,by simp,λ_ _=>rfl,?_,?_⟩;·simp only[eK,K,b1,c1,e,L,il];rw[P,mA,y,mA,r3,mA,c,mA,d3,mA]
  simp only[eK,z,b2,j,f2,vY]
 ·obtain⟨f,i,b,a,c,d⟩:=mh h;cases b;obtain⟨e,f2⟩:=fl a;subst d c;exact⟨rfl,g,by simp,by simp,λ_ _=>rfl,by simp only[eK,e,mA],f2⟩
 cases h
def opsV(ol:List (bp × AV)):AV:=if ol=[] then a9 else .cC 17 (a6 ol) none
def Ah(ol:List (bp × AV)):Sl 17 (a6 ol) (opsV ol):=by
 unfold opsV;split;·rename_i h;subst h;exact .inl ⟨rfl,rfl⟩
 exact .inr ⟨none,rfl,aV _⟩
def getM:List UInt8->Option (aD × List (bp × AV))
 | []=>none
 | k :: l=>match qC k.toNat (some (l,aM k,[])) with
  | some (a,m,ol)=>if a=[] then (if jV k.toNat m ol then some (m,ol) else none) else none
  | none=>none
def zl{n:Nat}(h:kE n=none)(st:AY):qC n st=none:=by
 have:n=0\/10<n:=by
  unfold kE at h;split at h;·omega
  split at h;·cases h
  omega
 unfold qC;split<;>first | rfl | omega
def dx:List (bp × AV)->List (bp × AV)->Bool
 | [],[]=>true
 | p :: s,q :: t=>qx p.1 q.1&&dx s t
 | _,_=>false
def Qf{a b:bp}(h:qx a b=true):a=b:=by
 obtain⟨B,⟨z,D,A⟩,t,⟨⟨⟨w,F,E⟩,I⟩,k⟩,⟨⟨j,l,q⟩,f⟩,⟨n,p⟩,L⟩:=a;obtain⟨v,⟨x,G,C⟩,s,⟨⟨⟨u,H,J⟩,y⟩,m⟩,⟨⟨d,i,o⟩,c⟩,⟨e,g⟩,K⟩:=b;simp[qx]at h;simp[h]
def D3(a:bp):qx a a=true:=by simp[qx]
def xX : ∀ {l m:List (bp × AV)},dx l m=true->l.map (·.1)=m.map (·.1)
 | [],[],_=>rfl
 | p :: s,q :: t,h=>by
  simp only[dx,bD]at h;simp only[sW,Qf h.1,xX h.2]
 | [],q :: t,h=>by cases h
 | p :: s,[],h=>by cases h
def Bs : ∀ {l m:List (bp × AV)},l.map (·.1)=m.map (·.1)->dx l m=true
 | [],[],_=>rfl
 | p :: s,q :: t,h=>by
  simp only[sW,wa]at h;simp only[dx,h.1,D3,Bs h.2,sV]
 | [],q :: t,h=>by cases h
 | p :: s,[],h=>by cases h
def nO(a b:aD):Bool:=decide (a.kind=b.kind)&&(decide (a.user=b.user)&&(decide (a.serial=b.serial)&&(decide (a.code=b.code)&&(decide (a.fromN=b.fromN)&&(decide (a.total=b.total)&&(decide (a.asked=b.asked) &&
 (decide (a.t0=b.t0)&&(decide (a.t1=b.t1)&&(decide (a.t2=b.t2)&&decide (a.t3=b.t3))))))))))
def IG{a b:aD}(h:nO a b=true):a=b:=by
 obtain⟨k,u,m,co,fr,to,a,t0,t1,t2,t3⟩:=a;obtain⟨k',o,i,j,l,d,n,c,g,e,f⟩:=b;simp[nO]at h;simp[h]
def rW(a:aD):nO a a=true:=by simp[nO]
def uA(m:aD)(l:List (bp × AV)):Bool:=decide (m.kind=8)||(decide (m.kind=2)&&decide (l.length=1))||(decide (l.length=0) && !decide (m.kind=2))
def Gl(m:aD)(l:List (bp × AV)):Option (aD × List (bp × AV))->Bool
 | some (b,a)=>nO b m&&dx a l
 | none=>false
def nA(m:aD)(l:List (bp × AV)):Bool:=(kE m.kind.toNat).isSome&&uA m l && !(eK m.kind.toNat m l).2&&jV m.kind.toNat m l&&Gl m l (getM (m.kind :: (eK m.kind.toNat m l).1))
def Aa(m:aD)(l:List (bp × AV))(y:AV):Prop:=if nA m l then ∃z,y = .tup [z,aI 0]/\Sl 1 (aQ (m.kind :: (eK m.kind.toNat m l).1)) z else y = .tup [a9,aI 8]
def rH{m:aD}{l:List (bp × AV)}(h:nA m l=false):Aa m l (.tup [a9,aI 8]):=by
 unfold Aa;rw[h];rfl
def AD{b:List UInt8}{m:aD}{ol:List (bp × AV)}(h:getM b=some (m,ol)):Cs ol/\ol.length<=3/\kE m.kind.toNat≠none/\(m.kind.toNat=2->ol.length=1)/\(m.kind.toNat≠2->m.kind.toNat≠8->ol=[])/\b=m.kind :: (eK m.kind.toNat m ol).1/\(eK m.kind.toNat m ol).2=false/\jV m.kind.toNat m ol=true:=by
 cases b with| nil=>cases h| cons k l=>
  have h:(match qC k.toNat (some (l,aM k,[]))with | some (c,m,ol)=>if c=[] then (if jV k.toNat m ol then some (m,ol) else none) else none | none=>none)=some (m,ol):=h;cases a:qC k.toNat (some (l,aM k,[])) with
  | none=>rw[a]at h;cases h
  | some s=>
   obtain⟨c,o,f⟩:=s;rw[a]at h;simp only at h;split at h
   ·rename_i d;split at h;·rename_i g;cases h;obtain⟨b1,b2,b3,b4,j,n,i⟩:=F7 a;subst b1;refine⟨b2,b3,λe=>?_,b4,j,by rw[n,d,mz],i,g⟩;rw[zl e]at a;cases a
    cases h
   cases h
def Jw{ol:List (bp × AV)}(h:Cs ol) : ∀p∈ol,uS p:=λp hp=>by
 obtain⟨c1,b⟩:=h p hp;refine⟨by rw[b];exact qe _,?_⟩;rcases(lT c1)with ⟨_,_,_,_,a,⟨_,_,_,h,_⟩ | ⟨_,_,_,h⟩ | ⟨_,_,h,_⟩⟩
 ·omega
 ·rw[h];simp
 rw[h];simp
def get_put{b:List UInt8}{m:aD}{ol:List (bp × AV)}(h:getM b=some (m,ol)):nA m ol=true/\b=m.kind :: (eK m.kind.toNat m ol).1/\Cs ol/\ol.length<=3:=by
 obtain⟨f,p,o,e,i,c,k,g⟩:=AD h;refine⟨?_,c,f,p⟩;have j:(kE m.kind.toNat).isSome=true:=by
  cases l:kE m.kind.toNat with| none=>exact absurd l o| some _=>rfl
 have q:uA m ol=true:=by
  by_cases d:m.kind=8;·simp[uA,d]
  by_cases a:m.kind=2;·have:=e (by rw[a];rfl);simp[uA,a,this]
  have:=i (λh=>a (pr.1 h)) (λh=>d (pr.1 h));simp[uA,a,this]
 have n:Gl m ol (getM (m.kind :: (eK m.kind.toNat m ol).1))=true:=by
  rw[<-c,h];simp only[Gl,rW,Bs,sV]
 simp only[nA,j,q,n,k,g,sF,sV]
end
section
attribute [local simp] a7 aL au aJ aH bF kV bc aA aN cw cu aY ba ah bG fG
def zb{v:AV}{l:List UInt8}(i:Sl 1 (aQ l) v)(k:l.length=6):aK env 111 [v]=some (.agg [a8 (iY l).lv,cH (iY l).cats,a8 (iY l).num]):=by
 obtain⟨a,b,c,d,e,f,rfl⟩:=KM k;obtain⟨y,rfl,o⟩:=rV i (by simp[aQ]);refine bo rfl (by kernel_rfl) (sy _ _ _ λg=>?_);have x:=b.toNat_lt;have m:=c.toNat_lt;have n:=d.toNat_lt;have t:=e.toNat_lt;have q:=iQa ((b.toNat:Int)) (by omega);have p:=iQa (256 * (b.toNat:Int)) (by omega);have A:=iQa (256 * (b.toNat:Int)+c.toNat) (by omega);have s:=iQa (256 * (256 * (b.toNat:Int)+c.toNat)) (by omega);have w:=iQa (256 * (256 * (b.toNat:Int)+c.toNat)+d.toNat) (by omega);have z:=iQa (256 * (256 * (256 * (b.toNat:Int)+c.toNat)+d.toNat)) (by omega);have u:=iQa (256 * (256 * (256 * (b.toNat:Int)+c.toNat)+d.toNat)+e.toNat) (by omega);have j:val [b,c,d,e]=256 * (256 * (256 * (b.toNat:Int)+c.toNat)+d.toNat)+e.toNat:=by simp[val,zT]
 have h:iY [a,b,c,d,e,f]=⟨a,u32 (val [b,c,d,e]),f⟩:=rfl;rw[h,j];simp[ak, *,nG];refine dV _ _ _ _ _ _ λg=>?_;simp[ak, *,db,aQ];refine dV _ _ _ _ _ _ λg=>?_;simp[ak, *,db,aQ];refine dV _ _ _ _ _ _ λg=>?_;simp[ak, *,db,aQ];refine dV _ _ _ _ _ _ λg=>?_;simp[ak, *,db,aQ];refine dV _ _ _ _ _ _ λg=>?_;simp[ak, *,db,aQ]
def QF{e:AV}{l:List UInt8}(j:Sl 1 (aQ l) e)(p:l.length=13){r:Ref}{c0:aP}{H:ab}(q:H.get r=some ⟨4,[.agg [a8 0,cH 0,a8 0,aI 0]],false,false⟩){Q:AV->ab->Prop}
 (f : ∀n,n=val (l.drop 6)->bL env Tryz.f112 0 fu [(4,aI 13),(0,e),(3,aI n),(2,.ptr r 0 0)] H Q) :
 ∀(s:List UInt8)(k:Nat)(i a:Int),l.drop k=s->k<=l.length->i=k->6<=k->0<=a->a<256 ^ (k - 6)->zT a s=val (l.drop 6) ->
 bL env Tryz.f112 0 fu [(4,aI i),(0,e),(3,aI a),(2,.ptr r 0 0)] H Q:=by
 intro s;induction s with
 | nil=>rintro k i a hs hk rfl h6 h0 h1 hV;obtain rfl:=drop_nil hs hk;rw[p];exact f a hV
 | cons b s h=>
  rintro k i a hs hk rfl h6 h0 h1 hV;obtain⟨o,y,c,m⟩:=drop_cons hs;have t:=b.toNat_lt;have x:(256:Int) ^ (k - 6)<=256 ^ 6:=by
   have:=BA (k:=k - 6) 6 (by omega);exact this
  refine ow _ _ _ _ _ _ λg=>?_;have v:=iQa (256 * a) (by omega);have u:=iQa (256 * a+b.toNat) (by omega);have w:=iQa ((k:Int)+1) (by omega);have lt:(k:Int)<13:=by omega
  have d:=h (k+1) ((k:Int)+1) (256 * a+b.toNat) c (by omega) (by simp) (by omega) (by omega) (by
   rw[show k+1 - 6=(k - 6)+1 by omega,Ba];omega) (by rw[<-hV];rfl)
  clear h f;simp[ak, *,kQ,j.idx];all_goals exact d
def Ql{v:AV}{l:List UInt8}(x:Sl 1 (aQ l) v)(t:l.length=13):aK env 112 [v]=some (.agg [a8 (ic l).h.lv,cH (ic l).h.cats,a8 (ic l).h.num,aI (ic l).n]):=by
 refine bo rfl (by kernel_rfl) (wN _ _ _ λg=>?_);simp[ak, *,pD];refine QF x t (c0:=default) (by simp) (λn u=>?_) (l.drop 6) 6 6 0 rfl (by omega) rfl (by omega) (by omega) (by simp) rfl;refine ow _ _ _ _ _ _ λg=>?_;have e:ic l=⟨iY l,n⟩:=by rw[u];rfl
 have z:iY (l.take 6)=iY l:=by
  obtain⟨a,b,c,d,e,f,g,i,j,k,m,n,o,rfl⟩:=xi t;rfl
 rw[e];clear u e;obtain⟨w,rfl,q⟩:=rV x (by simp;omega);have s:=λc q=>zb (v := .cC 1 (aQ (l.take 6)) c) (l:=l.take 6) (.inr ⟨c,rfl,q⟩) (by simp;omega);rw[z]at s;have y:aQ (l.take 6)=(aQ l).take 6:=by simp[aQ]
 rw[y]at s;have p:(aQ l).length=13:=by rw[fh,t]
 have A:=s w (by rw[p]at q;rw[kp,p];cases w with | none=>simp | some c=>simp at q ⊢;omega);clear s;generalize iY l=ha at *;simp[ak, *,kQ]
def NJ(a b c d:UInt8):word a b c d=(if val [a,b,c,d]=4294967295 then -1 else if val [a,b,c,d]<2147483648 then val [a,b,c,d] else val [a,b,c,d] - 4294967296)/\0<=val [a,b,c,d]/\val [a,b,c,d]<4294967296:=by
 have h:=ku [a,b,c,d];simp only[lZ,oq]at h;have e:val [a,b,c,d]<4294967296:=by have:=h.2;simpa using this
 refine⟨?_,h.1,e⟩;unfold word;rw[iQu];split;·omega
 split<;>omega
def Xu(a b c d:UInt8):IntKind.i64.wrap (16777216 * (a.toNat:Int))=16777216 * (a.toNat:Int)/\IntKind.i64.wrap (65536 * (b.toNat:Int))=65536 * (b.toNat:Int) /\
 IntKind.i64.wrap (16777216 * (a.toNat:Int)+65536 * (b.toNat:Int))=16777216 * (a.toNat:Int)+65536 * (b.toNat:Int)/\IntKind.i64.wrap (256 * (c.toNat:Int))=256 * (c.toNat:Int) /\
 IntKind.i64.wrap (16777216 * (a.toNat:Int)+65536 * (b.toNat:Int)+256 * (c.toNat:Int))=16777216 * (a.toNat:Int)+65536 * (b.toNat:Int)+256 * (c.toNat:Int) /\
 16777216 * (a.toNat:Int)+65536 * (b.toNat:Int)+256 * (c.toNat:Int)+(d.toNat:Int)=val [a,b,c,d]/\IntKind.i64.wrap (val [a,b,c,d])=val [a,b,c,d]:=by
 have f:=a.toNat_lt;have i:=b.toNat_lt;have g:=c.toNat_lt;have h:=d.toNat_lt;have e:16777216 * (a.toNat:Int)+65536 * (b.toNat:Int)+256 * (c.toNat:Int)+(d.toNat:Int)=val [a,b,c,d]:=by simp[val,zT];omega
 exact⟨iQa _ (by omega),iQa _ (by omega),iQa _ (by omega),iQa _ (by omega),iQa _ (by omega),e,iQa _ (by omega)⟩
def K4{bs:List UInt8}{x0:AV}(E:Sl 1 (aQ bs) x0)(hl:bs.length<1000000)(h4:bs.length % 4=0){Q:AV->ab->Prop} :
 ∀(m k:Nat)(s:List UInt8)(i:Int)(out:List Int)(K:AV)(H:ab),bs.drop k=s->s.length=4 * m->k<=bs.length->i=k->out.length<=k->Fr H->sq [50,57] 1 (rows out) H K->(out=[]->K=a9) ->
 (∀y H',(words s).all fK=true->sq [50,57] 1 (rows (out++words s)) H' y->(out++words s=[]->y=a9)->Q (.tup [y,aI 0]) H')->((words s).all fK=false ->∀H',Q (.tup [a9,aI 8]) H') ->
 bL env Tryz.f113 0 dN [(5,aI i),(4,K),(0,x0)] H Q:=by
 intro m;induction m with
 | zero=>
  rintro k s i out K H hs I hk rfl ho hF hO hN hQ hQ2;obtain rfl:s=[]:=wc.1 (by omega);have O:=iQh List.length hs;rw[rP,oq]at O;have e1 : ¬((k:Int)+3<bs.length):=by omega
  have w1:=iQa ((k:Int)+3) (by omega);have e2:(bs.length:Int).tmod 4=0:=by rw[Kv (by omega)];omega
  have X:=λt xo yo=>Ei env.P t xo yo .i64 (bs.length:Int) 4 (by decide);rw[e2]at X;have hr:=E.r;have G:=hQ K H rfl (by simpa [words] using hO) (by simpa [words] using hN);refine gU _ _ _ _ _ λg=>?_;clear hQ hQ2 hO hN;simp[ak, *,cZ];all_goals exact G
 | succ m ih=>
  rintro k s i out K H hs I hk rfl ho hF hO hN hQ hQ2;match s,I with
  | a :: b :: c :: d :: s,I=>
  simp only[lZ]at I;have O:=iQh List.length hs;rw[rP]at O;simp only[lZ]at O;have L:bs.drop (k+4)=s:=by rw[<-lY,hs];rfl
  have hw:words (a :: b :: c :: d :: s)=word a b c d :: words s:=rfl;rw[hw]at hQ hQ2;have J : ∀j,(bs.drop k)[j]?=bs[k+j]?:=λj=>wZ;rw[hs]at J;have ga:bs[k]?=some a:=(J 0).symm;have gb:bs[k+1]?=some b:=(J 1).symm;have gc:bs[k+2]?=some c:=(J 2).symm;have gd:bs[k+3]?=some d:=(J 3).symm;clear J;have w1:=iQa ((k:Int)+1) (by omega);have w2:=iQa ((k:Int)+2) (by omega);have w3:=iQa ((k:Int)+3) (by omega);have w4:=iQa ((k:Int)+4) (by omega);have l1:(k:Int)<bs.length/\(k:Int)+1<bs.length/\(k:Int)+2<bs.length/\(k:Int)+3<bs.length:=by omega
  have l2:0<=(k:Int)/\0<=(k:Int)+1/\0<=(k:Int)+2/\0<=(k:Int)+3:=(by omega);have l3:((k:Int)+1).toNat=k+1/\((k:Int)+2).toNat=k+2/\((k:Int)+3).toNat=k+3:=(by omega);have f1:out.length+1<=35184372088832:=(by omega);have f2:(out.length+1) * 4<=140737488355328:=(by omega);have a1:k+4<=bs.length:=(by omega);have a2:(out++[word a b c d]).length<=k+4:=by simp;omega
  have a3:s.length=4 * m:=(by omega);obtain⟨v1,v2,v3,v4,v5,eV,v6⟩:=Xu a b c d;obtain⟨u,u0,u1⟩:=NJ a b c d;have l1:(k:Int)<bs.length/\(k:Int)+1<bs.length/\(k:Int)+2<bs.length/\(k:Int)+3<bs.length:=by omega
  have l2:0<=(k:Int)/\0<=(k:Int)+1/\0<=(k:Int)+2/\0<=(k:Int)+3:=(by omega);have l3:((k:Int)+1).toNat=k+1/\((k:Int)+2).toNat=k+2/\((k:Int)+3).toNat=k+3:=(by omega);have hr:=E.r;have S:=λq H'=>ih (k+4) s ((k:Int)+4) (out++[word a b c d]) q H' L a3 a1 (by simp) a2;have l : ∀(t g m:Nat)(H':ab),t=50\/t=57->m=out.length+1->H'.get ⟨0,t,g,0⟩=some ⟨1,rows out++[aR (word a b c d)],true,false⟩->sq [50,57] 1 (rows (out++[word a b c d])) H' (.bO ⟨0,t,g,0⟩ 0 m none):=by
   intro t g m H' x I h;subst I;have e:rows (out++[word a b c d])=rows out++[aR (word a b c d)]:=by simp[rows]
   rw[e];exact .inr ⟨t,g,by simpa using x,by simp,h⟩
  have p:fK (word a b c d)=true ->∀q H',Fr H'->sq [50,57] 1 (rows (out++[word a b c d])) H' q->bL env Tryz.f113 0 dN [(5,aI ((k:Int)+4)),(4,q),(0,x0)] H' Q:=λz q H' Z Y=>S q H' Z Y (λe=>by simp at e)
   (λy H' h1 h2 h3=>hQ y H' (by simp[z,h1]) (by simpa using h2) (λe=>by simp at e)) (λh1 H'=>hQ2 (by simp[z,h1]) H')
  have f:fK (word a b c d)=false ->∀H',Q (.tup [a9,aI 8]) H':=λz H'=>hQ2 (by simp[z]) H';clear a1 a2 a3 S hQ hQ2 ih hs L hw O I hl;generalize words s=ws at *;by_cases F:val [a,b,c,d]=4294967295
  ·have U:word a b c d = -1:=(by rw[u,if_pos F]);rw[U]at l p f;have o:=p (by decide);clear p f u;refine gU _ _ _ _ _ λg=>?_;rcases hO with ⟨rfl,V⟩ | ⟨t,W,x,rfl,C⟩
   ·have B:out=[]:=(by simpa using V);subst B;have n:=l 50 (H.gen 0 50) 1;clear l;simp[ak, *,cZ,E.idx];exact o _ _ (by simp(maxDischargeDepth:=12) [rE, *]) (n _ (.inl rfl) rfl (by simp[aR]))
   have l6:(H.get ⟨0,t,W,0⟩).isSome=true:=by rw[C];rfl
   have D:t=50\/t=57:=(by simpa using x);have A:t≠49:=by rintro rfl;simp at x
   have M : ¬49=t:=λe=>A e.symm;have f4:rB 1 4 out.length true none (some ⟨1,rows out,true,false⟩) (some [.v (.int .i32 (-1))]):=(by rw[aA];refine⟨rfl,by simp,.inr ⟨?_,rfl⟩⟩;simpa using f2);have n:=λm H'=>l t (H.gen 0 t) m H' D;clear l x;simp[ak, *,cZ,E.idx];exact o _ _ (by simp(maxDischargeDepth:=12) [rE, *]) (n _ _ (by simp) (by simp[aR]))
  cases T:qM (val [a,b,c,d]) with| false=>have hq:fK (word a b c d)=false:=(by rw[u,if_neg F];simp only[qM,Dq,Bg,iQd]at T;simp only[fK,Dq,Bg,iQd];split<;>omega);have G:=f hq H;have hI:=Qq (val [a,b,c,d]);rw[T]at hI;clear p l f u hq hO hN;refine gU _ _ _ _ _ λg=>?_;simp[ak, *,cZ,E.idx];all_goals exact G| true=>
   have z:val [a,b,c,d]<2147483648/\fK (val [a,b,c,d])=true:=(by simp only[qM,lI,bD,iQb]at T;simp only[fK,lI,bD,iQb];omega);have U:word a b c d=val [a,b,c,d]:=(by rw[u,if_neg F,if_pos z.1]);rw[U]at l p f;have o:=p z.2;have hI:=Qq (val [a,b,c,d]);rw[T]at hI;have R:IntKind.i32.wrap (val [a,b,c,d])=val [a,b,c,d]:=by rw[iQu];omega
   have N:=λ(g:cb)(r:Ref)=>oz (P:=env.P) (g:=g) (r:=r) (src:=3) (dst:=21) .i32 (k' := .i64) (by kernel_rfl) (by kernel_rfl) (val [a,b,c,d]);rw[R]at N;clear p f u z U T R;generalize val [a,b,c,d]=w at *;refine gU _ _ _ _ _ λg=>?_;rcases hO with ⟨rfl,V⟩ | ⟨t,W,x,rfl,C⟩
   ·have B:out=[]:=(by simpa using V);subst B;have n:=l 57 (H.gen 0 57) 1;clear l;simp[ak, *,cZ,E.idx];exact o _ _ (by simp(maxDischargeDepth:=12) [rE, *]) (n _ (.inr rfl) rfl (by simp[aR]))
   have l6:(H.get ⟨0,t,W,0⟩).isSome=true:=by rw[C];rfl
   have D:t=50\/t=57:=(by simpa using x);have A:t≠56:=by rintro rfl;simp at x
   have M : ¬56=t:=λe=>A e.symm;have f4:rB 1 4 out.length true none (some ⟨1,rows out,true,false⟩) (some [.v (.int .i32 w)]):=(by rw[aA];refine⟨rfl,by simp,.inr ⟨?_,rfl⟩⟩;simpa using f2);have n:=λm H'=>l t (H.gen 0 t) m H' D;clear l x;simp[ak, *,cZ,E.idx];exact o _ _ (by simp(maxDischargeDepth:=12) [rE, *]) (n _ _ (by simp) (by simp[aR]))
structure lE (rn:Ref) (i j:Nat) (bu:Int->aP):Prop where
 load : ∀(g:cb) v,g rn=some (bu v)->mP env.P g 3 (some (.ptr rn i j))=some (aI v,[])
 store : ∀(H:ab) v w,H.get rn=some (bu v)->iu env.P H 3 (some (.ptr rn i j)) (some (aI w))=some (.undef,H.put rn (some (bu w)))
structure L2 (H:ab) (r q:Ref) (c:Option Nat) (bs:List UInt8) (bad:Bool):Prop where
 box:H.get r=some ⟨3,[.agg [.bO q 0 bs.length c,aB false,aB bad]],false,false⟩
 row:H.get q=some ⟨1,aQ bs,true,false⟩
 ne:q≠r
 cap:c=none\/(c=some 1/\bs.length=1)
 few:bs.length<1000000
def Ad(dep:Nat){H:ab}{r q rn:Ref}{c:Option Nat}{bs:List UInt8}{bad:Bool}{m o:Nat}{bu:Int->aP}{n:Int}(B:lE rn m o bu)(D:H.get rn=some (bu n))(R:rn≠r)(T:rn≠q)(k:Fr H)(F:L2 H r q c bs bad)(i:Nat)(hi:i<=2)(e:bs.length+1<1000000){Q:AV->ab->Prop}
 (x : ∀l H',H.get l=none->L2 H' r l none (bs++[u8 (n / 256 ^ i)]) bad->Fr H'->(∀p b,p≠r->p≠q->H.get p=some b->H'.get p=some b)->(l.t=q.t\/l.t=55)->bL env Tryz.f65 (dep+1) bn [(6,aI ((i:Int) - 1)),(1,.ptr rn m o),(0,.ptr r 0 0)] H' Q) :
 bL env Tryz.f65 (dep+1) bn [(6,aI (i:Int)),(1,.ptr rn m o),(0,.ptr r 0 0)] H Q:=by
 refine ja _ _ _ _ _ _ λg=>?_;obtain⟨box,row,ne,cap,few⟩:=F;have S:=B.load H.get n D;have w:(H.get r).isSome=true:=by rw[box];rfl
 have N:(H.get q).isSome=true:=by rw[row];rfl
 have E:=ne.symm;have J:=iQa (8 * (i:Int)) (by omega);have M:=iQa ((i:Int) - 1) (by omega);have u:=λt xo G=>gM env.P t xo G .i64 n (8 * (i:Int)) (yk := .i64) (by omega);have h:n.fdiv (2 ^ min (8 * (i:Int)).toNat IntKind.i64.bits)=n / 256 ^ i:=by
  have:i=0\/i=1\/i=2:=(by omega);rcases this with rfl | rfl | rfl
  ·exact GQ _ (by decide)
  ·exact GQ _ (by decide)
  exact GQ _ (by decide)
 rw[h]at u;clear h;generalize n / 256 ^ i=d at *;have L:bs.length+1<=140737488355328:=by omega
 have C:(aQ bs).length=bs.length:=by simp
 have v:aQ (bs++[u8 d])=aQ bs++[a8 (u8 d)]:=by simp[aQ]
 rcases cap with rfl | ⟨rfl,c1⟩
 ·obtain⟨A,z,K,O⟩:=q;simp[ak, *,dE];refine x ⟨A,z,H.gen A z,0⟩ _ (CX k _ _ _) ⟨?_,?_,?_,.inl rfl,?_⟩ (by simp(maxDischargeDepth:=12) [rE, *]) (λp b a j s=>?_) (.inl rfl);·simp[ab.get_put,dR,dS, *]
  ·rw[v];simp
  ·exact b8 k w _ _ _
  ·simpa using e
  have I:(H.get p).isSome=true:=by rw[s];rfl
  have f:=a.symm;have y:=j.symm;simp[ab.get_put,dR,dS, *]
 simp[ak, *,dE];refine x ⟨dep+1,55,H.gen (dep+1) 55,0⟩ _ (CX k _ _ _) ⟨?_,?_,?_,.inl rfl,?_⟩ (by simp(maxDischargeDepth:=12) [rE, *]) (λp b a j s=>?_) (.inr rfl);·simp[ab.get_put,dR,dS, *]
 ·rw[v];simp
 ·exact b8 k w _ _ _
 ·simpa using e
 have I:(H.get p).isSome=true:=by rw[s];rfl
 have f:=a.symm;simp[ab.get_put,dR,dS, *]
structure XW (H H':ab) (r q:Ref) (bs:List UInt8) (bad:Bool):Prop where
 pen : ∃q',L2 H' r q' none bs bad/\(q'.t=q.t\/q'.t=55)
 fr:Fr H'
 old : ∀p b,p≠r->p≠q->H.get p=some b->H'.get p=some b
def Ja(dep:Nat){H:ab}{r q rn:Ref}{c:Option Nat}{bs:List UInt8}{bad:Bool}{L N:Nat}{bu:Int->aP}{n:Int}(M:lE rn L N bu)(hn:H.get rn=some (bu n))(z:rn≠r)(J:rn≠q)(hF:Fr H)(hP:L2 H r q c bs bad)(hfew:bs.length<900000)(many:Nat)(hm:many=1\/many=2\/many=3) :
 ∃y H',cU env dep (.fn 65) [.ptr r 0 0,.ptr rn L N,aI many] H=some (y,H')/\XW H H' r q (bs++be many n) (bad||bt many n):=by
 refine cQ (fn:=Tryz.f65) (c:=j1) (by kernel_rfl) (by kernel_rfl) (by kernel_rfl) (by kernel_rfl) (by kernel_rfl) ?_;refine jN _ _ _ _ _ _ λg=>?_;obtain⟨box,row,ne,cap,few⟩:=hP;have hl:=M.load H.get n hn;have ne':=ne.symm;have h1':=z.symm;have l1:(H.get r).isSome=true:=by rw[box];rfl
 have l2:(H.get q).isSome=true:=by rw[row];rfl
 have E : ∀a,a=(bad||bt many n)->bL env Tryz.f65 (dep+1) bn [(6,aI ((many:Int) - 1)),(1,.ptr rn L N),(0,.ptr r 0 0)]
  (H.put r (some ⟨3,[.agg [.bO q 0 bs.length c,aB false,aB a]],false,false⟩)) λy H'=>XW H H' r q (bs++be many n) (bad||bt many n):=by
  intro a hb;rw[<-hb];have w:L2 (H.put r (some ⟨3,[.agg [.bO q 0 bs.length c,aB false,aB a]],false,false⟩)) r q c bs a:=⟨by rw[ab.get_put,if_pos rfl],by rw[ab.get_put,if_neg ne];exact row,ne,cap,few⟩;have F:Fr (H.put r (some ⟨3,[.agg [.bO q 0 bs.length c,aB false,aB a]],false,false⟩)):=kb hF l1 _;have i:(H.put r (some ⟨3,[.agg [.bO q 0 bs.length c,aB false,aB a]],false,false⟩)).get rn=some (bu n):=by rw[ab.get_put,if_neg z];exact hn
  have A : ∀p b,p≠r->p≠q->H.get p=some b->(H.put r (some ⟨3,[.agg [.bO q 0 bs.length c,aB false,aB a]],false,false⟩)).get p=some b:=λp b hp _ h=>by rw[ab.get_put,if_neg hp];exact h
  generalize H.put r (some ⟨3,[.agg [.bO q 0 bs.length c,aB false,aB a]],false,false⟩)=H0 at *;have I : ∀(o:ab)(y:ab->Prop),y o->bL env Tryz.f65 (dep+1) bn [(6,aI (-1)),(1,.ptr rn L N),(0,.ptr r 0 0)] o λ_ H'=>y H':=by
   intro o y hy;refine ja _ _ _ _ _ _ λg=>?_;simp[ak, *,dE]
  have s : ∀(o:ab)(e:Ref)(c1:Option Nat)(C:List UInt8),L2 o r e c1 C a->Fr o->(∀p b,p≠r->p≠q->H.get p=some b->o.get p=some b)->o.get rn=some (bu n)->rn≠e->(e=q\/H.get e=none)->(e.t=q.t\/e.t=55)->C.length+1<1000000->C++[u8 n]=bs++be many n ->
   bL env Tryz.f65 (dep+1) bn [(6,aI 0),(1,.ptr rn L N),(0,.ptr r 0 0)] o λy H'=>XW H H' r q (bs++be many n) a:=by
   intro o e c1 C m u f S W d x hf1 V;refine Ad dep M S z W u m 0 (by omega) hf1 (λq' H' _ U Z ho' T=>?_);refine I H' _ ⟨⟨q',?_,?_⟩,Z,λp b hp j k=>?_⟩;·rw[<-V];simpa using U
   ·rcases T with h | h
    ·rw[h];exact x
    exact .inr h
   refine ho' p b hp ?_ (f p b hp j k);rintro rfl;rcases d with rfl | d
   ·exact j rfl
   rw[d]at k;cases k
  have fresh : ∀(e:Ref),H0.get e=none->e≠r->H.get e=none:=by
   intro e h hr;by_cases K:e=q;·subst K;rw[w.row]at h;cases h
   cases k:H.get e with| none=>rfl| some b=>rw[A e b hr K k]at h;cases h
  rcases hm with rfl | rfl | rfl
  ·exact s H0 q c bs w F A i J (.inl rfl) (.inl rfl) (by omega) rfl
  ·refine Ad dep M i z J F w 1 (by omega) (by omega) (λe o d m u f x=>?_);have nq:e≠q:=by rintro rfl;rw[w.row]at d;cases d
   have R:rn≠e:=by rintro rfl;rw[i]at d;cases d
   exact s o e none _ m u (λp b hp j h=>f p b hp j (A p b hp j h)) (f _ _ z J i) R (.inr (fresh e d m.ne)) x (by simp;omega) (by simp[be])
  refine Ad dep M i z J F w 2 (by omega) (by omega) (λe o d m u f x=>?_);have R:rn≠e:=by rintro rfl;rw[i]at d;cases d
  refine Ad dep M (f _ _ z J i) z R u m 1 (by omega) (by simp;omega) (λD H2 B G hF2 Q X=>?_);have Y:rn≠D:=by rintro rfl;rw[f _ _ z J i]at B;cases B
  have f1:=fresh e d m.ne;have O : ∀p b,p≠r->p≠q->H.get p=some b->H2.get p=some b:=λp b hp j h=>by
   refine Q p b hp ?_ (f p b hp j (A p b hp j h));rintro rfl;rw[f1]at h;cases h
  have f2:D=q\/H.get D=none:=by
   by_cases K:D=q;·exact .inl K
   right;cases k:H.get D with
   | none=>rfl
   | some b=>rw[f D b G.ne K (A D b G.ne K k)]at B;cases B
  exact s H2 D none _ G hF2 O (Q _ _ z R (f _ _ z J i)) Y f2 (by
   rcases X with h | h
   ·rw[h];exact x
   exact .inr h) (by simp;omega) (by simp[be,show n / 256 / 256=n / 65536 by omega])
 have w1:IntKind.i64.wrap (8 * (many:Int))=8 * many:=iQa _ (by omega);have w2:IntKind.i64.wrap ((many:Int) - 1)=many - 1:=iQa _ (by omega);have hshl : ∀t xo yo,bE env.P .shl t xo yo (some (.v (.int .i64 1))) (some (.v (.int .i64 (8 * (many:Int)))))=some (.v (.int .i64 (256 ^ many)),[]):=by
  intro t xo yo;rw[xt env.P t xo yo .i64 1 _ (by omega)];rcases hm with rfl | rfl | rfl<;>rfl
 cases bad with| true=>have l:=E true rfl;clear E;simp[ak, *,bB];all_goals exact l| false=>
  by_cases h0:n<0;·have l:=E true (by simp[bt,h0]);clear E;simp[ak, *,bB];all_goals simpa using l
  by_cases h3:(256:Int) ^ many<=n;·have l:=E true (by simp[bt,h3]);clear E;simp[ak, *,bB];all_goals simpa using l
  have l:=E false (by simp[bt,h0,h3]);clear E;simp[ak, *,bB];all_goals simpa using l
structure XV (H:ab) (r:Ref) (xb:AV) (l:List UInt8) (bad:Bool):Prop where
 box:H.get r=some ⟨3,[.agg [xb,aB true,aB bad]],false,false⟩
 sl:Sl 1 (aQ l) xb
 few:l.length<1000000
structure US (H H':ab) (r rn:Ref) (bu:Int->aP) (n:Int) (l:List UInt8) (bad:Bool):Prop where
 pen : ∃xb,XV H' r xb l bad
 num:H'.get rn=some (bu n)
 fr:Fr H'
 old : ∀p b,p≠r->p≠rn->H.get p=some b->H'.get p=some b
def TT(dep:Nat){r rn:Ref}{f j:Nat}{bu:Int->aP}(t:lE rn f j bu){l:List UInt8}{c:AV}(v:Sl 1 (aQ l) c)(D:l.length<=3){many:Int}{Q:AV->ab->Prop} :
 ∀(s:List UInt8)(k:Nat)(i a:Int)(H:ab),l.drop k=s->k<=l.length->i=k->0<=a->a<256 ^ k->H.get rn=some (bu a)->Fr H ->
 (∀H',H'.get rn=some (bu (zT a s))->Fr H'->(∀p b,p≠rn->H.get p=some b->H'.get p=some b)->bL env Tryz.f65 (dep+1) cE [(87,aI l.length),(1,.ptr rn f j),(85,c),(2,aI many),(0,.ptr r 0 0),(86,aI l.length)] H' Q) ->
 bL env Tryz.f65 (dep+1) cE [(87,aI i),(1,.ptr rn f j),(85,c),(2,aI many),(0,.ptr r 0 0),(86,aI l.length)] H Q:=by
 intro s;induction s with
 | nil=>rintro k i a H hs hk rfl h0 h1 hn hF hQ;obtain rfl:=drop_nil hs hk;exact hQ H hn hF (λp b _ h=>h)
 | cons b s u=>
  rintro k i a H hs hk rfl h0 h1 hn hF hQ;obtain⟨A,G,d,z⟩:=drop_cons hs;have B:=b.toNat_lt;have F:=BA (k:=k) 6 (by omega);have e:=MQ h0 (by omega) b;have C:=iQa (a * 256) (by omega);have E:=iQa ((k:Int)+1) (by omega);have x:=t.load H.get a hn;have y:=t.store H a (256 * a+b.toNat) hn;have w:(H.get rn).isSome=true:=by rw[hn];rfl
  have m:=u (k+1) ((k:Int)+1) (256 * a+b.toNat) (H.put rn (some (bu (256 * a+b.toNat)))) d (by omega) (by simp) (by omega) (by rw[Ba];omega) (by rw[ab.get_put,if_pos rfl]) (kb hF w _)
   (λH' o n q=>hQ H' o n (λp b hp h=>q p b hp (by rw[ab.get_put,if_neg hp];exact h)))
  refine iV _ _ _ _ _ _ _ _ _ λg=>?_;clear u hQ;simp[ak, *,fb,xt,v.idx];all_goals exact m
def Al(dep:Nat){H:ab}{r rn:Ref}{j:AV}{l:List UInt8}{bad:Bool}{L R:Nat}{bu:Int->aP}{n:Int}(M:lE rn L R bu)(E:H.get rn=some (bu n))(s:rn≠r)(O:Fr H)(hP:XV H r j l bad)(many:Nat)(hm:many=1\/many=2\/many=3) :
 ∃y H',cU env dep (.fn 65) [.ptr r 0 0,.ptr rn L R,aI many] H=some (y,H') /\
  US H H' r rn bu (if (bad||decide (l.length<many)) then n else val (l.take many)) (if (bad||decide (l.length<many)) then l else l.drop many) (bad||decide (l.length<many)):=by
 refine cQ (fn:=Tryz.f65) (c:=j1) (by kernel_rfl) (by kernel_rfl) (by kernel_rfl) (by kernel_rfl) (by kernel_rfl) ?_;refine jN _ _ _ _ _ _ λg=>?_;obtain⟨box,sl,few⟩:=hP;have N:(H.get r).isSome=true:=by rw[box];rfl
 have Y:(H.get rn).isSome=true:=by rw[E];rfl
 have A:=s.symm;have hr:=sl.r;have a:(bad||decide (l.length<many))=true ->∀y:AV,US H (H.put r (some ⟨3,[.agg [j,aB true,aB true]],false,false⟩)) r rn bu n l true:=λ_ _=>
  ⟨⟨j,by rw[ab.get_put,if_pos rfl],sl,few⟩,by rw[ab.get_put,if_neg s];exact E,kb O N _,λp b hp _ h=>by rw[ab.get_put,if_neg hp];exact h⟩
 cases bad with| true=>have F:=a rfl (aI 0);clear a;simp[ak, *,bB];all_goals exact F| false=>
  by_cases w:l.length<many;·have x:(l.length:Int)<many:=(by omega);have F:=a (by simp[w]) (aI 0);clear a;simp[ak, *,bB];all_goals exact F
  have x : ¬(l.length:Int)<many:=(by omega);clear a;have W:=iQa (many:Int) (by omega);have v:=M.store (H.put r (some ⟨3,[.agg [j,aB true,aB false]],false,false⟩)) n 0 (by rw[ab.get_put,if_neg s];exact E);have m:(false||decide (l.length<many))=false:=by simp[w]
  rw[m];simp only[hU,iQf];have k:(l.take many).length=many:=by rw[kp];omega
  have K : ∀n,(aQ l).take n=aQ (l.take n):=λn=>by simp[aQ]
  have C : ∀n,(aQ l).drop n=aQ (l.drop n):=λn=>by simp[aQ]
  have d:=λ(I:AV)(X:Sl 1 (aQ (l.take many)) I)=>TT dep (r:=r) M X (by omega) (many:=(many:Int)) (Q:=λy H'=>US H H' r rn bu (val (l.take many)) (l.drop many) false) (l.take many) 0 0 0
   ((H.put r (some ⟨3,[.agg [j,aB true,aB false]],false,false⟩)).put rn (some (bu 0))) rfl (by omega) rfl (by omega) (by simp) (by rw[ab.get_put,if_pos rfl]) (kb (kb O N _) (by rw[ab.get_put,if_neg s];exact Y) _)
   (λH' o J f=>by
    have D:H'.get r=some ⟨3,[.agg [j,aB true,aB false]],false,false⟩:=f r _ A (by rw[ab.get_put,if_neg A,ab.get_put,if_pos rfl]);refine iV _ _ _ _ _ _ _ _ _ λg=>?_;have G:=vo (P:=env.P) (t:=27) (z:=1) (by kernel_rfl) H'.get sl (n:=(many:Int)) (by omega) (by simp;omega);obtain⟨S,V,e⟩:=G;rw[BW,C]at e;have l3:(H'.get r).isSome=true:=by rw[D];rfl
    have Z:=e.r;have B:US H (H'.put r (some ⟨3,[.agg [S,aB true,aB false]],false,false⟩)) r rn bu (val (l.take many)) (l.drop many) false:=(by refine⟨⟨S,by rw[ab.get_put,if_pos rfl],e,by simp;omega⟩,by rw[ab.get_put,if_neg s];exact o,kb J l3 _,λp b hp u h=>?_⟩;rw[ab.get_put,if_neg hp];exact f p b u (by rw[ab.get_put,if_neg u,ab.get_put,if_neg hp];exact h));clear o f v K C;simp[ak, *,fb];all_goals exact B)
  clear C m;simp[ak, *,bB];obtain⟨y,T,i⟩:=IE (P:=env.P) (t:=27) (z:=1) (by kernel_rfl) _ sl (n:=(many:Int)) (by omega) (by simp;omega);refine EN T ?_;rw[BW,K]at i;have hyr:=i.r;have q:=d y i;rw[k]at q;have U:(aQ (l.take many)).length=many:=by rw[fh,k]
  clear d T;simp[*];all_goals exact q
def Gh(rm:Ref)(m:aD)(xo:AV):lE rm 0 1 (λv=>({ m with user:=v}:aD).bu xo):=⟨λg v h=>by simp[aD.bu]at h;simp[h],λH v w h=>by simp[aD.bu]at h ⊢;simp[h]⟩
def Cw(rm:Ref)(m:aD)(xo:AV):lE rm 0 2 (λv=>({ m with serial:=v}:aD).bu xo):=⟨λg v h=>by simp[aD.bu]at h;simp[h],λH v w h=>by simp[aD.bu]at h ⊢;simp[h]⟩
def vL(rm:Ref)(m:aD)(xo:AV):lE rm 0 4 (λv=>({ m with fromN:=v}:aD).bu xo):=⟨λg v h=>by simp[aD.bu]at h;simp[h],λH v w h=>by simp[aD.bu]at h ⊢;simp[h]⟩
def ET(rm:Ref)(m:aD)(xo:AV):lE rm 0 5 (λv=>({ m with total:=v}:aD).bu xo):=⟨λg v h=>by simp[aD.bu]at h;simp[h],λH v w h=>by simp[aD.bu]at h ⊢;simp[h]⟩
def Ns(rm:Ref)(m:aD)(xo:AV):lE rm 0 7 (λv=>({ m with t0:=v}:aD).bu xo):=⟨λg v h=>by simp[aD.bu]at h;simp[h],λH v w h=>by simp[aD.bu]at h ⊢;simp[h]⟩
def Nr(rm:Ref)(m:aD)(xo:AV):lE rm 0 8 (λv=>({ m with t1:=v}:aD).bu xo):=⟨λg v h=>by simp[aD.bu]at h;simp[h],λH v w h=>by simp[aD.bu]at h ⊢;simp[h]⟩
def Nq(rm:Ref)(m:aD)(xo:AV):lE rm 0 9 (λv=>({ m with t2:=v}:aD).bu xo):=⟨λg v h=>by simp[aD.bu]at h;simp[h],λH v w h=>by simp[aD.bu]at h ⊢;simp[h]⟩
def Np(rm:Ref)(m:aD)(xo:AV):lE rm 0 10 (λv=>({ m with t3:=v}:aD).bu xo):=⟨λg v h=>by simp[aD.bu]at h;simp[h],λH v w h=>by simp[aD.bu]at h ⊢;simp[h]⟩
def EU(rn:Ref):lE rn 0 0 (λv=>⟨1,[aI v],false,false⟩):=⟨λg v h=>by simp[h],λH v w h=>by simp[h]⟩
def spot(p:Ref):Prop:=p.t≠51/\p.t≠55/\p.t≠46
def vn(d t g k:Nat)(h:t≠51/\t≠55/\t≠46):spot ⟨d,t,g,k⟩:=h
structure MW (H:ab) (r rm:Ref) (bs:List UInt8) (bad:Bool) (b:aP):Prop where
 pen : ∃q c,L2 H r q c bs bad/\(q.t=51\/q.t=55\/q.t=46)
 fr:Fr H
 mail:H.get rm=some b
 ne:rm≠r
 s1:spot rm
def p9{p q:Ref}(h:spot p)(e:q.t=51\/q.t=55\/q.t=46):p≠q:=by
 rintro rfl;obtain⟨c,d,b⟩:=h;rcases e with h | h | h
 ·exact c h
 ·exact d h
 exact b h
def MW.cons{H:ab}{r rm:Ref}{bs:List UInt8}{bad:Bool}{b:aP}(h:MW H r rm bs bad b)(d t:Nat)(f:Option aP):MW ((⟨d,t,H.gen d t,0⟩,f) :: H) r rm bs bad b:=by
 obtain⟨⟨q,c,⟨box,row,ne,cap,few⟩,g⟩,fr,mail,e,s1⟩:=h;refine⟨⟨q,c,⟨?_,?_,ne,cap,few⟩,g⟩,fr.cons d t f,?_,e,s1⟩;·rw[ab.aZ,if_neg (b8 fr (by rw[box];rfl) _ _ _)];exact box
 ·rw[ab.aZ,if_neg (b8 fr (by rw[row];rfl) _ _ _)];exact row
 rw[ab.aZ,if_neg (b8 fr (by rw[mail];rfl) _ _ _)];exact mail
def MW.put{H:ab}{r rm:Ref}{bs:List UInt8}{bad:Bool}{b:aP}(h:MW H r rm bs bad b)(f:aP):MW (H.put rm (some f)) r rm bs bad f:=by
 obtain⟨⟨q,c,⟨box,row,ne,cap,few⟩,g⟩,fr,mail,d,s1⟩:=h;refine⟨⟨q,c,⟨?_,?_,ne,cap,few⟩,g⟩,kb fr (by rw[mail];rfl) _,by rw[ab.get_put,if_pos rfl],d,s1⟩;·rw[ab.get_put,if_neg d.symm];exact box
 rw[ab.get_put,if_neg (λe=>p9 s1 g e.symm)];exact row
def vB(dep:Nat){H:ab}{r rm:Ref}{bs:List UInt8}{bad:Bool}{b:aP}(a:MW H r rm bs bad b){t u:Nat}{bu:Int->aP}{n:Int}(z:lE rm t u bu)(D:b=bu n)(i:bs.length<900000)(many:Nat){w:Int}(B:w=many)(J:many=1\/many=2\/many=3){K:AV->ab->Prop}{mk:Mk K}
 (h : ∀y H',MW H' r rm (bs++be many n) (bad||bt many n) b->(∀p k,spot p->p≠r->H.get p=some k->H'.get p=some k)->K y H'):jF (cU env dep (.fn 65) [.ptr r 0 0,.ptr rm t u,aI w] H) K mk:=by
 subst B;obtain⟨⟨q,c,I,g⟩,A,f,d,v⟩:=a;have x:=p9 v g;obtain⟨y,H',G,⟨⟨F,l,j⟩,o,s⟩⟩:=Ja dep z (by rw[f,D]) d x A I i many J;refine jd G (h y H' ⟨⟨F,none,l,?_⟩,o,s rm _ d x f,d,v⟩ (λp k hp C E=>s p k C (p9 hp g) E));rcases j with e | e
 ·rw[e];exact g
 exact .inr (.inl e)
def Lp(dep:Nat){H:ab}{r rm rn:Ref}{bs:List UInt8}{bad:Bool}{b:aP}(a:MW H r rm bs bad b){n:Int}(v:H.get rn=some ⟨1,[aI n],false,false⟩)(f:rn≠r)(l:spot rn)(i:bs.length<900000)(many:Nat){w:Int}(B:w=many)(G:many=1\/many=2\/many=3){K:AV->ab->Prop}{mk:Mk K}
 (h : ∀y H',MW H' r rm (bs++be many n) (bad||bt many n) b->H'.get rn=some ⟨1,[aI n],false,false⟩->(∀p k,spot p->p≠r->H.get p=some k->H'.get p=some k)->K y H'):jF (cU env dep (.fn 65) [.ptr r 0 0,.ptr rn 0 0,aI w] H) K mk:=by
 subst B;obtain⟨⟨q,c,F,g⟩,A,u,d,x⟩:=a;have z:=p9 l g;obtain⟨y,H',E,⟨⟨D,s,o⟩,t,j⟩⟩:=Ja dep (EU rn) v f z A F i many G;refine jd E (h y H' ⟨⟨D,none,s,?_⟩,t,j rm _ d (p9 x g) u,d,x⟩ (j rn _ f z v) (λp k hp f C=>j p k f (p9 hp g) C));rcases o with e | e
 ·rw[e];exact g
 exact .inr (.inl e)
structure Kf (H H':ab) (r rm:Ref) (bs:List UInt8) (bad:Bool) (b:aP):Prop where
 mw:MW H' r rm bs bad b
 old : ∀p k,spot p->p≠r->p≠rm->H.get p=some k->H'.get p=some k
section
variable(dep:Nat){H:ab}{r rm:Ref}{bs:List UInt8}{bad:Bool}{m:aD}{xo:AV}(a:MW H r rm bs bad (m.bu xo))(i:bs.length<850000)
include a i
theorem UE : ∃y H',cU env dep (.fn 64) [.ptr r 0 0,.ptr rm 0 0] H=some (y,H')/\Kf H H' r rm (bs++be 1 m.user) (bad||bt 1 m.user) (m.bu xo):=by
 refine cQ (fn:=Tryz.f64) (c:=wH) (by kernel_rfl) (by kernel_rfl) (by kernel_rfl) (by kernel_rfl) (by kernel_rfl) ?_;refine wq _ _ _ _ _ λg=>?_;have h:=bY (f:=65) (by kernel_rfl);simp[ak, *,qW,h];refine vB (dep+1) a (Gh rm m xo) rfl (by omega) 1 rfl (.inl rfl) λy H' b d=>?_;exact⟨b,λp k hp e _ j=>d p k hp e j⟩
theorem UC : ∃y H',cU env dep (.fn 70) [.ptr r 0 0,.ptr rm 0 0] H=some (y,H')/\Kf H H' r rm (bs++be 3 m.fromN) (bad||bt 3 m.fromN) (m.bu xo):=by
 refine cQ (fn:=Tryz.f70) (c:=wF) (by kernel_rfl) (by kernel_rfl) (by kernel_rfl) (by kernel_rfl) (by kernel_rfl) ?_;refine wj _ _ _ _ _ λg=>?_;have h:=bY (f:=65) (by kernel_rfl);simp[ak, *,qU,h];refine vB (dep+1) a (vL rm m xo) rfl (by omega) 3 rfl (.inr (.inr rfl)) λy H' b d=>?_;exact⟨b,λp k hp e _ j=>d p k hp e j⟩
theorem R6 : ∃y H',cU env dep (.fn 72) [.ptr r 0 0,.ptr rm 0 0] H=some (y,H')/\Kf H H' r rm bs bad (m.bu xo):=by
 refine cQ (fn:=Tryz.f72) (c:=wE) (by kernel_rfl) (by kernel_rfl) (by kernel_rfl) (by kernel_rfl) (by kernel_rfl) ?_;refine wi _ _ _ _ _ λg=>?_;exact⟨a,λp k _ _ _ b=>b⟩
theorem HD : ∃y H',cU env dep (.fn 73) [.ptr r 0 0,.ptr rm 0 0] H=some (y,H')/\Kf H H' r rm (bs++be 2 m.code) (bad||bt 2 m.code) (m.bu xo):=by
 refine cQ (fn:=Tryz.f73) (c:=AN) (by kernel_rfl) (by kernel_rfl) (by kernel_rfl) (by kernel_rfl) (by kernel_rfl) ?_;refine zP _ _ _ _ _ λg=>?_;have x:=bY (f:=65) (by kernel_rfl);have s:=a.mail;unfold aD.bu at s;simp[ak, *,vR,x];have t:(H.get r).isSome=true:=by obtain⟨q,c,v,_⟩:=a.pen;rw[v.box];rfl
 have z:(H.get rm).isSome=true:=by rw[s];rfl
 refine Lp (dep+1) (a.cons _ _ _) (rn:=⟨dep+1,4,H.gen (dep+1) 4,0⟩) (n:=m.code) (by simp) (b8 a.fr t _ _ _) (vn _ _ _ _ (by decide)) (by omega) 2 rfl (.inr (.inl rfl)) λy H' b u l=>?_;have h:=b.mail;unfold aD.bu at h;have e:=b.put (m.bu xo);unfold aD.bu at e;have d:Kf H (H'.put rm (some (m.bu xo))) r rm (bs++be 2 m.code) (bad||bt 2 m.code) (m.bu xo):=⟨b.put _,λp k hp w j o=>by
  rw[ab.get_put,if_neg j];exact l p k hp w (by rw[ab.aZ,if_neg (b8 a.fr (by rw[o];rfl) _ _ _)];exact o)⟩
 clear a l b e;unfold aD.bu at d;simp[*];exact d
theorem JQ : ∃y H',cU env dep (.fn 71) [.ptr r 0 0,.ptr rm 0 0] H=some (y,H')/\Kf H H' r rm (bs++[m.asked]) bad (m.bu xo):=by
 refine cQ (fn:=Tryz.f71) (c:=yP) (by kernel_rfl) (by kernel_rfl) (by kernel_rfl) (by kernel_rfl) (by kernel_rfl) ?_;refine yA _ _ _ _ _ λg=>?_;have A:=bY (f:=65) (by kernel_rfl);have t:=a.mail;unfold aD.bu at t;simp[ak, *,tB,A];have v:(H.get r).isSome=true:=by obtain⟨q,c,x,_⟩:=a.pen;rw[x.box];rfl
 have B:(H.get rm).isSome=true:=by rw[t];rfl
 have h:=m.asked.toNat_lt;refine Lp (dep+1) (a.cons _ _ _) (rn:=⟨dep+1,4,H.gen (dep+1) 4,0⟩) (n:=(m.asked.toNat:Int)) (by simp) (b8 a.fr v _ _ _) (vn _ _ _ _ (by decide)) (by omega) 1 rfl (.inl rfl) λy H' b w l=>?_;have o:be 1 (m.asked.toNat:Int)=[m.asked]:=by simp[be]
 have u:bt 1 (m.asked.toNat:Int)=false:=by
  have : ¬(256<=m.asked.toNat):=(by omega);simp[bt];omega
 rw[o,u,Gv]at b;have e:=b.mail;unfold aD.bu at e;have d:Kf H (H'.put rm (some (m.bu xo))) r rm (bs++[m.asked]) bad (m.bu xo):=⟨b.put _,λp k hp z j s=>by
  rw[ab.get_put,if_neg j];exact l p k hp z (by rw[ab.aZ,if_neg (b8 a.fr (by rw[s];rfl) _ _ _)];exact s)⟩
 clear a l b o u h;unfold aD.bu at d;simp[*];exact d
theorem O7(l:bs.length<800000) : ∃y H',cU env dep (.fn 74) [.ptr r 0 0,.ptr rm 0 0] H=some (y,H')/\Kf H H' r rm (bs++(be 3 m.serial++be 2 m.code)) (bad||(bt 3 m.serial||bt 2 m.code)) (m.bu xo):=by
 refine cQ (fn:=Tryz.f74) (c:=wD) (by kernel_rfl) (by kernel_rfl) (by kernel_rfl) (by kernel_rfl) (by kernel_rfl) ?_;refine wh _ _ _ _ _ λg=>?_;have t:=bY (f:=65) (by kernel_rfl);have d:=bY (f:=73) (by kernel_rfl);simp[ak, *,qT,t,d];refine vB (dep+1) a (Cw rm m xo) rfl (by omega) 3 rfl (.inr (.inr rfl)) λy H' h q=>?_;obtain⟨v,H2,n,b,j⟩:=HD (dep+1) h (by have:=EY 3 m.serial;simp;omega);rw[il,iQN]at b;have e:Kf H H2 r rm (bs++(be 3 m.serial++be 2 m.code)) (bad||(bt 3 m.serial||bt 2 m.code)) (m.bu xo):=⟨b,λp k hp s o u=>j p k hp s o (q p k hp s u)⟩;clear a h b q j;simp[t,d,n];all_goals exact e
end
end
end Go.Proofs.YtehkjjcdkbcebaaGreat
namespace Go.Proofs.YtehkjjcdkbcebaaGreat
open Go.Ab Go.ChangeShapes Go.WideShapes Go.RowKit
def MA{n:Nat}{x:AV}(h:Pv env.P n 26 x) : ∃(m:aD) (l:List (bp × AV)) (xo:AV),(∀p∈l,Sl 1 (rows p.1.l) p.2 /\∀a∈p.1.l, -2147483648<=a/\a<=2147483647)/\Sl 17 (a6 l) xo/\x=m.val xo:=by
 obtain⟨y,rfl,i⟩:=h.agg (by simp);have h:=rG (P:=env.P) JH i;obtain⟨m,K,r1,rfl,o,B,r2,rfl,z,x3,r3,rfl,f,E,D,rfl,g,C,r5,rfl,v,I,L,rfl,c,H,r7,rfl,d,J,G,rfl,q,F,r9,rfl,j,rfl⟩:=h;obtain⟨k,_,rfl⟩:=FP (P:=env.P) (t:=5) (by simp) _ _ o;obtain⟨u,_,rfl⟩:=rk (P:=env.P) (t:=3) (by simp) _ _ z;obtain⟨e,_,rfl⟩:=rk (P:=env.P) (t:=3) (by simp) _ _ f;obtain⟨co,_,rfl⟩:=rk (P:=env.P) (t:=22) (by simp) _ _ g;obtain⟨fr,_,rfl⟩:=rk (P:=env.P) (t:=3) (by simp) _ _ v;obtain⟨to,_,rfl⟩:=rk (P:=env.P) (t:=3) (by simp) _ _ c;obtain⟨a,_,rfl⟩:=FP (P:=env.P) (t:=5) (by simp) _ _ d;obtain⟨A,⟨b,_⟩,rfl⟩:=TK (P:=env.P) (t:=23) Ms (rk (P:=env.P) (t:=3) (by simp)) _ _ q;obtain⟨l,xo,w,rfl,s⟩:=DZ (P:=env.P) P2 PX Tj QG j;match A,b with
 | [t0,t1,t2,t3],_=>exact⟨⟨k,u,e,co,fr,to,a,t0,t1,t2,t3⟩,l,xo,w,s,rfl⟩
end Go.Proofs.YtehkjjcdkbcebaaGreat
namespace Go.Proofs.YtehkjjcdkbcebaaGreat
open Go.Ab
attribute [local simp] a7 aL au aJ aH bF kV bc aA aN cw cu aY ba ah bG fG
def R5(dep:Nat){H:ab}{r rm:Ref}{bs:List UInt8}{bad:Bool}{m:aD}{xo:AV}(w:MW H r rm bs bad (m.bu xo))(v:bs.length<800000) :
 ∃y H',cU env dep (.fn 77) [.ptr r 0 0,.ptr rm 0 0] H=some (y,H')/\Kf H H' r rm (bs++([m.asked]++(be 3 m.t0++(be 3 m.t1++(be 3 m.t2++be 3 m.t3))))) (bad||(bt 3 m.t0||(bt 3 m.t1||(bt 3 m.t2||bt 3 m.t3)))) (m.bu xo):=by
 refine cQ (fn:=Tryz.f77) (c:=uL) (by kernel_rfl) (by kernel_rfl) (by kernel_rfl) (by kernel_rfl) (by kernel_rfl) ?_;refine tS _ _ _ _ _ λg=>?_;have z:=bY (f:=71) (by kernel_rfl);have a:=bY (f:=65) (by kernel_rfl);obtain⟨D,H1,s,i,h⟩:=JQ (dep+1) w (by omega);simp[ak, *,pZ,z];clear s;refine cX _ _ _ _ _ _ λg=>?_;simp[ak, *,cL,a];refine vB (dep+1) i (Ns rm m xo) rfl (by simp;omega) 3 rfl (.inr (.inr rfl)) λy H2 j u=>?_;simp[a];refine cX _ _ _ _ _ _ λg=>?_;simp[ak, *,cL,a];refine vB (dep+1) j (Nr rm m xo) rfl (by simp;omega) 3 rfl (.inr (.inr rfl)) λy A e l=>?_;simp[a];refine cX _ _ _ _ _ _ λg=>?_;simp[ak, *,cL,a];refine vB (dep+1) e (Nq rm m xo) rfl (by simp;omega) 3 rfl (.inr (.inr rfl)) λy B o q=>?_;simp[a];refine cX _ _ _ _ _ _ λg=>?_;simp[ak, *,cL,a];refine vB (dep+1) o (Np rm m xo) rfl (by simp;omega) 3 rfl (.inr (.inr rfl)) λy C b n=>?_;simp[a];refine cX _ _ _ _ _ _ λg=>?_;simp[ak, *,cL,a];simp only[il,iQN]at b;exact⟨b,λp k hp d t x=>n p k hp d (q p k hp d (l p k hp d (u p k hp d (h p k hp d t x))))⟩
def Rb(dep:Nat){H:ab}{r rm:Ref}{bs:List UInt8}{m:aD}{xo:AV}(hM:MW H r rm bs false (m.bu xo)){l:List (bp × AV)}(O:Sl 17 (a6 l) xo)(hl:l.length<1000){k:Nat}(hlt:k<l.length){p:bp × AV}(hg:l[k]?=some p)(hg':l[k]=p)(hp:uS p)(hfew:bs.length<900000)(w:Int)(W:(k:Int)<w){Q:AV->ab->Prop}
 (F : ∀H',MW H' r rm (bs++if my p.1 then ck p.1 else []) (!my p.1) (m.bu xo)->(∀p k,spot p->p≠r->H.get p=some k->H'.get p=some k)->bL env Tryz.f67 (dep+1) an [(6,aI ((k:Int)+1)),(0,.ptr r 0 0),(1,.ptr rm 0 11),(2,aI w)] H' Q) :
 bL env Tryz.f67 (dep+1) an [(6,aI k),(0,.ptr r 0 0),(1,.ptr rm 0 11),(2,aI w)] H Q:=by
 refine cB _ _ _ _ _ _ _ λg=>?_;obtain⟨⟨q,c,⟨box,row,ne,cap,few⟩,J⟩,V,mail,E,s1⟩:=hM;obtain⟨⟨y,⟨u,o,x⟩,s,⟨⟨⟨t,A,z⟩,v⟩,a⟩,⟨⟨i,j,f⟩,h⟩,⟨d,n⟩,D⟩,xa⟩:=p;obtain⟨B,C⟩:=hp;have G:=TB y u o x s t A z v a i j f h d n B C;have U:(H.get r).isSome=true:=by rw[box];rfl
 have l2:(H.get q).isSome=true:=by rw[row];rfl
 have l3:(H.get rm).isSome=true:=by rw[mail];rfl
 have ne':=ne.symm;have Z:=E.symm;have N:=p9 s1 J;have hrq':=N.symm;have w2:=iQa ((k:Int)+1) (by omega);have hw':((k:Int)<w)=True:=by simp[W]
 clear W;simp only at B C F;cases I:my (⟨y,⟨u,o,x⟩,s,⟨⟨⟨t,A,z⟩,v⟩,a⟩,⟨⟨i,j,f⟩,h⟩,⟨d,n⟩,D⟩:bp) with
 | false=>
  rw[T6,I,if_neg (by decide)]at G;rw[I]at F;simp only[hU,iQf,mz,sF]at F;unfold aD.bu at mail;rcases cap with rfl | ⟨rfl,c1⟩
  all_goals
   simp[ak, *,ay,O.idx,a6,kJ,B.r]
   refine F _ ⟨⟨q,_,⟨(by simp[ab.get_put, *];rfl),?_,ne,?_,few⟩,J⟩,(by simp(maxDischargeDepth:=12) [rE, *]),?_,E,s1⟩ (λp b B C M=>?_);·simp[ab.get_put, *]
   ·first | exact .inl rfl | exact .inr ⟨rfl,c1⟩
   ·unfold aD.bu;simp[ab.get_put, *]
   have P:=p9 B J
   simp[ab.get_put, *]
 | true=>
  have L:=oA I;have R:=zY I;rw[T6,I,if_pos rfl]at G;rw[I]at F;simp only[if_true,tN]at F;clear I C;have f1:bs.length+(ck (⟨y,⟨u,o,x⟩,s,⟨⟨⟨t,A,z⟩,v⟩,a⟩,⟨⟨i,j,f⟩,h⟩,⟨d,n⟩,D⟩:bp)).length<=140737488355328:=by omega
  have f2:(bs++ck (⟨y,⟨u,o,x⟩,s,⟨⟨⟨t,A,z⟩,v⟩,a⟩,⟨⟨i,j,f⟩,h⟩,⟨d,n⟩,D⟩:bp)).length<1000000:=by rw[eS];omega
  have f3:aQ (ck (⟨y,⟨u,o,x⟩,s,⟨⟨⟨t,A,z⟩,v⟩,a⟩,⟨⟨i,j,f⟩,h⟩,⟨d,n⟩,D⟩:bp))≠[]:=by
   intro e;have:=iQh List.length e;have P:(aQ (ck (⟨y,⟨u,o,x⟩,s,⟨⟨⟨t,A,z⟩,v⟩,a⟩,⟨⟨i,j,f⟩,h⟩,⟨d,n⟩,D⟩:bp))).length=(ck (⟨y,⟨u,o,x⟩,s,⟨⟨⟨t,A,z⟩,v⟩,a⟩,⟨⟨i,j,f⟩,h⟩,⟨d,n⟩,D⟩:bp)).length:=by simp
   simp only[oq]at this;omega
  have Y:c=some 1->1<1+(ck (⟨y,⟨u,o,x⟩,s,⟨⟨⟨t,A,z⟩,v⟩,a⟩,⟨⟨i,j,f⟩,h⟩,⟨d,n⟩,D⟩:bp)).length:=(by omega);have f5:(aQ (ck (⟨y,⟨u,o,x⟩,s,⟨⟨⟨t,A,z⟩,v⟩,a⟩,⟨⟨i,j,f⟩,h⟩,⟨d,n⟩,D⟩:bp))).length=(ck (⟨y,⟨u,o,x⟩,s,⟨⟨⟨t,A,z⟩,v⟩,a⟩,⟨⟨i,j,f⟩,h⟩,⟨d,n⟩,D⟩:bp)).length:=(by simp);have T:aQ (bs++ck (⟨y,⟨u,o,x⟩,s,⟨⟨⟨t,A,z⟩,v⟩,a⟩,⟨⟨i,j,f⟩,h⟩,⟨d,n⟩,D⟩:bp))=aQ bs++aQ (ck (⟨y,⟨u,o,x⟩,s,⟨⟨⟨t,A,z⟩,v⟩,a⟩,⟨⟨i,j,f⟩,h⟩,⟨d,n⟩,D⟩:bp)):=(by simp[aQ]);have S:(bs++ck (⟨y,⟨u,o,x⟩,s,⟨⟨⟨t,A,z⟩,v⟩,a⟩,⟨⟨i,j,f⟩,h⟩,⟨d,n⟩,D⟩:bp)).length=bs.length+(ck (⟨y,⟨u,o,x⟩,s,⟨⟨⟨t,A,z⟩,v⟩,a⟩,⟨⟨i,j,f⟩,h⟩,⟨d,n⟩,D⟩:bp)).length:=(by simp);have e10:(aQ bs).length=bs.length:=(by simp);generalize ck (⟨y,⟨u,o,x⟩,s,⟨⟨⟨t,A,z⟩,v⟩,a⟩,⟨⟨i,j,f⟩,h⟩,⟨d,n⟩,D⟩:bp)=X at *;clear R L;unfold aD.bu at mail;rcases cap with rfl | ⟨rfl,c1⟩
  ·obtain⟨qd,qt,qg,qk⟩:=q;clear Y;simp[ak, *,ay,O.idx,a6,kJ,B.r];refine F _ ⟨⟨⟨qd,qt,H.gen qd qt,0⟩,none,⟨?_,?_,?_,.inl rfl,?_⟩,J⟩,(by simp(maxDischargeDepth:=12) [rE, *]),?_,E,s1⟩ (λp b B C M=>?_);·rw[S];simp[ab.get_put,dR,dS, *]
   ·rw[T];simp[ab.get_put,dR,dS, *]
   ·exact b8 V U _ _ _
   ·exact f2
   ·unfold aD.bu;simp[ab.get_put,dR,dS, *]
   have P:=p9 B J;have h3':=P.symm;have lp:(H.get p).isSome=true:=by rw[M];rfl
   have K:=C.symm;simp[ab.get_put,dR,dS, *]
  have f4':0<X.length:=BY.2 (by rintro rfl;exact f3 rfl);rw[c1]at f1;clear Y;simp[ak, *,ay,O.idx,a6,kJ,B.r];refine F _ ⟨⟨⟨dep+1,46,H.gen (dep+1) 46,0⟩,none,⟨?_,?_,?_,.inl rfl,?_⟩,.inr (.inr rfl)⟩,(by simp(maxDischargeDepth:=12) [rE, *]),?_,E,s1⟩ (λp b B C M=>?_);·rw[S];simp[ab.get_put,dR,dS, *]
  ·rw[T];simp[ab.get_put,dR,dS, *]
  ·exact b8 V U _ _ _
  ·exact f2
  ·unfold aD.bu;simp[ab.get_put,dR,dS, *]
  have lp:(H.get p).isSome=true:=by rw[M];rfl
  have K:=C.symm;simp[ab.get_put,dR,dS, *]
def Li(dep:Nat){r rm:Ref}{m:aD}{xo:AV}{l:List (bp × AV)}(A:Sl 17 (a6 l) xo)(e : ∀p∈l,uS p)(C:l.length<1000){Q:AV->ab->Prop} :
 ∀(s:List (bp × AV)) (k:Nat) (i:Int) (bs:List UInt8) (bad:Bool) (H:ab),l.drop k=s->k<=l.length->i=k->bs.length+300 * s.length<900000->MW H r rm bs bad (m.bu xo) ->
 (∀y H',MW H' r rm (bs++if bad then [] else (mv s).1) (bad||(mv s).2) (m.bu xo)->(∀p k,spot p->p≠r->H.get p=some k->H'.get p=some k)->Q y H') ->
 bL env Tryz.f67 (dep+1) an [(6,aI i),(0,.ptr r 0 0),(1,.ptr rm 0 11),(2,aI l.length)] H Q:=by
 have b : ∀(i:Int)(bs:List UInt8)(H:ab),MW H r rm bs true (m.bu xo)->(∀y,Q y H)->bL env Tryz.f67 (dep+1) an [(6,aI i),(0,.ptr r 0 0),(1,.ptr rm 0 11),(2,aI l.length)] H Q:=by
  intro i bs H a d;refine cB _ _ _ _ _ _ _ λg=>?_;obtain⟨⟨q,c,⟨box,row,ne,cap,few⟩,J⟩,G,mail,E,s1⟩:=a;by_cases hi:i<l.length;·simp[ak, *,ay]
  simp[ak, *,ay]
 intro s;induction s with
 | nil=>
  rintro k i bs bad H hs hk rfl hf a d;obtain rfl:=drop_nil hs hk;cases bad with
  | true=>exact b _ _ _ a λy=>d y H (by simpa using a) λp k _ _ h=>h
  | false=>have F:=λy=>d y H (by simpa [mv] using a) λp k _ _ h=>h;clear d;refine cB _ _ _ _ _ _ _ λg=>?_;simp[ak, *,ay]
 | cons p s D=>
  rintro k i bs bad H hs hk rfl hf a d;obtain⟨o,x,f,n⟩:=drop_cons hs;cases bad with
  | true=>exact b _ _ _ a λy=>d y H (by simpa using a) λp k _ _ h=>h
  | false=>
   have B:(if my p.1 then ck p.1 else []).length<=293:=by
    split;·rename_i h;have I:=oA h;have K:=zY h;omega
    simp
   simp only[lZ]at hf;refine Rb dep a A C o n x (e p (x ▸ kq _)) (by omega) _ (by omega) λH' t u=>?_;refine D (k+1) _ _ _ H' f (by omega) (by simp) (by rw[eS];omega) t λy H2 j v=>d y H2 ?_ λp k hp w h=>v p k hp w (u p k hp w h);cases z:my p.1<;>simpa [z,mv] using j
def Vq(dep:Nat){H:ab}{r rm:Ref}{bs:List UInt8}{bad:Bool}{m:aD}{xo:AV}{l:List (bp × AV)}(i:MW H r rm bs bad (m.bu xo))(e:Sl 17 (a6 l) xo)(a : ∀p∈l,uS p)(n:l.length<1000)(o:bs.length<500000){w:Int}(f:w=l.length) :
 ∃y H',cU env dep (.fn 67) [.ptr r 0 0,.ptr rm 0 11,aI w] H=some (y,H')/\Kf H H' r rm (bs++if bad then [] else (mv l).1) (bad||(mv l).2) (m.bu xo):=by
 subst f;refine cQ (fn:=Tryz.f67) (c:=ig) (by kernel_rfl) (by kernel_rfl) (by kernel_rfl) (by kernel_rfl) (by kernel_rfl) ?_;refine hZ _ _ _ _ _ _ λg=>?_;exact Li dep e a n l 0 _ bs bad H rfl (by omega) rfl (by omega) i λy H' b d=>⟨b,λp k hp j _ h=>d p k hp j h⟩
def O6(dep:Nat){H:ab}{r rm:Ref}{bs:List UInt8}{bad:Bool}{m:aD}{xo:AV}{l:List (bp × AV)}(b:MW H r rm bs bad (m.bu xo))(d:Sl 17 (a6 l) xo)(a : ∀p∈l,uS p)(i:l.length=1)(e:bs.length<500000) :
 ∃y H',cU env dep (.fn 66) [.ptr r 0 0,.ptr rm 0 0] H=some (y,H')/\Kf H H' r rm (bs++if bad then [] else (mv l).1) (bad||(mv l).2) (m.bu xo):=by
 refine cQ (fn:=Tryz.f66) (c:=wG) (by kernel_rfl) (by kernel_rfl) (by kernel_rfl) (by kernel_rfl) (by kernel_rfl) ?_;refine wo _ _ _ _ _ λg=>?_;have h:=bY (f:=67) (by kernel_rfl);obtain⟨y,H',k,j⟩:=Vq (dep+1) b d a (by omega) e (w:=1) (by omega);clear b;simp[ak, *,qV,h]
def UD(dep:Nat){H:ab}{r rm:Ref}{bs:List UInt8}{m:aD}{xo:AV}{l:List (bp × AV)}(T:MW H r rm bs false (m.bu xo))(I:Sl 17 (a6 l) xo)(t : ∀p∈l,uS p)(hl:l.length<=10)(hf:bs.length<400000) :
 ∃y H',cU env dep (.fn 76) [.ptr r 0 0,.ptr rm 0 0] H=some (y,H') /\∃e,Kf H H' r rm e (bt 3 m.fromN||bt 3 m.total||decide (3<l.length)||(mv l).2) (m.bu xo) /\
  ((bt 3 m.fromN||bt 3 m.total||decide (3<l.length)||(mv l).2)=false->e=bs++(be 3 m.fromN++(be 3 m.total++([u8 (l.length:Int)]++(mv l).1)))):=by
 refine cQ (fn:=Tryz.f76) (c:=uM) (by kernel_rfl) (by kernel_rfl) (by kernel_rfl) (by kernel_rfl) (by kernel_rfl) ?_;refine tT _ _ _ _ _ λg=>?_;have G:=bY (f:=65) (by kernel_rfl);have S:=bY (f:=67) (by kernel_rfl);simp[ak, *,p6,G];refine vB (dep+1) T (vL rm m xo) rfl (by omega) 3 rfl (.inr (.inr rfl)) λy1 H1 C B=>?_;simp[G];refine vB (dep+1) C (ET rm m xo) rfl (by simp;omega) 3 rfl (.inr (.inr rfl)) λy2 H2 d z=>?_;have o:=d.mail;unfold aD.bu at o;have P:(H2.get r).isSome=true:=by obtain⟨q,c,i,_⟩:=d.pen;rw[i.box];rfl
 have l2:(H2.get rm).isSome=true:=by rw[o];rfl
 have V:=I.len;clear T C;have X:=I.r;simp[G, *];have hw:((l.length:Int))=((l.length:Nat):Int):=rfl;refine Lp (dep+1) (d.cons _ _ _) (rn:=⟨dep+1,4,H2.gen (dep+1) 4,0⟩) (n:=(l.length:Int)) (by simp) (b8 d.fr P _ _ _) (vn _ _ _ _ (by decide)) (by simp;omega) 1 rfl (.inl rfl) λy F a hn3 D=>?_;have O:be 1 (l.length:Int)=[u8 (l.length:Int)]:=by simp[be]
 have U:bt 1 (l.length:Int)=false:=by
  simp[bt];omega
 have M:=b8 d.fr P (dep+1) 4 0;have N : ∀p k,spot p->p≠r->p≠rm->H.get p=some k->F.get p=some k:=λp k hp j _ h=>D p k hp j (by
  have E:=z p k hp j (B p k hp j h);rw[ab.aZ,if_neg (b8 d.fr (by rw[E];rfl) _ _ _)];exact E)
 simp only[nk,O,U,Gv]at a;clear d B z D O U o;generalize L:(⟨dep+1,4,H2.gen (dep+1) 4,0⟩:Ref)=r4 at *;clear L;obtain⟨q,c,i,Q⟩:=a.pen;have J:=i.box;have l3:(F.get r).isSome=true:=by rw[J];rfl
 have u:MW (F.put r (some ⟨3,[.agg [.bO q 0 (bs++be 3 m.fromN++be 3 m.total++[u8 (l.length:Int)]).length c,aB false,aB (bt 3 m.fromN||bt 3 m.total||decide (3<l.length))]],false,false⟩)) r rm (bs++be 3 m.fromN++be 3 m.total++[u8 (l.length:Int)]) (bt 3 m.fromN||bt 3 m.total||decide (3<l.length)) (m.bu xo):=
  ⟨⟨q,c,⟨by rw[ab.get_put,if_pos rfl],by rw[ab.get_put,if_neg i.ne];exact i.row,i.ne,i.cap,i.few⟩,Q⟩,kb a.fr l3 _,by rw[ab.get_put,if_neg a.ne];exact a.mail,a.ne,a.s1⟩
 obtain⟨y5,R,v,K⟩:=Vq (dep+1) u I t (by omega) (by simp;omega) (w:=(l.length:Int)) rfl;have A:Kf H R r rm (bs++be 3 m.fromN++be 3 m.total++[u8 (l.length:Int)]++if (bt 3 m.fromN||bt 3 m.total||decide (3<l.length)) then [] else (mv l).1) (bt 3 m.fromN||bt 3 m.total||decide (3<l.length)||(mv l).2) (m.bu xo):=
  ⟨K.mw,λp k hp j x h=>K.old p k hp j x (by rw[ab.get_put,if_neg j];exact N p k hp j x h)⟩
 have s:=a.mail;unfold aD.bu at s;have b : ∃e,Kf H R r rm e (bt 3 m.fromN||bt 3 m.total||decide (3<l.length)||(mv l).2) (m.bu xo) /\
  ((bt 3 m.fromN||bt 3 m.total||decide (3<l.length)||(mv l).2)=false->e=bs++(be 3 m.fromN++(be 3 m.total++([u8 (l.length:Int)]++(mv l).1)))):=by
  refine⟨_,A,λh=>?_⟩;simp only[Dq]at h;obtain⟨⟨⟨h1,E⟩,Z⟩,_⟩:=h;rw[h1,E,Z];simp
 clear A K a u N i Q;simp only[iQJ]at b;have W:=M;have Y:decide ((3:Int)<l.length)=decide (3<l.length):=decide_eq_decide.2 (by omega);generalize (bs++be 3 m.fromN++be 3 m.total++[u8 (l.length:Int)]).length=wl at *;generalize (bt 3 m.fromN||bt 3 m.total)=nb at *;cases nb with
 | true=>simp only[Bb]at v b;simp[S, *];simpa using b
 | false=>simp only[nk]at v b;simp[S, *];simpa using b
def Tz{bs:List UInt8}{x:AV}(n:Sl 1 (aQ bs) x){m:Nat}(q:bs.length=4 * m)(o:m<=64) :
 aK env 113 [x]=some (if (words bs).all fK then .tup [lV (words bs),aI 0] else .tup [a9,aI 8]):=by
 refine bo rfl (by kernel_rfl) (vh _ _ _ λg=>?_);have p:=n.r;have s : ¬((256:Int)<4 * m):=by omega
 obtain⟨b,a⟩ : ∃b,b=(if (words bs).all fK then AV.tup [lV (words bs),aI 0] else AV.tup [a9,aI 8]):=⟨_,rfl⟩;rw[<-a];have d:=λH Q=>K4 n (by omega) (by omega) (H:=H) (Q:=Q) m 0 bs 0 [] a9 rfl q (by omega) rfl (by simp);have h : ∀y H',(words bs).all fK=true->sq [50,57] 1 (rows ([]++words bs)) H' y->([]++words bs=[]->y=a9)->view H'.get 8 (.tup [y,aI 0])=some b:=by
  intro y H' j l c;rw[ko]at l c;rw[a,if_pos j];rcases l with ⟨rfl,i⟩ | ⟨t,u,v,rfl,p⟩
  ·have:words bs=[]:=(by simpa using i);rw[this];rfl
  have k:words bs≠[]:=λe=>by cases c e
  have i:lV (words bs) = .cC 1 (rows (words bs)) none:=by unfold lV;rw[if_neg k]
  rw[i];generalize words bs=ws at *;simp[p]
 have f:(words bs).all fK=false ->∀H':ab,view H'.get 8 (.tup [a9,aI 8])=some b:=by
  intro j H';rw[a,if_neg (by rw[j];decide)];simp
 clear a;simp[ak, *,ph];exact d _ _ Fr.nil (.inl ⟨rfl,rfl⟩) (λ_=>rfl) h f
def Td(a b c:UInt8):IntKind.i64.wrap (65536 * (a.toNat:Int))=65536 * (a.toNat:Int)/\IntKind.i64.wrap (256 * (b.toNat:Int))=256 * (b.toNat:Int) /\
 IntKind.i64.wrap (65536 * (a.toNat:Int)+256 * (b.toNat:Int))=65536 * (a.toNat:Int)+256 * (b.toNat:Int) /\
 65536 * (a.toNat:Int)+256 * (b.toNat:Int)+(c.toNat:Int)=val [a,b,c]/\IntKind.i64.wrap (val [a,b,c])=val [a,b,c]:=by
 have e:=a.toNat_lt;have g:=b.toNat_lt;have f:=c.toNat_lt;have d:65536 * (a.toNat:Int)+256 * (b.toNat:Int)+(c.toNat:Int)=val [a,b,c]:=by simp[val,zT];omega
 exact⟨iQa _ (by omega),iQa _ (by omega),iQa _ (by omega),d,iQa _ (by omega)⟩
def P9{k m:UInt8}(h:Cd k (m.toNat:Int)≠0):Cd k (m.toNat:Int)=(iW k m:Int)/\1<=m.toNat/\m.toNat<=64/\(k=1\/k=2\/k=3):=by
 unfold Cd at h ⊢;unfold iW;split at h;·exact absurd rfl h
 rename_i c;rw[if_neg c];split at h;·exact absurd rfl h
 rename_i d;rw[if_neg d];split at h;·rename_i k1;rw[if_pos k1,if_pos k1];exact⟨by omega,by omega,by omega,.inl k1⟩
 rename_i k1;rw[if_neg k1,if_neg k1];split at h;·rename_i a;rw[if_pos a,if_neg (by rw[a];decide)];exact⟨rfl,by omega,by omega,.inr (.inl a)⟩
 rename_i a;rw[if_neg a];split at h;·rename_i b;rw[if_pos b,if_pos b];exact⟨rfl,by omega,by omega,.inr (.inr b)⟩
 exact absurd rfl h
def P8{k m:UInt8}(b:1<=m.toNat)(c:m.toNat<=64)(a:k=1\/k=2\/k=3):Cd k (m.toNat:Int)≠0:=by
 unfold Cd;rw[if_neg (by omega),if_neg (by omega)];rcases a with rfl | rfl | rfl
 ·rw[if_pos rfl];omega
 ·rw[if_neg (by decide),if_pos rfl];omega
 rw[if_neg (by decide),if_neg (by decide),if_pos rfl];omega
def qj(l:List UInt8):AV:=if nD l then .tup [.agg (jS (fR l)++[lV (fR l).l]),aI (jO l),aI 0] else ni
def Ty{l:List UInt8}{x:AV}(hx:Sl 1 (aQ l) x)(hl:l.length<1000000):aK env 85 [x]=some (qj l):=by
 refine bo rfl (by kernel_rfl) (vf _ _ _ λg=>?_);have hr:=hx.r;by_cases h24:(l.length:Int)<24;·have i:qj l=ni:=(by unfold qj;rw[if_neg];intro h;simp only[nD,bD,iQb]at h;omega);unfold ni at i;simp[ak, *,bN]
 obtain⟨W,rfl,hc⟩:=rV hx (by simp;omega);have Q:24<=l.length:=by omega
 obtain⟨k,hh,ss,ff,m,rest,E,h6,h3,V⟩:=Mx Q;obtain⟨A,e2⟩:=Ed k hh ss ff m rest h6 h3 V;rw[<-E]at A e2;obtain⟨s1,s2,s3,rfl⟩ : ∃a b c,ss=[a,b,c]:=by
  match ss,h3 with
  | [a,b,c],_=>exact⟨a,b,c,rfl⟩
 have hlr:l.length=24+rest.length:=by rw[E];simp;omega
 have hrest:rest.length=l.length - 24:=(by omega);clear hlr;have d1:l.drop 1=hh++([s1,s2,s3]++(ff++(m :: rest))):=by rw[E];rfl
 have d7:l.drop 7=[s1,s2,s3]++(ff++(m :: rest)):=(by have:l.drop 7=(l.drop 1).drop 6:=(by rw[lY]);rw[this,d1];exact xe h6);have U:l.drop 10=ff++(m :: rest):=(by have:l.drop 10=(l.drop 7).drop 3:=(by rw[lY]);rw[this,d7];rfl);have T:l.drop 23=m :: rest:=(by have:l.drop 23=(l.drop 10).drop 13:=(by rw[lY]);rw[this,U];exact xe V);have N:l.drop 24=rest:=(by have:l.drop 24=(l.drop 23).drop 1:=(by rw[lY]);rw[this,T];rfl);have gd : ∀a j,(l.drop a)[j]?=l[a+j]?:=λa j=>wZ;have g0:l[0]?=some k:=by rw[E];rfl
 have g7:l[7]?=some s1:=by rw[<-gd 7 0,d7];rfl
 have g8:l[8]?=some s2:=by rw[<-gd 7 1,d7];rfl
 have g9:l[9]?=some s3:=by rw[<-gd 7 2,d7];rfl
 have g23:l[23]?=some m:=by rw[<-gd 23 0,T];rfl
 have z : ∀a,(aQ l).drop a=aQ (l.drop a):=λa=>by simp[aQ]
 have w : ∀a (q:List UInt8),(aQ q).take a=aQ (q.take a):=λa q=>by simp[aQ]
 have t1:List.take 6 (List.drop 1 (aQ l))=aQ hh:=(by rw[z,w,d1,zI h6]);rw[List.drop_one]at t1;have t2:List.take 13 (List.drop 10 (aQ l))=aQ ff:=by rw[z,w,U,zI V]
 have t3:List.take 13 (List.drop 24 (aQ l))=aQ (rest.take 13):=(by rw[z,w,N]);have t4 : ∀n,List.take n (List.drop 37 (aQ l))=aQ ((rest.drop 13).take n):=λn=>by
  have:l.drop 37=(l.drop 24).drop 13:=(by rw[lY]);rw[z,w,this,N]
 have t5:List.take 5 (List.drop 24 (aQ l))=aQ (rest.take 5):=(by rw[z,w,N]);have hH:=λc hc=>zb (v := .cC 1 (aQ hh) c) (l:=hh) (.inr ⟨c,rfl,hc⟩) h6;have hI:=λc hc=>Ql (v := .cC 1 (aQ ff) c) (l:=ff) (.inr ⟨c,rfl,hc⟩) V;have hS:=Qn k (m.toNat:Int);have qm:=m.toNat_lt;have wm:=iQa (m.toNat:Int) (by omega);obtain⟨v1,v2,v3,eV,v4⟩:=Td s1 s2 s3;have u : ∀a n,a+n<=(aQ l).length->n<=(W.map (· - a)).getD n:=by
  intro a n h;cases W with
  | none=>simp
  | some c=>simp at hc ⊢;simp at h;omega
 have Z:(aQ l).length=l.length:=(by simp);have p0:0<l.length:=(by omega);have g0' : ∀h:0<l.length,l[0]'h=k:=λh=>by have:=g0;rw[dh h]at this;exact Kg this
 have l0:(0:Int)<l.length/\(7:Int)<l.length/\(8:Int)<l.length/\(9:Int)<l.length/\(23:Int)<l.length/\(7:Int)<=l.length/\(23:Int)<=l.length:=(by omega);have B:(fR l).kind=k:=by rw[A];rfl
 have C:(fR l).s.many=m.toNat:=by rw[A];rfl
 by_cases hz:Cd k (m.toNat:Int)=0
 ·have i:qj l=ni:=by
   unfold qj;rw[if_neg];intro h;simp only[nD,bD,iQb]at h;have hp:=lT h.2.2;rw[B,C]at hp;refine P8 (k:=k) (m:=m) (by omega) (by omega) ?_ hz;rcases hp.2.2.2.2.2 with ⟨h,_⟩ | ⟨h,_⟩ | ⟨h,_⟩
   ·exact .inl h
   ·exact .inr (.inl h)
   exact .inr (.inr h)
  rw[hz]at hS;unfold ni at i;clear hH hI t1 t2 t3 t4 t5 d1 d7 U T N A e2 E gd z w u B C hz;simp[ak, *,bN]
 obtain⟨z1,z2,z3,z4⟩:=P9 hz;have hz0 : ¬(iW k m=0):=λe=>hz (by rw[z1,e];rfl);rw[z1]at hS;by_cases hlt:l.length<iW k m;·have i:qj l=ni:=(by unfold qj;rw[if_neg];intro h;simp only[nD,bD,iQb]at h;rw[e2]at h;omega);have M:(l.length:Int)<(iW k m:Int):=(by omega);unfold ni at i;clear hH hI t1 t2 t3 t4 t5 d1 d7 U T N A e2 E gd z w u B C hz z1;simp[ak, *,bN]
 have M : ¬(l.length:Int)<(iW k m:Int):=(by omega);have i:qj l=if my (fR l) then .tup [.agg (jS (fR l)++[lV (fR l).l]),aI (iW k m:Nat),aI 0] else ni:=by
  unfold qj nD;rw[e2];have h1:decide (24<=l.length)=true:=by simpa using Q
  have h2:decide (iW k m<=l.length)=true:=by simp only[iQb];omega
  rw[h1,h2,kX,kX]
 have o:my (fR l)=true->ck (fR l)=l.take (iW k m):=λp=>by
  have hg:nD l=true:=(by simp only[nD,bD,iQb];rw[e2];exact⟨Q,by omega,p⟩);have:=(uK hg).1;rw[e2]at this;exact this
 have hle:(iW k m:Int)<=l.length:=(by omega);have hcv:=λ(g:cb)(r:Ref)=>Sl.conv (P:=env.P) (src:=27) (dst:=9) (l:=l.take (iW k m)) (x := .cC 1 (List.take (iW k m) (aQ l)) W) (by
  rw[w];refine .inr ⟨W,rfl,?_⟩;rw[fh,kp];cases W with
  | none=>simp
  | some c=>simp at hc ⊢;omega) (by kernel_rfl) (by kernel_rfl) g r
 have hH':=hH (W.map (· - 1)) (by rw[fh,h6];exact u 1 6 (by rw[Z];omega));have hI':=hI (W.map (· - 10)) (by rw[fh,V];exact u 10 13 (by rw[Z];omega));clear hH hI d1 d7 U T N e2 E gd z w B C hz z1;obtain⟨⟨L,J,H⟩,hh0⟩ : ∃h:NI,iY hh=h:=⟨_,rfl⟩;obtain⟨⟨⟨I,G,F⟩,K⟩,ff0⟩ : ∃f:wS,ic ff=f:=⟨_,rfl⟩;rw[hh0]at hH';rw[ff0]at hI';unfold yK at A;rw[hh0,ff0]at A;generalize val [s1,s2,s3]=sr at *;rcases z4 with rfl | rfl | rfl
 ·rw[if_pos rfl,if_neg (by decide),if_pos rfl]at A;have O:iW 1 m=37+4 * m.toNat:=rfl;have l13:(rest.take 13).length=13:=by rw[kp];omega
  have X:((rest.drop 13).take (4 * m.toNat)).length=4 * m.toNat:=by rw[kp,rP];omega
  have t4':List.take (iW 1 m - 37) (List.drop 37 (aQ l))=aQ ((rest.drop 13).take (4 * m.toNat)):=by rw[t4,O];congr 2;omega
  have hI2:=Ql (v := .cC 1 (aQ (rest.take 13)) (W.map (· - 24))) (l:=rest.take 13) (.inr ⟨_,rfl,by rw[fh,l13];exact u 24 13 (by rw[Z];omega)⟩) l13;have hR4:=Tz (bs:=(rest.drop 13).take (4 * m.toNat)) (x := .cC 1 (aQ ((rest.drop 13).take (4 * m.toNat))) (W.map (· - 37))) (.inr ⟨_,rfl,by rw[fh,X];exact u 37 (4 * m.toNat) (by rw[Z];omega)⟩) X z3;have hwl:=(rp m.toNat _ X).2;have S1:(37:Int)<=(iW 1 m:Int)/\37<=iW 1 m:=by rw[O];omega
  have S2:(37:Int)<=l.length:=(by omega);obtain⟨⟨⟨a_1,a_2,a_3⟩,a_4⟩,aa0⟩ : ∃f:wS,ic (rest.take 13)=f:=⟨_,rfl⟩;rw[aa0]at hI2 A;clear u t4 t5 X l13 aa0 O;generalize iW 1 m=S at *;generalize words ((rest.drop 13).take (4 * m.toNat))=ws at *;generalize (rest.drop 13).take (4 * m.toNat)=rb at *;generalize rest.take 13=ra at *;cases D:ws.all fK with
  | false=>
   have p:my (fR l)=false:=Hl (by
    rw[A];have:D9 ws=false:=by simp[D9,D]
    simp[Ap,Fx,this])
   rw[p]at i;simp only[ni,hU,iQf]at i;rw[D,if_neg (by decide)]at hR4;clear A o p D;simp[ak, *,bN]
  | true=>
   rw[D,if_pos rfl]at hR4;have hRr : ∀a∈ws, -2147483648<=a/\a<=2147483647:=(by intro a ha;have:=eC.1 D a ha;simp only[fK,lI,bD,iQb]at this;omega);have hM:=CQ 1 L J H sr I G F K m.toNat a_1 a_2 a_3 a_4 0 0 (qe ws) (by omega) hRr;have hg:=(qe ws).r;cases p:my (fR l) with
   | false=>rw[p]at i;simp only[ni,hU,iQf]at i;rw[A]at p;rw[p]at hM;clear A o D hRr;simp[ak, *,bN]
   | true=>rw[p]at i;have y:=o p;rw[A]at p y i;simp only[jS,if_true]at i;have hB:=xY 1 L J H sr I G F K m.toNat a_1 a_2 a_3 a_4 0 0 (qe ws) (by omega) p;rw[p]at hM;rw[y]at hB;clear A o y D hRr;simp[ak, *,bN]
 ·rw[if_neg (by decide),if_neg (by decide),if_neg (by decide)]at A;have R:iW 2 m=24:=rfl;have l24:(24:Int)<=l.length:=by omega
  rw[R]at hS M hlt i o hcv hle hz0;have hM:=CQ 2 L J H sr I G F K m.toNat 0 0 0 0 0 0 (l:=[]) (x:=a9) (.inl ⟨rfl,rfl⟩) (by simp) (by simp);cases p:my (fR l) with
  | false=>rw[p]at i;simp only[ni,hU,iQf]at i;rw[A]at p;unfold kW at p;rw[p]at hM;clear A o u t3 t4 t5;simp[ak, *,bN]
  | true=>rw[p]at i;have y:=o p;rw[A]at p y i;simp only[jS,kW,show lV []=a9 from rfl,if_true]at i;unfold kW at p y;have hB:=xY 2 L J H sr I G F K m.toNat 0 0 0 0 0 0 (l:=[]) (x:=a9) (.inl ⟨rfl,rfl⟩) (by simp) p;rw[p]at hM;rw[y]at hB;clear A o y u t3 t4 t5;simp[ak, *,bN]
 rw[if_neg (by decide),if_pos rfl,if_neg (by decide)]at A;have R:iW 3 m=29:=rfl;rw[R]at hS M hlt i o hcv hle hz0;obtain⟨c1,c2,c3,c4,c5,rest',hr5⟩ : ∃a b c d e t,rest=a :: b :: c :: d :: e :: t:=by
  match rest,(show 5<=rest.length by omega) with
  | a :: b :: c :: d :: e :: t,_=>exact⟨a,b,c,d,e,t,rfl⟩
 rw[hr5]at A t5;have Y:fR l=⟨3,⟨L,J,H⟩,sr,⟨⟨⟨I,G,F⟩,K⟩,(m.toNat:Int)⟩,kW,⟨c1,u32 (val [c2,c3,c4,c5])⟩,[]⟩:=A;have t5':List.take 5 (List.drop 24 (aQ l))=[a8 c1,a8 c2,a8 c3,a8 c4,a8 c5]:=t5;have l29:(29:Int)<=l.length:=hle;have q29 : ¬(l.length:Int)<29:=M;have hT:=zb (v := .cC 1 [a8 c1,a8 c2,a8 c3,a8 c4,a8 c5,a8 0] none) (l:=[c1,c2,c3,c4,c5,0]) (Sl.mk _ _) rfl;have hT':iY [c1,c2,c3,c4,c5,0]=⟨c1,u32 (val [c2,c3,c4,c5]),0⟩:=rfl;rw[hT']at hT;generalize u32 (val [c2,c3,c4,c5])=cc at *;have hM:=CQ 3 L J H sr I G F K m.toNat 0 0 0 0 c1 cc (l:=[]) (x:=a9) (.inl ⟨rfl,rfl⟩) (by simp) (by simp);clear A t5 hT' hr5;cases p:my (fR l) with
 | false=>rw[p]at i;simp only[ni,hU,iQf]at i;rw[Y]at p;unfold kW at p;rw[p]at hM;clear Y o u t3 t4;simp[ak, *,bN]
 | true=>rw[p]at i;have y:=o p;rw[Y]at p y i;simp only[jS,kW,show lV []=a9 from rfl,if_true]at i;unfold kW at p y;have hB:=xY 3 L J H sr I G F K m.toNat 0 0 0 0 c1 cc (l:=[]) (x:=a9) (.inl ⟨rfl,rfl⟩) (by simp) p;rw[p]at hM;rw[y]at hB;clear Y o y u t3 t4;simp[ak, *,bN]
end Go.Proofs.YtehkjjcdkbcebaaGreat
