/-
  Operations: whether they may be. No statement of a seat is proved here.
-/
import Derived.Test.YtmkmimgokagimaaGreatMCatFns
import Derived.Test.YtmkmimgokagimaaGreatMOmRep
set_option linter.unusedVariables false
set_option linter.unusedSimpArgs false
set_option linter.unusedSectionVars false
set_option linter.unnecessarySimpa false
set_option maxRecDepth 1000000
set_option linter.defProp false
namespace Go.Proofs.YtmkmimgokagimaaGreat
open Go.Ab
section
attribute [local simp] aJ az au aG aF aX lZ aO aE aH bT bS bg aP an bA gj
def Lg:AV := .agg [.v .nilFunc,.v .nilFunc,.fn (.func 186) [] [.iptr 1 [.fn (.func 184) [] []] 0 0],.fn (.func 188) [] [],
 .fn (.func 189) [] [.iptr 1 [.fn (.func 184) [] []] 0 0,.iptr 1 [.fn (.func 183) [] []] 0 0],.fn (.func 190) [] [],.fn (.func 191) [] [.iptr 1 [.fn (.func 183) [] []] 0 0],.fn (.func 192) [] []]
def Ya:ax env 136 []=some Lg:=FI (n:=2000) (by kernel_rfl)
@[simp] theorem Yk:ax env 185 []=some (.agg [a8 0,af 0]):=by
 refine ay rfl (by kernel_rfl) (AW _ _ λg=>?_);simp[ai, *,we]
section
variable(m:UInt8)(q:UInt8)(a_3:UInt32)(t:UInt8)(o:Int)(w:UInt8)(u:UInt32)(p:UInt8)(y:Int)(k:Int)(d:UInt8)(f:UInt32)(c:UInt8)(a:Int)(i:UInt8)(j:UInt32){x:AV}{l:List Int}(z:Sl 1 (rows l) x)(A:l.length<2000000)
include z A
theorem UY:ax env 183 [.agg [a8 m,a8 q,af a_3,a8 t,aI o,a8 w,af u,a8 p,aI y,aI k,a8 d,af f,a8 c,aI a,a8 i,af j,x]]=some (aB (y4 (⟨m,⟨q,a_3,t⟩,o,⟨⟨⟨w,u,p⟩,y⟩,k⟩,⟨⟨d,f,c⟩,a⟩,⟨i,j⟩,l⟩:aw))):=by
 refine ay rfl (by kernel_rfl) (Jl _ _ _ λg=>?_);unfold y4;cases b:gB (⟨⟨d,f,c⟩,a⟩:bM) with
 | true=>unfold gB at b;simp[ai, *,xR,z.r,ia,cg]
 | false=>unfold gB at b;simp[ai, *,xR,z.r,ia,cg]
theorem QU:ax env 184 [.agg [a8 m,a8 q,af a_3,a8 t,aI o,a8 w,af u,a8 p,aI y,aI k,a8 d,af f,a8 c,aI a,a8 i,af j,x]]=some (aB (wG (⟨i,j⟩:jW))):=by
 refine ay rfl (by kernel_rfl) (Jk _ _ _ λg=>?_);simp[ai, *,Ct,z.r,ia,cg,wG]
theorem UX:ax env 189 [.agg [a8 m,a8 q,af a_3,a8 t,aI o,a8 w,af u,a8 p,aI y,aI k,a8 d,af f,a8 c,aI a,a8 i,af j,x],.iptr 1 [.fn (.func 184) [] []] 0 0,.iptr 1 [.fn (.func 183) [] []] 0 0]=some (aB (Ob (⟨m,⟨q,a_3,t⟩,o,⟨⟨⟨w,u,p⟩,y⟩,k⟩,⟨⟨d,f,c⟩,a⟩,⟨i,j⟩,l⟩:aw))):=by
 refine ay rfl (by kernel_rfl) (Ji _ _ _ _ _ λg=>?_);have e:=UY m q a_3 t o w u p y k d f c a i j z A;have h:=QU m q a_3 t o w u p y k d f c a i j z A;unfold Ob;cases b:wG (⟨i,j⟩:jW)<;>simp[ai, *,Cs,z.r]
theorem X9:ax env 191 [.agg [a8 m,a8 q,af a_3,a8 t,aI o,a8 w,af u,a8 p,aI y,aI k,a8 d,af f,a8 c,aI a,a8 i,af j,x],.iptr 1 [.fn (.func 183) [] []] 0 0]=some (aB (Ld (⟨m,⟨q,a_3,t⟩,o,⟨⟨⟨w,u,p⟩,y⟩,k⟩,⟨⟨d,f,c⟩,a⟩,⟨i,j⟩,l⟩:aw))):=by
 refine ay rfl (by kernel_rfl) (Jh _ _ _ _ λg=>?_);have e:=UY m q a_3 t o w u p y k d f c a i j z A;unfold Ld;cases b:y4 (⟨m,⟨q,a_3,t⟩,o,⟨⟨⟨w,u,p⟩,y⟩,k⟩,⟨⟨d,f,c⟩,a⟩,⟨i,j⟩,l⟩:aw)<;>simp[ai, *,Cr,z.r]
theorem US:ax env 186 [.agg [a8 m,a8 q,af a_3,a8 t,aI o,a8 w,af u,a8 p,aI y,aI k,a8 d,af f,a8 c,aI a,a8 i,af j,x],.iptr 1 [.fn (.func 184) [] []] 0 0]=some (aB (Is (⟨m,⟨q,a_3,t⟩,o,⟨⟨⟨w,u,p⟩,y⟩,k⟩,⟨⟨d,f,c⟩,a⟩,⟨i,j⟩,l⟩:aw))):=by
 refine ay rfl (by kernel_rfl) (Jj _ _ _ _ λg=>?_);have E:=QU m q a_3 t o w u p y k d f c a i j z A;have B:=EH z (by omega);have C:=BI l;unfold Is;cases D:wG (⟨i,j⟩:jW) with
 | false=>
  cases e:gB (⟨⟨d,f,c⟩,a⟩:bM) with| false=>unfold gB at e;simp[ai, *,jL,z.r,ia,cg]| true=>unfold gB at e;simp[ai, *,jL,z.r,ia,cg]
 | true=>
  have key : ∀b:Bool,(gB (⟨⟨d,f,c⟩,a⟩:bM)||E3 (⟨⟨d,f,c⟩,a⟩:bM))=b->True:=λ_ _=>trivial;cases n:Dq ⟨w,u,p⟩ ⟨q,a_3,t⟩ with
  | false=>
   unfold Dq at n;cases e:gB (⟨⟨d,f,c⟩,a⟩:bM) with
   | false=>unfold gB at e;cases h:E3 (⟨⟨d,f,c⟩,a⟩:bM)<;>simp[ai, *,jL,z.r,ia,cg]
   | true=>unfold gB at e;simp[ai, *,jL,z.r,ia,cg]
  | true=>
   unfold Dq at n;by_cases v:(l.length:Int)=k
   ·cases e:gB (⟨⟨d,f,c⟩,a⟩:bM) with| false=>unfold gB at e;cases h:E3 (⟨⟨d,f,c⟩,a⟩:bM)<;>simp[ai, *,jL,z.r,ia,cg]| true=>unfold gB at e;simp[ai, *,jL,z.r,ia,cg]
   cases e:gB (⟨⟨d,f,c⟩,a⟩:bM) with| false=>unfold gB at e;cases h:E3 (⟨⟨d,f,c⟩,a⟩:bM)<;>simp[ai, *,jL,z.r,ia,cg]| true=>unfold gB at e;simp[ai, *,jL,z.r,ia,cg]
theorem nT:ax env 70 [.agg [a8 m,a8 q,af a_3,a8 t,aI o,a8 w,af u,a8 p,aI y,aI k,a8 d,af f,a8 c,aI a,a8 i,af j,x]]=some (aI (bad (mz (⟨m,⟨q,a_3,t⟩,o,⟨⟨⟨w,u,p⟩,y⟩,k⟩,⟨⟨d,f,c⟩,a⟩,⟨i,j⟩,l⟩:aw)))):=by
 refine ay rfl (by kernel_rfl) (Md _ _ _ λg=>?_);have K:=US m q a_3 t o w u p y k d f c a i j z A;have N:=UX m q a_3 t o w u p y k d f c a i j z A;have L:=X9 m q a_3 t o w u p y k d f c a i j z A;have M:=Ya;unfold mz CH;by_cases B:m=0;·subst B;simp[ai, *,kY,z.r]
 by_cases b:4<=m
 ·have n1 : ¬m=1:=by rintro rfl;exact absurd b (by decide)
  have n2 : ¬m=2:=by rintro rfl;exact absurd b (by decide)
  have I : ¬m=3:=by rintro rfl;exact absurd b (by decide)
  simp[ai, *,kY,z.r]
 cases J:mA ⟨q,a_3,t⟩ with| false=>simp[ai, *,kY,z.r]| true=>
 rcases Eo o 1 with v | D
 ·have D : ¬1<=o:=by omega
  simp[ai, *,kY,z.r]
 have v : ¬o<1:=by omega
 rcases Eo o 16777216 with E | n
 rotate_left
 ·have E : ¬o<16777216:=by omega
  simp[ai, *,kY,z.r]
 have n : ¬16777216<=o:=by omega
 cases H:eN ⟨⟨⟨w,u,p⟩,y⟩,k⟩ with| false=>simp[ai, *,kY,z.r]| true=>
 have F:m=1\/m=2\/m=3:=by
  have e:m.toNat<4:=by have:=UInt8.not_le.1 b;exact this
  have G:m.toNat≠0:=λh=>B (C0.1 h);rcases(show m.toNat=1\/m.toNat=2\/m.toNat=3 by omega)with h | h | h
  ·exact .inl (C0.1 h)
  ·exact .inr (.inl (C0.1 h))
  exact .inr (.inr (C0.1 h))
 rcases F with rfl | rfl | rfl
 ·cases C:Is (⟨1,⟨q,a_3,t⟩,o,⟨⟨⟨w,u,p⟩,y⟩,k⟩,⟨⟨d,f,c⟩,a⟩,⟨i,j⟩,l⟩:aw)<;>simp[ai, *,kY,z.r,Lg,EL,Ia]
 ·cases C:Ob (⟨2,⟨q,a_3,t⟩,o,⟨⟨⟨w,u,p⟩,y⟩,k⟩,⟨⟨d,f,c⟩,a⟩,⟨i,j⟩,l⟩:aw)<;>simp[ai, *,kY,z.r,Lg,EL,Ia]
 cases C:Ld (⟨3,⟨q,a_3,t⟩,o,⟨⟨⟨w,u,p⟩,y⟩,k⟩,⟨⟨d,f,c⟩,a⟩,⟨i,j⟩,l⟩:aw)<;>simp[ai, *,kY,z.r,Lg,EL,Ia]
end
@[simp] def Tp(l:List Int)(n:Nat):(rows l).all (flat (n+1))=true:=by
 simp[rows,gx,aR]
def Pp(i:UInt8)(e:UInt32)(a_3:UInt8)(f:Int)(k:Int)(d:UInt8)(c:UInt32)(a:UInt8)(b:Int){x:AV}{l:List Int}(j:Sl 1 (rows l) x)(o:l.length<1000000):ax env 240 [.agg [a8 i,af e,a8 a_3,aI f,aI k,a8 d,af c,a8 a,aI b,x]]=some (aI (bad (yE (⟨⟨⟨⟨i,e,a_3⟩,f⟩,k⟩,⟨⟨d,c,a⟩,b⟩,l⟩:Rn)))):=by
 refine ay rfl (by kernel_rfl) (KP _ _ _ λg=>?_);have n:=EH j (by omega);have q:=BI l;have m:((⟨⟨d,c,a⟩,b⟩:bM)=rP)=((decide (d=0)&&decide (c=0)&&decide (a=0)&&decide (b=0))=true):=by simp[rP,iQt]
 unfold yE;simp only[m];cases p:(decide (d=0)&&decide (c=0)&&decide (a=0)&&decide (b=0)) with
 | true=>simp[ai, *,z0,j.r,ia,cg];repeat' ((first | apply ji<;>intro h | apply fY<;>intro h | apply fZ<;>intro h | apply fW<;>intro h | apply fX<;>intro h)<;>(try simp only[iQb,iQc,dI,kT,aT,fp]at h)<;>(try simp[ai, *,j.r]))
 | false=>simp[ai, *,z0,j.r,ia,cg];repeat' ((first | apply ji<;>intro h | apply fY<;>intro h | apply fZ<;>intro h | apply fW<;>intro h | apply fX<;>intro h)<;>(try simp only[iQb,iQc,dI,kT,aT,fp]at h)<;>(try simp[ai, *,j.r]))
def Vq{r:Rn}(h:yE r=true):eN r.s=true/\(r.l.length:Int)=r.s.many:=by
 simp[yE]at h;exact⟨h.1,h.2.2.1⟩
def I9(o:aw):Int:=if mz o then (if o.kind=1/\yE ⟨o.s,o.a,o.l⟩=true then 0 else 2) else 8
def Yc(q:UInt8)(t:UInt8)(a_3:UInt32)(v:UInt8)(u:Int)(p:UInt8)(o:UInt32)(m:UInt8)(n:Int)(d:Int)(i:UInt8)(a:UInt32)(f:UInt8)(b:Int)(j:UInt8)(k:UInt32){x:AV}{l:List Int}(z:Sl 1 (rows l) x)(I:l.length<1000000):ax env 231 [.agg [a8 q,a8 t,af a_3,a8 v,aI u,a8 p,af o,a8 m,aI n,aI d,a8 i,af a,a8 f,aI b,a8 j,af k,x]] =
 some (if I9 (⟨q,⟨t,a_3,v⟩,u,⟨⟨⟨p,o,m⟩,n⟩,d⟩,⟨⟨i,a,f⟩,b⟩,⟨j,k⟩,l⟩:aw)=0 then .tup [.agg [a8 p,af o,a8 m,aI n,aI d,a8 i,af a,a8 f,aI b,.cC 1 (rows l) none],aI 0]
  else .tup [.agg [a8 0,af 0,a8 0,aI 0,aI 0,a8 0,af 0,a8 0,aI 0,bI],aI (I9 (⟨q,⟨t,a_3,v⟩,u,⟨⟨⟨p,o,m⟩,n⟩,d⟩,⟨⟨i,a,f⟩,b⟩,⟨j,k⟩,l⟩:aw))]):=by
 have L:=nT q t a_3 v u p o m n d i a f b j k z (by omega);have G:=JV z (by omega) (by omega);cases D:mz (⟨q,⟨t,a_3,v⟩,u,⟨⟨⟨p,o,m⟩,n⟩,d⟩,⟨⟨i,a,f⟩,b⟩,⟨j,k⟩,l⟩:aw) with
 | false=>have e:I9 (⟨q,⟨t,a_3,v⟩,u,⟨⟨⟨p,o,m⟩,n⟩,d⟩,⟨⟨i,a,f⟩,b⟩,⟨j,k⟩,l⟩:aw)=8:=(by simp[I9,D]);refine ay rfl (by kernel_rfl) (vd _ _ _ λg=>?_);simp[ai, *,pq,z.r]
 | true=>
  have A:=λ{y:AV} (N:Sl 1 (rows l) y)=>Pp p o m n d i a f b N I;by_cases E:l=[]
  ·have e:I9 (⟨q,⟨t,a_3,v⟩,u,⟨⟨⟨p,o,m⟩,n⟩,d⟩,⟨⟨i,a,f⟩,b⟩,⟨j,k⟩,l⟩:aw)=2:=(by simp only[I9,D,if_true];rw[if_neg];rintro⟨_,h⟩;have w:=Vq h;simp only at w;have F:=gS w.1;simp only at F;rw[E]at w;simp at w;omega);have O:yE ⟨⟨⟨⟨p,o,m⟩,n⟩,d⟩,⟨⟨i,a,f⟩,b⟩,l⟩=false:=by
    cases A:yE ⟨⟨⟨⟨p,o,m⟩,n⟩,d⟩,⟨⟨i,a,f⟩,b⟩,l⟩ with| false=>rfl| true=>have w:=Vq A;simp only at w;have F:=gS w.1;simp only at F;rw[E]at w;simp at w;omega
   subst E;have M:rows ([]:List Int)=[]:=rfl;rcases z.V8 with ⟨rfl,_⟩ | ⟨c,rfl⟩
   ·have B:=A (y:=bI) (.inl ⟨rfl,rfl⟩);clear A;refine ay rfl (by kernel_rfl) (vd _ _ _ λg=>?_);by_cases C:q=1;·subst C;simp[ai, *,pq]
    simp[ai, *,pq]
   have B:=A (y := .cC 1 (rows []) (some 0)) (.inr ⟨some 0,rfl,by simp[rows]⟩);have K:ax env 173 [.cC 1 [] c]=some (.fsl 1 [] (some 0)):=G;clear A G;rw[M]at L B ⊢;refine ay rfl (by kernel_rfl) (vd _ _ _ λg=>?_);by_cases C:q=1;·subst C;simp[ai, *,pq]
   simp[ai, *,pq]
  have w:rows l≠[]:=(by simpa using E);obtain⟨c,rfl,P⟩:=z.YY w;rw[tM 1 c w]at G;have B:=A (Sl.mk 1 (rows l));clear A;have J:=Tp l;by_cases C:q=1
  ·subst C;cases H:yE ⟨⟨⟨⟨p,o,m⟩,n⟩,d⟩,⟨⟨i,a,f⟩,b⟩,l⟩ with
   | false=>have e:I9 ⟨1,⟨t,a_3,v⟩,u,⟨⟨⟨p,o,m⟩,n⟩,d⟩,⟨⟨i,a,f⟩,b⟩,⟨j,k⟩,l⟩=2:=(by simp[I9,D,H]);refine ay rfl (by kernel_rfl) (vd _ _ _ λg=>?_);simp[ai, *,pq,z.r]
   | true=>have e:I9 ⟨1,⟨t,a_3,v⟩,u,⟨⟨⟨p,o,m⟩,n⟩,d⟩,⟨⟨i,a,f⟩,b⟩,⟨j,k⟩,l⟩=0:=(by simp[I9,D,H]);refine ay rfl (by kernel_rfl) (vd _ _ _ λg=>?_);simp[ai, *,pq,z.r]
  have e:I9 (⟨q,⟨t,a_3,v⟩,u,⟨⟨⟨p,o,m⟩,n⟩,d⟩,⟨⟨i,a,f⟩,b⟩,⟨j,k⟩,l⟩:aw)=2:=(by simp[I9,D,C]);refine ay rfl (by kernel_rfl) (vd _ _ _ λg=>?_);simp[ai, *,pq,z.r]
def Iv(t:Int):List Int->Nat->Int
 | [],_ => -1
 | a :: l,k=>if t=a then k else Iv t l (k+1)
def Wy(t:Int)(l:List Int) : ∀k:Nat,(0<=Iv t l k↔t∈l):=by
 induction l with| nil=>intro k;simp[Iv]| cons a l b=>
  intro k;unfold Iv;by_cases h:t=a;·simp[h]
  rw[if_neg h,b];simp[h]
def NA{x0:AV}{Q:AV->aa->Prop}{l:List Int}(c:Sl 1 (rows l) x0)(d:l.length<4611686018427387904){t:Int}{H:aa} :
 ∀(s:List Int)(k:Nat)(i:Int),l.drop k=s->k<=l.length->i=k->(∀y,y=aI (Iv t s k)->Q y H) ->
 bu env Tryz.f214 0 eP [(8,aI i),(0,x0),(1,aR t),(7,aI l.length)] H Q:=by
 intro s;induction s with
 | nil=>rintro k i hs hk rfl hQ;obtain rfl:=drop_nil hs hk;refine lN _ _ _ _ _ _ λg=>?_;simp[ai, *,eT];all_goals exact hQ _ rfl
 | cons a s j=>
  rintro k i hs hk rfl hQ;obtain⟨o,p,f,n⟩:=drop_cons hs;refine lN _ _ _ _ _ _ λg=>?_;have q:=iQa ((k:Int)+1) (by omega);by_cases h:t=a
  ·have e:Iv t (a :: s) k=k:=by unfold Iv;rw[if_pos h]
   simp[ai, *,eT,c.idx,rows,aR];all_goals exact hQ _ (by simp[e])
  have e:Iv t (a :: s) k=Iv t s (k+1):=(by rw[Iv,if_neg h]);have b:=j (k+1) ((k:Int)+1) f (by omega) (by simp) (λy m=>hQ y (by rw[m,e]));clear j hQ e;simp[ai, *,eT,c.idx,rows,aR];exact b
section
variable{x:AV}{l:List Int}(c:Sl 1 (rows l) x)(d:l.length<4611686018427387904)
include c d
theorem Vk(t:Int):ax env 214 [x,aR t]=some (aI (Iv t l 0)):=by
 refine ay rfl (by kernel_rfl) (tA _ _ _ _ λg=>?_);have h:=c.len;simp[ai, *,mW];exact NA c d l 0 _ rfl (by omega) rfl (λy e=>by simp[e])
theorem MF(t:Int):ax env 176 [x,aR t]=some (aB (decide (t∈l))):=by
 refine ay rfl (by kernel_rfl) (rB _ _ _ _ λg=>?_);have h:=Vk c d t;have a:=c.r;have e:=Wy t l 0;simp[ai, *,lG]
end
def Sv(u:UInt8)(n:UInt8)(a_3:UInt32)(p:UInt8)(o:Int)(v:UInt8)(t:UInt32)(m:UInt8)(q:Int)(i:Int)(k:UInt8)(e:UInt32)(j:UInt8)(f:Int)(a:UInt8)(b:UInt32){x:AV}{l:List Int}(c:Sl 1 (rows l) x)(d:l.length<4611686018427387904):ax env 121 [.agg [a8 u,a8 n,af a_3,a8 p,aI o,a8 v,af t,a8 m,aI q,aI i,a8 k,af e,a8 j,aI f,a8 a,af b,x]]=some (aB (!decide (-1∈l))):=by
 refine ay rfl (by kernel_rfl) (Mc _ _ _ λg=>?_);have h:=MF c d (-1);have w:=c.r;unfold aR at h;simp[ai, *,FY]
def oN(a b:aw):Bool:=decide (a.kind=b.kind)&&((decide (a.h.lv=b.h.lv)&&decide (a.h.cats=b.h.cats)&&decide (a.h.num=b.h.num))&&(decide (a.serial=b.serial) &&
 ((decide (a.s.f.h.lv=b.s.f.h.lv)&&decide (a.s.f.h.cats=b.s.f.h.cats)&&decide (a.s.f.h.num=b.s.f.h.num)&&decide (a.s.f.n=b.s.f.n)&&decide (a.s.many=b.s.many)) &&
 ((decide (a.a.h.lv=b.a.h.lv)&&decide (a.a.h.cats=b.a.h.cats)&&decide (a.a.h.num=b.a.h.num)&&decide (a.a.n=b.a.n))&&((decide (a.to.lv=b.to.lv)&&decide (a.to.cats=b.to.cats))&&decide (a.l=b.l))))))
def Vd(E:UInt8)(v:UInt8)(a_3:UInt32)(D:UInt8)(B:Int)(M:UInt8)(L:UInt32)(H:UInt8)(K:Int)(p:Int)(t:UInt8)(e:UInt32)(q:UInt8)(f:Int)(i:UInt8)(b:UInt32)(A:UInt8)(G:UInt8)(F:UInt32)(C:UInt8)(I:Int)(J:UInt8)(z:UInt32)(N:UInt8)(w:Int)(a:Int)(o:UInt8)(h:UInt32)(k:UInt8)(u:Int)(n:UInt8)(j:UInt32){x y:AV}{l m:List Int}(c:Sl 1 (rows l) x)(O:Sl 1 (rows m) y)(d:l.length<1000000000):ax env 211 [.agg [a8 E,a8 v,af a_3,a8 D,aI B,a8 M,af L,a8 H,aI K,aI p,a8 t,af e,a8 q,aI f,a8 i,af b,x],.agg [a8 A,a8 G,af F,a8 C,aI I,a8 J,af z,a8 N,aI w,aI a,a8 o,af h,a8 k,aI u,a8 n,af j,y]]=some (aB (oN (⟨E,⟨v,a_3,D⟩,B,⟨⟨⟨M,L,H⟩,K⟩,p⟩,⟨⟨t,e,q⟩,f⟩,⟨i,b⟩,l⟩:aw) (⟨A,⟨G,F,C⟩,I,⟨⟨⟨J,z,N⟩,w⟩,a⟩,⟨⟨o,h,k⟩,u⟩,⟨n,j⟩,m⟩:aw))):=by
 refine ay rfl (by kernel_rfl) (Pa _ _ _ _ λg=>?_);have X:=Si c O (by omega);have R:=c.r;have P:=O.r;unfold oN;cases V:decide (E=A) with
 | false=>simp[ai, *,o8,ia,cg]
 | true=>
 cases T:(decide (v=G)&&decide (a_3=F)&&decide (D=C)) with| false=>simp[ai, *,o8,ia,cg]| true=>
 cases U:decide (B=I) with| false=>simp[ai, *,o8,ia,cg]| true=>
 cases W:(decide (M=J)&&decide (L=z)&&decide (H=N)&&decide (K=w)&&decide (p=a)) with| false=>simp[ai, *,o8,ia,cg]| true=>
 cases S:(decide (t=o)&&decide (e=h)&&decide (q=k)&&decide (f=u)) with| false=>simp[ai, *,o8,ia,cg]| true=>
 cases Q:(decide (i=n)&&decide (b=j)) with| false=>simp[ai, *,o8,ia,cg]| true=>simp[ai, *,o8,ia,cg]
@[simp] def Q2(a:UInt8)(b:UInt32)(c:UInt8)(d:UInt32):ax env 47 [.agg [a8 a,af b],.agg [a8 c,af d]]=some (aB (rG ⟨a,b⟩ ⟨c,d⟩)):=by
 refine ay rfl (by kernel_rfl) (Dg _ _ _ _ λg=>?_);simp[ai, *,z3];repeat' ((first | apply ji<;>intro h | apply fY<;>intro h | apply fZ<;>intro h | apply fW<;>intro h | apply fX<;>intro h)<;>(try simp only[iQb,iQc,dI,kT,aT,fp]at h)<;>(try simp[ai, *,rG]))
def afR(h:UInt8)(c:UInt32)(a_3:UInt8)(b:Int)(d:Int)(i:UInt8)(m:UInt32)(k:UInt8)(a:Int)(z : -4611686018427387904<a)(F:a<4611686018427387904):ax env 251 [.agg [a8 h,af c,a8 a_3,aI b,aI d],.agg [a8 i,af m,a8 k,aI a]]=some (if hasB (⟨⟨⟨h,c,a_3⟩,b⟩,d⟩:wm) (⟨⟨i,m,k⟩,a⟩:bM) then .tup [aI (a - b),aB true] else .tup [aI 0,aB false]):=by
 refine ay rfl (by kernel_rfl) (Pc _ _ _ _ λg=>?_);cases n:eN (⟨⟨⟨h,c,a_3⟩,b⟩,d⟩:wm) with
 | false=>have e:hasB (⟨⟨⟨h,c,a_3⟩,b⟩,d⟩:wm) (⟨⟨i,m,k⟩,a⟩:bM)=false:=(by simp[hasB,n]);simp[ai, *,tS]
 | true=>
  have v:=gS n;simp only at v;have A:=iQa (a - b) (by omega);have E:=iQa (b+(a - b)) (by omega);have D:b+(a - b)=a:=by omega
  have C:=iQa a (by omega);rcases Eo (a - b) 0 with t | t
  ·have e:hasB (⟨⟨⟨h,c,a_3⟩,b⟩,d⟩:wm) (⟨⟨i,m,k⟩,a⟩:bM)=false:=(by have : ¬b<=a:=(by omega);simp[hasB,this]);simp[ai, *,tS]
  have u : ¬a - b<0:=(by omega);rcases Eo (a - b) d with p | p
  rotate_left
  ·have e:hasB (⟨⟨⟨h,c,a_3⟩,b⟩,d⟩:wm) (⟨⟨i,m,k⟩,a⟩:bM)=false:=(by have : ¬a<b+d:=(by omega);simp[hasB,this]);simp[ai, *,tS]
  have w : ¬d<=a - b:=(by omega);have q:b<=a:=(by omega);have y:a<b+d:=(by omega);have o:decide ((⟨h,c,a_3⟩:xn)=⟨i,m,k⟩)=(decide (i=h)&&decide (m=c)&&decide (k=a_3)):=(by simp[AJ,eq_comm]);have e:hasB (⟨⟨⟨h,c,a_3⟩,b⟩,d⟩:wm) (⟨⟨i,m,k⟩,a⟩:bM)=(decide (i=h)&&decide (m=c)&&decide (k=a_3)):=(by rw[<-o];simp only[hasB,n,q,y,decide_true,AI,m9]);rw[e];clear e o;cases B:(decide (i=h)&&decide (m=c)&&decide (k=a_3)) with
  | false=>simp[ai, *,tS,ia,cg]
  | true=>simp[ai, *,tS,ia,cg]
def vT(t:jW):List jW->Nat->Int
 | [],_ => -1
 | a :: l,k=>if t=a then k else vT t l (k+1)
def Qa(t:jW)(l:List jW) : ∀k:Nat,(0<=vT t l k↔t∈l):=by
 induction l with| nil=>intro k;simp[vT]| cons a l b=>
  intro k;unfold vT;by_cases h:t=a;·simp[h]
  rw[if_neg h,b];simp[h]
def NB{x0:AV}{Q:AV->aa->Prop}{l:List jW}(f:Sl 2 (kL l) x0)(j:l.length<4611686018427387904){a:UInt8}{b:UInt32}{r3:Ref}{H:aa}(u:H.get r3=some ⟨2,[.agg [a8 a,af b]],false,false⟩) :
 ∀(s:List jW)(k:Nat)(i:Int),l.drop k=s->k<=l.length->i=k->(∀y,y=aI (vT ⟨a,b⟩ s k)->Q y H) ->
 bu env Tryz.f248 0 bj [(8,aI i),(0,x0),(3,.ptr r3 0 0),(7,aI l.length)] H Q:=by
 intro s;induction s with
 | nil=>rintro k i hs hk rfl hQ;obtain rfl:=drop_nil hs hk;refine dn _ _ _ _ _ _ λg=>?_;simp[ai, *,bm];all_goals exact hQ _ rfl
 | cons t s p=>
  rintro k i hs hk rfl hQ;obtain⟨t1,t2⟩:=t;obtain⟨o,q,d,n⟩:=drop_cons hs;refine dn _ _ _ _ _ _ λg=>?_;have v:=iQa ((k:Int)+1) (by omega);have c:((⟨a,b⟩:jW)=⟨t1,t2⟩)=((decide (a=t1)&&decide (b=t2))=true):=by simp
  cases h:(decide (a=t1)&&decide (b=t2)) with
  | true=>
   rw[h]at c;have e:vT ⟨a,b⟩ (⟨t1,t2⟩ :: s) k=k:=by unfold vT;rw[if_pos (by rw[c])]
   clear c;simp[ai, *,bm,f.idx,kL,ia,cg];all_goals exact hQ _ (by simp[e])
  | false=>rw[h]at c;have e:vT ⟨a,b⟩ (⟨t1,t2⟩ :: s) k=vT ⟨a,b⟩ s (k+1):=(by rw[vT,if_neg (by rw[c];simp)]);clear c;simp[ai, *,bm,f.idx,kL,ia,cg];exact p (k+1) _ d (by omega) (by simp) (λy m=>hQ y (by rw[m,e]))
section
variable{x:AV}{l:List jW}(f:Sl 2 (kL l) x)(j:l.length<4611686018427387904)
include f j
theorem Vl(a:UInt8)(b:UInt32):ax env 248 [x,.agg [a8 a,af b]]=some (aI (vT ⟨a,b⟩ l 0)):=by
 refine ay rfl (by kernel_rfl) (iS _ _ _ _ λg=>?_);have h:=f.len;simp[ai, *,dE];exact NB f j (a:=a) (b:=b) (by simp) l 0 _ rfl (by omega) rfl (λy e=>by simp[e])
theorem A4(a:UInt8)(b:UInt32):ax env 246 [x,.agg [a8 a,af b]]=some (aB (decide (⟨a,b⟩∈l))):=by
 refine ay rfl (by kernel_rfl) (ic _ _ _ _ λg=>?_);have h:=Vl f j a b;have e:=Qa ⟨a,b⟩ l 0;simp[ai, *,df,f.r]
end
structure JH (r r7 q:Ref) (c:Option Nat) (info:AV) (H:aa) (out:List jW):Prop where
 fr:Fr H
 mark:H.get r=some (k7 0 info)
 box:H.get r7=some ⟨1,[.bN q 0 out.length c],false,false⟩
 row:H.get q=some ⟨2,kL out,true,false⟩
 cap:(c=none/\q.d=2/\q.t=25/\2<=out.length)\/(c=some out.length/\out.length=1)
 n1:r7≠r
 n2:q≠r
 n3:q≠r7
def P2{r r7 q:Ref}{c:Option Nat}{tm:List AV}{H:aa}{out:List jW}{ps:List Tmp}(o:ps=[17])(n:dA tm 7 = .ptr r7 0 0)(v:JH r r7 q c (.lp 0 27 ps dN dM tm) H out)(u:out.length<1000000)(a:UInt8)(b:UInt32) :
 ∃y H',cb env 1 (.yld r) [.agg [a8 a,af b]] H=some (y,H')/\(y=aB true /\∃D w,JH r r7 D w (.lp 0 27 ps dN dM tm) H' (sX out ⟨a,b⟩)):=by
 subst o;refine Td (fn:=Tryz.f247) (dep:=1) v.mark (by kernel_rfl) rfl rfl (by kernel_rfl) (by kernel_rfl) ?_;rw[<-Nj (s:=dA (xI tm [17] [.agg [a8 a,af b]])) (l:=[(7,.ptr r7 0 0),(17,.agg [a8 a,af b])]) (by
  intro p hp;simp only[eD,Et,iQE]at hp;rcases hp with rfl | rfl
  ·show dA (Dj tm 17 _) 7=_;rw[vg];simpa using n
  show dA (Dj tm 17 _) 17=_;rw[vg];simp)]
 refine(BY r _ _ _ _ λg=>?_).h _;obtain⟨fr,mark,box,row,cap,n1,n2,n3⟩:=v;have B:=n1.symm;have C:=n2.symm;have A:=n3.symm;have G:(H.get r).isSome=true:=by rw[mark];rfl
 have I:(H.get r7).isSome=true:=by rw[box];rfl
 have N:(H.get q).isSome=true:=by rw[row];rfl
 have K:out.length+1<=17592186044416:=by omega
 have J:(out.length+1) * 8<=140737488355328:=by omega
 have d:(⟨a,b⟩:jW) ∉ out->sX out ⟨a,b⟩=out++[⟨a,b⟩]:=λh=>by unfold sX;rw[if_neg h]
 rcases cap with ⟨rfl,q1,t,m⟩ | ⟨rfl,k⟩
 ·obtain⟨F,L,E,M⟩:=q;simp only at q1 t;subst q1 t;have z:=A4 (x := .cC 2 (kL out) none) (Sl.mk _ _) (by omega) a b;by_cases i:(⟨a,b⟩:jW)∈out
  ·have e:sX out ⟨a,b⟩=out:=by unfold sX;rw[if_pos i]
   simp[ai, *,kI,wX,aa.get_put];refine⟨_,rfl,_,none,⟨by simp(maxDischargeDepth:=12) [fN, *],by simp(maxDischargeDepth:=12) [fN, *],by simp(maxDischargeDepth:=12) [fN, *],by simp(maxDischargeDepth:=12) [fN, *],.inl ⟨rfl,rfl,rfl,by first | exact m | (rw[e];exact m)⟩,n1,n2,n3⟩⟩
  replace d:=d i;simp[ai, *,kI,wX,aa.get_put];refine⟨_,rfl,⟨2,25,H.gen 2 25,0⟩,none,⟨by simp(maxDischargeDepth:=12) [fN, *],by simp(maxDischargeDepth:=12) [fN, *],by simp(maxDischargeDepth:=12) [fN, *],?_,.inl ⟨rfl,rfl,rfl,by simp[d];omega⟩,by simp(maxDischargeDepth:=12) [fN, *],by simp(maxDischargeDepth:=12) [fN, *],by simp(maxDischargeDepth:=12) [fN, *]⟩⟩;simp[aa.get_put,kL,d]
 have m:out.length<=1/\1<=out.length:=by omega
 clear k;have z:=A4 (x := .cC 2 (kL out) (some out.length)) (.inr ⟨_,rfl,by simp⟩) (by omega) a b;by_cases i:(⟨a,b⟩:jW)∈out
 ·have e:sX out ⟨a,b⟩=out:=by unfold sX;rw[if_pos i]
  simp[ai, *,kI,wX,aa.get_put];refine⟨_,rfl,_,some out.length,⟨by simp(maxDischargeDepth:=12) [fN, *],by simp(maxDischargeDepth:=12) [fN, *],by simp(maxDischargeDepth:=12) [fN, *],by simp(maxDischargeDepth:=12) [fN, *],.inr ⟨by first | rfl | rw[e],by first | omega | (rw[e];omega)⟩,n1,n2,n3⟩⟩
 replace d:=d i;simp[ai, *,kI,wX,aa.get_put];refine⟨_,rfl,⟨2,25,H.gen 2 25,0⟩,none,⟨by simp(maxDischargeDepth:=12) [fN, *],by simp(maxDischargeDepth:=12) [fN, *],by simp(maxDischargeDepth:=12) [fN, *],?_,.inl ⟨rfl,rfl,rfl,by simp[d];omega⟩,by simp(maxDischargeDepth:=12) [fN, *],by simp(maxDischargeDepth:=12) [fN, *],by simp(maxDischargeDepth:=12) [fN, *]⟩⟩;simp[aa.get_put,kL,d]
def JH.cons{r r7 q:Ref}{c:Option Nat}{a:AV}{H:aa}{out:List jW}(h:JH r r7 q c a H out)(d t:Nat)(b:Option aQ):JH r r7 q c a ((⟨d,t,H.gen d t,0⟩,b) :: H) out:=by
 obtain⟨fr,mark,box,row,cap,n1,n2,n3⟩:=h;have e:(H.get r).isSome=true:=by rw[mark];rfl
 have g:(H.get r7).isSome=true:=by rw[box];rfl
 have i:(H.get q).isSome=true:=by rw[row];rfl
 exact⟨by simp(maxDischargeDepth:=12) [fN, *],by simp(maxDischargeDepth:=12) [fN, *],by simp(maxDischargeDepth:=12) [fN, *],by simp(maxDischargeDepth:=12) [fN, *],cap,n1,n2,n3⟩
def MT{r r7:Ref}{tm:List AV}(Y:dA tm 7 = .ptr r7 0 0){l:List (aw × AV)}{x9:AV}(f:Sl 17 (bf l) x9)(U : ∀p∈l,ET p)(j:l.length<100000)(h:UInt8)(n:UInt32)(m:UInt8)(e:Int)(X : -4611686018427387904<e)(Z:e<4611686018427387904)(M:UInt8)(L:UInt32){Q:AV->aa->Prop} :
 ∀(s:List (aw × AV)) (k:Nat) (i:Int) (out:List jW) (q:Ref) (c:Option Nat) (H:aa),l.drop k=s->k<=l.length->i=k->out.length<=k+1 ->
 JH r r7 q c (.lp 0 27 [17] dN dM tm) H out ->
 (∀y I J H',JH r r7 I J (.lp 0 27 [17] dN dM tm) H' (vQ out (opsOf s) (⟨⟨h,n,m⟩,e⟩:bM) ⟨M,L⟩)->Q y H') ->
 bu env Tryz.f250 (0+1) mF [(11,aI i),(0,.yld r),(3,.iptr 2 [.agg [a8 M,af L]] 0 0),(2,.iptr 4 [.agg [a8 h,af n,a8 m,aI e]] 0 0),(9,x9),(10,aI l.length)] H Q:=by
 intro s;induction s with
 | nil=>rintro k i out q c H hs hk rfl ho hI hQ;obtain rfl:=drop_nil hs hk;refine uT _ _ _ _ _ _ _ _ _ λg=>?_;simp[ai, *,iK];exact hQ _ _ _ _ hI
 | cons p s W=>
  rintro k i out q c H hs hk rfl ho hI hQ;obtain⟨hlt,hg,N,hg'⟩:=drop_cons hs;have hp:=U p (by rw[<-hg];exact je _);obtain⟨⟨G,⟨C,a_3,F⟩,E,⟨⟨⟨z,B,w⟩,A⟩,d⟩,⟨⟨v,o,u⟩,t⟩,⟨b,a⟩,S⟩,x⟩:=p;obtain⟨K,hpl⟩:=hp;simp only at K hpl;refine uT _ _ _ _ _ _ _ _ _ λg=>?_;have e3:=iQa ((k:Int)+1) (by omega);have hh:=afR z B w A d h n m e X Z;have O:=hI.cons 1 6 (some ⟨17,[.agg [a8 G,a8 C,af a_3,a8 F,aI E,a8 z,af B,a8 w,aI A,aI d,a8 v,af o,a8 u,aI t,a8 b,af a,x]],false,false⟩);have D:vQ out (opsOf (((⟨G,⟨C,a_3,F⟩,E,⟨⟨⟨z,B,w⟩,A⟩,d⟩,⟨⟨v,o,u⟩,t⟩,⟨b,a⟩,S⟩:aw),x) :: s)) (⟨⟨h,n,m⟩,e⟩:bM) ⟨M,L⟩=vQ (if kK (⟨G,⟨C,a_3,F⟩,E,⟨⟨⟨z,B,w⟩,A⟩,d⟩,⟨⟨v,o,u⟩,t⟩,⟨b,a⟩,S⟩:aw) (⟨⟨h,n,m⟩,e⟩:bM) ⟨M,L⟩ then sX out ⟨b,a⟩ else out) (opsOf s) (⟨⟨h,n,m⟩,e⟩:bM) ⟨M,L⟩:=rfl;have hfr:=hI.fr;by_cases T:G=3;rotate_left
  ·have P:kK (⟨G,⟨C,a_3,F⟩,E,⟨⟨⟨z,B,w⟩,A⟩,d⟩,⟨⟨v,o,u⟩,t⟩,⟨b,a⟩,S⟩:aw) (⟨⟨h,n,m⟩,e⟩:bM) ⟨M,L⟩=false:=(by simp[kK,T]);rw[P,if_neg (by decide)]at D;cases V:hasB ⟨⟨⟨z,B,w⟩,A⟩,d⟩ (⟨⟨h,n,m⟩,e⟩:bM)<;>simp[ai, *,iK,f.idx,bf,wC,K.r];all_goals exact W (k+1) _ out q c _ N (by omega) (by simp) (by omega) O (λy I J H' R=>hQ y I J H' (by rw[D];exact R))
  subst T;cases V:hasB ⟨⟨⟨z,B,w⟩,A⟩,d⟩ (⟨⟨h,n,m⟩,e⟩:bM) with
  | false=>have P:kK (⟨3,⟨C,a_3,F⟩,E,⟨⟨⟨z,B,w⟩,A⟩,d⟩,⟨⟨v,o,u⟩,t⟩,⟨b,a⟩,S⟩:aw) (⟨⟨h,n,m⟩,e⟩:bM) ⟨M,L⟩=false:=(by simp[kK,V]);rw[P,if_neg (by decide)]at D;simp[ai, *,iK,f.idx,bf,wC,K.r];exact W (k+1) _ out q c _ N (by omega) (by simp) (by omega) O (λy I J H' R=>hQ y I J H' (by rw[D];exact R))
  | true=>
   cases hq:rG ⟨C,a_3⟩ ⟨M,L⟩ with| false=>have P:kK (⟨3,⟨C,a_3,F⟩,E,⟨⟨⟨z,B,w⟩,A⟩,d⟩,⟨⟨v,o,u⟩,t⟩,⟨b,a⟩,S⟩:aw) (⟨⟨h,n,m⟩,e⟩:bM) ⟨M,L⟩=false:=(by simp[kK,V,LJ,hq]);rw[P,if_neg (by decide)]at D;simp[ai, *,iK,f.idx,bf,wC,K.r];exact W (k+1) _ out q c _ N (by omega) (by simp) (by omega) O (λy I J H' R=>hQ y I J H' (by rw[D];exact R))| true=>have P:kK (⟨3,⟨C,a_3,F⟩,E,⟨⟨⟨z,B,w⟩,A⟩,d⟩,⟨⟨v,o,u⟩,t⟩,⟨b,a⟩,S⟩:aw) (⟨⟨h,n,m⟩,e⟩:bM) ⟨M,L⟩=true:=(by simp[kK,V,LJ,hq]);rw[P,if_pos rfl]at D;obtain⟨y,H',hy,rfl,I,J,hI'⟩:=P2 rfl Y O (by omega) b a;simp[ai, *,iK,f.idx,bf,wC,K.r,Oj];exact W (k+1) _ _ I J _ N (by omega) (by simp) (by have:=Oy out ⟨b,a⟩;omega) hI' (λy I J H' R=>hQ y I J H' (by rw[D];exact R))
def PF{r r7 q:Ref}{c:Option Nat}{tm:List AV}{H:aa}{out:List jW}(t:dA tm 7 = .ptr r7 0 0){l:List (aw × AV)}{x:AV}(f:Sl 17 (bf l) x)(h : ∀p∈l,ET p)(j:l.length<100000)(b:UInt8)(e:UInt32)(d:UInt8)(a:Int)(o : -4611686018427387904<a)(u:a<4611686018427387904)(m:UInt8)(k:UInt32)
 (z:out.length<=1) (w:JH r r7 q c (.lp 0 27 [17] dN dM tm) H out) :
 ∃y H',cb env 0 (.fn 250) [.yld r,.iptr 1 [x] 0 0,.iptr 4 [.agg [a8 b,af e,a8 d,aI a]] 0 0,.iptr 2 [.agg [a8 m,af k]] 0 0] H=some (y,H') /\∃n i,JH r r7 n i (.lp 0 27 [17] dN dM tm) H' (vQ out (opsOf l) (⟨⟨b,e,d⟩,a⟩:bM) ⟨m,k⟩):=by
 refine nN (fn:=Tryz.f250) (c:=Eb) (by kernel_rfl) (by kernel_rfl) (by kernel_rfl) (by kernel_rfl) (by kernel_rfl) ?_;refine Di _ _ _ _ _ _ _ λg=>?_;simp[ai, *,xm,f.r];exact MT t f h j b e d a o u m k l 0 _ out q c H rfl (by omega) rfl (by omega) w (λy n i H' v=>⟨n,i,v⟩)
def Yq:kB = .code (.rangeFunc (.tmp 16) #[17] dN dM) :: uU:=by kernel_rfl
def IT(out:List jW):Option Nat:=if out.length=1 then some 1 else none
def Sa{l:List (aw × AV)}{x:AV}(f:Sl 17 (bf l) x)(b:UInt8)(c:UInt32)(a:UInt8)(d:Int)(h:UInt8)(e:UInt32):ax env 249 [x,.agg [a8 b,af c,a8 a,aI d],.agg [a8 h,af e]]=some (.fn (.func 250) [] [.iptr 1 [x] 0 0,.iptr 4 [.agg [a8 b,af c,a8 a,aI d]] 0 0,.iptr 2 [.agg [a8 h,af e]] 0 0]):=by
 refine ay rfl (by kernel_rfl) (F6 _ _ _ _ _ λg=>?_);simp[ai, *,Ay,f.r]
def aba{l:List (aw × AV)}{x:AV}(f:Sl 17 (bf l) x)(n : ∀p∈l,ET p)(j:l.length<100000)(a:UInt8)(b:UInt32)(e:UInt8)(d:Int)(v : -4611686018427387904<d)(w:d<4611686018427387904)(k:UInt8)(i:UInt32) :
 ax env 247 [x,.agg [a8 a,af b,a8 e,aI d],.agg [a8 k,af i]]=some (.cC 2 (kL (pT (opsOf l) (⟨⟨a,b,e⟩,d⟩:bM) ⟨k,i⟩)) (IT (pT (opsOf l) (⟨⟨a,b,e⟩,d⟩:bM) ⟨k,i⟩))):=by
 refine ay rfl (by kernel_rfl) (Jm _ _ _ _ _ λg=>?_);have K:=Sa f a b e d k i;have o : ∀ {r r7 q c m H out},JH r r7 q c m H out->c=IT out:=by
  intro r r7 q c m H out h;rcases h.cap with ⟨u,_,_,A⟩ | ⟨u,A⟩
  ·rw[u,IT,if_neg (by omega)]
  rw[u,IT,if_pos A,A]
 simp[ai, *,Cu,f.r];rw[Yq];refine⟨λE=>Qh (gi:=250) (first:=[]) (captured:=[.iptr 1 [x] 0 0,.iptr 4 [.agg [a8 a,af b,a8 e,aI d]] 0 0,.iptr 2 [.agg [a8 k,af i]] 0 0]) rfl ?_⟩;intro tm F;have I:dA tm 7 = .ptr ⟨0,7,0,0⟩ 0 0:=(F 7).trans rfl;rw[show Tryz.f247.ntmps=27 from by kernel_rfl];obtain⟨y,H',G,L,J,hm⟩:=PF (r:=⟨0,27,0,0⟩) (r7:=⟨0,7,0,0⟩) (q:=⟨0,12,0,0⟩) (c:=some 1) (tm:=tm) (out:=[⟨a,b⟩])
  (H:=(⟨0,27,0,0⟩,some (k7 0 (.lp 0 27 [17] dN dM tm))) :: [(⟨0,7,0,0⟩,some ⟨1,[.bN ⟨0,12,0,0⟩ 0 1 (some 1)],false,false⟩),(⟨0,12,0,0⟩,some ⟨2,[.agg [a8 a,af b]],true,false⟩),(⟨0,5,0,0⟩,some ⟨2,[.agg [a8 k,af i]],false,false⟩),(⟨0,4,0,0⟩,some ⟨4,[.agg [a8 a,af b,a8 e,aI d]],false,false⟩)])
  I f n j a b e d v w k i (by simp) ⟨by simp(maxDischargeDepth:=12) [BV, *],by simp,by simp,by simp[kL],.inr ⟨rfl,rfl⟩,by decide,by decide,by decide⟩
 refine⟨y,H',0,_,by simpa using G,by simp only[aa.NP,aa.Zd];rw[wX];exact(iQg lpO hm.mark).trans (DP _ _),.inl ⟨rfl,?_⟩⟩;have D:=Nj (s:=PW E [(16,AV.fn (.func 250) [] [.iptr 1 [x] 0 0,.iptr 4 [.agg [a8 a,af b,a8 e,aI d]] 0 0,.iptr 2 [.agg [a8 k,af i]] 0 0]),(7,AV.ptr ⟨0,7,0,0⟩ 0 0)]) (l:=[(7,AV.ptr ⟨0,7,0,0⟩ 0 0)]) (by
  intro p hp;simp only[eD,Et,iQE]at hp;subst hp;rfl)
 rw[<-D];refine(A0 _ _ _ λg=>?_).h _;have n1:(⟨0,7,0,0⟩:Ref)≠⟨0,27,0,0⟩:=hm.n1;have n2:=hm.n2;have z:=hm.box;have B:=hm.row;have C:=o hm;subst C;have t:(vQ [⟨a,b⟩] (opsOf l) (⟨⟨a,b,e⟩,d⟩:bM) ⟨k,i⟩)=pT (opsOf l) (⟨⟨a,b,e⟩,d⟩:bM) ⟨k,i⟩:=rfl;rw[t]at z B;simp[ai, *,uD,aa.get_put]
def RG(out:List jW):Sl 2 (kL out) (.cC 2 (kL out) (IT out)):=by
 refine .inr ⟨_,rfl,?_⟩;unfold IT;split;·rename_i h;simp[h]
 simp
def p7(l:List aw)(o:aw):Nat->Nat->Bool
 | 0,_=>true
 | n+1,k=>decide (LJ o∈pT l ⟨o.s.f.h,o.s.f.n+(k:Int)⟩ (LJ o))&&p7 l o n (k+1)
def Kc(l:List aw)(i:bM)(v:jW):(pT l i v).length<=1+l.length:=Ta l i v [OG i]
def Tr{l:List (aw × AV)}{x0:AV}(b:Sl 17 (bf l) x0)(a : ∀p∈l,ET p)(d:l.length<100000)(C:UInt8)(f:UInt8)(a_3:UInt32)(B:UInt8)(A:Int)(o:UInt8)(m:UInt32)(h:UInt8)(j:Int)(c:Int)(z:UInt8)(t:UInt32)(w:UInt8)(u:Int)(v:UInt8)(q:UInt32){E:List Int}{x:AV}(D:Sl 1 (rows E) x)(J:eN ⟨⟨⟨o,m,h⟩,j⟩,c⟩=true){Q:AV->aa->Prop}{r3:Ref} :
 ∀(n k:Nat)(i:Int)(right:Bool)(H:aa),(k:Int)+n=c->i=k->Fr H->H.get r3=some ⟨17,[.agg [a8 C,a8 f,af a_3,a8 B,aI A,a8 o,af m,a8 h,aI j,aI c,a8 z,af t,a8 w,aI u,a8 v,af q,x]],false,false⟩->(k=0\/right=true) ->
 (∀y H',y=aB (right&&p7 (opsOf l) (⟨C,⟨f,a_3,B⟩,A,⟨⟨⟨o,m,h⟩,j⟩,c⟩,⟨⟨z,t,w⟩,u⟩,⟨v,q⟩,E⟩:aw) n k)->Q y H') ->
 bu env Tryz.f244 0 qy [(21,aI i),(3,.ptr r3 0 0),(0,x0),(5,aB right),(20,aI c)] H Q:=by
 have I:=gS J;simp only at I;intro n;induction n with
 | zero=>
  rintro k i right H hk rfl hF hB hr hQ;refine Al _ _ _ _ _ _ _ λg=>?_;have F : ¬(k:Int)<c:=by omega
  simp[ai, *,nR];all_goals exact hQ _ _ (by simp[p7])
 | succ n L=>
  rintro k i right H hk rfl hF hB hr hQ;refine Al _ _ _ _ _ _ _ λg=>?_;have F:(k:Int)<c:=by omega
  have R:=iQa ((k:Int)+1) (by omega);have P:XI ⟨⟨⟨o,m,h⟩,j⟩,c⟩ (k:Int)=0:=(by unfold XI;rw[if_pos J,if_neg];simp only;omega);have N:=aba b a d o m h (j+k) (by omega) (by omega) f a_3;have M:=Kc (opsOf l) ⟨⟨o,m,h⟩,j+k⟩ ⟨f,a_3⟩;have O:=A4 (RG (pT (opsOf l) ⟨⟨o,m,h⟩,j+k⟩ ⟨f,a_3⟩)) (by rw[show(opsOf l).length=l.length from pI _]at M;omega) f a_3;have G:p7 (opsOf l) (⟨C,⟨f,a_3,B⟩,A,⟨⟨⟨o,m,h⟩,j⟩,c⟩,⟨⟨z,t,w⟩,u⟩,⟨v,q⟩,E⟩:aw) (n+1) k=(decide ((⟨f,a_3⟩:jW)∈pT (opsOf l) ⟨⟨o,m,h⟩,j+k⟩ ⟨f,a_3⟩)&&p7 (opsOf l) (⟨C,⟨f,a_3,B⟩,A,⟨⟨⟨o,m,h⟩,j⟩,c⟩,⟨⟨z,t,w⟩,u⟩,⟨v,q⟩,E⟩:aw) n (k+1)):=rfl;rw[G]at hQ;clear G I;cases right with
  | false=>simp[ai, *,nR,b.r,D.r];all_goals exact hQ _ _ (by simp)
  | true=>
   by_cases K:(⟨f,a_3⟩:jW)∈pT (opsOf l) ⟨⟨o,m,h⟩,j+k⟩ ⟨f,a_3⟩;·simp[ai, *,nR,b.r,D.r];exact L (k+1) _ true _ (by omega) (by simp) (by simp(maxDischargeDepth:=12) [BV, *]) (by simp(maxDischargeDepth:=12) [BV, *]) (.inr rfl) (λy H' e=>hQ y H' (by rw[e];simp[K]))
   simp[ai, *,nR,b.r,D.r];all_goals exact hQ _ _ (by simp[K])
def NS(l:List aw)(o:aw)(c:o.kind=3):la l o=(rG (LJ o) o.to&&p7 l o o.s.many.toNat 0):=by
 unfold la;rw[if_pos c];congr 1;have key : ∀n k,p7 l o n k=(List.range n).all (λj=>decide (LJ o∈pT l ⟨o.s.f.h,o.s.f.n+((k+j:Nat):Int)⟩ (LJ o))):=by
  intro n;induction n with
  | zero=>intro k;rfl
  | succ n e=>intro k;rw[p7,e,O0,vm,List.all_map];congr 1;congr 1;funext j;simp only[Function.comp,OT];rw[show k+1+j=k+(j+1) by omega]
 rw[key];simp
def UU{l:List (aw × AV)}{x0:AV}(b:Sl 17 (bf l) x0)(a : ∀p∈l,ET p)(d:l.length<100000)(z:UInt8)(u:UInt8)(a_3:UInt32)(w:UInt8)(v:Int)(t:UInt8)(q:UInt32)(n:UInt8)(o:Int)(c:Int)(m:UInt8)(i:UInt32)(k:UInt8)(j:Int)(f:UInt8)(h:UInt32){B:List Int}{x:AV}(A:Sl 1 (rows B) x)(C:eN ⟨⟨⟨t,q,n⟩,o⟩,c⟩=true) :
 ax env 244 [x0,.agg [a8 z,a8 u,af a_3,a8 w,aI v,a8 t,af q,a8 n,aI o,aI c,a8 m,af i,a8 k,aI j,a8 f,af h,x]]=some (aB (la (opsOf l) (⟨z,⟨u,a_3,w⟩,v,⟨⟨⟨t,q,n⟩,o⟩,c⟩,⟨⟨m,i,k⟩,j⟩,⟨f,h⟩,B⟩:aw))):=by
 refine ay rfl (by kernel_rfl) (Jn _ _ _ _ λg=>?_);by_cases D:z=3;·subst D;rw[NS _ _ rfl];have E:=gS C;simp only at E;simp[ai, *,xT,b.r,A.r];exact Tr b a d 3 u a_3 w v t q n o c m i k j f h A C c.toNat 0 _ _ _ (by omega) rfl (by simp(maxDischargeDepth:=12) [BV, *]) (by simp) (.inl rfl) (λy H' e=>by rw[e];simp[LJ])
 have e:la (opsOf l) (⟨z,⟨u,a_3,w⟩,v,⟨⟨⟨t,q,n⟩,o⟩,c⟩,⟨⟨m,i,k⟩,j⟩,⟨f,h⟩,B⟩:aw)=true:=by unfold la;rw[if_neg D]
 simp[ai, *,xT,A.r]
def Pz(s t:List aw) : ∀l,mb l (s++t)=(mb l s&&mb (l++s) t):=by
 induction s with| nil=>intro l;simp[mb]| cons o s c=>intro l;show(mz o&&la l o&&mb (l++[o]) (s++t))=(mz o&&la l o&&mb (l++[o]) s&&mb (l++o :: s) t);rw[c,AM,List.singleton_append];simp only[AJ]
def lS{o:aw}(h:mz o=true):eN o.s=true:=by
 simp only[mz,aT]at h;exact h.2.2.2.1
def Qq{l:List (aw × AV)}{x0:AV}(b:Sl 17 (bf l) x0)(a : ∀p∈l,ET p)(d:l.length<100000){Q:AV->aa->Prop} :
 ∀(s:List (aw × AV)) (k:Nat) (i:Int) (H:aa),l.drop k=s->k<=l.length->i=k->Fr H ->
 (∀y H',y=aI (bad (mb (opsOf (l.take k)) (opsOf s)))->Q y H') ->
 bu env Tryz.f243 0 pg [(10,aI i),(0,x0),(8,x0),(9,aI l.length)] H Q:=by
 intro s;induction s with
 | nil=>rintro k i H hs hk rfl hF hQ;obtain rfl:=drop_nil hs hk;refine yh _ _ _ _ _ _ λg=>?_;simp[ai, *,m4];all_goals exact hQ _ _ rfl
 | cons p s Z=>
  rintro k i H hs hk rfl hF hQ;obtain⟨F,S,N,R⟩:=drop_cons hs;have hp:=a p (by rw[<-S];exact je _);obtain⟨⟨w,⟨t,a_3,v⟩,u,⟨⟨⟨A,C,z⟩,B⟩,n⟩,⟨⟨q,h,o⟩,j⟩,⟨m,f⟩,E⟩,x⟩:=p;obtain⟨D,I⟩:=hp;simp only at D I;refine yh _ _ _ _ _ _ λg=>?_;have e3:=iQa ((k:Int)+1) (by omega);have hc:=nT w t a_3 v u A C z B n q h o j m f D I;have W:Sl 17 (bf (l.take k)) (.cC 17 (bf (l.take k)) none):=Sl.mk _ _;obtain⟨c,rfl,J⟩:=b.YY (by intro e;have:=iQg List.length e;simp at this;subst this;simp at F);have G:l.take (k+1)=l.take k++[((⟨w,⟨t,a_3,v⟩,u,⟨⟨⟨A,C,z⟩,B⟩,n⟩,⟨⟨q,h,o⟩,j⟩,⟨m,f⟩,E⟩:aw),x)]:=by rw[List.take_succ_eq_append_getElem F,S]
  have T:mb (opsOf (l.take k)) (opsOf (((⟨w,⟨t,a_3,v⟩,u,⟨⟨⟨A,C,z⟩,B⟩,n⟩,⟨⟨q,h,o⟩,j⟩,⟨m,f⟩,E⟩:aw),x) :: s))=(mz (⟨w,⟨t,a_3,v⟩,u,⟨⟨⟨A,C,z⟩,B⟩,n⟩,⟨⟨q,h,o⟩,j⟩,⟨m,f⟩,E⟩:aw)&&la (opsOf (l.take k)) (⟨w,⟨t,a_3,v⟩,u,⟨⟨⟨A,C,z⟩,B⟩,n⟩,⟨⟨q,h,o⟩,j⟩,⟨m,f⟩,E⟩:aw)&&mb (opsOf (l.take (k+1))) (opsOf s)):=(by rw[G];show(_&&mb (opsOf (l.take k)++[_]) (opsOf s))=_;simp only[opsOf,Ai,pG,GH]);rw[T]at hQ;have K:(l.take k).length<100000:=by rw[nZ];omega
  have Y:(bf l).take k=bf (l.take k):=(by simp[bf,Kw]);have k1:(k:Int)<=l.length:=(by omega);have k2:(0:Int)<=k:=(by omega);have X:bL (bf l) k 0 17 true=some (.agg [a8 w,a8 t,af a_3,a8 v,aI u,a8 A,af C,a8 z,aI B,aI n,a8 q,af h,a8 o,aI j,a8 m,af f,x]):=(by simp[bf,wC,R]);clear T G;cases M:mz (⟨w,⟨t,a_3,v⟩,u,⟨⟨⟨A,C,z⟩,B⟩,n⟩,⟨⟨q,h,o⟩,j⟩,⟨m,f⟩,E⟩:aw) with
  | false=>simp[ai, *,m4,b.r,b.idx,D.r];all_goals exact hQ _ _ (by simp[M,bad])
  | true=>
   have V:k<=c.getD k:=by
    cases c with| none=>exact cH _| some c=>simp only[cI,kg]at J ⊢;omega
   have hf : ∀L:Option Nat,k<=L.getD k->ax env 244 [.cC 17 (bf (l.take k)) L,.agg [a8 w,a8 t,af a_3,a8 v,aI u,a8 A,af C,a8 z,aI B,aI n,a8 q,af h,a8 o,aI j,a8 m,af f,x]]=some (aB (la (opsOf (l.take k)) (⟨w,⟨t,a_3,v⟩,u,⟨⟨⟨A,C,z⟩,B⟩,n⟩,⟨⟨q,h,o⟩,j⟩,⟨m,f⟩,E⟩:aw))):=by
    intro L P;have O:(bf (l.take k)).length=k:=by rw[kg,nZ];omega
    exact UU (.inr ⟨L,rfl,by rw[O];exact P⟩) (λp hp=>a p (ye hp)) K w t a_3 v u A C z B n q h o j m f D (lS M)
   cases U:la (opsOf (l.take k)) (⟨w,⟨t,a_3,v⟩,u,⟨⟨⟨A,C,z⟩,B⟩,n⟩,⟨⟨q,h,o⟩,j⟩,⟨m,f⟩,E⟩:aw) with| false=>simp[ai, *,m4,b.r,b.idx,D.r];all_goals exact hQ _ _ (by simp[M,U,bad])| true=>simp[ai, *,m4,b.r,b.idx,D.r];exact Z (k+1) _ _ N (by omega) (by simp) (by simp(maxDischargeDepth:=12) [BV, *]) (λy H' e=>hQ y H' (by rw[e];simp[M,U]))
section
variable{l:List (aw × AV)}{x0:AV}(b:Sl 17 (bf l) x0)(a : ∀p∈l,ET p)(d:l.length<100000)
include b a d
theorem SB:ax env 243 [x0]=some (aI (qH (opsOf l))):=by
 refine ay rfl (by kernel_rfl) (Hl _ _ _ λg=>?_);have j:=b.len;have c:(opsOf l).length=l.length:=pI _;by_cases h:2048<l.length
 ·have f:(2048:Int)<l.length:=by omega
  have e:qH (opsOf l)=4:=by unfold qH;rw[if_pos (by rw[c];exact h)]
  simp[ai, *,wj,b.r]
 have f : ¬(2048:Int)<l.length:=by omega
 have e:qH (opsOf l)=bad (mb [] (opsOf l)):=by unfold qH bad;rw[if_neg (by rw[c];exact h)]
 simp[ai, *,wj,b.r];exact Qq b a d l 0 _ _ rfl (by omega) rfl Fr.nil (λy H' i=>by rw[i];simp[opsOf])
theorem Vp(w:UInt8)(o:UInt8)(a_3:UInt32)(t:UInt8)(q:Int)(y:UInt8)(v:UInt32)(n:UInt8)(u:Int)(j:Int)(m:UInt8)(f:UInt32)(k:UInt8)(i:Int)(c:UInt8)(e:UInt32){A:List Int}{x:AV}(z:Sl 1 (rows A) x)(B:A.length<2000000):ax env 235 [x0,.agg [a8 w,a8 o,af a_3,a8 t,aI q,a8 y,af v,a8 n,aI u,aI j,a8 m,af f,a8 k,aI i,a8 c,af e,x]] =
 some (if qH (opsOf l)=0 then (if mz (⟨w,⟨o,a_3,t⟩,q,⟨⟨⟨y,v,n⟩,u⟩,j⟩,⟨⟨m,f,k⟩,i⟩,⟨c,e⟩,A⟩:aw) then .tup [aB (la (opsOf l) (⟨w,⟨o,a_3,t⟩,q,⟨⟨⟨y,v,n⟩,u⟩,j⟩,⟨⟨m,f,k⟩,i⟩,⟨c,e⟩,A⟩:aw)),aI 0] else .tup [aB false,aI 8]) else .tup [aB false,aI (qH (opsOf l))]):=by
 refine ay rfl (by kernel_rfl) (Jo _ _ _ _ λg=>?_);have D:=SB b a d;have F:=nT w o a_3 t q y v n u j m f k i c e z B;by_cases h:qH (opsOf l)=0
 ·rw[if_pos h];cases C:mz (⟨w,⟨o,a_3,t⟩,q,⟨⟨⟨y,v,n⟩,u⟩,j⟩,⟨⟨m,f,k⟩,i⟩,⟨c,e⟩,A⟩:aw) with
  | false=>simp[ai, *,tY,b.r,z.r]
  | true=>have E:=UU b a d w o a_3 t q y v n u j m f k i c e z (lS C);simp[ai, *,tY,b.r,z.r]
 rw[if_neg h];simp[ai, *,tY,b.r,z.r]
end
end
section
attribute [local simp] aJ az au aG aF aX lZ aO aE aH bT bS bg aP an bA gj
def bsO(z:Nat)(a:AV)(H:aa)(r:Ref)(n:Nat)(b:List (Nat × AV))(refs:List Ref):cp:=match jt (List.replicate n a) b with
 | some es=>some (.bN r 0 n (some n),(r,some ⟨z,es,true,false⟩) :: bV H refs)
 | none=>none
def TF{P:Program}{a:Bool}{t:TypeId}(k:p9 P t=true)(H:aa)(d c g:Nat)(n:Nat)(ps:List (Nat × AV))(f:n * oA P t<=16777216)(q:(fS H.get ps).isSome=true)
 (l:((fS H.get ps).getD []).all (λp=>p.2.cells.length == oA P t&&p.2.cells.all AV.one)=true) (b:(jt (List.replicate n (kN P t)) ((fS H.get ps).getD [])).isSome=true) (i:kO H.get (bX H.get (ps.map (·.2)))=false) :
 qb P a true H ⟨d,c,g,0⟩ t n (some ps)=bsO (oA P t) (kN P t) H ⟨d,c,g,0⟩ n ((fS H.get ps).getD []) (bX H.get (ps.map (·.2))):=by
 obtain⟨ws,hw⟩:=ik.1 q;rw[hw,cI]at l b ⊢;obtain⟨es,b⟩:=ik.1 b;unfold p9 at k;obtain⟨e,w,m,x,B,o,u,v,z,A⟩:=jh k;have h:kN P t=w:=by unfold kN;rw[m,eJ,o];rfl
 rw[h]at b ⊢;have j:mkSlice P H.get t n ps=some ⟨oA P t,es,true,false⟩:=by
  simp only[mkSlice,m,hw,o,x];rw[if_pos ⟨AO z,f,u,v,by simpa using l⟩,b];rfl
 have y:iQ P a H.get ⟨d,c,g,0⟩ t n (some ps)=none:=by
  simp only[iQ,i,mJ,iQf]
 unfold qb bsO;rw[y,b];simp only[mE,Gb,iQq,kU,j,Option.map_some]
attribute [local simp] TF bsO fS
def u7(o:aw):List UInt8:=[o.kind]++(ku o.h++(be 3 o.serial++(k8 o.s.f++[u8 o.s.many])))
def ajG(n:Int):be 3 n=[u8 (n / 65536),u8 (n / 256),u8 n]:=by simp[LN]
def HH(c:UInt8)(h:xn)(a:Int)(f:bM)(b:Int):ax env 209 [.cC 1 [.cC 1 [a8 c] (some 1),.cC 1 (jX (ku h)) none,.cC 1 [a8 (u8 (a / 65536)),a8 (u8 (a / 256)),a8 (u8 a)] (some 3),.cC 1 (jX (k8 f)) none,.cC 1 [a8 (u8 b)] (some 1)] (some 5)] =
 some (.fsl 1 (jX ([c]++(ku h++(be 3 a++(k8 f++[u8 b]))))) none):=by
 have e:lU [([c],AV.cC 1 [a8 c] (some 1)),(ku h,.cC 1 (jX (ku h)) none),(be 3 a,.cC 1 [a8 (u8 (a / 65536)),a8 (u8 (a / 256)),a8 (u8 a)] (some 3)),(k8 f,.cC 1 (jX (k8 f)) none),([u8 b],.cC 1 [a8 (u8 b)] (some 1))]=[c]++(ku h++(be 3 a++(k8 f++[u8 b]))):=by
  simp only[lU,na,GO,rQ]
 rw[<-e];refine MG (ps:=[([c],AV.cC 1 [a8 c] (some 1)),(ku h,.cC 1 (jX (ku h)) none),(be 3 a,.cC 1 [a8 (u8 (a / 65536)),a8 (u8 (a / 256)),a8 (u8 a)] (some 3)),(k8 f,.cC 1 (jX (k8 f)) none),([u8 b],.cC 1 [a8 (u8 b)] (some 1))]) (.inr ⟨some 5,rfl,by simp⟩) ?_ (by simp) (by rw[e];simp) (by rw[e];simp);intro p hp;simp only[eD,Et,iQE]at hp;rcases hp with rfl | rfl | rfl | rfl | rfl
 ·exact .inr ⟨some 1,rfl,by simp⟩
 ·exact Sl.mk _ _
 ·exact .inr ⟨some 3,by rw[ajG];rfl,by simp⟩
 ·exact Sl.mk _ _
 exact .inr ⟨some 1,rfl,by simp⟩
def Vg(q:UInt8)(j:UInt8)(a_3:UInt32)(k:UInt8)(p:Int)(o:UInt8)(n:UInt32)(i:UInt8)(m:Int)(a:Int)(h:UInt8)(d:UInt32)(f:UInt8)(e:Int)(b:UInt8)(c:UInt32){x:AV}{l:List Int}(u:Sl 1 (rows l) x)(w:l.length<2000000)(t:mz (⟨q,⟨j,a_3,k⟩,p,⟨⟨⟨o,n,i⟩,m⟩,a⟩,⟨⟨h,d,f⟩,e⟩,⟨b,c⟩,l⟩:aw)=true)(y:q=2):ax env 163 [.agg [a8 q,a8 j,af a_3,a8 k,aI p,a8 o,af n,a8 i,aI m,aI a,a8 h,af d,a8 f,aI e,a8 b,af c,x]]=some (.tup [.cC 1 (jX (u7 (⟨q,⟨j,a_3,k⟩,p,⟨⟨⟨o,n,i⟩,m⟩,a⟩,⟨⟨h,d,f⟩,e⟩,⟨b,c⟩,l⟩:aw))) none,aI 0]):=by
 refine ay rfl (by kernel_rfl) (BA _ _ _ λg=>?_);have v:=nT q j a_3 k p o n i m a h d f e b c u w;rw[t]at v;have z:mA ⟨j,a_3,k⟩=true:=by simp only[mz,aT]at t;exact t.1
 have A:E3 ⟨⟨o,n,i⟩,m⟩=true:=by
  simp only[mz,aT]at t;have:=t.2.2.2.1;simp only[eN,aT]at this;exact this.1
 clear t;subst y;have B:=HH 2 ⟨j,a_3,k⟩ p ⟨⟨o,n,i⟩,m⟩ a;unfold u7;simp[ai, *,vl,u.r,bad,gG,fF]
def Vf(t:UInt8)(f:UInt8)(a_3:UInt32)(h:UInt8)(m:Int)(k:UInt8)(j:UInt32)(d:UInt8)(i:Int)(c:Int)(q:UInt8)(n:UInt32)(p:UInt8)(o:Int)(b:UInt8)(a:UInt32){x:AV}{l:List Int}(z:Sl 1 (rows l) x)(D:l.length<2000000)(u:mz (⟨t,⟨f,a_3,h⟩,m,⟨⟨⟨k,j,d⟩,i⟩,c⟩,⟨⟨q,n,p⟩,o⟩,⟨b,a⟩,l⟩:aw)=true)(F:t=3):ax env 163 [.agg [a8 t,a8 f,af a_3,a8 h,aI m,a8 k,af j,a8 d,aI i,aI c,a8 q,af n,a8 p,aI o,a8 b,af a,x]]=some (.tup [.cC 1 (jX (u7 (⟨t,⟨f,a_3,h⟩,m,⟨⟨⟨k,j,d⟩,i⟩,c⟩,⟨⟨q,n,p⟩,o⟩,⟨b,a⟩,l⟩:aw)++(b :: be 4 a.toNat))) none,aI 0]):=by
 refine ay rfl (by kernel_rfl) (BA _ _ _ λg=>?_);have B:=nT t f a_3 h m k j d i c q n p o b a z D;rw[u]at B;subst F;have G:mA ⟨f,a_3,h⟩=true:=by simp only[mz,aT]at u;exact u.1
 have H:E3 ⟨⟨k,j,d⟩,i⟩=true:=by
  simp only[mz,aT]at u;have:=u.2.2.2.1;simp only[eN,aT]at this;exact this.1
 have A:mA ⟨b,a,0⟩=true:=by
  simp only[mz,aT]at u;have:=u.2.2.2.2;simp only[CH,Ld]at this;simp at this;simp[mA,this]
 clear u;have I:=HH 3 ⟨f,a_3,h⟩ m ⟨⟨k,j,d⟩,i⟩ c;unfold u7;have y:ku ⟨b,a,0⟩=b :: (be 4 a.toNat++[0]):=rfl;have v:(jX ([(3:UInt8)]++(ku ⟨f,a_3,h⟩++(be 3 m++(k8 ⟨⟨k,j,d⟩,i⟩++[u8 c]))))).length=24:=by simp
 have w:=MB b a 0;rw[if_pos A,y,Qx]at w;rw[Qx];rw[show jX (([(3:UInt8)]++(ku ⟨f,a_3,h⟩++(be 3 m++(k8 ⟨⟨k,j,d⟩,i⟩++[u8 c]))))++[b,u8 (↑a.toNat / 16777216),u8 (↑a.toNat / 65536),u8 (↑a.toNat / 256),u8 ↑a.toNat])=jX ([(3:UInt8)]++(ku ⟨f,a_3,h⟩++(be 3 m++(k8 ⟨⟨k,j,d⟩,i⟩++[u8 c]))))++[a8 b,a8 (u8 (↑a.toNat / 16777216)),a8 (u8 (↑a.toNat / 65536)),a8 (u8 (↑a.toNat / 256)),a8 (u8 ↑a.toNat)] from Ai ..];have E:jX ([(3:UInt8)]++(ku ⟨f,a_3,h⟩++(be 3 m++(k8 ⟨⟨k,j,d⟩,i⟩++[u8 c]))))≠[]:=by intro e;rw[e]at v;cases v
 generalize jX ([(3:UInt8)]++(ku ⟨f,a_3,h⟩++(be 3 m++(k8 ⟨⟨k,j,d⟩,i⟩++[u8 c]))))=C at *;clear A y;simp[ai, *,vl,z.r,bad,gG,fF];rfl
def QT(C A R:List UInt8)(a:Option Nat)(b:A.length<=a.getD A.length)(d:0<C.length)(c:C.length+A.length+R.length<1000000):ax env 209 [.cC 1 [.cC 1 (jX C) none,.cC 1 (jX A) a,.cC 1 (jX R) none] (some 3)]=some (.fsl 1 (jX (C++(A++R))) none):=by
 have e:lU [(C,AV.cC 1 (jX C) none),(A,.cC 1 (jX A) a),(R,.cC 1 (jX R) none)]=C++(A++R):=by
  simp only[lU,na,GO,rQ]
 rw[<-e];refine MG (ps:=[(C,AV.cC 1 (jX C) none),(A,.cC 1 (jX A) a),(R,.cC 1 (jX R) none)]) (.inr ⟨some 3,rfl,by simp⟩) ?_ (by simp) (by rw[e];simp;omega) (by rw[e];simp;omega);intro p hp;simp only[eD,Et,iQE]at hp;rcases hp with rfl | rfl | rfl
 ·exact Sl.mk _ _
 ·exact .inr ⟨a,rfl,by simpa using b⟩
 exact Sl.mk _ _
def Ve(p:UInt8)(j:UInt8)(a_3:UInt32)(m:UInt8)(k:Int)(q:UInt8)(o:UInt32)(i:UInt8)(n:Int)(e:Int)(h:UInt8)(c:UInt32)(f:UInt8)(d:Int)(a:UInt8)(b:UInt32){x:AV}{l:List Int}(u:Sl 1 (rows l) x)(w:l.length<2000000)(t:mz (⟨p,⟨j,a_3,m⟩,k,⟨⟨⟨q,o,i⟩,n⟩,e⟩,⟨⟨h,c,f⟩,d⟩,⟨a,b⟩,l⟩:aw)=false):ax env 163 [.agg [a8 p,a8 j,af a_3,a8 m,aI k,a8 q,af o,a8 i,aI n,aI e,a8 h,af c,a8 f,aI d,a8 a,af b,x]]=some (.tup [bI,aI 8]):=by
 refine ay rfl (by kernel_rfl) (BA _ _ _ λg=>?_);have v:=nT p j a_3 m k q o i n e h c f d a b u w;rw[t]at v;clear t;simp[ai, *,vl,u.r,bad]
@[simp] def ajr(r:Ref):FE env.P r 170 (some (.v (.int .i64 13))) (some (.v (.int .i64 13)))=some (.bN r 0 13 none,[⟨1,[a8 0,a8 0,a8 0,a8 0,a8 0,a8 0,a8 0,a8 0,a8 0,a8 0,a8 0,a8 0,a8 0],true,false⟩]):=by kernel_rfl
def S1{o:aw}(h:mz o=true):eN o.s=true:=by
 simp only[mz,aT]at h;exact h.2.2.2.1
def abj{l:List Int}(h:La l=true):BZ l=0/\l.length<=64 /\∀n∈l, -2147483648<=n/\n<=2147483647:=by
 simp only[La,aT,iQb]at h;refine⟨by unfold BZ;rw[if_neg (by omega),if_pos h.2],h.1,λn a=>?_⟩;have:=gx.1 h.2 n a;simp only[pv,fp,aT,iQb]at this;omega
def Br(a:bM):List UInt8:=if gB a then List.replicate 13 0 else k8 a
def Vh(u:UInt8)(i:UInt8)(a_3:UInt32)(j:UInt8)(o:Int)(n:UInt8)(m:UInt32)(h:UInt8)(k:Int)(f:Int)(d:UInt8)(a:UInt32)(c:UInt8)(b:Int)(q:UInt8)(t:UInt32){x:AV}{l:List Int}(B:Sl 1 (rows l) x)(L:l.length<2000000)(y:mz (⟨u,⟨i,a_3,j⟩,o,⟨⟨⟨n,m,h⟩,k⟩,f⟩,⟨⟨d,a,c⟩,b⟩,⟨q,t⟩,l⟩:aw)=true)(P:u=1):ax env 163 [.agg [a8 u,a8 i,af a_3,a8 j,aI o,a8 n,af m,a8 h,aI k,aI f,a8 d,af a,a8 c,aI b,a8 q,af t,x]]=some (.tup [.cC 1 (jX (u7 (⟨u,⟨i,a_3,j⟩,o,⟨⟨⟨n,m,h⟩,k⟩,f⟩,⟨⟨d,a,c⟩,b⟩,⟨q,t⟩,l⟩:aw)++(Br ⟨⟨d,a,c⟩,b⟩++fL l))) none,aI 0]):=by
 refine ay rfl (by kernel_rfl) (BA _ _ _ λg=>?_);have J:=nT u i a_3 j o n m h k f d a c b q t B L;rw[y]at J;subst P;have Q:mA ⟨i,a_3,j⟩=true:=by simp only[mz,aT]at y;exact y.1
 have A:=S1 y;have S:E3 ⟨⟨n,m,h⟩,k⟩=true:=by
  have:=A;simp only[eN,aT]at this;exact this.1
 obtain⟨I,hlen,w⟩:(gB ⟨⟨d,a,c⟩,b⟩||E3 ⟨⟨d,a,c⟩,b⟩)=true/\(l.length:Int)=f/\La l=true:=by
  simp only[mz,aT]at y;have:=y.2.2.2.2;simp[CH,Is]at this;refine⟨by simpa using this.2.1,this.2.2.2.1,this.2.2.2.2⟩
 obtain⟨G,N,F⟩:=abj w;have H:=gS A;simp only at H;have v:=Yd B (by omega) F;rw[if_pos G]at v;have M:=zF l;have D:jX (fL l)≠[]:=by
  intro e;have:=iQg List.length e;have U:(jX (fL l)).length=(fL l).length:=by simp
  simp only[CZ]at this;omega
 rw[qv 1 D]at v;clear y w G F H;have T:=HH 1 ⟨i,a_3,j⟩ o ⟨⟨n,m,h⟩,k⟩ f;unfold u7;have K:([(1:UInt8)]++(ku ⟨i,a_3,j⟩++(be 3 o++(k8 ⟨⟨n,m,h⟩,k⟩++[u8 f])))).length=24:=by simp
 generalize ([(1:UInt8)]++(ku ⟨i,a_3,j⟩++(be 3 o++(k8 ⟨⟨n,m,h⟩,k⟩++[u8 f]))))=C at *;generalize fL l=R at *;cases p:gB ⟨⟨d,a,c⟩,b⟩ with
 | true=>
  have E:=QT C (List.replicate 13 0) R none (by simp) (by omega) (by simp;omega);rw[show Br ⟨⟨d,a,c⟩,b⟩=List.replicate 13 0 by unfold Br;rw[if_pos p]];obtain⟨⟨⟨rfl,rfl⟩,rfl⟩,rfl⟩:((d=0/\a=0)/\c=0)/\b=0:=by simpa [gB] using p
  have z:jX (List.replicate 13 0)=[a8 0,a8 0,a8 0,a8 0,a8 0,a8 0,a8 0,a8 0,a8 0,a8 0,a8 0,a8 0,a8 0]:=rfl;rw[z]at E;generalize jX (C++(List.replicate 13 0++R))=W at *;clear p I hlen;simp[ai, *,vl,B.r,bad,gG,fF,ia,cg]
 | false=>rw[p,Er]at I;have E:=QT C (k8 ⟨⟨d,a,c⟩,b⟩) R none (by simp) (by omega) (by simp;omega);rw[show Br ⟨⟨d,a,c⟩,b⟩=k8 ⟨⟨d,a,c⟩,b⟩ by unfold Br;rw[if_neg (by rw[p];decide)]];generalize jX (C++(k8 ⟨⟨d,a,c⟩,b⟩++R))=W at *;have O:(decide (d=0)&&decide (a=0)&&decide (c=0)&&decide (b=0))=false:=p;clear p hlen;simp[ai, *,vl,B.r,bad,gG,fF,ia,cg]
end
section
attribute [local simp] aJ az au aG aF aX lZ aO aE aH bT bS bg aP an bA gj
def Fb{f:FuncId}(a:(env.mode f == 2)=true)(dep:Nat)(H:aa)(r:Ref)(first args captured:List AV) :
 bB env true (ax env) (cb env dep) H r (some (.fn (.func f) first captured)) args=cb env dep (.fn f) (first++args++captured) H:=by
 have h:env.mode f=2:=by simpa using a
 simp[bB,kW,nH,mE,Gb,h]
end
section
def u5(o:aw):List UInt8:=u7 o++(if o.kind=1 then Br o.a++fL o.l else if o.kind=3 then o.to.lv :: be 4 o.to.cats.toNat else [])
def Og(o:aw):(u7 o).length=24:=by simp[u7]
def ES{o:aw}(h:mz o=true):1<=o.serial/\o.serial<16777216/\(1<=o.s.f.n/\o.s.f.n<=1099511627776)/\1<=o.s.many/\o.s.many<=64 /\
 ((o.kind=1/\o.to=⟨0,0⟩/\(o.a=rP\/(1<=o.a.n/\o.a.n<=1099511627776))/\(o.l.length:Int)=o.s.many/\La o.l=true)\/(o.kind=2/\o.to=⟨0,0⟩/\o.a=rP/\o.l=[])\/(o.kind=3/\o.a=rP/\o.l=[]/\o.to.lv<=15)):=by
 simp only[mz,aT,iQb]at h;obtain⟨q,k,m,c,hm⟩:=h;have d:=gS c;have p:=Kh (UK c);refine⟨k,m,p,d.2.1,d.2.2.1,?_⟩;have g : ∀t:jW,wG t=true->t=⟨0,0⟩:=by
  rintro⟨a,b⟩ h;simp[wG]at h;rw[h.1,h.2]
 unfold CH at hm;split at hm
 ·rename_i k1;simp only[Is,aT,fp,iQb]at hm;refine .inl ⟨k1,g _ hm.1,?_,hm.2.2.2.1,hm.2.2.2.2⟩;rcases hm.2.1 with e | e
  ·exact .inl ((xZ _).1 e)
  exact .inr (Kh e)
 split at hm;·rename_i j;simp only[Ob,y4,aT,iQb]at hm;exact .inr (.inl ⟨j,g _ hm.1,(xZ _).1 hm.2.1,hm.2.2⟩)
 split at hm;·rename_i i;simp only[Ld,y4,aT,iQb]at hm;exact .inr (.inr ⟨i,(xZ _).1 hm.1.1,hm.1.2,hm.2⟩)
 cases hm
def Mt(o:aw):Nat:=if o.kind=1 then 37+4 * o.s.many.toNat else if o.kind=3 then 29 else 24
def QA(a:bM):(Br a).length=13:=by unfold Br;split<;>simp
def Ni{o:aw}(h:mz o=true):(u5 o).length=Mt o:=by
 have hp:=ES h;unfold u5 Mt;rw[mI,Og];rcases hp.2.2.2.2.2 with ⟨k,_,_,a,_⟩ | ⟨k,_⟩ | ⟨k,_⟩
 ·rw[if_pos k,if_pos k,mI,QA,zF];omega
 ·rw[k];rfl
 rw[k];simp
end
section
attribute [local simp] aJ az au aG aF aX lZ aO aE aH bT bS bg aP an bA gj
def Ms{o:aw}(h:mz o=true):24<=Mt o/\Mt o<=293:=by
 have hp:=ES h;unfold Mt;split;·omega
 split<;>omega
def abE(o:aw):AV:=if mz o then .tup [.cC 1 (jX (u5 o)) none,aI 0] else .tup [bI,aI 8]
def Yj(o:UInt8)(i:UInt8)(a_3:UInt32)(k:UInt8)(j:Int)(p:UInt8)(n:UInt32)(h:UInt8)(m:Int)(e:Int)(g:UInt8)(c:UInt32)(f:UInt8)(d:Int)(a:UInt8)(b:UInt32){x:AV}{l:List Int}(v:Sl 1 (rows l) x)(u:l.length<2000000):ax env 163 [.agg [a8 o,a8 i,af a_3,a8 k,aI j,a8 p,af n,a8 h,aI m,aI e,a8 g,af c,a8 f,aI d,a8 a,af b,x]]=some (abE (⟨o,⟨i,a_3,k⟩,j,⟨⟨⟨p,n,h⟩,m⟩,e⟩,⟨⟨g,c,f⟩,d⟩,⟨a,b⟩,l⟩:aw)):=by
 unfold abE;cases t:mz (⟨o,⟨i,a_3,k⟩,j,⟨⟨⟨p,n,h⟩,m⟩,e⟩,⟨⟨g,c,f⟩,d⟩,⟨a,b⟩,l⟩:aw) with
 | false=>rw[Ve o i a_3 k j p n h m e g c f d a b v u t];rfl
 | true=>
  have hp:=ES t;rw[if_pos rfl];unfold u5;rcases hp.2.2.2.2.2 with ⟨q,_⟩ | ⟨q,_⟩ | ⟨q,_⟩
  ·rw[Vh o i a_3 k j p n h m e g c f d a b v u t q,if_pos q]
  ·simp only at q;rw[Vg o i a_3 k j p n h m e g c f d a b v u t q,if_neg (by simp[q]),if_neg (by simp[q]),rQ]
  simp only at q;rw[Vf o i a_3 k j p n h m e g c f d a b v u t q,if_neg (by simp[q]),if_pos q]
def IP(v:UInt8)(c:UInt32)(ok:Bool):Bool:=decide (v<=15)&&(ok||(decide (v=0)&&decide (c=0)))
def xK(a:Int)(v:UInt8)(c:UInt32)(ok:Bool):Bool:=decide (0<=a)&&decide (a<8)&&IP v c ok
@[simp] def MD(a:Int)(v:UInt8)(c:UInt32)(ok:Bool):ax env 202 [.agg [aI a,a8 v,af c,aB ok]]=some (aI (bad (xK a v c ok))):=by
 refine ay rfl (by kernel_rfl) (Hk _ _ _ λg=>?_);cases ok
 ·simp[ai, *,wi,ia,cg];repeat' ((first | apply ji<;>intro h | apply fY<;>intro h | apply fZ<;>intro h | apply fW<;>intro h | apply fX<;>intro h)<;>(try simp only[iQb,iQc,dI,kT,aT,fp]at h)<;>(try simp[ai, *,ia,cg,xK,IP,bad]))
  all_goals (try grind)
 simp[ai, *,wi,ia,cg];repeat' ((first | apply ji<;>intro h | apply fY<;>intro h | apply fZ<;>intro h | apply fW<;>intro h | apply fX<;>intro h)<;>(try simp only[iQb,iQc,dI,kT,aT,fp]at h)<;>(try simp[ai, *,ia,cg,xK,IP,bad]))
 all_goals (try grind)
def IB(a:Int)(v:UInt8)(c:UInt32)(ok:Bool):List UInt8:=u8 a :: (if ok then 1 else 0) :: v :: be 4 c.toNat
@[simp] def ajg(a:Int)(v:UInt8)(c:UInt32)(ok:Bool):ax env 164 [.agg [aI a,a8 v,af c,aB ok]]=some (if xK a v c ok then .tup [.cC 1 (jX (IB a v c ok)) none,aI 0] else .tup [bI,aI 8]):=by
 refine ay rfl (by kernel_rfl) (KT _ _ _ λg=>?_);by_cases h:xK a v c ok=true
 ·have b:v<=15:=by simp[xK,IP]at h;exact h.2.1
  have d:mA ⟨v,c,0⟩=true:=(by simp[mA,b]);cases ok<;>simp[ai, *,z6,bad,IB,ku,jX,Qx]
 simp at h;simp[ai, *,z6,bad]
structure cN where
 kind:UInt8
 user:Int
 op:aw
 code:Int
 gu:Int
 gv:UInt8
 gc:UInt32
 gok:Bool
def nj(a b:cN):Bool:=decide (a.kind=b.kind)&&(decide (a.user=b.user)&&(oN a.op b.op&&(decide (a.code=b.code)&&(decide (a.gu=b.gu)&&(decide (a.gv=b.gv)&&decide (a.gc=b.gc)&&decide (a.gok=b.gok))))))
def Sk(k1 P:UInt8)(M Q:Int)(C:UInt8)(t:UInt8)(a_3:UInt32)(B:UInt8)(z:Int)(K:UInt8)(J:UInt32)(F:UInt8)(I:Int)(n:Int)(p:UInt8)(c:UInt32)(o:UInt8)(d:Int)(f:UInt8)(b:UInt32)(w:UInt8)(E:UInt8)(D:UInt32)(A:UInt8)(G:Int)(H:UInt8)(v:UInt32)(L:UInt8)(u:Int)(a:Int)(k:UInt8)(e:UInt32)(i:UInt8)(q:Int)(j:UInt8)(h:UInt32)(O N S Y:Int)(Z W:UInt8)(V R:UInt32)(U X:Bool){x y:AV}{l m:List Int}(hx:Sl 1 (rows l) x)(T:Sl 1 (rows m) y)(hl:l.length<1000000000) :
 ax env 165 [.agg [a8 k1,aI M,a8 C,a8 t,af a_3,a8 B,aI z,a8 K,af J,a8 F,aI I,aI n,a8 p,af c,a8 o,aI d,a8 f,af b,x,aI O,aI S,a8 Z,af V,aB U],.agg [a8 P,aI Q,a8 w,a8 E,af D,a8 A,aI G,a8 H,af v,a8 L,aI u,aI a,a8 k,af e,a8 i,aI q,a8 j,af h,y,aI N,aI Y,a8 W,af R,aB X]] =
  some (aB (nj ⟨k1,M,(⟨C,⟨t,a_3,B⟩,z,⟨⟨⟨K,J,F⟩,I⟩,n⟩,⟨⟨p,c,o⟩,d⟩,⟨f,b⟩,l⟩:aw),O,S,Z,V,U⟩ ⟨P,Q,(⟨w,⟨E,D,A⟩,G,⟨⟨⟨H,v,L⟩,u⟩,a⟩,⟨⟨k,e,i⟩,q⟩,⟨j,h⟩,m⟩:aw),N,Y,W,R,X⟩)):=by
 refine ay rfl (by kernel_rfl) (He _ _ _ _ λg=>?_);have hq:=Vd C t a_3 B z K J F I n p c o d f b w E D A G H v L u a k e i q j h hx T hl;have hr:=hx.r;have hr2:=T.r;unfold nj;cases e1:decide (k1=P) with
 | false=>simp[ai, *,mX,ia,cg]
 | true=>
 cases e2:decide (M=Q) with| false=>simp[ai, *,mX,ia,cg]| true=>
 cases e3:oN (⟨C,⟨t,a_3,B⟩,z,⟨⟨⟨K,J,F⟩,I⟩,n⟩,⟨⟨p,c,o⟩,d⟩,⟨f,b⟩,l⟩:aw) (⟨w,⟨E,D,A⟩,G,⟨⟨⟨H,v,L⟩,u⟩,a⟩,⟨⟨k,e,i⟩,q⟩,⟨j,h⟩,m⟩:aw) with| false=>simp[ai, *,mX,ia,cg]| true=>
 cases e4:decide (O=N) with| false=>simp[ai, *,mX,ia,cg]| true=>simp[ai, *,mX,ia,cg]
def Ag:aw:=⟨0,⟨0,0,0⟩,0,⟨⟨⟨0,0,0⟩,0⟩,0⟩,⟨⟨0,0,0⟩,0⟩,⟨0,0⟩,[]⟩
def G1(r:cN):cN:=if r.kind=1 then ⟨1,r.user, { Ag with h:=r.op.h},0,0,0,0,false⟩ else if r.kind=2 then ⟨2,0,r.op,r.code,0,0,0,false⟩ else ⟨r.kind,0,Ag,0,r.gu,r.gv,r.gc,r.gok⟩
def eu(r:cN):Bool:=if r.kind=1 then (decide (0<=r.user)&&decide (r.user<=255))&&(mA r.op.h&&nj r (G1 r)) else if r.kind=2 then (!decide (-1∈r.op.l)&&decide (0<=r.code)&&decide (r.code<65536))&&(mz r.op&&nj r (G1 r)) else if r.kind=3 then xK r.gu r.gv r.gc r.gok&&nj r (G1 r) else false
def Jq(r:cN):AV:=if r.kind=1 then .cC 1 (jX (r.kind :: ((if mA r.op.h then ku r.op.h else [])++[u8 r.user]))) none
 else if r.kind=2 then .cC 1 (jX (r.kind :: ([u8 (r.code / 256),u8 r.code]++(if mz r.op then u5 r.op else [])))) none
 else if r.kind=3 then (if xK r.gu r.gv r.gc r.gok then .cC 1 (jX (r.kind :: IB r.gu r.gv r.gc r.gok)) none else .cC 1 [a8 r.kind] (some 1)) else .cC 1 [a8 r.kind] (some 1)
set_option maxHeartbeats 800000 in
def Pr(k:UInt8)(u:Int)(t:UInt8)(n:UInt8)(a_3:UInt32)(p:UInt8)(q:Int)(C:UInt8)(B:UInt32)(z:UInt8)(A:Int)(f:Int)(j:UInt8)(b:UInt32)(i:UInt8)(d:Int)(e:UInt8)(a:UInt32)(c D:Int)(v:UInt8)(w:UInt32)(o:Bool){x:AV}{l:List Int}(O:Sl 1 (rows l) x)(hl:l.length<2000000) :
 ax env 101 [.agg [a8 k,aI u,a8 t,a8 n,af a_3,a8 p,aI q,a8 C,af B,a8 z,aI A,aI f,a8 j,af b,a8 i,aI d,a8 e,af a,x,aI c,aI D,a8 v,af w,aB o]]=some (.tup [Jq ⟨k,u,(⟨t,⟨n,a_3,p⟩,q,⟨⟨⟨C,B,z⟩,A⟩,f⟩,⟨⟨j,b,i⟩,d⟩,⟨e,a⟩,l⟩:aw),c,D,v,w,o⟩,aB (eu ⟨k,u,(⟨t,⟨n,a_3,p⟩,q,⟨⟨⟨C,B,z⟩,A⟩,f⟩,⟨⟨j,b,i⟩,d⟩,⟨e,a⟩,l⟩:aw),c,D,v,w,o⟩)]):=by
 refine ay rfl (by kernel_rfl) (rC _ _ _ λg=>?_);have hr:=O.r;have E:=λk' u' (U:UInt8) (X:UInt8) (W:UInt32) (V:UInt8) (Z:Int) (b_6:UInt8) (T:UInt32) (R:UInt8) (S:Int) (I:Int) (N:UInt8) (J:UInt32) (Q:UInt8) (P:Int) (M:UInt8) (L:UInt32) c' g' v' w' o' (y:AV) (m:List Int) (hy:Sl 1 (rows m) y)=>Sk k k' u u' t n a_3 p q C B z A f j b i d e a U X W V Z b_6 T R S I N J Q P M L c c' D g' v v' w w' o o' O hy (by omega);by_cases k1:k=1;·subst k1;have hs:=E 1 u 0 n a_3 p 0 0 0 0 0 0 0 0 0 0 0 0 0 0 0 0 false bI [] (.inl ⟨rfl,rfl⟩);have G:eu ⟨1,u,(⟨t,⟨n,a_3,p⟩,q,⟨⟨⟨C,B,z⟩,A⟩,f⟩,⟨⟨j,b,i⟩,d⟩,⟨e,a⟩,l⟩:aw),c,D,v,w,o⟩=((decide (0<=u)&&decide (u<=255))&&(mA ⟨n,a_3,p⟩&&nj ⟨1,u,(⟨t,⟨n,a_3,p⟩,q,⟨⟨⟨C,B,z⟩,A⟩,f⟩,⟨⟨j,b,i⟩,d⟩,⟨e,a⟩,l⟩:aw),c,D,v,w,o⟩ ⟨1,u,⟨0,⟨n,a_3,p⟩,0,⟨⟨⟨0,0,0⟩,0⟩,0⟩,⟨⟨0,0,0⟩,0⟩,⟨0,0⟩,[]⟩,0,0,0,0,false⟩)):=rfl;have F:Jq ⟨1,u,(⟨t,⟨n,a_3,p⟩,q,⟨⟨⟨C,B,z⟩,A⟩,f⟩,⟨⟨j,b,i⟩,d⟩,⟨e,a⟩,l⟩:aw),c,D,v,w,o⟩ = .cC 1 (jX (1 :: ((if mA ⟨n,a_3,p⟩ then ku ⟨n,a_3,p⟩ else [])++[u8 u]))) none:=rfl;rw[G,F];clear E G F;generalize nj ⟨1,u,(⟨t,⟨n,a_3,p⟩,q,⟨⟨⟨C,B,z⟩,A⟩,f⟩,⟨⟨j,b,i⟩,d⟩,⟨e,a⟩,l⟩:aw),c,D,v,w,o⟩ ⟨1,u,⟨0,⟨n,a_3,p⟩,0,⟨⟨⟨0,0,0⟩,0⟩,0⟩,⟨⟨0,0,0⟩,0⟩,⟨0,0⟩,[]⟩,0,0,0,0,false⟩=sm at *;cases K:mA ⟨n,a_3,p⟩<;>by_cases c0:0<=u<;>by_cases c2:u<=255;all_goals simp[ai, *,cw,ku,jX,Qx]
 by_cases k2:k=2
 ·subst k2;have hs:=E 2 0 t n a_3 p q C B z A f j b i d e a c 0 0 0 false x l O;have G:eu ⟨2,u,(⟨t,⟨n,a_3,p⟩,q,⟨⟨⟨C,B,z⟩,A⟩,f⟩,⟨⟨j,b,i⟩,d⟩,⟨e,a⟩,l⟩:aw),c,D,v,w,o⟩=((!decide (-1∈l)&&decide (0<=c)&&decide (c<65536))&&(mz (⟨t,⟨n,a_3,p⟩,q,⟨⟨⟨C,B,z⟩,A⟩,f⟩,⟨⟨j,b,i⟩,d⟩,⟨e,a⟩,l⟩:aw)&&nj ⟨2,u,(⟨t,⟨n,a_3,p⟩,q,⟨⟨⟨C,B,z⟩,A⟩,f⟩,⟨⟨j,b,i⟩,d⟩,⟨e,a⟩,l⟩:aw),c,D,v,w,o⟩ ⟨2,0,(⟨t,⟨n,a_3,p⟩,q,⟨⟨⟨C,B,z⟩,A⟩,f⟩,⟨⟨j,b,i⟩,d⟩,⟨e,a⟩,l⟩:aw),c,0,0,0,false⟩)):=rfl;have F:Jq ⟨2,u,(⟨t,⟨n,a_3,p⟩,q,⟨⟨⟨C,B,z⟩,A⟩,f⟩,⟨⟨j,b,i⟩,d⟩,⟨e,a⟩,l⟩:aw),c,D,v,w,o⟩ = .cC 1 (jX (2 :: ([u8 (c / 256),u8 c]++(if mz (⟨t,⟨n,a_3,p⟩,q,⟨⟨⟨C,B,z⟩,A⟩,f⟩,⟨⟨j,b,i⟩,d⟩,⟨e,a⟩,l⟩:aw) then u5 (⟨t,⟨n,a_3,p⟩,q,⟨⟨⟨C,B,z⟩,A⟩,f⟩,⟨⟨j,b,i⟩,d⟩,⟨e,a⟩,l⟩:aw) else [])))) none:=rfl;have hP:=Sv t n a_3 p q C B z A f j b i d e a O (by omega);have Y:=Yj t n a_3 p q C B z A f j b i d e a O hl;rw[G,F];unfold abE at Y;have H:mz (⟨t,⟨n,a_3,p⟩,q,⟨⟨⟨C,B,z⟩,A⟩,f⟩,⟨⟨j,b,i⟩,d⟩,⟨e,a⟩,l⟩:aw)=true->(u5 (⟨t,⟨n,a_3,p⟩,q,⟨⟨⟨C,B,z⟩,A⟩,f⟩,⟨⟨j,b,i⟩,d⟩,⟨e,a⟩,l⟩:aw)).length<=293/\24<=(u5 (⟨t,⟨n,a_3,p⟩,q,⟨⟨⟨C,B,z⟩,A⟩,f⟩,⟨⟨j,b,i⟩,d⟩,⟨e,a⟩,l⟩:aw)).length:=λh=>by rw[Ni h];exact⟨(Ms h).2,(Ms h).1⟩
  clear E G F;generalize nj ⟨2,u,(⟨t,⟨n,a_3,p⟩,q,⟨⟨⟨C,B,z⟩,A⟩,f⟩,⟨⟨j,b,i⟩,d⟩,⟨e,a⟩,l⟩:aw),c,D,v,w,o⟩ ⟨2,0,(⟨t,⟨n,a_3,p⟩,q,⟨⟨⟨C,B,z⟩,A⟩,f⟩,⟨⟨j,b,i⟩,d⟩,⟨e,a⟩,l⟩:aw),c,0,0,0,false⟩=sm at *;generalize u5 (⟨t,⟨n,a_3,p⟩,q,⟨⟨⟨C,B,z⟩,A⟩,f⟩,⟨⟨j,b,i⟩,d⟩,⟨e,a⟩,l⟩:aw)=bs at *;generalize decide (-1∈l)=pl at *;cases K:mz (⟨t,⟨n,a_3,p⟩,q,⟨⟨⟨C,B,z⟩,A⟩,f⟩,⟨⟨j,b,i⟩,d⟩,⟨e,a⟩,l⟩:aw) with
  | false=>rw[K,if_neg (by decide)]at Y;clear H;cases pl<;>by_cases c0:0<=c<;>by_cases c2:c<65536;all_goals simp[ai, *,cw,jX,gG,fF]
  | true=>
   rw[K,if_pos rfl]at Y;have hl2:=H K;have f1:bs.length+1<=140737488355328/\bs.length+1+1<=140737488355328/\bs.length+1+1+1<=140737488355328:=by omega
   have f0:2+bs.length=bs.length+1+1:=(by omega);have f3:1+(bs.length+1+1)<=140737488355328/\1+(bs.length+1+1)=bs.length+1+1+1:=(by omega);have f2:2+bs.length<=140737488355328/\1+(2+bs.length)<=140737488355328/\2<2+bs.length/\0<bs.length:=(by omega);have hne:bs≠[]:=by rintro rfl;simp at f2
   clear H;cases pl<;>by_cases c0:0<=c<;>by_cases c2:c<65536;all_goals simp[ai, *,cw,jX,gG,fF]
 by_cases k3:k=3
 ·subst k3;have hs:=E 3 0 0 0 0 0 0 0 0 0 0 0 0 0 0 0 0 0 0 D v w o bI [] (.inl ⟨rfl,rfl⟩);have G:eu ⟨3,u,(⟨t,⟨n,a_3,p⟩,q,⟨⟨⟨C,B,z⟩,A⟩,f⟩,⟨⟨j,b,i⟩,d⟩,⟨e,a⟩,l⟩:aw),c,D,v,w,o⟩=(xK D v w o&&nj ⟨3,u,(⟨t,⟨n,a_3,p⟩,q,⟨⟨⟨C,B,z⟩,A⟩,f⟩,⟨⟨j,b,i⟩,d⟩,⟨e,a⟩,l⟩:aw),c,D,v,w,o⟩ ⟨3,0,⟨0,⟨0,0,0⟩,0,⟨⟨⟨0,0,0⟩,0⟩,0⟩,⟨⟨0,0,0⟩,0⟩,⟨0,0⟩,[]⟩,0,D,v,w,o⟩):=rfl;have F:Jq ⟨3,u,(⟨t,⟨n,a_3,p⟩,q,⟨⟨⟨C,B,z⟩,A⟩,f⟩,⟨⟨j,b,i⟩,d⟩,⟨e,a⟩,l⟩:aw),c,D,v,w,o⟩=if xK D v w o then .cC 1 (jX (3 :: IB D v w o)) none else .cC 1 [a8 3] (some 1):=rfl
  rw[G,F];clear E G F;generalize nj ⟨3,u,(⟨t,⟨n,a_3,p⟩,q,⟨⟨⟨C,B,z⟩,A⟩,f⟩,⟨⟨j,b,i⟩,d⟩,⟨e,a⟩,l⟩:aw),c,D,v,w,o⟩ ⟨3,0,⟨0,⟨0,0,0⟩,0,⟨⟨⟨0,0,0⟩,0⟩,0⟩,⟨⟨0,0,0⟩,0⟩,⟨0,0⟩,[]⟩,0,D,v,w,o⟩=sm at *;cases K:xK D v w o;all_goals simp[ai, *,cw,IB,jX,Qx]
 have G:eu ⟨k,u,(⟨t,⟨n,a_3,p⟩,q,⟨⟨⟨C,B,z⟩,A⟩,f⟩,⟨⟨j,b,i⟩,d⟩,⟨e,a⟩,l⟩:aw),c,D,v,w,o⟩=false:=by unfold eu;rw[if_neg k1,if_neg k2,if_neg k3]
 have F:Jq ⟨k,u,(⟨t,⟨n,a_3,p⟩,q,⟨⟨⟨C,B,z⟩,A⟩,f⟩,⟨⟨j,b,i⟩,d⟩,⟨e,a⟩,l⟩:aw),c,D,v,w,o⟩ = .cC 1 [a8 k] (some 1):=by unfold Jq;rw[if_neg k1,if_neg k2,if_neg k3]
 rw[G,F];clear E G F;simp[ai, *,cw]
def cN.val(r:cN)(x:AV):AV := .agg [a8 r.kind,aI r.user,a8 r.op.kind,a8 r.op.h.lv,af r.op.h.cats,a8 r.op.h.num,aI r.op.serial,a8 r.op.s.f.h.lv,af r.op.s.f.h.cats,a8 r.op.s.f.h.num,aI r.op.s.f.n,aI r.op.s.many,
 a8 r.op.a.h.lv,af r.op.a.h.cats,a8 r.op.a.h.num,aI r.op.a.n,a8 r.op.to.lv,af r.op.to.cats,x,aI r.code,aI r.gu,a8 r.gv,af r.gc,aB r.gok]
def DG(p:cN × AV):Prop:=Sl 1 (rows p.1.op.l) p.2/\p.1.op.l.length<1000000
def bW(l:List (cN × AV)):List AV:=l.map λp=>p.1.val p.2
@[simp] def eZ(l:List (cN × AV)):(bW l).length=l.length:=by simp[bW]
def Pq{p:cN × AV}(hp:DG p):ax env 82 [p.1.val p.2]=some (aI (if eu p.1 then 0 else 8)):=by
 obtain⟨⟨k,u,⟨C,⟨n,a_3,t⟩,q,⟨⟨⟨y,B,m⟩,A⟩,h⟩,⟨⟨j,e,i⟩,f⟩,⟨a,d⟩,l⟩,c,D,v,w,o⟩,x⟩:=p;obtain⟨E,G⟩:=hp;simp only at E G;refine ay rfl (by kernel_rfl) (F0 _ _ _ λg=>?_);have I:=Pr k u C n a_3 t q y B m A h j e i f a d c D v w o E (by omega);have H:=E.r;have F:Jq ⟨k,u,(⟨C,⟨n,a_3,t⟩,q,⟨⟨⟨y,B,m⟩,A⟩,h⟩,⟨⟨j,e,i⟩,f⟩,⟨a,d⟩,l⟩:aw),c,D,v,w,o⟩ = .cC 1 [a8 k] (some 1) \/∃es,Jq ⟨k,u,(⟨C,⟨n,a_3,t⟩,q,⟨⟨⟨y,B,m⟩,A⟩,h⟩,⟨⟨j,e,i⟩,f⟩,⟨a,d⟩,l⟩:aw),c,D,v,w,o⟩ = .cC 1 es none:=by
  unfold Jq;repeat' (split)
  all_goals (first | exact .inl rfl | exact .inr ⟨_,rfl⟩)
 generalize Jq ⟨k,u,(⟨C,⟨n,a_3,t⟩,q,⟨⟨⟨y,B,m⟩,A⟩,h⟩,⟨⟨j,e,i⟩,f⟩,⟨a,d⟩,l⟩:aw),c,D,v,w,o⟩=z at *;unfold cN.val;generalize eu ⟨k,u,(⟨C,⟨n,a_3,t⟩,q,⟨⟨⟨y,B,m⟩,A⟩,h⟩,⟨⟨j,e,i⟩,f⟩,⟨a,d⟩,l⟩:aw),c,D,v,w,o⟩=b at *;rcases F with rfl | ⟨es,rfl⟩<;>cases b<;>simp[ai, *,As]
def Am:AV->AV
 | .cC z [] _ => .cC z [] (some 0)
 | .cC z es _ => .cC z es none
 | x=>x
def Uu(z:Nat){es:List AV}(c:Option Nat)(h:es≠[]):Am (.cC z es c) = .cC z es none:=by
 cases es with| nil=>exact absurd rfl h| cons _ _=>rfl
def Q1(p:UInt8)(j:UInt8)(a_3:UInt32)(m:UInt8)(k:Int)(q:UInt8)(o:UInt32)(i:UInt8)(n:Int)(e:Int)(h:UInt8)(c:UInt32)(f:UInt8)(d:Int)(a:UInt8)(b:UInt32){l:List Int}(x:l.length<1000000):ax env 108 [.agg [a8 p,a8 j,af a_3,a8 m,aI k,a8 q,af o,a8 i,aI n,aI e,a8 h,af c,a8 f,aI d,a8 a,af b,ep 1 (rows l)]]=some (.agg [a8 p,a8 j,af a_3,a8 m,aI k,a8 q,af o,a8 i,aI n,aI e,a8 h,af c,a8 f,aI d,a8 a,af b,oP 1 (rows l)]):=by
 have u:=JV (gT 1 (rows l)) (by omega) (by omega);have w:=(gT 1 (rows l)).r;by_cases t:rows l=[];·rw[t]at u ⊢;rw[show ep 1 []=bI from rfl]at *;rw[W6]at u;refine ay rfl (by kernel_rfl) (Hh _ _ _ λg=>?_);simp[ai, *,CP]
 rw[qv 1 t]at *;rw[pe 1 t];rw[tM 1 none t]at u;have v:(rows l).length=l.length:=by simp
 generalize rows l=rw' at *;refine ay rfl (by kernel_rfl) (Hh _ _ _ λg=>?_);simp[ai, *,CP]
end
end Go.Proofs.YtmkmimgokagimaaGreat
namespace Go.Proofs.YtmkmimgokagimaaGreat
open Go.Ab Go.ChangeShapes Go.WideShapes Go.RowKit
def agQ:env.Ok (IK env):=UJ (λf args y h=>by cases h) (by kernel_rfl) aco (λf t h=>by cases h) (λf args H y H' h=>by cases h)
def Yt:OI env.P 58 (λ_=>True) (λp:UInt8 × UInt32 × Bool=>[a8 p.1,af p.2.1,aB p.2.2]):=by
 intro n xs h;have h:=mN (P:=env.P) FO h;obtain⟨m,x,r,rfl,a,y,r',rfl,c,rfl⟩:=h;obtain⟨q,_,rfl⟩:=BK _ _ a;obtain⟨b,_,rfl⟩:=MN (P:=env.P) (t:=4) (by simp) _ _ c;exact⟨(q.1,q.2,b),trivial,rfl⟩
def ajh(p:cN × AV):List AV:=[a8 p.1.kind,aI p.1.user]++(WU (p.1.op,p.2)++[aI p.1.code,aI p.1.gu,a8 p.1.gv,af p.1.gc,aB p.1.gok])
def abn:OI env.P 58 (λ_=>True) Clear.enc:=by
 intro n xs h;have h:=mN (P:=env.P) FO h;obtain⟨m,x,r,rfl,a,y,r',rfl,c,rfl⟩:=h;obtain⟨p,_,rfl⟩:=BK _ _ a;obtain⟨b,_,rfl⟩:=MN (P:=env.P) (t:=4) (by simp) _ _ c;exact⟨⟨p.1,p.2,b⟩,trivial,rfl⟩
def abm:OI env.P 81 (λ_=>True) ak.enc:=by
 intro n xs h;have h:=mN (P:=env.P) NU h;obtain⟨m,x,r,rfl,b,y,r',rfl,e,z,a,rfl,c,w,r3,rfl,d,rfl⟩:=h;obtain⟨p,_,rfl⟩:=BK _ _ b;obtain⟨i,_,rfl⟩:=tU (P:=env.P) (t:=3) (by simp) _ _ e;obtain⟨j,_,rfl⟩:=tU (P:=env.P) (t:=3) (by simp) _ _ c;obtain⟨k,_,rfl⟩:=tU (P:=env.P) (t:=3) (by simp) _ _ d;exact⟨⟨p.1,p.2,i,j,k⟩,trivial,rfl⟩
def aa8{n:Nat}{x:AV}(h:TO env.P n 25 x) : ∃(us:List Clear) (qs:List ak) (gr:Int) (a b:AV),x = .agg [a,b,aI gr]/\Sl 3 (de us) a/\Sl 5 (cR qs) b:=by
 obtain⟨o,rfl,d⟩:=h.agg (by simp);have f:=mN (P:=env.P) N4 d;obtain⟨m,u,r,rfl,c,q,r',rfl,e,g,l,rfl,k,rfl⟩:=f;have c:=Dm (P:=env.P) UC Ux X4 abn c;obtain⟨us,a,_,rfl,j⟩:=c;have e:=Dm (P:=env.P) UB Uv XZ abm e;obtain⟨qs,b,_,rfl,i⟩:=e;obtain⟨gr,_,rfl⟩:=tU (P:=env.P) (t:=3) (by simp) _ _ k;exact⟨us,qs,gr,a,b,rfl,j,i⟩
end Go.Proofs.YtmkmimgokagimaaGreat
namespace Go.Proofs.YtmkmimgokagimaaGreat
open Go.Ab
section
attribute [local simp] aJ az au aG aF aX lZ aO aE aH bT bS bg aP an bA gj
def acj(h:xn):Value := .agg #[.int .u8 h.lv.toNat,.int .u32 h.cats.toNat,.int .u8 h.num.toNat]
def acg(i:bM):Value := .agg #[.int .u8 i.h.lv.toNat,.int .u32 i.h.cats.toNat,.int .u8 i.h.num.toNat,.int .i64 i.n]
def abW(v:jW):Value := .agg #[.int .u8 v.lv.toNat,.int .u32 v.cats.toNat]
def Bj(h:xn):AV := .agg [a8 h.lv,af h.cats,a8 h.num]
def AG(i:bM):AV := .agg [a8 i.h.lv,af i.h.cats,a8 i.h.num,aI i.n]
def zQ(v:jW):AV := .agg [a8 v.lv,af v.cats]
def Iy(h:xn):im (Bj h)=some (acj h):=rfl
def NI(i:bM):im (AG i)=some (acg i):=rfl
def Iq(v:jW):im (zQ v)=some (abW v):=rfl
def Zy:(λ(e:Bool)(a b c:Int)(n:Int)=>aY env.P (Instr.checkKey e 10000 33 (.agg #[.int .u8 a,.int .u32 b,.int .u8 c,.int .i64 n])))=λ_ _ _ _ _=>some ():=by kernel_rfl
def Zz:(λ(e:Bool)(a b c:Int)=>aY env.P (Instr.checkKey e 10000 31 (.agg #[.int .u8 a,.int .u32 b,.int .u8 c])))=λ_ _ _ _=>some ():=by kernel_rfl
def Zx:(λ(e:Bool)(a b:Int)=>aY env.P (Instr.checkKey e 10000 29 (.agg #[.int .u8 a,.int .u32 b])))=λ_ _ _=>some ():=by kernel_rfl
def Ll(d:TypeDesc)(u v:Array Value):Instr.sameNow d (.agg u) (.agg v)=none:=by
 unfold Instr.sameNow;cases d<;>rfl
def WS{t:TypeId}{xs ys:List AV}{us e:List Value}{b:Bool}(d:Gc env.P 8 t=true)(h:ia env.P 8 t xs ys=some b)(l:rV xs=some us)(g:rV ys=some e)(i:xs.length=env.P.cellsOf t)(f:ys.length=env.P.cellsOf t)(j:dL env.P t=some true) :
 aY env.P (Op.equal t (.agg us.toArray) (.agg e.toArray))=some b:=by
 obtain⟨u,v,a,c,k⟩:=WT 8 9992 t xs ys us e b d h l g i f;unfold Ab.valOf at a c;rw[j]at a c;dsimp only at a c;cases a;cases c;exact k
def Rm:Xw env.P 33 acg where
 chk:=λe a=>iQp (iQp (iQp (iQp (iQp Zy e) _) _) _) _
 eq:=λa b=>by
  have h:=WS (t:=33) (xs:=[a8 a.h.lv,af a.h.cats,a8 a.h.num,aI a.n]) (ys:=[a8 b.h.lv,af b.h.cats,a8 b.h.num,aI b.n]) (b:=decide (a=b)) (by kernel_rfl)
   (by obtain⟨⟨a1,a2,a3⟩,a4⟩:=a;obtain⟨⟨b1,b2,b3⟩,b4⟩:=b;simp[ia,cg,iQt,AJ]) rfl rfl (by kernel_rfl) (by kernel_rfl) (by kernel_rfl)
  exact h
 now:=λd _ a b=>Ll d _ _
 und:=by kernel_rfl
 bits:=λa=>by simp[acg,Instr.sameBits]
def Lw:Xw env.P 31 acj where
 chk:=λe a=>iQp (iQp (iQp (iQp Zz e) _) _) _
 eq:=λa b=>by
  have h:=WS (t:=31) (xs:=[a8 a.lv,af a.cats,a8 a.num]) (ys:=[a8 b.lv,af b.cats,a8 b.num]) (b:=decide (a=b)) (by kernel_rfl)
   (by obtain⟨a1,a2,a3⟩:=a;obtain⟨b1,b2,b3⟩:=b;simp[ia,cg,iQt,AJ]) rfl rfl (by kernel_rfl) (by kernel_rfl) (by kernel_rfl)
  exact h
 now:=λd _ a b=>Ll d _ _
 und:=by kernel_rfl
 bits:=λa=>by simp[acj,Instr.sameBits]
def Lv:Xw env.P 29 abW where
 chk:=λe a=>iQp (iQp (iQp Zx e) _) _
 eq:=λa b=>by
  have h:=WS (t:=29) (xs:=[a8 a.lv,af a.cats]) (ys:=[a8 b.lv,af b.cats]) (b:=decide (a=b)) (by kernel_rfl)
   (by obtain⟨a1,a2⟩:=a;obtain⟨b1,b2⟩:=b;simp[ia,cg,iQt,AJ]) rfl rfl (by kernel_rfl) (by kernel_rfl) (by kernel_rfl)
  exact h
 now:=λd _ a b=>Ll d _ _
 und:=by kernel_rfl
 bits:=λa=>by simp[abW,Instr.sameBits]
structure za where
 x:AV
 rs:List Ref
def S0(o:aw):List AV:=[a8 o.kind,a8 o.h.lv,af o.h.cats,a8 o.h.num,aI o.serial,a8 o.s.f.h.lv,af o.s.f.h.cats,a8 o.s.f.h.num,aI o.s.f.n,aI o.s.many,a8 o.a.h.lv,af o.a.h.cats,a8 o.a.h.num,aI o.a.n,a8 o.to.lv,af o.to.cats]
def I8(r:cN):List AV:=a8 r.kind :: aI r.user :: S0 r.op
def I7(r:cN):List AV:=[aI r.code,aI r.gu,a8 r.gv,af r.gc,aB r.gok]
def mO(l:List (aw × AV)):List AV:=l.map λp => .agg (S0 p.1++oP 1 (rows p.1.l) :: [])
def fB(l:List (cN × AV)):List AV:=l.map λp => .agg (I8 p.1++oP 1 (rows p.1.op.l) :: I7 p.1)
@[simp] def EJ(l:List (aw × AV)):(mO l).length=l.length:=by simp[mO]
@[simp] def yF(l:List (cN × AV)):(fB l).length=l.length:=by simp[fB]
def VL(l:List (aw × AV)):Prop :=∀p∈l,p.2=ep 1 (rows p.1.l)
def Jw(l:List (cN × AV)):Prop :=∀p∈l,p.2=ep 1 (rows p.1.op.l)
def Mw(es:List AV):HG (oP 1 es)=ep 1 es:=by
 cases es<;>rfl
def Rq(es:List AV):Ti (oP 1 es)=true:=by
 cases es<;>rfl
def SI(l:List (aw × AV)) : ∀e∈mO l,Th e=true:=by
 intro e a;obtain⟨p,_,rfl⟩:=jO.1 a;show(S0 p.1++oP 1 (rows p.1.l) :: []).all Ti=true;rw[OJ,vm,Rq];rfl
def SH(l:List (cN × AV)) : ∀e∈fB l,Th e=true:=by
 intro e a;obtain⟨p,_,rfl⟩:=jO.1 a;show(I8 p.1++oP 1 (rows p.1.op.l) :: I7 p.1).all Ti=true;rw[OJ,vm,Rq];rfl
def HN{l:List (aw × AV)}(h:VL l):(mO l).map A3=bf l:=by
 unfold mO bf;rw[zb];refine Gv λp hp=>?_;obtain⟨o,x⟩:=p;have a:=h _ hp;simp only at a;subst a;show AV.agg ((S0 o++oP 1 (rows o.l) :: []).map HG)=_;rw[Ai,pG,Mw];rfl
def Px{l:List (cN × AV)}(h:Jw l):(fB l).map A3=bW l:=by
 unfold fB bW;rw[zb];refine Gv λp hp=>?_;obtain⟨r,x⟩:=p;have a:=h _ hp;simp only at a;subst a;show AV.agg ((I8 r++oP 1 (rows r.op.l) :: I7 r).map HG)=_;rw[Ai,pG,Mw];rfl
def iJ(z:Nat)(es':List AV)(H:aa)(h:za):Prop:=uO z H h.x es' h.rs/\(es'=[]->h.x=bI)
def iJ.form{z:Nat}{es':List AV}{H:aa}{h:za}(a:iJ z es' H h):h.x=bI \/∃r n,h.x = .dsl r 0 n none:=by
 obtain⟨a,b⟩:=a;rcases a with ⟨e,_,_⟩ | ⟨r,e,he,_,_⟩ | ⟨r,es,e,_⟩
 ·exact .inl e
 ·exact .inl (b he)
 exact .inr ⟨_,_,e⟩
def iJ.one{z:Nat}{es':List AV}{H:aa}{h:za}(a:iJ z es' H h):h.x.cells=[h.x]/\h.x.one=true:=by
 rcases a.form with e | ⟨r,n,e⟩<;>rw[e]<;>exact⟨rfl,rfl⟩
def iJ.aX{z:Nat}{es':List AV}{H H':aa}{h:za}(a:iJ z es' H h)(c : ∀q∈h.rs,∀b,H.get q=some b->H'.get q=some b):iJ z es' H' h:=⟨a.1.aX c,a.2⟩
def iJ.live{z:Nat}{es':List AV}{H:aa}{h:za}(a:iJ z es' H h) : ∀q∈h.rs,∃b,H.get q=some b:=a.1.live
def iJ.Jy{z:Nat}{es':List AV}{H:aa}{h:za}(c:iJ z es' H h){q:Ref}(e:H.get q=none):q ∉ h.rs:=λd=>by
 obtain⟨b,a⟩:=c.live q d;rw[e]at a;cases a
def iJ.len{z:Nat}{es':List AV}{H:aa}{h:za}(a:iJ z es' H h):og h.x=some es'.length:=a.1.len
def iJ.see{z:Nat}{es':List AV}{H:aa}{h:za}(b:iJ z es' H h)(n:Nat):view H.get (n+3) h.x=some (ep z (es'.map A3))/\ah H.get (n+3) h.x=h.rs:=by
 obtain⟨j,i,g,k⟩:=b.1.out n;refine⟨?_,g⟩;rw[i];rcases b with ⟨⟨e,a,_⟩ | ⟨r,e,he,_,_⟩ | ⟨r,es,e,a,l,f,_⟩,c⟩
 ·rw[e,a];rfl
 ·rw[c he]at e;cases e
 rw[e];have:es'≠[]:=λd=>by
  have:=f.len;rw[d]at this;exact a (Fu.1 this)
 show some (AV.cC z (es'.map A3) none)=_;rw[qv z (by simpa using this)]
def F2.mem{R:AV->AV->Prop} : ∀ {xs ys:List AV},F2 R xs ys ->∀x∈xs,∃y,R x y
 | [],_,_,x,c=>by cases c
 | a :: xs,b :: ys,h,x,c=>by
  rcases eD.1 c with rfl | c
  ·exact⟨b,h.1⟩
  exact F2.mem h.2 x c
 | _ :: _,[],h,_,_=>h.elim
def HZ{g:cF} : ∀ {xs ys:List AV},F2 (DC g) xs ys->ys.all vM=true->xs=ys
 | [],[],_,_=>rfl
 | x :: xs,y :: ys,h,hp=>by
  simp only[vm,aT]at hp;rcases h.1 with ⟨rfl,_⟩ | ⟨_,_,_,_,_,rfl,_⟩
  ·rw[HZ h.2 hp.2]
  cases hp.1
 | [],_ :: _,h,_=>h.elim
 | _ :: _,[],h,_=>h.elim
def SC{g:cF}{cs A B rw':List AV}(h:F2 (DC g) cs (A++oP 1 rw' :: B))(d:A.all vM=true)(k:B.all vM=true) :
 ∃y,cs=A++y :: B/\((y=bI/\rw'=[])\/(rw'≠[] /\∃q,y = .bN q 0 rw'.length none/\g q=some ⟨1,rw',true,false⟩)):=by
 obtain⟨A',C,rfl,i,a⟩:=F2.split h;match C,a with
 | y :: m,a=>
  obtain⟨a,j⟩:=a;refine⟨y,by rw[HZ i d,HZ j k],?_⟩;by_cases b:rw'=[]
  ·subst b;rcases a with ⟨rfl,_⟩ | ⟨_,_,_,_,_,e,_⟩
   ·exact .inl ⟨rfl,rfl⟩
   cases e
  rw[pe 1 b]at a;rcases a with ⟨_,e⟩ | ⟨q,z,l,c,rfl,e,f,_⟩
  ·cases e
  cases e;exact .inr ⟨b,q,rfl,f⟩
def iJ.gJ{z:Nat}{es':List AV}{H:aa}{h:za}(i:iJ z es' H h) : ∀q∈h.rs,∀c,H.get q=some c->c.gJ=false:=by
 intro q a c b;rcases i.1 with ⟨_,_,e⟩ | ⟨r,_,_,e,d⟩ | ⟨r,es,_,_,d,k,e,_⟩
 ·rw[e]at a;cases a
 ·rw[e]at a;rw[nc.1 a,d]at b;cases b;rfl
 rw[e]at a;rcases eD.1 a with rfl | a
 ·rw[d]at b;cases b;rfl
 obtain⟨x,j,a⟩:=fq.1 a;obtain⟨y,xs,ys,rfl,rfl,g⟩:=F2.mem k x j;obtain⟨u,hu,a⟩:=fq.1 a;obtain⟨v,f⟩:=F2.mem g u hu;rcases f with ⟨rfl,hp⟩ | ⟨r,z,es,c,rfl,rfl,d,_⟩
 ·cases u<;>first | (simp[jg]at a;done) | cases hp
 simp[jg]at a;subst a;rw[d]at b;cases b;rfl
def iJ.head{z:Nat}{es':List AV}{H:aa}{h:za}(b:iJ z es' H h){q:Ref}{n:Nat}(e:h.x = .dsl q 0 n none):q∈h.rs:=by
 rcases b.1 with ⟨a,_⟩ | ⟨_,a,_⟩ | ⟨r7,c,a,_,_,_,d,_⟩
 ·rw[a]at e;cases e
 ·rw[a]at e;cases e
 rw[a]at e;cases e;rw[d];simp
def iJ.nil(z:Nat)(H:aa):iJ z [] H ⟨bI,[]⟩:=⟨.inl ⟨rfl,rfl,rfl⟩,λ_=>rfl⟩
def iJ.app{T:TypeId}{z by':Nat}(Q:RB env.P T z by'=true)(U:Ed env.P T=true){es':List AV}{H:aa}{h:za}(Z:Fr H)(L:iJ z es' H h){A B:List AV}{rw':List AV}{y:AV}(G:A.all vM=true)(m:B.all vM=true)
 (Y:(y=bI/\rw'=[])\/(rw'≠[] /\∃q,y = .bN q 0 rw'.length none/\H.get q=some ⟨1,rw',true,false⟩/\q ∉ h.rs))
 (hz:(A++y :: B).length=z) (F:z<=16777216) (ho:(A++y :: B).all AV.one=true) (g:(es'.length+1) * by'<=Ab.bg) {dp t1 N:Nat} {r1:Ref} (E:r1=⟨dp,t1,aa.gen H dp t1,0⟩) {K:AV->aa->Prop}
 (X : ∀H2 o,Fr H2->iJ z (es'++[.agg (A++oP 1 rw' :: B)]) H2 o->(∀q b,H.get q=some b->(∀n,h.x ≠ .dsl q 0 n none)->H2.get q=some b)->(∀q∈o.rs,q∈h.rs\/(∃n c,y = .bN q 0 n c)\/H.get q=none)->(∃r n,o.x = .dsl r 0 n none/\H.get r=none)->K o.x H2) :
 lE (qu env.P H r1 T 1 (some [(0,.agg (A++y :: B))])) λv M=>lE (yf env.P M (⟨dp,N,aa.gen M dp N,0⟩:Ref) (some T) (some T) h.x v) K:=by
 have i : ∀ {ys:List AV},ys.all vM=true->F2 (DC H.get) ys ys/\ys.flatMap jg=[]:=by
  intro ys;induction ys with
  | nil=>intro _;exact⟨trivial,rfl⟩
  | cons a l ih=>intro h;simp only[vm,aT]at h;obtain⟨i1,i2⟩:=ih h.2;refine⟨⟨.inl ⟨rfl,h.1⟩,i1⟩,?_⟩;rw[na,i2,rQ];cases a<;>first | rfl | (exact absurd h.1 (by simp[vM]))
 obtain⟨a1,a2⟩:=i G;obtain⟨b1,b2⟩:=i m;obtain⟨d,e1,e2,O,e4,e5⟩ : ∃d:List (Ref × aQ),jg y=d.map (·.1)/\DC H.get y (oP 1 rw')/\(∀p∈d,H.get p.1=some p.2/\p.1 ∉ h.rs)/\(d.map (·.1)).Nodup/\(∀q∈d.map (·.1),∃n c,y = .bN q 0 n c):=by
  rcases Y with ⟨rfl,rfl⟩ | ⟨D,q,rfl,u,V⟩
  ·exact⟨[],rfl,.inl ⟨rfl,rfl⟩,by simp,by simp,by simp⟩
  refine⟨[(q,⟨1,rw',true,false⟩)],rfl,?_,by simpa using ⟨u,V⟩,by simp,by simp⟩;rw[pe 1 D];exact .inr ⟨q,1,rw',none,rfl,rfl,u,by decide⟩
 have W:B2 H (d++[]) [⟨z,h.x,es',h.rs⟩]:=by
  rw[rQ];refine⟨Z,λp hp=>(O p hp).1,e4,λt J=>?_,λt J p hp=>?_,by simp⟩;·rw[nc.1 J];exact L.1
  rw[nc.1 J];exact(O p hp).2
 refine ZF Q U L.form W (cs:=A++y :: B) (ys:=A++oP 1 rw' :: B) (a1.app ⟨e2,b1⟩) ?_ hz F ho g E λr2 H2 w j S hm k=>?_;·rw[AP,na,a2,b2,e1];simp
 have f:=j.row _ (nc.2 rfl);have I : ∃C,w=r2 :: C:=by
  rcases f with ⟨e,_⟩ | ⟨_,e,_⟩ | ⟨r,es,e,_,_,_,R,_⟩
  ·cases e
  ·cases e
  injection e with q1 q2 q3 q4
  subst q1;exact⟨_,R⟩
 obtain⟨C,rfl⟩:=I;exact X H2 ⟨_,r2 :: C⟩ j.fr ⟨f,λe=>by simp at e⟩ S (λq u=>by
  rcases hm q u with e | e | e
  ·exact .inl e
  ·exact .inr (.inl (e5 q e))
  exact .inr (.inr (by rw[e];exact k.1))) ⟨_,_,rfl,k.1⟩
structure cf (H H':aa):Prop where
 fr:Fr H'
 old : ∀q b,H.get q=some b->H'.get q=some b
def cf.refl{H:aa}(h:Fr H):cf H H:=⟨h,λ_ _ h=>h⟩
def cf.trans{H H' a:aa}(h:cf H H')(c:cf H' a):cf H a:=⟨c.fr,λq b d=>c.old q b (h.old q b d)⟩
def cf.cons{H:aa}(n:Fr H)(d t:Nat)(b:aQ):cf H ((⟨d,t,H.gen d t,0⟩,some b) :: H):=
 ⟨by simp(maxDischargeDepth:=12) [fN, *],λq c a=>by rw[aa.fh,if_neg (nB n (by rw[a];rfl) _ _ _)];exact a⟩
def nE{f:FuncId}(u:(env.mode f == 2)=true){dep:Nat}{H:aa}{r:Ref}{first args captured:List AV}{y:AV}{K:AV->aa->Prop}{m:Mk K}
 (h : ∃H',cb env dep (.fn f) (first++args++captured) H=some (y,H')/\cf H H') (a : ∀H',cf H H'->K y H') :
 lE (bB env true (ax env) (cb env dep) H r (some (.fn (.func f) first captured)) args) K m:=by
 obtain⟨H',b,c⟩:=h;refine tL (v:=y) (H:=H') ?_ (a H' c);rw[Fb u];exact b
def fT{f:FuncId}{fn:Func}{c:Code}{dep:Nat}{args:List AV}{H:aa}{y:AV}(u:env.mode f=2)(b:env.allowed f=true)(g:env.P.funcs[f]?=some fn)(e:fn.body=some c)(B:Nat.ble args.length fn.ntmps=true)
 (h:bu env fn (dep+1) [.code c] (uC 0 args) H λx a=>x=y/\cf H a) (d:env.thrSpec f args H=none:=by rfl) : ∃H',cb env dep (.fn f) args H=some (y,H')/\cf H H':=by
 obtain⟨m,H',i,rfl,k⟩:=nN (Q:=λx a=>x=y/\cf H a) u b g e B h d;exact⟨H',i,k⟩
structure By (H:aa) (rh:Ref) (ops:List (aw × AV)) (ents:List (bM × AV)):Prop where
 box : ∃xo vo rm,H.get rh=some ⟨2,[.agg [xo,.mp rm]],false,false⟩/\lY 17 (bf ops) H xo vo/\H.get rm=some (ba (cJ AG ents))
def By.grow{H H':aa}{rh:Ref}{ops:List (aw × AV)}{ents:List (bM × AV)}(h:By H rh ops ents)(g:cf H H'):By H' rh ops ents:=by
 obtain⟨k,e,rm,f,a,i⟩:=h.box;refine⟨k,e,rm,g.old _ _ f,?_,g.old _ _ i⟩;rcases a with a | ⟨r,c,fz,d,b,m⟩
 ·exact .inl a
 exact .inr ⟨r,c,fz,d,g.old _ _ b,m⟩
def fK(ents:List (bM × AV))(i:bM):Bool:=match cm i ents with | some (.v (.bool b))=>b | _=>false
def ov(ents:List (bM × AV)):Prop :=∀p∈ents,p.2=aB true
def Tb{ents:List (bM × AV)}(h:ov ents)(i:bM):(cm i ents).getD (aB false)=aB (fK ents i):=by
 unfold fK;induction ents with
 | nil=>rfl
 | cons p l b=>
  unfold cm;split;·rename_i hp;rw[h p gy];rfl
  exact b λq a=>h q (fO _ a)
def vJ(ents:List (bM × AV))(o:aw)(i:bM):Bool:=fK ents i&&rG (OG i) (LJ o)
def Rg{g:cF}{rm:Ref}{ents:List (bM × AV)}(w:ov ents)(e:g rm=some (ba (cJ AG ents)))(b:UInt8)(c:UInt32)(a:UInt8)(d:Int):fe env.P g 264 (some (.mp rm)) (some (.agg [a8 b,af c,a8 a,aI d])) false=some (aB (fK ents (⟨⟨b,c,a⟩,d⟩:bM)),[]):=by
 have h:=A9 Rm NI (t:=264) (et:=4) (by kernel_rfl) (z:=aB false) (by kernel_rfl) e (⟨⟨b,c,a⟩,d⟩:bM) false;rw[Tb w]at h;exact h
section
variable(dep:Nat){H:aa}(n:Fr H){rh:Ref}{ops:List (aw × AV)}{ents:List (bM × AV)}(A:By H rh ops ents)(w:ov ents)
include n A w
theorem QS(J:UInt8)(D:UInt8)(a_3:UInt32)(G:UInt8)(E:Int)(L:UInt8)(K:UInt32)(C:UInt8)(I:Int)(v:Int)(z:UInt8)(o:UInt32)(y:UInt8)(t:Int)(k:UInt8)(m:UInt32)(d:UInt8)(i:UInt32)(f:UInt8)(e:Int){x:AV}{M:List Int}(j:Sl 1 (rows M) x) : ∃H',cb env dep (.fn 230) [.ptr rh 0 0,.agg [a8 J,a8 D,af a_3,a8 G,aI E,a8 L,af K,a8 C,aI I,aI v,a8 z,af o,a8 y,aI t,a8 k,af m,x],.agg [a8 d,af i,a8 f,aI e]] H=some (aB (vJ ents (⟨J,⟨D,a_3,G⟩,E,⟨⟨⟨L,K,C⟩,I⟩,v⟩,⟨⟨z,o,y⟩,t⟩,⟨k,m⟩,M⟩:aw) (⟨⟨d,i,f⟩,e⟩:bM)),H')/\cf H H':=by
 refine fT (fn:=Tryz.f230) (c:=rI) (by kernel_rfl) (by kernel_rfl) (by kernel_rfl) (by kernel_rfl) (by kernel_rfl) ?_;refine rE _ _ _ _ _ _ λg=>?_;obtain⟨Z,X,rm,T,V,U⟩:=A.box;have W:(H.get rh).isSome=true:=by rw[T];rfl
 have l3:(H.get rm).isSome=true:=by rw[U];rfl
 have S:=λ(H':aa)(h:H'.get rm=some (ba (cJ AG ents)))=>Rg (g:=H'.get) w h d i f e;have P:=V.r;have Q : ∀H',Fr H'->(∀q b,H.get q=some b->H'.get q=some b)->cf H H':=λH' a b=>⟨a,b⟩;have N : ∀b1 b2:aQ,cf H ((⟨dep+1,5,H.gen (dep+1) 5,0⟩,some b2) :: (⟨dep+1,4,H.gen (dep+1) 4,0⟩,some b1) :: H):=λb1 b2=>⟨by simp(maxDischargeDepth:=12) [fN, *],λq c O=>by
  have R:(H.get q).isSome=true:=by rw[O];rfl
  simp[bE n R,O]⟩
 unfold vJ;cases Y:fK ents (⟨⟨d,i,f⟩,e⟩:bM) with
 | false=>simp[ai, *,hZ,j.r]
 | true=>simp[ai, *,hZ,j.r];all_goals rfl
theorem Ww(b:UInt8)(d:UInt32)(a:UInt8)(e:Int){q:Ref}(t:H.get q=some ⟨1,[.ptr rh 0 0],false,false⟩) : ∃H',cb env dep (.fn 233) [.agg [a8 b,af d,a8 a,aI e],.ptr q 0 0] H=some (aB (fK ents (⟨⟨b,d,a⟩,e⟩:bM)),H')/\cf H H':=by
 refine fT (fn:=Tryz.f233) (c:=po) (by kernel_rfl) (by kernel_rfl) (by kernel_rfl) (by kernel_rfl) (by kernel_rfl) ?_;refine pd _ _ _ _ _ λg=>?_;obtain⟨z,y,rm,m,v,o⟩:=A.box;have x:(H.get rh).isSome=true:=by rw[m];rfl
 have C:(H.get q).isSome=true:=by rw[t];rfl
 have D:(H.get rm).isSome=true:=by rw[o];rfl
 have k:=λ(H':aa)(h:H'.get rm=some (ba (cJ AG ents)))=>Rg (g:=H'.get) w h b d a e;have i:=v.r;have f : ∀b1:aQ,cf H ((⟨dep+1,2,H.gen (dep+1) 2,0⟩,some b1) :: H):=λb1=>cf.cons n _ _ _;simp[ai, *,kq]
theorem Xp(D:UInt8)(m:UInt8)(a_3:UInt32)(y:UInt8)(t:Int)(I:UInt8)(C:UInt32)(k:UInt8)(z:Int)(f:Int)(i:UInt8)(d:UInt32)(h:UInt8)(e:Int)(a:UInt8)(b:UInt32)(o:UInt8)(G:UInt32)(E:UInt8)(v:Int){x:AV}{L:List Int}(j:Sl 1 (rows L) x){q p:Ref}(O:H.get q=some ⟨1,[.ptr rh 0 0],false,false⟩)(hp:H.get p=some ⟨17,[.agg [a8 D,a8 m,af a_3,a8 y,aI t,a8 I,af C,a8 k,aI z,aI f,a8 i,af d,a8 h,aI e,a8 a,af b,x]],false,false⟩) :
 ∃H',cb env dep (.fn 242) [.agg [a8 o,af G,a8 E,aI v],.ptr q 0 0,.ptr p 0 0] H=some (aB (!vJ ents (⟨D,⟨m,a_3,y⟩,t,⟨⟨⟨I,C,k⟩,z⟩,f⟩,⟨⟨i,d,h⟩,e⟩,⟨a,b⟩,L⟩:aw) (⟨⟨o,G,E⟩,v⟩:bM)),H')/\cf H H':=by
 refine fT (fn:=Tryz.f242) (c:=qJ) (by kernel_rfl) (by kernel_rfl) (by kernel_rfl) (by kernel_rfl) (by kernel_rfl) ?_;refine qD _ _ _ _ _ _ λg=>?_;have Q:(H.get q).isSome=true:=by rw[O];rfl
 have R:(H.get p).isSome=true:=by rw[hp];rfl
 have K : ∀b1:aQ,cf H ((⟨dep+1,3,H.gen (dep+1) 3,0⟩,some b1) :: H):=λb1=>cf.cons n _ _ _;have M:=λb1=>QS (dep+1) (K b1).fr (A.grow (K b1)) w D m a_3 y t I C k z f i d h e a b o G E v j;simp[ai, *,lu,j.r];refine nE (by kernel_rfl) (M _) λP N=>?_;have J:=(K _).trans N;simp[J]
end
def ot(l:List bM):List AV:=l.map AG
@[simp] def aen(l:List bM):(ot l).length=l.length:=by simp[ot]
def P9(p:bM->Bool):List bM->Nat->Int
 | [],_ => -1
 | i :: l,k=>if p i then k else P9 p l (k+1)
def NG(p:bM->Bool) : ∀(l:List bM)(k:Nat),decide (0<=P9 p l k)=l.any p
 | [],k=>rfl
 | i :: l,k=>by
  unfold P9;rw[GJ];cases h:p i with
  | true=>simp
  | false=>simpa using NG p l (k+1)
section
variable(dep:Nat){F:FuncId}(u:(env.mode F == 2)=true){caps:List AV}{l:List bM}{x0:AV}(j:Sl 4 (ot l) x0)(B:l.length<100000){H0:aa}{p:bM->Bool}
include u j B
theorem Ts(hp : ∀i H,cf H0 H ->∃H',cb env (dep+1) (.fn F) ([]++[AG i]++caps) H=some (aB (p i),H')/\cf H H'){Q:AV->aa->Prop} : ∀(s:List bM)(k:Nat)(i:Int)(H:aa),l.drop k=s->k<=l.length->i=k->cf H0 H->(∀y H',y=aI (P9 p s k)->cf H0 H'->Q y H') ->
 bu env Tryz.f241 (dep+1) bo [(8,aI i),(0,x0),(1,.fn (.func F) [] caps),(7,aI l.length)] H Q:=by
 intro s;induction s with
 | nil=>rintro k i H hs hk rfl hG hQ;obtain rfl:=drop_nil hs hk;have d:=hQ _ H rfl hG;refine dz _ _ _ _ _ _ _ λg=>?_;clear hp hQ;simp[ai, *,bU];all_goals exact d
 | cons a s q=>
  rintro k i H hs hk rfl hG hQ;obtain⟨C,E,b,c⟩:=drop_cons hs;have I:=iQa ((k:Int)+1) (by omega);have D:bL (ot l) k 0 4 true=some (AG a):=by simp[ot,c,AG]
  have v:=hp a H hG;have o:=λH' G=>q (k+1) ((k:Int)+1) H' b (by omega) (by simp) G;have t:(k:Int)<l.length:=by omega
  clear q hp hs b E c;refine dz _ _ _ _ _ _ _ λg=>?_;simp[ai, *,bU,j.r,j.idx];refine nE u v λx m=>?_;have f:=hG.trans m;unfold P9 at hQ;cases e:p a with
  | true=>rw[e]at hQ;simp;exact hQ _ _ (by simp) f
  | false=>rw[e]at hQ;simp[I];exact o x f (λy H' z h=>hQ y H' (by simpa using z) h)
theorem FT{H:aa}(n:Fr H)(hp : ∀i H',cf H H' ->∃b,cb env (dep+2) (.fn F) ([]++[AG i]++caps) H'=some (aB (p i),b)/\cf H' b) :
 ∃H',cb env dep (.fn 232) [x0,.fn (.func F) [] caps] H=some (aB (l.any p),H')/\cf H H':=by
 have k : ∃H',cb env (dep+1) (.fn 241) ([]++[x0,.fn (.func F) [] caps]++[]) H=some (aI (P9 p l 0),H')/\cf H H':=by
  refine fT (fn:=Tryz.f241) (c:=ju) (by kernel_rfl) (by kernel_rfl) (by kernel_rfl) (by kernel_rfl) (by kernel_rfl) ?_;refine jm _ _ _ _ _ λg=>?_;have a:=Ts (dep+1) u j B (p:=p) hp (Q:=λx d=>x=aI (P9 p l 0)/\cf H d) l 0 0 H rfl (by omega) rfl (cf.refl n) (λy H' e h=>⟨e,h⟩);clear hp;simp[ai, *,dU,j.r];all_goals exact a
 refine fT (fn:=Tryz.f232) (c:=iM) (by kernel_rfl) (by kernel_rfl) (by kernel_rfl) (by kernel_rfl) (by kernel_rfl) ?_;refine iL _ _ _ _ _ λg=>?_;unfold dv;refine nE (by kernel_rfl) k λd f=>?_;have:=NG p l 0;simp[f,<-this]
end
def ck(s:wm):List bM:=(List.range s.many.toNat).map λk=>Aq s.f (k:Nat)
def PZ(h:UInt8)(e:UInt32)(a_3:UInt8)(f:Int)(c:Int)(w:eN (⟨⟨⟨h,e,a_3⟩,f⟩,c⟩:wm)=true){Q:AV->aa->Prop} : ∀(d k:Nat)(i:Int)(u:AV)(H:aa),k+d=c.toNat->i=k->Fr H->H.get ⟨0,1,0,0⟩=some ⟨5,[.agg [a8 h,af e,a8 a_3,aI f,aI c]],false,false⟩->qq [20] 4 (ot ((List.range k).map λ(k:Nat)=>Aq ⟨⟨h,e,a_3⟩,f⟩ k)) H u ->
 (∀y H',qq [20] 4 (ot (ck (⟨⟨⟨h,e,a_3⟩,f⟩,c⟩:wm))) H' y->Q y H') ->
 bu env Tryz.f213 0 o3 [(8,aI i),(2,u),(1,.ptr ⟨0,1,0,0⟩ 0 0),(7,aI c)] H Q:=by
 have D:=gS w;simp only at D;intro d;induction d with
 | zero=>
  rintro k i u H hk rfl b a hO hQ;have q:=hQ u H (by unfold ck;simp only;rw[show c.toNat=k by omega];exact hO);have v : ¬(k:Int)<c:=by omega
  refine AZ _ _ _ _ _ _ λg=>?_;clear hQ hO;simp[ai, *,sI];all_goals exact q
 | succ d A=>
  rintro k i u H hk rfl b a hO hQ;have M:=iQa ((k:Int)+1) (by omega);have v:(k:Int)<c:=by omega
  have x:XI (⟨⟨⟨h,e,a_3⟩,f⟩,c⟩:wm) (k:Int)=0:=(by unfold XI;rw[if_pos w,if_neg];simp only;omega);have E:=afQ h e a_3 f c (k:Int);rw[if_pos x]at E;have J:(H.get ⟨0,1,0,0⟩).isSome=true:=by rw[a];rfl
  have n : ∀(g:Nat)(m:Nat)(p:aa),m=k+1->Fr p->p.get ⟨0,1,0,0⟩=some ⟨5,[.agg [a8 h,af e,a8 a_3,aI f,aI c]],false,false⟩->p.get ⟨0,20,g,0⟩=some ⟨4,ot ((List.range k).map λ(k:Nat)=>Aq ⟨⟨h,e,a_3⟩,f⟩ k)++[.agg [a8 h,af e,a8 a_3,aI (f+k)]],true,false⟩ ->
   bu env Tryz.f213 0 o3 [(8,aI ((k:Int)+1)),(2,.bN ⟨0,20,g,0⟩ 0 m none),(1,.ptr ⟨0,1,0,0⟩ 0 0),(7,aI c)] p Q:=by
   intro g m p F I G C;subst F;refine A (k+1) ((k:Int)+1) _ p (by omega) (by simp) I G (.inr ⟨20,g,by simp,by simp,?_⟩) hQ;rw[C];simp[ot,List.range_succ,AG,Aq]
  clear A hQ;refine AZ _ _ _ _ _ _ λg=>?_;generalize he:ot ((List.range k).map λ(k:Nat)=>Aq ⟨⟨h,e,a_3⟩,f⟩ k)=es at *;have o:es.length=k:=by rw[<-he];simp
  clear he x;rcases hO with ⟨rfl,rfl⟩ | ⟨t,gg,z,rfl,B⟩
  ·have l:=λp=>n (H.gen 0 20) 1 p (by simp at o;omega);clear n o;simp[ai, *,sI];refine l _ ?_ ?_ ?_;·simp(maxDischargeDepth:=12) [fN, *]
   ·simp(maxDischargeDepth:=12) [fN, *]
   simp(maxDischargeDepth:=12) [fN, *]
  rw[nc]at z;subst z;rw[o];have l:=n (H.gen 0 20) (k+1);clear n;have L:(H.get ⟨0,20,gg,0⟩).isSome=true:=by rw[B];rfl
  have K:ow 4 24 k true none (some ⟨4,es,true,false⟩) (some [.agg [a8 h,af e,a8 a_3,aI (f+k)]]):=(by simp[o];omega);simp[ai, *,sI];refine l _ rfl ?_ ?_ ?_;·simp(maxDischargeDepth:=12) [fN, *]
  ·simp(maxDischargeDepth:=12) [fN, *]
  simp(maxDischargeDepth:=12) [fN, *]
def K3(i:UInt8)(d:UInt32)(a_3:UInt8)(f:Int)(c:Int)(m:eN (⟨⟨⟨i,d,a_3⟩,f⟩,c⟩:wm)=true):ax env 213 [.agg [a8 i,af d,a8 a_3,aI f,aI c]]=some (.cC 4 (ot (ck (⟨⟨⟨i,d,a_3⟩,f⟩,c⟩:wm))) none):=by
 have p:=gS m;simp only at p;have l:ot (ck (⟨⟨⟨i,d,a_3⟩,f⟩,c⟩:wm))≠[]:=by
  intro e;have:=iQg List.length e;simp[ck]at this;omega
 refine ay rfl (by kernel_rfl) (KU _ _ _ λg=>?_);have k:=λH o q=>PZ i d a_3 f c m (Q:=λy H'=>view H'.get 8 y=some (.cC 4 (ot (ck (⟨⟨⟨i,d,a_3⟩,f⟩,c⟩:wm))) none)) c.toNat 0 0 bI H (by omega) rfl o q (.inl ⟨rfl,by simp[ot]⟩) (λy H' h=>by
  rcases h with ⟨_,h⟩ | ⟨t,g,_,rfl,n⟩
  ·exact absurd h l
  rw[JN n rfl])
 simp[ai, *,Eh];exact k _ (by simp(maxDischargeDepth:=12) [fN, *]) rfl
def Nl(s:wm):Sl 4 (ot (ck s)) (.cC 4 (ot (ck s)) none):=Sl.mk _ _
def EU{s:wm}(h:eN s=true):(ck s).length<100000:=by
 have c:=gS h;simp[ck];omega
def sj(ents:List (bM × AV))(o:aw):Bool := !(ck o.s).any λi => !vJ ents o i
section
variable(dep:Nat){H:aa}(b:Fr H){rh:Ref}{ops:List (aw × AV)}{ents:List (bM × AV)}(j:By H rh ops ents)(a:ov ents)
include b j a
theorem Xo(B:UInt8)(y:UInt8)(a_3:UInt32)(A:UInt8)(z:Int)(l:UInt8)(k:UInt32)(e:UInt8)(f:Int)(d:Int)(w:UInt8)(t:UInt32)(v:UInt8)(u:Int)(m:UInt8)(o:UInt32){x:AV}{G:List Int}(J:Sl 1 (rows G) x)(I:eN ⟨⟨⟨l,k,e⟩,f⟩,d⟩=true) :
 ∃H',cb env dep (.fn 234) [.ptr rh 0 0,.agg [a8 B,a8 y,af a_3,a8 A,aI z,a8 l,af k,a8 e,aI f,aI d,a8 w,af t,a8 v,aI u,a8 m,af o,x]] H=some (aB (sj ents (⟨B,⟨y,a_3,A⟩,z,⟨⟨⟨l,k,e⟩,f⟩,d⟩,⟨⟨w,t,v⟩,u⟩,⟨m,o⟩,G⟩:aw)),H')/\cf H H':=by
 refine fT (fn:=Tryz.f234) (c:=sA) (by kernel_rfl) (by kernel_rfl) (by kernel_rfl) (by kernel_rfl) (by kernel_rfl) ?_;refine rU _ _ _ _ _ λg=>?_;have O:=K3 l k e f d I;have C : ∀b1 b2:aQ,cf H ((⟨dep+1,3,H.gen (dep+1) 3,0⟩,some b2) :: (⟨dep+1,2,H.gen (dep+1) 2,0⟩,some b1) :: H):=λb1 b2=>⟨by simp(maxDischargeDepth:=12) [fN, *],λq c K=>by
  have M:(H.get q).isSome=true:=by rw[K];rfl
  simp[bE b M,K]⟩
 have L : ∃H',cb env (dep+1) (.fn 232) ([]++[.cC 4 (ot (ck ⟨⟨⟨l,k,e⟩,f⟩,d⟩)) none,.fn (.func 242) [] [.ptr ⟨dep+1,2,H.gen (dep+1) 2,0⟩ 0 0,.ptr ⟨dep+1,3,H.gen (dep+1) 3,0⟩ 0 0]]++[])
  ((⟨dep+1,3,H.gen (dep+1) 3,0⟩,some ⟨17,[.agg [a8 B,a8 y,af a_3,a8 A,aI z,a8 l,af k,a8 e,aI f,aI d,a8 w,af t,a8 v,aI u,a8 m,af o,x]],false,false⟩) :: (⟨dep+1,2,H.gen (dep+1) 2,0⟩,some ⟨1,[.ptr rh 0 0],false,false⟩) :: H)=some (aB ((ck ⟨⟨⟨l,k,e⟩,f⟩,d⟩).any λi => !vJ ents (⟨B,⟨y,a_3,A⟩,z,⟨⟨⟨l,k,e⟩,f⟩,d⟩,⟨⟨w,t,v⟩,u⟩,⟨m,o⟩,G⟩:aw) i),H')/\cf _ H':=
  FT (dep+1) (F:=242) (by kernel_rfl) (Nl _) (EU I) (p:=λi => !vJ ents (⟨B,⟨y,a_3,A⟩,z,⟨⟨⟨l,k,e⟩,f⟩,d⟩,⟨⟨w,t,v⟩,u⟩,⟨m,o⟩,G⟩:aw) i) (C _ _).fr (λi H' D=>by
   have:=Xp (dep+3) D.fr ((j.grow (C _ _)).grow D) a B y a_3 A z l k e f d w t v u m o i.h.lv i.h.cats i.h.num i.n J (q:=⟨dep+1,2,H.gen (dep+1) 2,0⟩) (p:=⟨dep+1,3,H.gen (dep+1) 3,0⟩) (D.old _ _ (by simp)) (D.old _ _ (by simp));exact this)
 simp[ai, *,lX,J.r];refine nE (by kernel_rfl) L λN D=>?_;have E:=(C _ _).trans D;simp[E,sj]
end
def Rj{g:cF}{r rm:Ref}{ents:List (bM × AV)}(c:g rm=some (ba (cJ AG ents))):cP env.P false g r .len #[264] [.mp rm]=some (aI ents.length,[]):=by
 have a:(Jp env.P 264).isSome=true:=by kernel_rfl
 obtain⟨p,hp⟩:=ik.1 a;have e:cP env.P false g r .len #[264] [.mp rm]=wT env.P g (some 264) rm:=rfl;rw[e];unfold wT;rw[vP c,eJ,hp];simp[cJ]
def fR(ents:List (bM × AV))(o:aw):Int:=
 if (!gB o.a && !vJ ents o o.a)=true then 6 else if I9 o≠0\/(ck o.s).any (fK ents)=true then 2 else if 8192<(ents.length:Int)+o.s.many then 4 else 0
def zD(ents:List (bM × AV))(o:aw):Int:=if sj ents o=false then 6 else if (decide (o.s.f.h.lv=o.h.lv)&&decide (o.s.f.h.cats=o.h.cats))=false then 2 else 0
def zE(ops:List (aw × AV))(ents:List (bM × AV))(o:aw):Int:=if sj ents o=false then 6 else if qH (opsOf ops)=0/\la (opsOf ops) o=true then 0 else 2
def uV(ops:List (aw × AV))(ents:List (bM × AV))(o:aw):Int:=if o.kind=1 then fR ents o else if o.kind=2 then zD ents o else zE ops ents o
def vX(ops:List (aw × AV))(ents:List (bM × AV))(o:aw):Int:=if uV ops ents o=0/\2048<=ops.length then 4 else uV ops ents o
section
variable(dep:Nat){H:aa}(i:Fr H){rh:Ref}{ops:List (aw × AV)}{ents:List (bM × AV)}(b:By H rh ops ents)(d:ov ents)
include i b d
theorem SM(w:UInt8)(p:UInt8)(a_3:UInt32)(v:UInt8)(u:Int)(n:UInt8)(m:UInt32)(o:UInt8)(q:Int)(a:Int)(l:UInt8)(h:UInt32)(k:UInt8)(j:Int)(e:UInt8)(f:UInt32){x:AV}{B:List Int}(A:Sl 1 (rows B) x)(E:eN ⟨⟨⟨n,m,o⟩,q⟩,a⟩=true) :
 ∃H',cb env dep (.fn 219) [.ptr rh 0 0,.agg [a8 w,a8 p,af a_3,a8 v,aI u,a8 n,af m,a8 o,aI q,aI a,a8 l,af h,a8 k,aI j,a8 e,af f,x]] H=some (aI (zD ents (⟨w,⟨p,a_3,v⟩,u,⟨⟨⟨n,m,o⟩,q⟩,a⟩,⟨⟨l,h,k⟩,j⟩,⟨e,f⟩,B⟩:aw)),H')/\cf H H':=by
 refine fT (fn:=Tryz.f219) (c:=qc) (by kernel_rfl) (by kernel_rfl) (by kernel_rfl) (by kernel_rfl) (by kernel_rfl) ?_;refine pQ _ _ _ _ _ λg=>?_;have y : ∀b1:aQ,cf H ((⟨dep+1,3,H.gen (dep+1) 3,0⟩,some b1) :: H):=λb1=>cf.cons i _ _ _;have F:=Xo (dep+1) (y ⟨17,[.agg [a8 w,a8 p,af a_3,a8 v,aI u,a8 n,af m,a8 o,aI q,aI a,a8 l,af h,a8 k,aI j,a8 e,af f,x]],false,false⟩).fr (b.grow (y _)) d w p a_3 v u n m o q a l h k j e f A E;simp[ai, *,kZ,A.r];refine nE (by kernel_rfl) F λG D=>?_;have t:=(y _).trans D;have z:=D.old ⟨dep+1,3,H.gen (dep+1) 3,0⟩ _ (by simp;rfl);unfold zD;cases sj ents (⟨w,⟨p,a_3,v⟩,u,⟨⟨⟨n,m,o⟩,q⟩,a⟩,⟨⟨l,h,k⟩,j⟩,⟨e,f⟩,B⟩:aw) with
 | false=>simp[t]
 | true=>
  cases C:(decide (n=p)&&decide (m=a_3)) with| false=>simp[z,t,A.r,ia,cg,C]| true=>simp[z,t,A.r,ia,cg,C]
theorem raise_at(F : ∀p∈ops,ET p)(P:ops.length<100000)(w:UInt8)(n:UInt8)(a_3:UInt32)(t:UInt8)(q:Int)(y:UInt8)(v:UInt32)(m:UInt8)(u:Int)(j:Int)(l:UInt8)(f:UInt32)(k:UInt8)(h:Int)(a:UInt8)(e:UInt32){x:AV}{D:List Int}(E:Sl 1 (rows D) x)(I:D.length<2000000)(M:mz (⟨w,⟨n,a_3,t⟩,q,⟨⟨⟨y,v,m⟩,u⟩,j⟩,⟨⟨l,f,k⟩,h⟩,⟨a,e⟩,D⟩:aw)=true) :
 ∃H',cb env dep (.fn 220) [.ptr rh 0 0,.agg [a8 w,a8 n,af a_3,a8 t,aI q,a8 y,af v,a8 m,aI u,aI j,a8 l,af f,a8 k,aI h,a8 a,af e,x]] H=some (aI (zE ops ents (⟨w,⟨n,a_3,t⟩,q,⟨⟨⟨y,v,m⟩,u⟩,j⟩,⟨⟨l,f,k⟩,h⟩,⟨a,e⟩,D⟩:aw)),H')/\cf H H':=by
 have K:=lS M;simp only at K;refine fT (fn:=Tryz.f220) (c:=qI) (by kernel_rfl) (by kernel_rfl) (by kernel_rfl) (by kernel_rfl) (by kernel_rfl) ?_;refine qC _ _ _ _ _ λg=>?_;have B : ∀b1:aQ,cf H ((⟨dep+1,3,H.gen (dep+1) 3,0⟩,some b1) :: H):=λb1=>cf.cons i _ _ _;have Q:=Xo (dep+1) (B ⟨17,[.agg [a8 w,a8 n,af a_3,a8 t,aI q,a8 y,af v,a8 m,aI u,aI j,a8 l,af f,a8 k,aI h,a8 a,af e,x]],false,false⟩).fr (b.grow (B _)) d w n a_3 t q y v m u j l f k h a e E K;simp[ai, *,lj,E.r];refine nE (by kernel_rfl) Q λR N=>?_;have o:=(B _).trans N;have C:=N.old ⟨dep+1,3,H.gen (dep+1) 3,0⟩ _ (by simp;rfl);obtain⟨U,S,rm,J,O,T⟩:=(b.grow o).box;have A:=O.r;have z:=Vp O.sl F P w n a_3 t q y v m u j l f k h a e E I;rw[if_pos M]at z;unfold zE;cases sj ents (⟨w,⟨n,a_3,t⟩,q,⟨⟨⟨y,v,m⟩,u⟩,j⟩,⟨⟨l,f,k⟩,h⟩,⟨a,e⟩,D⟩:aw) with
 | false=>simp[o]
 | true=>
  by_cases G:qH (opsOf ops)=0
  ·rw[if_pos G]at z;cases L:la (opsOf ops) (⟨w,⟨n,a_3,t⟩,q,⟨⟨⟨y,v,m⟩,u⟩,j⟩,⟨⟨l,f,k⟩,h⟩,⟨a,e⟩,D⟩:aw) with
   | false=>rw[L]at z;simp[C,o,J,A,E.r,z]
   | true=>rw[L]at z;simp[C,o,J,A,E.r,z,G]
  rw[if_neg G]at z;simp[C,o,J,A,E.r,z,G]
end
section
variable(dep:Nat){H:aa}(f:Fr H){rh:Ref}{ops:List (aw × AV)}{ents:List (bM × AV)}(a:By H rh ops ents)(d:ov ents)(j:ents.length<1000000)
include f a d j
theorem Tg(D:UInt8)(A:UInt8)(a_3:UInt32)(C:UInt8)(B:Int)(z:UInt8)(y:UInt32)(v:UInt8)(w:Int)(e:Int)(o:UInt8)(k:UInt32)(m:UInt8)(l:Int)(u:UInt8)(t:UInt32){x:AV}{G:List Int}(T:Sl 1 (rows G) x)(hal:G.length<1000000)(ho:mz (⟨D,⟨A,a_3,C⟩,B,⟨⟨⟨z,y,v⟩,w⟩,e⟩,⟨⟨o,k,m⟩,l⟩,⟨u,t⟩,G⟩:aw)=true) :
 ∃H',cb env dep (.fn 218) [.ptr rh 0 0,.agg [a8 D,a8 A,af a_3,a8 C,aI B,a8 z,af y,a8 v,aI w,aI e,a8 o,af k,a8 m,aI l,a8 u,af t,x]] H=some (aI (fR ents (⟨D,⟨A,a_3,C⟩,B,⟨⟨⟨z,y,v⟩,w⟩,e⟩,⟨⟨o,k,m⟩,l⟩,⟨u,t⟩,G⟩:aw)),H')/\cf H H':=by
 have hs:=lS ho;simp only at hs;have hn:=gS hs;simp only at hn;refine fT (fn:=Tryz.f218) (c:=qe) (by kernel_rfl) (by kernel_rfl) (by kernel_rfl) (by kernel_rfl) (by kernel_rfl) ?_;refine pR _ _ _ _ _ λg=>?_;have hN:=K3 z y v w e hs;have hR:=Yc D A a_3 C B z y v w e o k m l u t T hal;have w1:=iQa ((ents.length:Int)+e) (by omega);have Z : ∀b1 b2:aQ,cf H ((⟨dep+1,3,H.gen (dep+1) 3,0⟩,some b2) :: (⟨dep+1,2,H.gen (dep+1) 2,0⟩,some b1) :: H):=λb1 b2=>⟨by simp(maxDischargeDepth:=12) [fN, *],λq c hq=>by
  have lq:(H.get q).isSome=true:=by rw[hq];rfl
  simp[bE f lq,hq]⟩
 have X : ∀(Hs:aa),cf H Hs->Hs.get ⟨dep+1,2,H.gen (dep+1) 2,0⟩=some ⟨1,[.ptr rh 0 0],false,false⟩ ->
  ∃H',cb env (dep+1) (.fn 232) ([]++[.cC 4 (ot (ck ⟨⟨⟨z,y,v⟩,w⟩,e⟩)) none,.fn (.func 233) [] [.ptr ⟨dep+1,2,H.gen (dep+1) 2,0⟩ 0 0]]++[]) Hs=some (aB ((ck ⟨⟨⟨z,y,v⟩,w⟩,e⟩).any (fK ents)),H')/\cf Hs H':=λHs hG hq=>
  FT (dep+1) (F:=233) (by kernel_rfl) (Nl _) (EU hs) (p:=fK ents) hG.fr (λi H' hG'=>by
   have:=Ww (dep+3) hG'.fr ((a.grow hG).grow hG') d i.h.lv i.h.cats i.h.num i.n (q:=⟨dep+1,2,H.gen (dep+1) 2,0⟩) (hG'.old _ _ hq);exact this)
 cases hz:gB (⟨⟨o,k,m⟩,l⟩:bM) with
 | true=>
  have I : ¬((!gB (⟨⟨o,k,m⟩,l⟩:bM) && !vJ ents (⟨D,⟨A,a_3,C⟩,B,⟨⟨⟨z,y,v⟩,w⟩,e⟩,⟨⟨o,k,m⟩,l⟩,⟨u,t⟩,G⟩:aw) ⟨⟨o,k,m⟩,l⟩)=true):=(by simp[hz]);have R:=hz;unfold gB at R;have O : ∀b1 b2 b3:aQ,cf H ((⟨dep+1,5,H.gen (dep+1) 5,0⟩,some b3) :: (⟨dep+1,3,H.gen (dep+1) 3,0⟩,some b2) :: (⟨dep+1,2,H.gen (dep+1) 2,0⟩,some b1) :: H):=λb1 b2 b3=>⟨by simp(maxDischargeDepth:=12) [fN, *],λq c hq=>by
   have lq:(H.get q).isSome=true:=by rw[hq];rfl
   simp[bE f lq,hq]⟩
  by_cases S:I9 (⟨D,⟨A,a_3,C⟩,B,⟨⟨⟨z,y,v⟩,w⟩,e⟩,⟨⟨o,k,m⟩,l⟩,⟨u,t⟩,G⟩:aw)=0;rotate_left
  ·rw[if_neg S]at hR;have N:fR ents (⟨D,⟨A,a_3,C⟩,B,⟨⟨⟨z,y,v⟩,w⟩,e⟩,⟨⟨o,k,m⟩,l⟩,⟨u,t⟩,G⟩:aw)=2:=by unfold fR;rw[if_neg I,if_pos (.inl S)]
   simp[ai, *,eb,T.r,ia,cg,R,T.r,hR,S];all_goals exact O _ _ _
  rw[if_pos S]at hR;simp[ai, *,eb,T.r,ia,cg,R,T.r,hR,S,hN];refine nE (by kernel_rfl) ((λb=>X _ (O ⟨1,[.ptr rh 0 0],false,false⟩ ⟨17,[.agg [a8 D,a8 A,af a_3,a8 C,aI B,a8 z,af y,a8 v,aI w,aI e,a8 o,af k,a8 m,aI l,a8 u,af t,x]],false,false⟩ b) (by simp)) _) λH2 P=>?_;have E:=((λb=>O ⟨1,[.ptr rh 0 0],false,false⟩ ⟨17,[.agg [a8 D,a8 A,af a_3,a8 C,aI B,a8 z,af y,a8 v,aI w,aI e,a8 o,af k,a8 m,aI l,a8 u,af t,x]],false,false⟩ b) _).trans P;obtain⟨xo,vo,rm,h1,h2,h3⟩:=(a.grow E).box;have U:=Rj (r:=⟨dep+1,37,H2.gen (dep+1) 37,0⟩) h3;have W:=P.old _ _ ((λ(b:aQ)=>(by simp:aa.get ((⟨dep+1,5,H.gen (dep+1) 5,0⟩,some b) :: (⟨dep+1,3,H.gen (dep+1) 3,0⟩,some ⟨17,[.agg [a8 D,a8 A,af a_3,a8 C,aI B,a8 z,af y,a8 v,aI w,aI e,a8 o,af k,a8 m,aI l,a8 u,af t,x]],false,false⟩) :: (⟨dep+1,2,H.gen (dep+1) 2,0⟩,some ⟨1,[.ptr rh 0 0],false,false⟩) :: H) ⟨dep+1,2,H.gen (dep+1) 2,0⟩=some ⟨1,[.ptr rh 0 0],false,false⟩)) _);have V:=P.old _ _ ((λ(b:aQ)=>(by simp:aa.get ((⟨dep+1,5,H.gen (dep+1) 5,0⟩,some b) :: (⟨dep+1,3,H.gen (dep+1) 3,0⟩,some ⟨17,[.agg [a8 D,a8 A,af a_3,a8 C,aI B,a8 z,af y,a8 v,aI w,aI e,a8 o,af k,a8 m,aI l,a8 u,af t,x]],false,false⟩) :: (⟨dep+1,2,H.gen (dep+1) 2,0⟩,some ⟨1,[.ptr rh 0 0],false,false⟩) :: H) ⟨dep+1,3,H.gen (dep+1) 3,0⟩=some ⟨17,[.agg [a8 D,a8 A,af a_3,a8 C,aI B,a8 z,af y,a8 v,aI w,aI e,a8 o,af k,a8 m,aI l,a8 u,af t,x]],false,false⟩)) _);cases J:(ck ⟨⟨⟨z,y,v⟩,w⟩,e⟩).any (fK ents) with
  | true=>
   have N:fR ents (⟨D,⟨A,a_3,C⟩,B,⟨⟨⟨z,y,v⟩,w⟩,e⟩,⟨⟨o,k,m⟩,l⟩,⟨u,t⟩,G⟩:aw)=2:=by unfold fR;rw[if_neg I,if_pos (.inr J)]
   simp[E,N]
  | false=>
   have L : ¬(I9 (⟨D,⟨A,a_3,C⟩,B,⟨⟨⟨z,y,v⟩,w⟩,e⟩,⟨⟨o,k,m⟩,l⟩,⟨u,t⟩,G⟩:aw)≠0\/(ck ⟨⟨⟨z,y,v⟩,w⟩,e⟩).any (fK ents)=true):=by rw[J];simp[S]
   by_cases Y:8192<(ents.length:Int)+e
   ·have N:fR ents (⟨D,⟨A,a_3,C⟩,B,⟨⟨⟨z,y,v⟩,w⟩,e⟩,⟨⟨o,k,m⟩,l⟩,⟨u,t⟩,G⟩:aw)=4:=by unfold fR;rw[if_neg I,if_neg L,if_pos Y]
    simp[E,N,W,V,h1,U,w1,Y,T.r]
   have N:fR ents (⟨D,⟨A,a_3,C⟩,B,⟨⟨⟨z,y,v⟩,w⟩,e⟩,⟨⟨o,k,m⟩,l⟩,⟨u,t⟩,G⟩:aw)=0:=by unfold fR;rw[if_neg I,if_neg L,if_neg Y]
   simp[E,N,W,V,h1,U,w1,Y,T.r]
 | false=>
  have R:=hz;unfold gB at R;have hS:=QS (dep+1) (Z ⟨1,[.ptr rh 0 0],false,false⟩ ⟨17,[.agg [a8 D,a8 A,af a_3,a8 C,aI B,a8 z,af y,a8 v,aI w,aI e,a8 o,af k,a8 m,aI l,a8 u,af t,x]],false,false⟩).fr (a.grow (Z _ _)) d D A a_3 C B z y v w e o k m l u t o k m l T;simp[ai, *,eb,T.r,ia,cg,R];refine nE (by kernel_rfl) hS λH1 hG1=>?_;have hGa:=(Z _ _).trans hG1;have K:=hGa.fr;have M:=hG1.old ⟨dep+1,2,H.gen (dep+1) 2,0⟩ _ (by simp;rfl);have Q:=hG1.old ⟨dep+1,3,H.gen (dep+1) 3,0⟩ _ (by simp;rfl);have l2a:(H1.get ⟨dep+1,2,H.gen (dep+1) 2,0⟩).isSome=true:=by rw[M];rfl
  have l3a:(H1.get ⟨dep+1,3,H.gen (dep+1) 3,0⟩).isSome=true:=by rw[Q];rfl
  have O : ∀b3:aQ,cf H ((⟨dep+1,5,H1.gen (dep+1) 5,0⟩,some b3) :: H1):=λb3=>hGa.trans (cf.cons K _ _ _);clear Z;cases hsb:vJ ents (⟨D,⟨A,a_3,C⟩,B,⟨⟨⟨z,y,v⟩,w⟩,e⟩,⟨⟨o,k,m⟩,l⟩,⟨u,t⟩,G⟩:aw) ⟨⟨o,k,m⟩,l⟩ with
  | false=>
   have N:fR ents (⟨D,⟨A,a_3,C⟩,B,⟨⟨⟨z,y,v⟩,w⟩,e⟩,⟨⟨o,k,m⟩,l⟩,⟨u,t⟩,G⟩:aw)=6:=by unfold fR;rw[if_pos (by simp[hz,hsb])]
   simp[N,hGa]
  | true=>
   have I : ¬((!gB (⟨⟨o,k,m⟩,l⟩:bM) && !vJ ents (⟨D,⟨A,a_3,C⟩,B,⟨⟨⟨z,y,v⟩,w⟩,e⟩,⟨⟨o,k,m⟩,l⟩,⟨u,t⟩,G⟩:aw) ⟨⟨o,k,m⟩,l⟩)=true):=(by simp[hsb]);by_cases S:I9 (⟨D,⟨A,a_3,C⟩,B,⟨⟨⟨z,y,v⟩,w⟩,e⟩,⟨⟨o,k,m⟩,l⟩,⟨u,t⟩,G⟩:aw)=0;rotate_left
   ·rw[if_neg S]at hR;have N:fR ents (⟨D,⟨A,a_3,C⟩,B,⟨⟨⟨z,y,v⟩,w⟩,e⟩,⟨⟨o,k,m⟩,l⟩,⟨u,t⟩,G⟩:aw)=2:=by unfold fR;rw[if_neg I,if_pos (.inl S)]
    simp[M,Q,T.r,hR,S,N,bE K l2a,bE K l3a,O]
   rw[if_pos S]at hR;simp[M,Q,T.r,hR,S,hN,bE K l2a,bE K l3a];have hc:=λb=>X _ (O b) (by rw[aa.fh,if_neg (nB K l2a _ _ _)];exact M);refine nE (by kernel_rfl) (hc _) λH2 P=>?_;have E:=(O _).trans P;obtain⟨xo,vo,rm,h1,h2,h3⟩:=(a.grow E).box;have U:=Rj (r:=⟨dep+1,37,H2.gen (dep+1) 37,0⟩) h3;have W:=P.old ⟨dep+1,2,H.gen (dep+1) 2,0⟩ _ (by rw[aa.fh,if_neg (nB K l2a _ _ _)];exact M);have V:=P.old ⟨dep+1,3,H.gen (dep+1) 3,0⟩ _ (by rw[aa.fh,if_neg (nB K l3a _ _ _)];exact Q);cases J:(ck ⟨⟨⟨z,y,v⟩,w⟩,e⟩).any (fK ents) with
   | true=>
    have N:fR ents (⟨D,⟨A,a_3,C⟩,B,⟨⟨⟨z,y,v⟩,w⟩,e⟩,⟨⟨o,k,m⟩,l⟩,⟨u,t⟩,G⟩:aw)=2:=by unfold fR;rw[if_neg I,if_pos (.inr J)]
    simp[E,N]
   | false=>
    have L : ¬(I9 (⟨D,⟨A,a_3,C⟩,B,⟨⟨⟨z,y,v⟩,w⟩,e⟩,⟨⟨o,k,m⟩,l⟩,⟨u,t⟩,G⟩:aw)≠0\/(ck ⟨⟨⟨z,y,v⟩,w⟩,e⟩).any (fK ents)=true):=by rw[J];simp[S]
    by_cases Y:8192<(ents.length:Int)+e
    ·have N:fR ents (⟨D,⟨A,a_3,C⟩,B,⟨⟨⟨z,y,v⟩,w⟩,e⟩,⟨⟨o,k,m⟩,l⟩,⟨u,t⟩,G⟩:aw)=4:=by unfold fR;rw[if_neg I,if_neg L,if_pos Y]
     simp[E,N,W,V,h1,U,w1,Y,T.r]
    have N:fR ents (⟨D,⟨A,a_3,C⟩,B,⟨⟨⟨z,y,v⟩,w⟩,e⟩,⟨⟨o,k,m⟩,l⟩,⟨u,t⟩,G⟩:aw)=0:=by unfold fR;rw[if_neg I,if_neg L,if_neg Y]
    simp[E,N,W,V,h1,U,w1,Y,T.r]
omit f a d j in
theorem EF:nz env.P 271 (some [(1,AV.fn (Fn.func 218) [] []),(2,AV.fn (Fn.func 219) [] []),(3,AV.fn (Fn.func 220) [] [])]) =
 some (.agg [.v .nilFunc,.fn (.func 218) [] [],.fn (.func 219) [] [],.fn (.func 220) [] []],[]):=by kernel_rfl
omit f a d j in
theorem UF:r8 env.P 271 (some (.agg [.v .nilFunc,.fn (.func 218) [] [],.fn (.func 219) [] [],.fn (.func 220) [] []])) (some (a8 1))=some (.fn (.func 218) [] [],[]):=by kernel_rfl
omit f a d j in
theorem UE:r8 env.P 271 (some (.agg [.v .nilFunc,.fn (.func 218) [] [],.fn (.func 219) [] [],.fn (.func 220) [] []])) (some (a8 2))=some (.fn (.func 219) [] [],[]):=by kernel_rfl
omit f a d j in
theorem UD:r8 env.P 271 (some (.agg [.v .nilFunc,.fn (.func 218) [] [],.fn (.func 219) [] [],.fn (.func 220) [] []])) (some (a8 3))=some (.fn (.func 220) [] [],[]):=by kernel_rfl
theorem Rw(Q : ∀p∈ops,ET p)(W:ops.length<100000)(C:UInt8)(t:UInt8)(a_3:UInt32)(v:UInt8)(u:Int)(z:UInt8)(y:UInt32)(q:UInt8)(w:Int)(m:Int)(o:UInt8)(k:UInt32)(n:UInt8)(l:Int)(b:UInt8)(i:UInt32){x:AV}{D:List Int}(P:Sl 1 (rows D) x)(T:D.length<1000000)(R:mz (⟨C,⟨t,a_3,v⟩,u,⟨⟨⟨z,y,q⟩,w⟩,m⟩,⟨⟨o,k,n⟩,l⟩,⟨b,i⟩,D⟩:aw)=true) :
 ∃H',cb env dep (.fn 193) [.ptr rh 0 0,.agg [a8 C,a8 t,af a_3,a8 v,aI u,a8 z,af y,a8 q,aI w,aI m,a8 o,af k,a8 n,aI l,a8 b,af i,x]] H=some (aI (vX ops ents (⟨C,⟨t,a_3,v⟩,u,⟨⟨⟨z,y,q⟩,w⟩,m⟩,⟨⟨o,k,n⟩,l⟩,⟨b,i⟩,D⟩:aw)),H')/\cf H H':=by
 refine fT (fn:=Tryz.f193) (c:=rJ) (by kernel_rfl) (by kernel_rfl) (by kernel_rfl) (by kernel_rfl) (by kernel_rfl) ?_;refine rF _ _ _ _ _ λg=>?_;have U:=lS R;simp only at U;have B : ∀b1:aQ,cf H ((⟨dep+1,3,H.gen (dep+1) 3,0⟩,some b1) :: H):=λb1=>cf.cons f _ _ _;have V:C=1\/C=2\/C=3:=by
  simp only[mz,aT]at R;have h:=R.2.2.2.2;unfold CH at h;split at h;·exact .inl (by assumption)
  split at h;·exact .inr (.inl (by assumption))
  split at h;·exact .inr (.inr (by assumption))
  cases h
 have N : ∀(I:aa)(e:Int),cf ((⟨dep+1,3,H.gen (dep+1) 3,0⟩,some ⟨17,[.agg [a8 C,a8 t,af a_3,a8 v,aI u,a8 z,af y,a8 q,aI w,aI m,a8 o,af k,a8 n,aI l,a8 b,af i,x]],false,false⟩) :: H) I ->∃(O:AV) (rm:Ref),I.get rh=some ⟨2,[.agg [O,.mp rm]],false,false⟩/\og O=some ops.length/\cf H I:=by
  intro I e L;obtain⟨O,X,rm,E,F,G⟩:=((a.grow (B _)).grow L).box;exact⟨O,rm,E,by rw[F.len];simp,(B _).trans L⟩
 rcases V with rfl | rfl | rfl
 ·have S:=Tg (dep+1) (B ⟨17,[.agg [a8 1,a8 t,af a_3,a8 v,aI u,a8 z,af y,a8 q,aI w,aI m,a8 o,af k,a8 n,aI l,a8 b,af i,x]],false,false⟩).fr (a.grow (B _)) d j _ _ _ _ _ _ _ _ _ _ _ _ _ _ _ _ P T R;have M:uV ops ents ⟨1,⟨t,a_3,v⟩,u,⟨⟨⟨z,y,q⟩,w⟩,m⟩,⟨⟨o,k,n⟩,l⟩,⟨b,i⟩,D⟩=fR ents ⟨1,⟨t,a_3,v⟩,u,⟨⟨⟨z,y,q⟩,w⟩,m⟩,⟨⟨o,k,n⟩,l⟩,⟨b,i⟩,D⟩:=by unfold uV;rfl
  unfold vX;rw[M];clear M;generalize fR ents ⟨1,⟨t,a_3,v⟩,u,⟨⟨⟨z,y,q⟩,w⟩,m⟩,⟨⟨o,k,n⟩,l⟩,⟨b,i⟩,D⟩=er at *;simp[ai, *,eI,P.r,EF,UF,UE,UD];refine nE (by kernel_rfl) S λI L=>?_;obtain⟨O,rm,E,F,G⟩:=N I 0 L;by_cases J:er=0
  ·subst J;by_cases K:2048<=ops.length;·have A:(2048:Int)<=ops.length:=(by omega);simp[E,F,G,K,A]
   have A : ¬(2048:Int)<=ops.length:=(by omega);simp[E,F,G,K,A]
  simp[E,F,G,J]
 ·have S:=SM (dep+1) (B ⟨17,[.agg [a8 2,a8 t,af a_3,a8 v,aI u,a8 z,af y,a8 q,aI w,aI m,a8 o,af k,a8 n,aI l,a8 b,af i,x]],false,false⟩).fr (a.grow (B _)) d 2 t a_3 v u z y q w m o k n l b i P U;have M:uV ops ents ⟨2,⟨t,a_3,v⟩,u,⟨⟨⟨z,y,q⟩,w⟩,m⟩,⟨⟨o,k,n⟩,l⟩,⟨b,i⟩,D⟩=zD ents ⟨2,⟨t,a_3,v⟩,u,⟨⟨⟨z,y,q⟩,w⟩,m⟩,⟨⟨o,k,n⟩,l⟩,⟨b,i⟩,D⟩:=by unfold uV;rfl
  unfold vX;rw[M];clear M;generalize zD ents ⟨2,⟨t,a_3,v⟩,u,⟨⟨⟨z,y,q⟩,w⟩,m⟩,⟨⟨o,k,n⟩,l⟩,⟨b,i⟩,D⟩=er at *;simp[ai, *,eI,P.r,EF,UF,UE,UD];refine nE (by kernel_rfl) S λI L=>?_;obtain⟨O,rm,E,F,G⟩:=N I 0 L;by_cases J:er=0
  ·subst J;by_cases K:2048<=ops.length;·have A:(2048:Int)<=ops.length:=(by omega);simp[E,F,G,K,A]
   have A : ¬(2048:Int)<=ops.length:=(by omega);simp[E,F,G,K,A]
  simp[E,F,G,J]
 have S:=raise_at (dep+1) (B ⟨17,[.agg [a8 3,a8 t,af a_3,a8 v,aI u,a8 z,af y,a8 q,aI w,aI m,a8 o,af k,a8 n,aI l,a8 b,af i,x]],false,false⟩).fr (a.grow (B _)) d Q W _ _ _ _ _ _ _ _ _ _ _ _ _ _ _ _ P (by omega) R;have M:uV ops ents ⟨3,⟨t,a_3,v⟩,u,⟨⟨⟨z,y,q⟩,w⟩,m⟩,⟨⟨o,k,n⟩,l⟩,⟨b,i⟩,D⟩=zE ops ents ⟨3,⟨t,a_3,v⟩,u,⟨⟨⟨z,y,q⟩,w⟩,m⟩,⟨⟨o,k,n⟩,l⟩,⟨b,i⟩,D⟩:=by unfold uV;rfl
 unfold vX;rw[M];clear M;generalize zE ops ents ⟨3,⟨t,a_3,v⟩,u,⟨⟨⟨z,y,q⟩,w⟩,m⟩,⟨⟨o,k,n⟩,l⟩,⟨b,i⟩,D⟩=er at *;simp[ai, *,eI,P.r,EF,UF,UE,UD];refine nE (by kernel_rfl) S λI L=>?_;obtain⟨O,rm,E,F,G⟩:=N I 0 L;by_cases J:er=0
 ·subst J;by_cases K:2048<=ops.length;·have A:(2048:Int)<=ops.length:=(by omega);simp[E,F,G,K,A]
  have A : ¬(2048:Int)<=ops.length:=(by omega);simp[E,F,G,K,A]
 simp[E,F,G,J]
end
def uM(ents:List (bM × AV))(l:List bM):List (bM × AV):=l.foldl (λe i=>jQ i (aB true) e) ents
@[simp] def acW(ents:List (bM × AV)):uM ents []=ents:=id rfl
@[simp] def FV(ents:List (bM × AV))(i:bM)(l:List bM):uM ents (i :: l)=uM (jQ i (aB true) ents) l:=id rfl
def Mv{K:Type}[DecidableEq K](k:K)(x:AV) : ∀l:List (K × AV),(jQ k x l).length<=l.length+1
 | []=>by simp[jQ]
 | p :: l=>by
  unfold jQ;split;·simp
  have:=Mv k x l;simp;omega
def CO : ∀(l:List bM)(ents:List (bM × AV)),(uM ents l).length<=ents.length+l.length
 | [],ents=>by simp
 | i :: l,ents=>by
  have:=CO l (jQ i (aB true) ents);have a:=Mv i (aB true) ents;simp;omega
def BF{i:bM} : ∀ {ents:List (bM × AV)},ov ents->ov (jQ i (aB true) ents)
 | [],h=>by intro p hp;simp[jQ]at hp;rw[hp]
 | q :: l,h=>by
  intro p hp;unfold jQ at hp;split at hp
  ·rcases eD.1 hp with rfl | hp
   ·rfl
   exact h p (fO _ hp)
  rcases eD.1 hp with rfl | hp
  ·exact h _ gy
  exact BF (λp hp=>h p (fO _ hp)) p hp
def FX : ∀(l:List bM){ents:List (bM × AV)},ov ents->ov (uM ents l)
 | [],_,h=>h
 | i :: l,_,h=>FX l (BF h)
def tp:List (aw × AV)->List (bM × AV)->List (aw × AV)->Option (List (aw × AV) × List (bM × AV))
 | ops,ents,[]=>some (ops,ents)
 | ops,ents,p :: l=>if mz p.1=true/\vX ops ents p.1=0 then tp (ops++[p]) (if p.1.kind=1 then uM ents (ck p.1.s) else ents) l else none
structure Ge (H0 H:aa) (rh rm:Ref) (ops:List (aw × AV)) (ents:List (bM × AV)):Prop where
 fr:Fr H
 box : ∃xo,H.get rh=some ⟨2,[.agg [xo,.mp rm]],false,false⟩/\((xo=bI/\ops=[]) \/∃g,xo = .bN ⟨1,34,g,0⟩ 0 ops.length none/\H.get ⟨1,34,g,0⟩=some ⟨17,bf ops,true,false⟩)
 map:H.get rm=some (ba (cJ AG ents))
 old : ∀q b,q.d=0->H0.get q=some b->H.get q=some b
 ok:ov ents
def Ge.cD{H0 H:aa}{rh rm:Ref}{ops:List (aw × AV)}{ents:List (bM × AV)}(h:Ge H0 H rh rm ops ents):By H rh ops ents:=by
 obtain⟨e,b,a⟩:=h.box;rcases a with ⟨rfl,rfl⟩ | ⟨g,rfl,a⟩
 ·exact⟨bI,bI,rm,b,lY.of (.inl ⟨rfl,rfl⟩) _,h.map⟩
 exact⟨_,.cC 17 (bf ops) none,rm,b,.inr ⟨_,none,false,by rw[kg],a,rfl,cH _⟩,h.map⟩
def Ge.grow{H0 H H':aa}{rh rm:Ref}{ops:List (aw × AV)}{ents:List (bM × AV)}(h:Ge H0 H rh rm ops ents)(g:cf H H'):Ge H0 H' rh rm ops ents:=by
 obtain⟨n,k,a⟩:=h.box;refine⟨g.fr,⟨n,g.old _ _ k,?_⟩,g.old _ _ h.map,λq b i m=>g.old _ _ (h.old q b i m),h.ok⟩;rcases a with a | ⟨j,e,a⟩
 ·exact .inl a
 exact .inr ⟨j,e,g.old _ _ a⟩
section
variable{l:List (aw × AV)}{f:AV}(u:Sl 17 (bf l) f)(c : ∀p∈l,ET p/\p.1.l.length<1000000)(z:l.length<10000){rh rm:Ref}(w:rh.t=11)(tm:rm.t=9)(B:rh.d=1)(A:rm.d=1){H0:aa}{Q:AV->aa->Prop}
include u c z w tm B A
theorem Wz{ops:List (aw × AV)}{n:List bM}(hn:n.length<100000){j:Int}{m:List (bM × AV)}
 (J : ∀H,Ge H0 H rh rm ops m->bu env Tryz.f172 (0+1) oZ [(4,.ptr rh 0 0),(14,aI (IntKind.i64.wrap (j+1))),(12,f),(13,aI l.length)] H Q) :
 ∀(s:List bM)(k:Nat)(i:Int)(ents:List (bM × AV)) (H:aa),n.drop k=s->k<=n.length->i=k->Ge H0 H rh rm ops ents->uM ents s=m ->
 bu env Tryz.f172 (0+1) so [(44,aI i),(4,.ptr rh 0 0),(42,.cC 4 (ot n) none),(12,f),(13,aI l.length),(14,aI j),(43,aI n.length)] H Q:=by
 have U:Sl 4 (ot n) (.cC 4 (ot n) none):=Sl.mk _ _;intro s;induction s with
 | nil=>rintro k i ents H hs hk rfl hI he;obtain rfl:=drop_nil hs hk;simp at he;subst he;have G:=J H hI;refine Dh _ _ _ _ _ _ _ _ _ _ λg=>?_;clear J hI c;simp[ai, *,z7];all_goals exact G
 | cons a s W=>
  rintro k i ents H hs hk rfl hI he;obtain⟨Z,hg,E,F⟩:=drop_cons hs;have e3:=iQa ((k:Int)+1) (by omega);obtain⟨⟨y,x,v⟩,o⟩:=a;have hrd:bL (ot n) k 0 4 true=some (.agg [a8 y,af x,a8 v,aI o]):=by simp[ot,F,AG]
  have X:(k:Int)<n.length:=(by omega);obtain⟨N,⟨V,h1,C⟩,h3,R,h5⟩:=hI;have l1:(H.get rh).isSome=true:=by rw[h1];rfl
  have l3:(H.get rm).isSome=true:=by rw[h3];rfl
  have M:=λ(H':aa)(h:H'.get rm=some (ba (cJ AG ents)))=>vp Rm NI (t:=264) (et:=4) (by kernel_rfl) h ⟨⟨y,x,v⟩,o⟩ (aB true);have n1:rh≠rm:=by rintro rfl;omega
  have n2:=n1.symm;have L:=λH' h=>W (k+1) ((k:Int)+1) (jQ ⟨⟨y,x,v⟩,o⟩ (aB true) ents) H' E (by omega) (by simp) h (by simpa using he);have O : ∀(D:aa),Fr D->D.get rh=some ⟨2,[.agg [V,.mp rm]],false,false⟩->D.get rm=some (ba (cJ AG (jQ ⟨⟨y,x,v⟩,o⟩ (aB true) ents)))->(∀q,q≠rm->(H.get q).isSome=true->D.get q=H.get q)->Ge H0 D rh rm ops (jQ ⟨⟨y,x,v⟩,o⟩ (aB true) ents):=by
   intro D f1 f2 Y S;refine⟨f1,⟨V,f2,?_⟩,Y,λq b I T=>?_,BF h5⟩
   ·rcases C with C | ⟨g,e,C⟩
    ·exact .inl C
    exact .inr ⟨g,e,by rw[S _ (λe=>by have h:=iQg Ref.t e;rw[tm]at h;exact absurd h (by simp)) (by rw[C];rfl)];exact C⟩
   rw[S q (by rintro rfl;omega) (by rw[R q b I T];rfl)];exact R q b I T
  have P:(AG ⟨⟨y,x,v⟩,o⟩) = .agg [a8 y,af x,a8 v,aI o]:=rfl;rw[P]at M;clear W J c R C hs E hg F he;refine Dh _ _ _ _ _ _ _ _ _ _ λg=>?_;simp[ai, *,z7,U.r,U.idx];refine L _ (O _ ?_ ?_ ?_ λq I K=>?_);·simp(maxDischargeDepth:=12) [fN, *]
  ·simp(maxDischargeDepth:=12) [fN, *]
  ·simp(maxDischargeDepth:=12) [fN, *]
  simp[bE N K,aa.get_put,I]
def LR(H0:aa)(rh rm:Ref)(n:Nat)(o:Option (List (aw × AV) × List (bM × AV)))(y:AV)(H:aa):Prop:=
 Fr H/\(∀q b,q.d=0->H0.get q=some b->H.get q=some b)/\match o with
  | none=>y = .tup [.v (.pointer none),aB false]
  | some (ops,ents)=>y = .tup [.ptr rh 0 0,aB true]/\Ge H0 H rh rm ops ents/\ops.length<=n/\ents.length<=64 * ops.length /\∀p∈ops,ET p
theorem W1 : ∀(s:List (aw × AV)) (k:Nat) (i:Int) (ops:List (aw × AV)) (ents:List (bM × AV)) (H:aa),l.drop k=s->k<=l.length->i=k->ops.length<=k->ents.length<=64 * ops.length->(∀p∈ops,ET p)->Ge H0 H rh rm ops ents ->
 (∀y H',LR H0 rh rm l.length (tp ops ents s) y H'->Q y H') ->
 bu env Tryz.f172 (0+1) oZ [(4,.ptr rh 0 0),(14,aI i),(12,f),(13,aI l.length)] H Q:=by
 intro s;induction s with
 | nil=>rintro k i ops ents H hs hk rfl ho he hok hI hQ;obtain rfl:=drop_nil hs hk;have T:=hQ _ H ⟨hI.fr,hI.old,rfl,hI,ho,he,hok⟩;refine Fx _ _ _ _ _ _ _ λg=>?_;clear hQ hI c;simp[ai, *,xk];all_goals exact T
 | cons p s ih=>
  rintro k i ops ents H hs hk rfl ho he hok hI hQ;obtain⟨hlt,hg,hs',hg'⟩:=drop_cons hs;have e3:=iQa ((k:Int)+1) (by omega);have hp:=c p (hg ▸ je hlt);obtain⟨⟨K,⟨L,a_3,N⟩,M,⟨⟨⟨G,J,F⟩,I⟩,a⟩,⟨⟨E,n,D⟩,o⟩,⟨C,j⟩,al⟩,x⟩:=p;obtain⟨⟨R,Z⟩,hal⟩:=hp;simp only at R hal Z;have hrd:bL (bf l) k 0 17 true=some (.agg [a8 K,a8 L,af a_3,a8 N,aI M,a8 G,af J,a8 F,aI I,aI a,a8 E,af n,a8 D,aI o,a8 C,af j,x]):=by simp[bf,hg',wC]
  have hlt':(k:Int)<l.length:=(by omega);have hC:=nT K L a_3 N M G J F I a E n D o C j R Z;have hH:=hI.cD;have hFr:=hI.fr;have hg1 : ∀b1:aQ,cf H ((⟨1,6,H.gen 1 6,0⟩,some b1) :: H):=λb1=>cf.cons hFr _ _ _;have hcell : ∀ {b:aw × AV},(bf l).length=l.length:=kg l;refine Fx _ _ _ _ _ _ _ λg=>?_;have hno : ¬(mz (⟨K,⟨L,a_3,N⟩,M,⟨⟨⟨G,J,F⟩,I⟩,a⟩,⟨⟨E,n,D⟩,o⟩,⟨C,j⟩,al⟩:aw)=true/\vX ops ents (⟨K,⟨L,a_3,N⟩,M,⟨⟨⟨G,J,F⟩,I⟩,a⟩,⟨⟨E,n,D⟩,o⟩,⟨C,j⟩,al⟩:aw)=0)->Q (.tup [.v (.pointer none),aB false]) H->True:=λ_ _=>trivial;clear hno hcell;cases hb:mz (⟨K,⟨L,a_3,N⟩,M,⟨⟨⟨G,J,F⟩,I⟩,a⟩,⟨⟨E,n,D⟩,o⟩,⟨C,j⟩,al⟩:aw) with
  | false=>have hd:tp ops ents (((⟨K,⟨L,a_3,N⟩,M,⟨⟨⟨G,J,F⟩,I⟩,a⟩,⟨⟨E,n,D⟩,o⟩,⟨C,j⟩,al⟩:aw),x) :: s)=none:=(by simp[tp,hb]);rw[hd]at hQ;have T:=λb1=>hQ (.tup [.v (.pointer none),aB false]) _ ⟨(hg1 b1).fr,λq b X hb=>(hg1 b1).old _ _ (hI.old q b X hb),rfl⟩;clear hQ ih hI c hH;simp[ai, *,xk,u.r,u.idx,R.r];all_goals exact T _
  | true=>
   have hfits:=Rw 1 (hg1 ⟨17,[.agg [a8 K,a8 L,af a_3,a8 N,aI M,a8 G,af J,a8 F,aI I,aI a,a8 E,af n,a8 D,aI o,a8 C,af j,x]],false,false⟩).fr (hH.grow (hg1 _)) hI.ok (by omega) hok (by omega) K L a_3 N M G J F I a E n D o C j R hal hb;have hsp:=lS hb;simp only at hsp;have hN:=K3 G J F I a hsp;simp[ai, *,xk,u.r,u.idx,R.r];refine nE (by kernel_rfl) hfits λH4 hG4=>?_;have hI4:=(hI.grow (hg1 _)).grow hG4;by_cases hd0:vX ops ents (⟨K,⟨L,a_3,N⟩,M,⟨⟨⟨G,J,F⟩,I⟩,a⟩,⟨⟨E,n,D⟩,o⟩,⟨C,j⟩,al⟩:aw)=0
   ·have hd:tp ops ents (((⟨K,⟨L,a_3,N⟩,M,⟨⟨⟨G,J,F⟩,I⟩,a⟩,⟨⟨E,n,D⟩,o⟩,⟨C,j⟩,al⟩:aw),x) :: s)=tp (ops++[((⟨K,⟨L,a_3,N⟩,M,⟨⟨⟨G,J,F⟩,I⟩,a⟩,⟨⟨E,n,D⟩,o⟩,⟨C,j⟩,al⟩:aw),x)]) (if K=1 then uM ents (ck ⟨⟨⟨G,J,F⟩,I⟩,a⟩) else ents) s:=(by show(if _ then _ else _)=_;rw[if_pos ⟨hb,hd0⟩]);rw[hd]at hQ;have hnl:=EU hsp;have hnl2:(ck ⟨⟨⟨G,J,F⟩,I⟩,a⟩).length<=64:=(by have hn:=gS hsp;simp only at hn;simp[ck];omega);have hal2:=CO (ck ⟨⟨⟨G,J,F⟩,I⟩,a⟩) ents;have hok' : ∀p∈ops++[((⟨K,⟨L,a_3,N⟩,M,⟨⟨⟨G,J,F⟩,I⟩,a⟩,⟨⟨E,n,D⟩,o⟩,⟨C,j⟩,al⟩:aw),x)],ET p:=by
     intro p hp;rcases iN.1 hp with hp | hp
     ·exact hok p hp
     rw[nc]at hp;subst hp;exact⟨R,Z⟩
    obtain⟨hF4,⟨xo,h1,h2⟩,h3,h4,h5⟩:=hI4;have hb6:=hG4.old ⟨1,6,H.gen 1 6,0⟩ _ (by simp;rfl);have lh:(H4.get rh).isSome=true:=by rw[h1];rfl
    have lm:(H4.get rm).isSome=true:=by rw[h3];rfl
    have n34 : ∀g,(⟨1,34,g,0⟩:Ref)≠rh:=λg e=>by have h:=iQg Ref.t e;rw[w]at h;exact absurd h (by simp)
    have n34' : ∀g,rh≠(⟨1,34,g,0⟩:Ref):=λg e=>n34 g e.symm;have m34 : ∀g,(⟨1,34,g,0⟩:Ref)≠rm:=λg e=>by have h:=iQg Ref.t e;rw[tm]at h;exact absurd h (by simp)
    have m34' : ∀g,rm≠(⟨1,34,g,0⟩:Ref):=λg e=>m34 g e.symm;have nhm:rh≠rm:=by rintro rfl;omega
    have nmh:=nhm.symm;have n6:rh≠⟨1,6,H.gen 1 6,0⟩:=λe=>by have h:=iQg Ref.t e;rw[w]at h;exact absurd h (by simp)
    have n6':=n6.symm;have hst : ∀(g m:Nat)(H1:aa),m=ops.length+1->Fr H1->H1.get rh=some ⟨2,[.agg [.bN ⟨1,34,g,0⟩ 0 m none,.mp rm]],false,false⟩->H1.get ⟨1,34,g,0⟩=some ⟨17,bf ops++[.agg [a8 K,a8 L,af a_3,a8 N,aI M,a8 G,af J,a8 F,aI I,aI a,a8 E,af n,a8 D,aI o,a8 C,af j,x]],true,false⟩->H1.get rm=some (ba (cJ AG ents)) ->
     (∀q,q.d=0->(H4.get q).isSome=true->H1.get q=H4.get q)->Ge H0 H1 rh rm (ops++[((⟨K,⟨L,a_3,N⟩,M,⟨⟨⟨G,J,F⟩,I⟩,a⟩,⟨⟨E,n,D⟩,o⟩,⟨C,j⟩,al⟩:aw),x)]) ents:=by
     intro g m H1 hm f1 f2 f3 f4 f5;subst hm;refine⟨f1,⟨_,f2,.inr ⟨g,by simp,by rw[f3];simp[bf,wC]⟩⟩,f4,λq b X hb=>?_,h5⟩;rw[f5 q X (by rw[h4 q b X hb];rfl)];exact h4 q b X hb
    have O : ∀(W:aa),Ge H0 W rh rm (ops++[((⟨K,⟨L,a_3,N⟩,M,⟨⟨⟨G,J,F⟩,I⟩,a⟩,⟨⟨E,n,D⟩,o⟩,⟨C,j⟩,al⟩:aw),x)]) ents->(if K=1 then bu env Tryz.f172 (0+1) so [(44,aI 0),(4,.ptr rh 0 0),(42,.cC 4 (ot (ck ⟨⟨⟨G,J,F⟩,I⟩,a⟩)) none),(12,f),(13,aI l.length),(14,aI k),(43,aI (ck ⟨⟨⟨G,J,F⟩,I⟩,a⟩).length)] W Q
     else bu env Tryz.f172 (0+1) oZ [(4,.ptr rh 0 0),(14,aI ((k:Int)+1)),(12,f),(13,aI l.length)] W Q):=by
     intro W hI7;split;·rename_i S;rw[if_pos S]at hQ;exact Wz u c z w tm B A hnl (λH' hI'=>by rw[e3];exact ih (k+1) _ _ _ H' hs' (by omega) (by simp) (by simp;omega) (by simp;omega) hok' hI' hQ) _ 0 0 ents W rfl (by omega) rfl hI7 rfl
     rename_i S;rw[if_neg S]at hQ;exact ih (k+1) _ _ _ W hs' (by omega) (by simp) (by simp;omega) (by simp;omega) hok' hI7 hQ
    clear c hQ ih hI hH hfits hC hok hok' hal2 hs hs' hg hg' h4 h5 hG4 hrd hd;rcases h2 with ⟨rfl,rfl⟩ | ⟨g,rfl,h2⟩
    ·have U:=hst (H4.gen 1 34) 1;clear hst;have heo:bf []=[]:=rfl;by_cases S:K=1
     ·subst S;have Y:=λW h=>O W h;simp only[if_true]at Y;clear O;simp[ai, *,R.r];refine Y _ (U _ rfl ?_ ?_ ?_ ?_ λq X V=>?_);·simp(maxDischargeDepth:=12) [fN, *]
      ·simp(maxDischargeDepth:=12) [fN, *]
      ·simp(maxDischargeDepth:=12) [fN, *]
      ·simp(maxDischargeDepth:=12) [fN, *]
      have nq:q≠rh:=by rintro rfl;omega
      have P : ∀g,q≠(⟨1,34,g,0⟩:Ref):=λg e=>by have h:=iQg Ref.d e;rw[X]at h;exact absurd h (by simp)
      simp[bE hF4 V,aa.get_put,nq,P,nq.symm,λg=>(P g).symm]
     have Y:=λW h=>O W h;simp only[S,iQf]at Y;clear O;simp[ai, *,R.r];refine Y _ (U _ rfl ?_ ?_ ?_ ?_ λq X V=>?_);·simp(maxDischargeDepth:=12) [fN, *]
     ·simp(maxDischargeDepth:=12) [fN, *]
     ·simp(maxDischargeDepth:=12) [fN, *]
     ·simp(maxDischargeDepth:=12) [fN, *]
     have nq:q≠rh:=by rintro rfl;omega
     have P : ∀g,q≠(⟨1,34,g,0⟩:Ref):=λg e=>by have h:=iQg Ref.d e;rw[X]at h;exact absurd h (by simp)
     simp[bE hF4 V,aa.get_put,nq,P,nq.symm,λg=>(P g).symm]
    have U:=hst (H4.gen 1 34) (ops.length+1);clear hst;have l34:(H4.get ⟨1,34,g,0⟩).isSome=true:=by rw[h2];rfl
    have f4:ow 17 112 ops.length true none (some ⟨17,bf ops,true,false⟩) (some [.agg [a8 K,a8 L,af a_3,a8 N,aI M,a8 G,af J,a8 F,aI I,aI a,a8 E,af n,a8 D,aI o,a8 C,af j,x]]):=(by simp;omega);by_cases S:K=1
    ·subst S;have Y:=λW h=>O W h;simp only[if_true]at Y;clear O;simp[ai, *,R.r];refine Y _ (U _ rfl ?_ ?_ ?_ ?_ λq X V=>?_);·simp(maxDischargeDepth:=12) [fN, *]
     ·simp(maxDischargeDepth:=12) [fN, *]
     ·simp(maxDischargeDepth:=12) [fN, *]
     ·simp(maxDischargeDepth:=12) [fN, *]
     have nq:q≠rh:=by rintro rfl;omega
     have P : ∀g,q≠(⟨1,34,g,0⟩:Ref):=λg e=>by have h:=iQg Ref.d e;rw[X]at h;exact absurd h (by simp)
     simp[bE hF4 V,aa.get_put,nq,P,nq.symm,λg=>(P g).symm]
    have Y:=λW h=>O W h;simp only[S,iQf]at Y;clear O;simp[ai, *,R.r];refine Y _ (U _ rfl ?_ ?_ ?_ ?_ λq X V=>?_);·simp(maxDischargeDepth:=12) [fN, *]
    ·simp(maxDischargeDepth:=12) [fN, *]
    ·simp(maxDischargeDepth:=12) [fN, *]
    ·simp(maxDischargeDepth:=12) [fN, *]
    have nq:q≠rh:=by rintro rfl;omega
    have P : ∀g,q≠(⟨1,34,g,0⟩:Ref):=λg e=>by have h:=iQg Ref.d e;rw[X]at h;exact absurd h (by simp)
    simp[bE hF4 V,aa.get_put,nq,P,nq.symm,λg=>(P g).symm]
   have hd:tp ops ents (((⟨K,⟨L,a_3,N⟩,M,⟨⟨⟨G,J,F⟩,I⟩,a⟩,⟨⟨E,n,D⟩,o⟩,⟨C,j⟩,al⟩:aw),x) :: s)=none:=(by show(if _ then _ else _)=_;rw[if_neg (λh=>hd0 h.2)]);rw[hd]at hQ;have T:=hQ (.tup [.v (.pointer none),aB false]) H4 ⟨hI4.fr,hI4.old,rfl⟩;simp[hd0];all_goals exact T
end
@[simp] def af8(r:Ref):(AV.mp r).cells=[.mp r]:=id rfl
@[simp] def ajq(r:Ref):(AV.mp r).one=true:=id rfl
section
variable{l:List (aw × AV)}{x0:AV}(d:Sl 17 (bf l) x0)(a : ∀p∈l,ET p/\p.1.l.length<1000000)(e:l.length<10000)
include d a e
theorem W0{H:aa}(j:Fr H) : ∃y H',cb env 0 (.fn 172) [x0] H=some (y,H') /\∃rh rm,LR H rh rm l.length (tp [] [] l) y H':=by
 refine nN (Q:=λy H' =>∃rh rm,LR H rh rm l.length (tp [] [] l) y H') (fn:=Tryz.f172) (c:=TH) (by kernel_rfl) (by kernel_rfl) (by kernel_rfl) (by kernel_rfl) (by kernel_rfl) ?_;refine RX _ _ _ _ λg=>?_;have f:=λH2 k=>W1 d a e (rh:=⟨1,11,H.gen 1 11,0⟩) (rm:=⟨1,9,H.gen 1 9,0⟩) rfl rfl rfl rfl (H0:=H) (Q:=λy H' =>∃rh rm,LR H rh rm l.length (tp [] [] l) y H') l 0 0 [] [] H2 rfl (by omega) rfl (by simp) (by simp) (by intro p hp;cases hp) k (λy H' h=>⟨_,_,h⟩);clear a;simp[ai, *,Kr,d.r];refine f _ ⟨?_,⟨bI,?_,.inl ⟨rfl,rfl⟩⟩,?_,λq b n i=>?_,λp hp=>nomatch hp⟩;·simp(maxDischargeDepth:=12) [fN, *]
 ·simp
 ·simp[cJ]
 have m:(H.get q).isSome=true:=by rw[i];rfl
 simp[bE j m,i]
def qa(l:List (aw × AV))(o:aw):Int:=match tp [] [] l with
 | none=>8
 | some (ops,ents)=>if mz o then vX ops ents o else 8
theorem SA(q:UInt8)(m:UInt8)(a_3:UInt32)(o:UInt8)(n:Int)(w:UInt8)(v:UInt32)(t:UInt8)(u:Int)(i:Int)(k:UInt8)(c:UInt32)(j:UInt8)(f:Int)(h:UInt8)(b:UInt32){x:AV}{A:List Int}(z:Sl 1 (rows A) x)(C:A.length<1000000):ax env 137 [x0,.agg [a8 q,a8 m,af a_3,a8 o,aI n,a8 w,af v,a8 t,aI u,aI i,a8 k,af c,a8 j,aI f,a8 h,af b,x]]=some (aI (qa l (⟨q,⟨m,a_3,o⟩,n,⟨⟨⟨w,v,t⟩,u⟩,i⟩,⟨⟨k,c,j⟩,f⟩,⟨h,b⟩,A⟩:aw))):=by
 refine ay rfl (by kernel_rfl) (Mf _ _ _ _ λg=>?_);have O:=nT q m a_3 o n w v t u i k c j f h b z (by omega);obtain⟨y,H2,K,rh,rm,F,hold,hm⟩:=W0 d a e (H:=[(⟨0,3,0,0⟩,some ⟨17,[.agg [a8 q,a8 m,af a_3,a8 o,aI n,a8 w,af v,a8 t,aI u,aI i,a8 k,af c,a8 j,aI f,a8 h,af b,x]],false,false⟩)]) (by simp[xp,I3,Fr.nil]);have J:=hold ⟨0,3,0,0⟩ _ rfl rfl;have E:bB env true (ax env) (cb env 0) [(⟨0,3,0,0⟩,some ⟨17,[.agg [a8 q,a8 m,af a_3,a8 o,aI n,a8 w,af v,a8 t,aI u,aI i,a8 k,af c,a8 j,aI f,a8 h,af b,x]],false,false⟩)] ⟨0,10,0,0⟩ (some (.fn (.func 172) [] [])) [x0]=some (y,H2):=by
  rw[Fb (by kernel_rfl)];exact K
 unfold qa;cases G:tp [] [] l with
 | none=>rw[G]at hm;dsimp only at hm;subst hm;clear hold a;simp[ai, *,xl,d.r,z.r,E]
 | some p=>
  obtain⟨ops,ents⟩:=p;rw[G]at hm;dsimp only at hm;obtain⟨rfl,B,P,he,D⟩:=hm;clear hold;cases L:mz (⟨q,⟨m,a_3,o⟩,n,⟨⟨⟨w,v,t⟩,u⟩,i⟩,⟨⟨k,c,j⟩,f⟩,⟨h,b⟩,A⟩:aw) with
  | false=>clear a B;simp[ai, *,xl,d.r,z.r,E]
  | true=>have I:=Rw 0 F B.cD B.ok (by omega) D (by omega) q m a_3 o n w v t u i k c j f h b z C L;clear a B;simp[ai, *,xl,d.r,z.r,E];refine nE (by kernel_rfl) I λM N=>?_;simp
end
end
end Go.Proofs.YtmkmimgokagimaaGreat
