/-
  Operations: whether they may be. No statement of a seat is proved here.
-/
import Derived.Test.YtmkmimgokagimaaGreatMCatFns
set_option linter.unusedVariables false
set_option linter.unusedSimpArgs false
set_option linter.unusedSectionVars false
set_option linter.unnecessarySimpa false
set_option maxRecDepth 1000000
namespace Go.Proofs.YtmkmimgokagimaaGreat
open Go.Ab
section
attribute [local simp] aG ay aw aF aE bQ gX aM aA aD bI bH bn aN aj bf fe
def L2:AV := .agg [.v .nilFunc,.v .nilFunc,.fn (.func 186) [] [.iptr 1 [.fn (.func 184) [] []] 0 0],.fn (.func 188) [] [],
 .fn (.func 189) [] [.iptr 1 [.fn (.func 184) [] []] 0 0,.iptr 1 [.fn (.func 183) [] []] 0 0],.fn (.func 190) [] [],.fn (.func 191) [] [.iptr 1 [.fn (.func 183) [] []] 0 0],.fn (.func 192) [] []]
theorem X5:ak env 136 []=some L2:=Gf (n:=2000) (by kernel_rfl)
@[simp] theorem Yf:ak env 185 []=some (.agg [a8 0,ae 0]):=by
 refine an rfl (by kernel_rfl) (Bu _ _ λg=>?_)
 simp[ai, *,wI]
section
variable(m:UInt8)(w:UInt8)(y:UInt32)(p:UInt8)(o:Int)(q:UInt8)(t:UInt32)(u:UInt8)(z:Int)(k:Int)(d:UInt8)(c:UInt32)(f:UInt8)(a:Int)(j:UInt8)(i:UInt32){x:AV}{l:List Int}(A:Sl 1 (rows l) x)(B:l.length<2000000)
include A B
theorem Vc:ak env 183 [.agg [a8 m,a8 w,ae y,a8 p,aI o,a8 q,ae t,a8 u,aI z,aI k,a8 d,ae c,a8 f,aI a,a8 j,ae i,x]]=some (aB (zI (⟨m,⟨w,y,p⟩,o,⟨⟨⟨q,t,u⟩,z⟩,k⟩,⟨⟨d,c,f⟩,a⟩,⟨j,i⟩,l⟩:aC))):=by
 refine an rfl (by kernel_rfl) (JV _ _ _ λg=>?_)
 unfold zI
 cases b:gx (⟨⟨d,c,f⟩,a⟩:bV) with
 | true=>
  unfold gx at b
  simp[ai, *,yz,A.r,fw,bM]
 | false=>
  unfold gx at b
  simp[ai, *,yz,A.r,fw,bM]
theorem RI:ak env 184 [.agg [a8 m,a8 w,ae y,a8 p,aI o,a8 q,ae t,a8 u,aI z,aI k,a8 d,ae c,a8 f,aI a,a8 j,ae i,x]]=some (aB (w7 (⟨j,i⟩:iI))):=by
 refine an rfl (by kernel_rfl) (JU _ _ _ λg=>?_)
 simp[ai, *,CW,A.r,fw,bM,w7]
theorem Vb:ak env 189 [.agg [a8 m,a8 w,ae y,a8 p,aI o,a8 q,ae t,a8 u,aI z,aI k,a8 d,ae c,a8 f,aI a,a8 j,ae i,x],.iptr 1 [.fn (.func 184) [] []] 0 0,.iptr 1 [.fn (.func 183) [] []] 0 0]=some (aB (O5 (⟨m,⟨w,y,p⟩,o,⟨⟨⟨q,t,u⟩,z⟩,k⟩,⟨⟨d,c,f⟩,a⟩,⟨j,i⟩,l⟩:aC))):=by
 refine an rfl (by kernel_rfl) (JS _ _ _ _ _ λg=>?_)
 have h:=Vc m w y p o q t u z k d c f a j i A B
 have e:=RI m w y p o q t u z k d c f a j i A B
 unfold O5
 cases b:w7 (⟨j,i⟩:iI)<;>simp[ai, *,CV,A.r]
theorem X4:ak env 191 [.agg [a8 m,a8 w,ae y,a8 p,aI o,a8 q,ae t,a8 u,aI z,aI k,a8 d,ae c,a8 f,aI a,a8 j,ae i,x],.iptr 1 [.fn (.func 183) [] []] 0 0]=some (aB (LY (⟨m,⟨w,y,p⟩,o,⟨⟨⟨q,t,u⟩,z⟩,k⟩,⟨⟨d,c,f⟩,a⟩,⟨j,i⟩,l⟩:aC))):=by
 refine an rfl (by kernel_rfl) (JR _ _ _ _ λg=>?_)
 have b:=Vc m w y p o q t u z k d c f a j i A B
 unfold LY
 cases e:zI (⟨m,⟨w,y,p⟩,o,⟨⟨⟨q,t,u⟩,z⟩,k⟩,⟨⟨d,c,f⟩,a⟩,⟨j,i⟩,l⟩:aC)<;>simp[ai, *,CU,A.r]
theorem U6:ak env 186 [.agg [a8 m,a8 w,ae y,a8 p,aI o,a8 q,ae t,a8 u,aI z,aI k,a8 d,ae c,a8 f,aI a,a8 j,ae i,x],.iptr 1 [.fn (.func 184) [] []] 0 0]=some (aB (I7 (⟨m,⟨w,y,p⟩,o,⟨⟨⟨q,t,u⟩,z⟩,k⟩,⟨⟨d,c,f⟩,a⟩,⟨j,i⟩,l⟩:aC))):=by
 refine an rfl (by kernel_rfl) (JT _ _ _ _ λg=>?_)
 have v:=RI m w y p o q t u z k d c f a j i A B
 have C:=Fj A (by omega)
 have E:=Ch l
 unfold I7
 cases F:w7 (⟨j,i⟩:iI) with
 | false=>
  cases e:gx (⟨⟨d,c,f⟩,a⟩:bV) with
  | false=>
   unfold gx at e
   simp[ai, *,jx,A.r,fw,bM]
  | true=>
   unfold gx at e
   simp[ai, *,jx,A.r,fw,bM]
 | true=>
  have key : ∀b:Bool,(gx (⟨⟨d,c,f⟩,a⟩:bV)||FB (⟨⟨d,c,f⟩,a⟩:bV))=b->True:=λ_ _=>trivial
  cases h:D5 ⟨q,t,u⟩ ⟨w,y,p⟩ with
  | false=>
   unfold D5 at h
   cases e:gx (⟨⟨d,c,f⟩,a⟩:bV) with
   | false=>
    unfold gx at e
    cases n:FB (⟨⟨d,c,f⟩,a⟩:bV)<;>simp[ai, *,jx,A.r,fw,bM]
   | true=>
    unfold gx at e
    simp[ai, *,jx,A.r,fw,bM]
  | true=>
   unfold D5 at h
   by_cases D:(l.length:Int)=k
   ·cases e:gx (⟨⟨d,c,f⟩,a⟩:bV) with
    | false=>
     unfold gx at e
     cases n:FB (⟨⟨d,c,f⟩,a⟩:bV)<;>simp[ai, *,jx,A.r,fw,bM]
    | true=>
     unfold gx at e
     simp[ai, *,jx,A.r,fw,bM]
   ·cases e:gx (⟨⟨d,c,f⟩,a⟩:bV) with
    | false=>
     unfold gx at e
     cases n:FB (⟨⟨d,c,f⟩,a⟩:bV)<;>simp[ai, *,jx,A.r,fw,bM]
    | true=>
     unfold gx at e
     simp[ai, *,jx,A.r,fw,bM]
theorem mF:ak env 70 [.agg [a8 m,a8 w,ae y,a8 p,aI o,a8 q,ae t,a8 u,aI z,aI k,a8 d,ae c,a8 f,aI a,a8 j,ae i,x]]=some (aI (bad (lT (⟨m,⟨w,y,p⟩,o,⟨⟨⟨q,t,u⟩,z⟩,k⟩,⟨⟨d,c,f⟩,a⟩,⟨j,i⟩,l⟩:aC)))):=by
 refine an rfl (by kernel_rfl) (Nj _ _ _ λg=>?_)
 have N:=U6 m w y p o q t u z k d c f a j i A B
 have I:=Vb m w y p o q t u z k d c f a j i A B
 have J:=X4 m w y p o q t u z k d c f a j i A B
 have O:=X5
 unfold lT C9
 by_cases D:m=0
 ·subst D
  simp[ai, *,kM,A.r]
 by_cases b:4<=m
 ·have n1 : ¬m=1:=by rintro rfl;exact absurd b (by decide)
  have n2 : ¬m=2:=by rintro rfl;exact absurd b (by decide)
  have H : ¬m=3:=by rintro rfl;exact absurd b (by decide)
  simp[ai, *,kM,A.r]
 cases M:dZ ⟨w,y,p⟩ with
 | false=>simp[ai, *,kM,A.r]
 | true=>
 rcases EZ o 1 with n | E
 ·have E : ¬1<=o:=by omega
  simp[ai, *,kM,A.r]
 have n : ¬o<1:=by omega
 rcases EZ o 16777216 with F | v
 rotate_left
 ·have F : ¬o<16777216:=by omega
  simp[ai, *,kM,A.r]
 have v : ¬16777216<=o:=by omega
 cases K:eJ ⟨⟨⟨q,t,u⟩,z⟩,k⟩ with
 | false=>simp[ai, *,kM,A.r]
 | true=>
 have G:m=1\/m=2\/m=3:=by
  have e:m.toNat<4:=by have:=UInt8.not_le.1 b;exact this
  have L:m.toNat≠0:=λh=>D (Du.1 h)
  rcases(show m.toNat=1\/m.toNat=2\/m.toNat=3 by omega)with h | h | h
  ·exact .inl (Du.1 h)
  ·exact .inr (.inl (Du.1 h))
  ·exact .inr (.inr (Du.1 h))
 rcases G with rfl | rfl | rfl
 ·cases C:I7 (⟨1,⟨w,y,p⟩,o,⟨⟨⟨q,t,u⟩,z⟩,k⟩,⟨⟨d,c,f⟩,a⟩,⟨j,i⟩,l⟩:aC)<;>simp[ai, *,kM,A.r,L2,Fm,IQ]
 ·cases C:O5 (⟨2,⟨w,y,p⟩,o,⟨⟨⟨q,t,u⟩,z⟩,k⟩,⟨⟨d,c,f⟩,a⟩,⟨j,i⟩,l⟩:aC)<;>simp[ai, *,kM,A.r,L2,Fm,IQ]
 ·cases C:LY (⟨3,⟨w,y,p⟩,o,⟨⟨⟨q,t,u⟩,z⟩,k⟩,⟨⟨d,c,f⟩,a⟩,⟨j,i⟩,l⟩:aC)<;>simp[ai, *,kM,A.r,L2,Fm,IQ]
end
end
section
attribute [local simp] aG ay aw aF aE bQ gX aM aA aD bI bH bn aN aj bf fe
@[simp] theorem TO(l:List Int)(n:Nat):(rows l).all (flat (n+1))=true:=by
 simp[rows,gy,aR]
theorem Qi(m:UInt8)(i:UInt32)(k:UInt8)(f:Int)(e:Int)(a:UInt8)(b:UInt32)(c:UInt8)(d:Int){x:AV}{l:List Int}(j:Sl 1 (rows l) x)(t:l.length<1000000):ak env 240 [.agg [a8 m,ae i,a8 k,aI f,aI e,a8 a,ae b,a8 c,aI d,x]]=some (aI (bad (zh (⟨⟨⟨⟨m,i,k⟩,f⟩,e⟩,⟨⟨a,b,c⟩,d⟩,l⟩:Rn)))):=by
 refine an rfl (by kernel_rfl) (Ly _ _ _ λg=>?_)
 have p:=Fj j (by omega)
 have o:=Ch l
 have n:((⟨⟨a,b,c⟩,d⟩:bV)=rZ)=((decide (a=0)&&decide (b=0)&&decide (c=0)&&decide (d=0))=true):=by simp[rZ,and_assoc]
 unfold zh
 simp only[n]
 cases q:(decide (a=0)&&decide (b=0)&&decide (c=0)&&decide (d=0)) with
 | true=>
  simp[ai, *,AF,j.r,fw,bM]
  repeat' ((first | apply iV<;>intro h | apply fZ<;>intro h | apply ga<;>intro h | apply fX<;>intro h | apply fY<;>intro h)<;>(try simp only[decide_eq_true_eq,decide_eq_false_iff_not,dN,kG,aY,fv]at h)<;>(try simp[ai, *,j.r]))
 | false=>
  simp[ai, *,AF,j.r,fw,bM]
  repeat' ((first | apply iV<;>intro h | apply fZ<;>intro h | apply ga<;>intro h | apply fX<;>intro h | apply fY<;>intro h)<;>(try simp only[decide_eq_true_eq,decide_eq_false_iff_not,dN,kG,aY,fv]at h)<;>(try simp[ai, *,j.r]))
theorem VH{r:Rn}(h:zh r=true):eJ r.s=true/\(r.l.length:Int)=r.s.many:=by
 simp[zh]at h;exact⟨h.1,h.2.2.1⟩
def JK(o:aC):Int:=if lT o then (if o.kind=1/\zh ⟨o.s,o.a,o.l⟩=true then 0 else 2) else 8
theorem X7(q:UInt8)(w:UInt8)(t:UInt32)(v:UInt8)(u:Int)(m:UInt8)(p:UInt32)(n:UInt8)(o:Int)(b:Int)(f:UInt8)(d:UInt32)(i:UInt8)(a:Int)(k:UInt8)(j:UInt32){x:AV}{l:List Int}(A:Sl 1 (rows l) x)(K:l.length<1000000):ak env 231 [.agg [a8 q,a8 w,ae t,a8 v,aI u,a8 m,ae p,a8 n,aI o,aI b,a8 f,ae d,a8 i,aI a,a8 k,ae j,x]] =
 some (if JK (⟨q,⟨w,t,v⟩,u,⟨⟨⟨m,p,n⟩,o⟩,b⟩,⟨⟨f,d,i⟩,a⟩,⟨k,j⟩,l⟩:aC)=0 then .tup [.agg [a8 m,ae p,a8 n,aI o,aI b,a8 f,ae d,a8 i,aI a,.cD 1 (rows l) none],aI 0]
  else .tup [.agg [a8 0,ae 0,a8 0,aI 0,aI 0,a8 0,ae 0,a8 0,aI 0,ba],aI (JK (⟨q,⟨w,t,v⟩,u,⟨⟨⟨m,p,n⟩,o⟩,b⟩,⟨⟨f,d,i⟩,a⟩,⟨k,j⟩,l⟩:aC))]):=by
 have M:=mF q w t v u m p n o b f d i a k j A (by omega)
 have G:=Fi A (by omega) (by omega)
 cases E:lT (⟨q,⟨w,t,v⟩,u,⟨⟨⟨m,p,n⟩,o⟩,b⟩,⟨⟨f,d,i⟩,a⟩,⟨k,j⟩,l⟩:aC) with
 | false=>
  have e:JK (⟨q,⟨w,t,v⟩,u,⟨⟨⟨m,p,n⟩,o⟩,b⟩,⟨⟨f,d,i⟩,a⟩,⟨k,j⟩,l⟩:aC)=8:=by simp[JK,E]
  refine an rfl (by kernel_rfl) (vF _ _ _ λg=>?_)
  simp[ai, *,pE,A.r]
 | true=>
  have B:=λ{y:AV} (J:Sl 1 (rows l) y)=>Qi m p n o b f d i a J K
  by_cases F:l=[]
  ·have e:JK (⟨q,⟨w,t,v⟩,u,⟨⟨⟨m,p,n⟩,o⟩,b⟩,⟨⟨f,d,i⟩,a⟩,⟨k,j⟩,l⟩:aC)=2:=by
    simp only[JK,E,if_true]
    rw[if_neg]
    rintro⟨_,h⟩
    have z:=VH h
    simp only at z
    have H:=gI z.1
    simp only at H
    rw[F]at z
    simp at z
    omega
   have N:zh ⟨⟨⟨⟨m,p,n⟩,o⟩,b⟩,⟨⟨f,d,i⟩,a⟩,l⟩=false:=by
    cases B:zh ⟨⟨⟨⟨m,p,n⟩,o⟩,b⟩,⟨⟨f,d,i⟩,a⟩,l⟩ with
    | false=>rfl
    | true=>
     have z:=VH B
     simp only at z
     have H:=gI z.1
     simp only at H
     rw[F]at z
     simp at z
     omega
   subst F
   have L:rows ([]:List Int)=[]:=rfl
   rcases A.Wh with ⟨rfl,_⟩ | ⟨c,rfl⟩
   ·have C:=B (y:=ba) (.inl ⟨rfl,rfl⟩)
    clear B
    refine an rfl (by kernel_rfl) (vF _ _ _ λg=>?_)
    by_cases D:q=1
    ·subst D
     simp[ai, *,pE]
    ·simp[ai, *,pE]
   ·have C:=B (y := .cD 1 (rows []) (some 0)) (.inr ⟨some 0,rfl,by simp[rows]⟩)
    have O:ak env 173 [.cD 1 [] c]=some (.fsl 1 [] (some 0)):=G
    clear B G
    rw[L]at M C ⊢
    refine an rfl (by kernel_rfl) (vF _ _ _ λg=>?_)
    by_cases D:q=1
    ·subst D
     simp[ai, *,pE]
    ·simp[ai, *,pE]
  ·have z:rows l≠[]:=by simpa using F
   obtain⟨c,rfl,Q⟩:=A.YU z
   rw[rE 1 c z]at G
   have C:=B (Sl.mk 1 (rows l))
   clear B
   have P:=TO l
   by_cases D:q=1
   ·subst D
    cases I:zh ⟨⟨⟨⟨m,p,n⟩,o⟩,b⟩,⟨⟨f,d,i⟩,a⟩,l⟩ with
    | false=>
     have e:JK ⟨1,⟨w,t,v⟩,u,⟨⟨⟨m,p,n⟩,o⟩,b⟩,⟨⟨f,d,i⟩,a⟩,⟨k,j⟩,l⟩=2:=by simp[JK,E,I]
     refine an rfl (by kernel_rfl) (vF _ _ _ λg=>?_)
     simp[ai, *,pE,A.r]
    | true=>
     have e:JK ⟨1,⟨w,t,v⟩,u,⟨⟨⟨m,p,n⟩,o⟩,b⟩,⟨⟨f,d,i⟩,a⟩,⟨k,j⟩,l⟩=0:=by simp[JK,E,I]
     refine an rfl (by kernel_rfl) (vF _ _ _ λg=>?_)
     simp[ai, *,pE,A.r]
   ·have e:JK (⟨q,⟨w,t,v⟩,u,⟨⟨⟨m,p,n⟩,o⟩,b⟩,⟨⟨f,d,i⟩,a⟩,⟨k,j⟩,l⟩:aC)=2:=by simp[JK,E,D]
    refine an rfl (by kernel_rfl) (vF _ _ _ λg=>?_)
    simp[ai, *,pE,A.r]
end
section
attribute [local simp] aG ay aw aF aE bQ gX aM aA aD bI bH bn aN aj bf fe
def Ja(t:Int):List Int->Nat->Int
 | [],_ => -1
 | a :: l,k=>if t=a then k else Ja t l (k+1)
theorem WM(t:Int)(l:List Int) : ∀k:Nat,(0<=Ja t l k↔t∈l):=by
 induction l with
 | nil=>intro k;simp[Ja]
 | cons a l b=>
  intro k
  unfold Ja
  by_cases h:t=a
  ·simp[h]
  ·rw[if_neg h,b];simp[h]
theorem Oz{x0:AV}{Q:AV->aa->Prop}{l:List Int}(c:Sl 1 (rows l) x0)(d:l.length<4611686018427387904){t:Int}{H:aa} :
 ∀(s:List Int)(k:Nat)(i:Int),l.drop k=s->k<=l.length->i=k->(∀y,y=aI (Ja t s k)->Q y H) ->
 bF env Tryz.f214 0 eO [(8,aI i),(0,x0),(1,aR t),(7,aI l.length)] H Q:=by
 intro s
 induction s with
 | nil=>
  rintro k i hs hk rfl hQ
  obtain rfl:=drop_nil hs hk
  refine lF _ _ _ _ _ _ λg=>?_
  simp[ai, *,eS]
  all_goals exact hQ _ rfl
 | cons a s h=>
  rintro k i hs hk rfl hQ
  obtain⟨m,q,b,n⟩:=drop_cons hs
  refine lF _ _ _ _ _ _ λg=>?_
  have p:=IntWalk.i64_in ((k:Int)+1) (by omega)
  by_cases j:t=a
  ·have e:Ja t (a :: s) k=k:=by unfold Ja;rw[if_pos j]
   simp[ai, *,eS,c.idx,rows,aR]
   all_goals exact hQ _ (by simp[e])
  ·have e:Ja t (a :: s) k=Ja t s (k+1):=by rw[Ja,if_neg j]
   have f:=h (k+1) ((k:Int)+1) b (by omega) (by simp) (λy o=>hQ y (by rw[o,e]))
   clear h hQ e
   simp[ai, *,eS,c.idx,rows,aR]
   exact f
section
variable{x:AV}{l:List Int}(c:Sl 1 (rows l) x)(d:l.length<4611686018427387904)
include c d
theorem VB(t:Int):ak env 214 [x,aR t]=some (aI (Ja t l 0)):=by
 refine an rfl (by kernel_rfl) (tS _ _ _ _ λg=>?_)
 have h:=c.len
 simp[ai, *,mN]
 exact Oz c d l 0 _ rfl (by omega) rfl (λy e=>by simp[e])
theorem NI(t:Int):ak env 176 [x,aR t]=some (aB (decide (t∈l))):=by
 refine an rfl (by kernel_rfl) (rQ _ _ _ _ λg=>?_)
 have h:=VB c d t
 have a:=c.r
 have e:=WM t l 0
 simp[ai, *,ly]
end
theorem KC(p:UInt8)(w:UInt8)(o:UInt32)(u:UInt8)(t:Int)(m:UInt8)(v:UInt32)(n:UInt8)(q:Int)(b:Int)(i:UInt8)(e:UInt32)(j:UInt8)(a:Int)(k:UInt8)(f:UInt32){x:AV}{l:List Int}(c:Sl 1 (rows l) x)(d:l.length<4611686018427387904):ak env 121 [.agg [a8 p,a8 w,ae o,a8 u,aI t,a8 m,ae v,a8 n,aI q,aI b,a8 i,ae e,a8 j,aI a,a8 k,ae f,x]]=some (aB (!decide (-1∈l))):=by
 refine an rfl (by kernel_rfl) (Ni _ _ _ λg=>?_)
 have h:=NI c d (-1)
 have y:=c.r
 unfold aR at h
 simp[ai, *,Gv]
def nF(a b:aC):Bool:=decide (a.kind=b.kind)&&((decide (a.h.lv=b.h.lv)&&decide (a.h.cats=b.h.cats)&&decide (a.h.num=b.h.num))&&(decide (a.serial=b.serial) &&
 ((decide (a.s.f.h.lv=b.s.f.h.lv)&&decide (a.s.f.h.cats=b.s.f.h.cats)&&decide (a.s.f.h.num=b.s.f.h.num)&&decide (a.s.f.n=b.s.f.n)&&decide (a.s.many=b.s.many)) &&
 ((decide (a.a.h.lv=b.a.h.lv)&&decide (a.a.h.cats=b.a.h.cats)&&decide (a.a.h.num=b.a.h.num)&&decide (a.a.n=b.a.n))&&((decide (a.to.lv=b.to.lv)&&decide (a.to.cats=b.to.cats))&&decide (a.l=b.l))))))
theorem Vt(K:UInt8)(O:UInt8)(z:UInt32)(C:UInt8)(M:Int)(I:UInt8)(D:UInt32)(v:UInt8)(L:Int)(n:Int)(q:UInt8)(a:UInt32)(i:UInt8)(k:Int)(j:UInt8)(b:UInt32)(F:UInt8)(A:UInt8)(J:UInt32)(G:UInt8)(w:Int)(E:UInt8)(N:UInt32)(B:UInt8)(H:Int)(h:Int)(t:UInt8)(f:UInt32)(o:UInt8)(e:Int)(u:UInt8)(p:UInt32){x y:AV}{l m:List Int}(c:Sl 1 (rows l) x)(P:Sl 1 (rows m) y)(d:l.length<1000000000):ak env 211 [.agg [a8 K,a8 O,ae z,a8 C,aI M,a8 I,ae D,a8 v,aI L,aI n,a8 q,ae a,a8 i,aI k,a8 j,ae b,x],.agg [a8 F,a8 A,ae J,a8 G,aI w,a8 E,ae N,a8 B,aI H,aI h,a8 t,ae f,a8 o,aI e,a8 u,ae p,y]]=some (aB (nF (⟨K,⟨O,z,C⟩,M,⟨⟨⟨I,D,v⟩,L⟩,n⟩,⟨⟨q,a,i⟩,k⟩,⟨j,b⟩,l⟩:aC) (⟨F,⟨A,J,G⟩,w,⟨⟨⟨E,N,B⟩,H⟩,h⟩,⟨⟨t,f,o⟩,e⟩,⟨u,p⟩,m⟩:aC))):=by
 refine an rfl (by kernel_rfl) (P3 _ _ _ _ λg=>?_)
 have T:=SW c P (by omega)
 have X:=c.r
 have Q:=P.r
 unfold nF
 cases V:decide (K=F) with
 | false=>simp[ai, *,pa,fw,bM]
 | true=>
 cases Y:(decide (O=A)&&decide (z=J)&&decide (C=G)) with
 | false=>simp[ai, *,pa,fw,bM]
 | true=>
 cases U:decide (M=w) with
 | false=>simp[ai, *,pa,fw,bM]
 | true=>
 cases W:(decide (I=E)&&decide (D=N)&&decide (v=B)&&decide (L=H)&&decide (n=h)) with
 | false=>simp[ai, *,pa,fw,bM]
 | true=>
 cases R:(decide (q=t)&&decide (a=f)&&decide (i=o)&&decide (k=e)) with
 | false=>simp[ai, *,pa,fw,bM]
 | true=>
 cases S:(decide (j=u)&&decide (b=p)) with
 | false=>simp[ai, *,pa,fw,bM]
 | true=>simp[ai, *,pa,fw,bM]
end
section
attribute [local simp] aG ay aw aF aE bQ gX aM aA aD bI bH bn aN aj bf fe
@[simp] theorem akK(a:UInt8)(b:UInt32)(c:UInt8)(d:UInt32):ak env 47 [.agg [a8 a,ae b],.agg [a8 c,ae d]]=some (aB (qS ⟨a,b⟩ ⟨c,d⟩)):=by
 refine an rfl (by kernel_rfl) (DM _ _ _ _ λg=>?_)
 simp[ai, *,AH]
 repeat' ((first | apply iV<;>intro h | apply fZ<;>intro h | apply ga<;>intro h | apply fX<;>intro h | apply fY<;>intro h)<;>(try simp only[decide_eq_true_eq,decide_eq_false_iff_not,dN,kG,aY,fv]at h)<;>(try simp[ai, *,qS]))
theorem agA(d:UInt8)(i:UInt32)(c:UInt8)(b:Int)(h:Int)(n:UInt8)(m:UInt32)(k:UInt8)(a:Int)(E : -4611686018427387904<a)(F:a<4611686018427387904):ak env 251 [.agg [a8 d,ae i,a8 c,aI b,aI h],.agg [a8 n,ae m,a8 k,aI a]]=some (if hasB (⟨⟨⟨d,i,c⟩,b⟩,h⟩:wN) (⟨⟨n,m,k⟩,a⟩:bV) then .tup [aI (a - b),aB true] else .tup [aI 0,aB false]):=by
 refine an rfl (by kernel_rfl) (P5 _ _ _ _ λg=>?_)
 cases o:eJ (⟨⟨⟨d,i,c⟩,b⟩,h⟩:wN) with
 | false=>
  have e:hasB (⟨⟨⟨d,i,c⟩,b⟩,h⟩:wN) (⟨⟨n,m,k⟩,a⟩:bV)=false:=by simp[hasB,o]
  simp[ai, *,uq]
 | true=>
  have z:=gI o
  simp only at z
  have A:=IntWalk.i64_in (a - b) (by omega)
  have G:=IntWalk.i64_in (b+(a - b)) (by omega)
  have B:b+(a - b)=a:=by omega
  have C:=IntWalk.i64_in a (by omega)
  rcases EZ (a - b) 0 with v | v
  ·have e:hasB (⟨⟨⟨d,i,c⟩,b⟩,h⟩:wN) (⟨⟨n,m,k⟩,a⟩:bV)=false:=by
    have : ¬b<=a:=by omega
    simp[hasB,this]
   simp[ai, *,uq]
  ·have w : ¬a - b<0:=by omega
   rcases EZ (a - b) h with y | y
   rotate_left
   ·have e:hasB (⟨⟨⟨d,i,c⟩,b⟩,h⟩:wN) (⟨⟨n,m,k⟩,a⟩:bV)=false:=by
     have : ¬a<b+h:=by omega
     simp[hasB,this]
    simp[ai, *,uq]
   ·have q : ¬h<=a - b:=by omega
    have u:b<=a:=by omega
    have t:a<b+h:=by omega
    have p:decide ((⟨d,i,c⟩:mz)=⟨n,m,k⟩)=(decide (n=d)&&decide (m=i)&&decide (k=c)):=by
     simp[yK,eq_comm]
    have e:hasB (⟨⟨⟨d,i,c⟩,b⟩,h⟩:wN) (⟨⟨n,m,k⟩,a⟩:bV)=(decide (n=d)&&decide (m=i)&&decide (k=c)):=by
     rw[<-p];simp only[hasB,o,u,t,decide_true,C1,nX]
    rw[e]
    clear e p
    cases D:(decide (n=d)&&decide (m=i)&&decide (k=c)) with
    | false=>simp[ai, *,uq,fw,bM]
    | true=>simp[ai, *,uq,fw,bM]
def wx(t:iI):List iI->Nat->Int
 | [],_ => -1
 | a :: l,k=>if t=a then k else wx t l (k+1)
theorem Q0(t:iI)(l:List iI) : ∀k:Nat,(0<=wx t l k↔t∈l):=by
 induction l with
 | nil=>intro k;simp[wx]
 | cons a l b=>
  intro k
  unfold wx
  by_cases h:t=a
  ·simp[h]
  ·rw[if_neg h,b];simp[h]
theorem OA{x0:AV}{Q:AV->aa->Prop}{l:List iI}(f:Sl 2 (kz l) x0)(j:l.length<4611686018427387904){a:UInt8}{b:UInt32}{r3:Ref}{H:aa}(u:H.get r3=some ⟨2,[.agg [a8 a,ae b]],false,false⟩) :
 ∀(s:List iI)(k:Nat)(i:Int),l.drop k=s->k<=l.length->i=k->(∀y,y=aI (wx ⟨a,b⟩ s k)->Q y H) ->
 bF env Tryz.f248 0 bp [(8,aI i),(0,x0),(3,.ptr r3 0 0),(7,aI l.length)] H Q:=by
 intro s
 induction s with
 | nil=>
  rintro k i hs hk rfl hQ
  obtain rfl:=drop_nil hs hk
  refine dp _ _ _ _ _ _ λg=>?_
  simp[ai, *,bt]
  all_goals exact hQ _ rfl
 | cons t s o=>
  rintro k i hs hk rfl hQ
  obtain⟨t1,t2⟩:=t
  obtain⟨p,v,d,m⟩:=drop_cons hs
  refine dp _ _ _ _ _ _ λg=>?_
  have q:=IntWalk.i64_in ((k:Int)+1) (by omega)
  have c:((⟨a,b⟩:iI)=⟨t1,t2⟩)=((decide (a=t1)&&decide (b=t2))=true):=by simp
  cases h:(decide (a=t1)&&decide (b=t2)) with
  | true=>
   rw[h]at c
   have e:wx ⟨a,b⟩ (⟨t1,t2⟩ :: s) k=k:=by unfold wx;rw[if_pos (by rw[c])]
   clear c
   simp[ai, *,bt,f.idx,kz,fw,bM]
   all_goals exact hQ _ (by simp[e])
  | false=>
   rw[h]at c
   have e:wx ⟨a,b⟩ (⟨t1,t2⟩ :: s) k=wx ⟨a,b⟩ s (k+1):=by
    rw[wx,if_neg (by rw[c];simp)]
   clear c
   simp[ai, *,bt,f.idx,kz,fw,bM]
   exact o (k+1) _ d (by omega) (by simp) (λy n=>hQ y (by rw[n,e]))
section
variable{x:AV}{l:List iI}(f:Sl 2 (kz l) x)(j:l.length<4611686018427387904)
include f j
theorem VC(a:UInt8)(b:UInt32):ak env 248 [x,.agg [a8 a,ae b]]=some (aI (wx ⟨a,b⟩ l 0)):=by
 refine an rfl (by kernel_rfl) (iD _ _ _ _ λg=>?_)
 have h:=f.len
 simp[ai, *,dG]
 exact OA f j (a:=a) (b:=b) (by simp) l 0 _ rfl (by omega) rfl (λy e=>by simp[e])
theorem BC(a:UInt8)(b:UInt32):ak env 246 [x,.agg [a8 a,ae b]]=some (aB (decide (⟨a,b⟩∈l))):=by
 refine an rfl (by kernel_rfl) (gR _ _ _ _ λg=>?_)
 have h:=VC f j a b
 have e:=Q0 ⟨a,b⟩ l 0
 simp[ai, *,dg,f.r]
end
structure Kg (r r7 q:Ref) (c:Option Nat) (info:AV) (H:aa) (out:List iI):Prop where
 fr:Fr H
 mark:H.get r=some (kV 0 info)
 box:H.get r7=some ⟨1,[.cG q 0 out.length c],false,false⟩
 row:H.get q=some ⟨2,kz out,true,false⟩
 cap:(c=none/\q.d=2/\q.t=25/\2<=out.length)\/(c=some out.length/\out.length=1)
 n1:r7≠r
 n2:q≠r
 n3:q≠r7
theorem QT{r r7 q:Ref}{c:Option Nat}{tm:List AV}{H:aa}{out:List iI}{ps:List Tmp}(o:ps=[17])(n:dJ tm 7 = .ptr r7 0 0)(u:Kg r r7 q c (.lp 0 27 ps dL dK tm) H out)(t:out.length<1000000)(a:UInt8)(b:UInt32) :
 ∃y H',bD env 1 (.yld r) [.agg [a8 a,ae b]] H=some (y,H')/\(y=aB true /\∃w C,Kg r r7 w C (.lp 0 27 ps dL dK tm) H' (tB out ⟨a,b⟩)):=by
 subst o
 refine TC (fn:=Tryz.f247) (dep:=1) u.mark (by kernel_rfl) rfl rfl (by kernel_rfl) (by kernel_rfl) ?_
 rw[<-Oe (s:=dJ (yh tm [17] [.agg [a8 a,ae b]])) (l:=[(7,.ptr r7 0 0),(17,.agg [a8 a,ae b])]) (by
  intro p hp
  simp only[nB,E3,or_false]at hp
  rcases hp with rfl | rfl
  ·show dJ (DY tm 17 _) 7=_
   rw[vG]
   simpa using n
  ·show dJ (DY tm 17 _) 17=_
   rw[vG]
   simp)]
 refine(Cq r _ _ _ _ λg=>?_).h _
 obtain⟨fr,mark,box,row,cap,n1,n2,n3⟩:=u
 have B:=n1.symm
 have z:=n2.symm
 have v:=n3.symm
 have L:(H.get r).isSome=true:=by rw[mark];rfl
 have M:(H.get r7).isSome=true:=by rw[box];rfl
 have F:(H.get q).isSome=true:=by rw[row];rfl
 have G:out.length+1<=17592186044416:=by omega
 have I:(out.length+1) * 8<=140737488355328:=by omega
 have d:(⟨a,b⟩:iI) ∉ out->tB out ⟨a,b⟩=out++[⟨a,b⟩]:=λh=>by unfold tB;rw[if_neg h]
 rcases cap with ⟨rfl,q1,q2,k⟩ | ⟨rfl,m⟩
 ·obtain⟨K,E,D,J⟩:=q
  simp only at q1 q2
  subst q1 q2
  have A:=BC (x := .cD 2 (kz out) none) (Sl.mk _ _) (by omega) a b
  by_cases i:(⟨a,b⟩:iI)∈out
  ·have e:tB out ⟨a,b⟩=out:=by unfold tB;rw[if_pos i]
   simp[ai, *,kp,xw,aa.get_put]
   refine⟨_,rfl,_,none,⟨by simp(maxDischargeDepth:=12) [ek, *],by simp(maxDischargeDepth:=12) [ek, *],by simp(maxDischargeDepth:=12) [ek, *],by simp(maxDischargeDepth:=12) [ek, *],.inl ⟨rfl,rfl,rfl,by first | exact k | (rw[e];exact k)⟩,n1,n2,n3⟩⟩
  ·replace d:=d i
   simp[ai, *,kp,xw,aa.get_put]
   refine⟨_,rfl,⟨2,25,H.gen 2 25,0⟩,none,⟨by simp(maxDischargeDepth:=12) [ek, *],by simp(maxDischargeDepth:=12) [ek, *],by simp(maxDischargeDepth:=12) [ek, *],?_,.inl ⟨rfl,rfl,rfl,by simp[d];omega⟩,by simp(maxDischargeDepth:=12) [ek, *],by simp(maxDischargeDepth:=12) [ek, *],by simp(maxDischargeDepth:=12) [ek, *]⟩⟩
   simp[aa.get_put,kz,d]
 ·have k:out.length<=1/\1<=out.length:=by omega
  clear m
  have A:=BC (x := .cD 2 (kz out) (some out.length)) (.inr ⟨_,rfl,by simp⟩) (by omega) a b
  by_cases i:(⟨a,b⟩:iI)∈out
  ·have e:tB out ⟨a,b⟩=out:=by unfold tB;rw[if_pos i]
   simp[ai, *,kp,xw,aa.get_put]
   refine⟨_,rfl,_,some out.length,⟨by simp(maxDischargeDepth:=12) [ek, *],by simp(maxDischargeDepth:=12) [ek, *],by simp(maxDischargeDepth:=12) [ek, *],by simp(maxDischargeDepth:=12) [ek, *],.inr ⟨by first | rfl | rw[e],by first | omega | (rw[e];omega)⟩,n1,n2,n3⟩⟩
  ·replace d:=d i
   simp[ai, *,kp,xw,aa.get_put]
   refine⟨_,rfl,⟨2,25,H.gen 2 25,0⟩,none,⟨by simp(maxDischargeDepth:=12) [ek, *],by simp(maxDischargeDepth:=12) [ek, *],by simp(maxDischargeDepth:=12) [ek, *],?_,.inl ⟨rfl,rfl,rfl,by simp[d];omega⟩,by simp(maxDischargeDepth:=12) [ek, *],by simp(maxDischargeDepth:=12) [ek, *],by simp(maxDischargeDepth:=12) [ek, *]⟩⟩
   simp[aa.get_put,kz,d]
theorem Kg.cons{r r7 q:Ref}{c:Option Nat}{a:AV}{H:aa}{out:List iI}(h:Kg r r7 q c a H out)(d t:Nat)(b:Option bw):Kg r r7 q c a ((⟨d,t,H.gen d t,0⟩,b) :: H) out:=by
 obtain⟨fr,mark,box,row,cap,n1,n2,n3⟩:=h
 have g:(H.get r).isSome=true:=by rw[mark];rfl
 have i:(H.get r7).isSome=true:=by rw[box];rfl
 have e:(H.get q).isSome=true:=by rw[row];rfl
 exact⟨by simp(maxDischargeDepth:=12) [ek, *],by simp(maxDischargeDepth:=12) [ek, *],by simp(maxDischargeDepth:=12) [ek, *],by simp(maxDischargeDepth:=12) [ek, *],cap,n1,n2,n3⟩
theorem NS{r r7:Ref}{tm:List AV}(Z:dJ tm 7 = .ptr r7 0 0){l:List (aC × AV)}{x9:AV}(f:Sl 17 (cF l) x9)(U : ∀p∈l,J8 p)(j:l.length<100000)(m:UInt8)(h:UInt32)(n:UInt8)(e:Int)(X : -4611686018427387904<e)(Y:e<4611686018427387904)(N:UInt8)(M:UInt32){Q:AV->aa->Prop} :
 ∀(s:List (aC × AV)) (k:Nat) (i:Int) (out:List iI) (q:Ref) (c:Option Nat) (H:aa),l.drop k=s->k<=l.length->i=k->out.length<=k+1 ->
 Kg r r7 q c (.lp 0 27 [17] dL dK tm) H out ->
 (∀y J L H',Kg r r7 J L (.lp 0 27 [17] dL dK tm) H' (wm out (opsOf s) (⟨⟨m,h,n⟩,e⟩:bV) ⟨N,M⟩)->Q y H') ->
 bF env Tryz.f250 (0+1) mB [(11,aI i),(0,.yld r),(3,.iptr 2 [.agg [a8 N,ae M]] 0 0),(2,.iptr 4 [.agg [a8 m,ae h,a8 n,aI e]] 0 0),(9,x9),(10,aI l.length)] H Q:=by
 intro s
 induction s with
 | nil=>
  rintro k i out q c H hs hk rfl ho hI hQ
  obtain rfl:=drop_nil hs hk
  refine vg _ _ _ _ _ _ _ _ _ λg=>?_
  simp[ai, *,iu]
  exact hQ _ _ _ _ hI
 | cons p s V=>
  rintro k i out q c H hs hk rfl ho hI hQ
  obtain⟨hlt,hg,O,hg'⟩:=drop_cons hs
  have hp:=U p (by rw[<-hg];exact mq _)
  obtain⟨⟨K,⟨E,D,F⟩,G,⟨⟨⟨A,z,w⟩,B⟩,d⟩,⟨⟨v,o,t⟩,u⟩,⟨b,a⟩,al⟩,x⟩:=p
  obtain⟨I,hpl⟩:=hp
  simp only at I hpl
  refine vg _ _ _ _ _ _ _ _ _ λg=>?_
  have e3:=IntWalk.i64_in ((k:Int)+1) (by omega)
  have hh:=agA A z w B d m h n e X Y
  have P:=hI.cons 1 6 (some ⟨17,[.agg [a8 K,a8 E,ae D,a8 F,aI G,a8 A,ae z,a8 w,aI B,aI d,a8 v,ae o,a8 t,aI u,a8 b,ae a,x]],false,false⟩)
  have C:wm out (opsOf (((⟨K,⟨E,D,F⟩,G,⟨⟨⟨A,z,w⟩,B⟩,d⟩,⟨⟨v,o,t⟩,u⟩,⟨b,a⟩,al⟩:aC),x) :: s)) (⟨⟨m,h,n⟩,e⟩:bV) ⟨N,M⟩=wm (if ky (⟨K,⟨E,D,F⟩,G,⟨⟨⟨A,z,w⟩,B⟩,d⟩,⟨⟨v,o,t⟩,u⟩,⟨b,a⟩,al⟩:aC) (⟨⟨m,h,n⟩,e⟩:bV) ⟨N,M⟩ then tB out ⟨b,a⟩ else out) (opsOf s) (⟨⟨m,h,n⟩,e⟩:bV) ⟨N,M⟩:=rfl
  have hfr:=hI.fr
  by_cases T:K=3
  rotate_left
  ·have S:ky (⟨K,⟨E,D,F⟩,G,⟨⟨⟨A,z,w⟩,B⟩,d⟩,⟨⟨v,o,t⟩,u⟩,⟨b,a⟩,al⟩:aC) (⟨⟨m,h,n⟩,e⟩:bV) ⟨N,M⟩=false:=by simp[ky,T]
   rw[S,if_neg (by decide)]at C
   cases W:hasB ⟨⟨⟨A,z,w⟩,B⟩,d⟩ (⟨⟨m,h,n⟩,e⟩:bV)<;>simp[ai, *,iu,f.idx,cF,Aw,I.r]
   all_goals exact V (k+1) _ out q c _ O (by omega) (by simp) (by omega) P (λy J L H' R=>hQ y J L H' (by rw[C];exact R))
  ·subst T
   cases W:hasB ⟨⟨⟨A,z,w⟩,B⟩,d⟩ (⟨⟨m,h,n⟩,e⟩:bV) with
   | false=>
    have S:ky (⟨3,⟨E,D,F⟩,G,⟨⟨⟨A,z,w⟩,B⟩,d⟩,⟨⟨v,o,t⟩,u⟩,⟨b,a⟩,al⟩:aC) (⟨⟨m,h,n⟩,e⟩:bV) ⟨N,M⟩=false:=by simp[ky,W]
    rw[S,if_neg (by decide)]at C
    simp[ai, *,iu,f.idx,cF,Aw,I.r]
    exact V (k+1) _ out q c _ O (by omega) (by simp) (by omega) P (λy J L H' R=>hQ y J L H' (by rw[C];exact R))
   | true=>
    cases hq:qS ⟨E,D⟩ ⟨N,M⟩ with
    | false=>
     have S:ky (⟨3,⟨E,D,F⟩,G,⟨⟨⟨A,z,w⟩,B⟩,d⟩,⟨⟨v,o,t⟩,u⟩,⟨b,a⟩,al⟩:aC) (⟨⟨m,h,n⟩,e⟩:bV) ⟨N,M⟩=false:=by simp[ky,W,MB,hq]
     rw[S,if_neg (by decide)]at C
     simp[ai, *,iu,f.idx,cF,Aw,I.r]
     exact V (k+1) _ out q c _ O (by omega) (by simp) (by omega) P (λy J L H' R=>hQ y J L H' (by rw[C];exact R))
    | true=>
     have S:ky (⟨3,⟨E,D,F⟩,G,⟨⟨⟨A,z,w⟩,B⟩,d⟩,⟨⟨v,o,t⟩,u⟩,⟨b,a⟩,al⟩:aC) (⟨⟨m,h,n⟩,e⟩:bV) ⟨N,M⟩=true:=by simp[ky,W,MB,hq]
     rw[S,if_pos rfl]at C
     obtain⟨y,H',hy,rfl,J,L,hI'⟩:=QT rfl Z P (by omega) b a
     simp[ai, *,iu,f.idx,cF,Aw,I.r,Pa]
     exact V (k+1) _ _ J L _ O (by omega) (by simp) (by have:=Po out ⟨b,a⟩;omega) hI' (λy J L H' R=>hQ y J L H' (by rw[C];exact R))
theorem Qu{r r7 q:Ref}{c:Option Nat}{tm:List AV}{H:aa}{out:List iI}(m:dJ tm 7 = .ptr r7 0 0){l:List (aC × AV)}{x:AV}(f:Sl 17 (cF l) x)(h : ∀p∈l,J8 p)(j:l.length<100000)(e:UInt8)(d:UInt32)(b:UInt8)(a:Int)(t : -4611686018427387904<a)(k:a<4611686018427387904)(n:UInt8)(o:UInt32)
 (z:out.length<=1) (w:Kg r r7 q c (.lp 0 27 [17] dL dK tm) H out) :
 ∃y H',bD env 0 (.fn 250) [.yld r,.iptr 1 [x] 0 0,.iptr 4 [.agg [a8 e,ae d,a8 b,aI a]] 0 0,.iptr 2 [.agg [a8 n,ae o]] 0 0] H=some (y,H') /\∃i u,Kg r r7 i u (.lp 0 27 [17] dL dK tm) H' (wm out (opsOf l) (⟨⟨e,d,b⟩,a⟩:bV) ⟨n,o⟩):=by
 refine mJ (fn:=Tryz.f250) (c:=EM) (by kernel_rfl) (by kernel_rfl) (by kernel_rfl) (by kernel_rfl) (by kernel_rfl) ?_
 refine DO _ _ _ _ _ _ _ λg=>?_
 simp[ai, *,xO,f.r]
 exact NS m f h j e d b a t k n o l 0 _ out q c H rfl (by omega) rfl (by omega) w (λy i u H' v=>⟨i,u,v⟩)
theorem Yl:ke = .code (.rangeFunc (.tmp 16) #[17] dL dK) :: vj:=by kernel_rfl
def Jw(out:List iI):Option Nat:=if out.length=1 then some 1 else none
theorem SN{l:List (aC × AV)}{x:AV}(f:Sl 17 (cF l) x)(b:UInt8)(c:UInt32)(a:UInt8)(d:Int)(e:UInt8)(h:UInt32):ak env 249 [x,.agg [a8 b,ae c,a8 a,aI d],.agg [a8 e,ae h]]=some (.fn (.func 250) [] [.iptr 1 [x] 0 0,.iptr 4 [.agg [a8 b,ae c,a8 a,aI d]] 0 0,.iptr 2 [.agg [a8 e,ae h]] 0 0]):=by
 refine an rfl (by kernel_rfl) (GD _ _ _ _ _ λg=>?_)
 simp[ai, *,A7,f.r]
theorem abl{l:List (aC × AV)}{x:AV}(f:Sl 17 (cF l) x)(n : ∀p∈l,J8 p)(j:l.length<100000)(b:UInt8)(a:UInt32)(e:UInt8)(d:Int)(w : -4611686018427387904<d)(t:d<4611686018427387904)(i:UInt8)(k:UInt32) :
 ak env 247 [x,.agg [a8 b,ae a,a8 e,aI d],.agg [a8 i,ae k]]=some (.cD 2 (kz (qm (opsOf l) (⟨⟨b,a,e⟩,d⟩:bV) ⟨i,k⟩)) (Jw (qm (opsOf l) (⟨⟨b,a,e⟩,d⟩:bV) ⟨i,k⟩))):=by
 refine an rfl (by kernel_rfl) (JW _ _ _ _ _ λg=>?_)
 have K:=SN f b a e d i k
 have o : ∀ {r r7 q c m H out},Kg r r7 q c m H out->c=Jw out:=by
  intro r r7 q c m H out h
  rcases h.cap with ⟨z,_,_,v⟩ | ⟨z,v⟩
  ·rw[z,Jw,if_neg (by omega)]
  ·rw[z,Jw,if_pos v,v]
 simp[ai, *,CX,f.r]
 rw[Yl]
 refine⟨λG=>Q7 (gi:=250) (first:=[]) (captured:=[.iptr 1 [x] 0 0,.iptr 4 [.agg [a8 b,ae a,a8 e,aI d]] 0 0,.iptr 2 [.agg [a8 i,ae k]] 0 0]) rfl ?_⟩
 intro tm I
 have C:dJ tm 7 = .ptr ⟨0,7,0,0⟩ 0 0:=(I 7).trans rfl
 rw[show Tryz.f247.ntmps=27 from by kernel_rfl]
 obtain⟨y,H',D,J,L,hm⟩:=Qu (r:=⟨0,27,0,0⟩) (r7:=⟨0,7,0,0⟩) (q:=⟨0,12,0,0⟩) (c:=some 1) (tm:=tm) (out:=[⟨b,a⟩])
  (H:=(⟨0,27,0,0⟩,some (kV 0 (.lp 0 27 [17] dL dK tm))) :: [(⟨0,7,0,0⟩,some ⟨1,[.cG ⟨0,12,0,0⟩ 0 1 (some 1)],false,false⟩),(⟨0,12,0,0⟩,some ⟨2,[.agg [a8 b,ae a]],true,false⟩),(⟨0,5,0,0⟩,some ⟨2,[.agg [a8 i,ae k]],false,false⟩),(⟨0,4,0,0⟩,some ⟨4,[.agg [a8 b,ae a,a8 e,aI d]],false,false⟩)])
  C f n j b a e d w t i k (by simp) ⟨by simp(maxDischargeDepth:=12) [CZ, *],by simp,by simp,by simp[kz],.inr ⟨rfl,rfl⟩,by decide,by decide,by decide⟩
 refine⟨y,H',0,_,by simpa using D,by simp only[aa.OK,aa.Y1];rw[xw];exact(congrArg lpO hm.mark).trans (Es _ _),.inl ⟨rfl,?_⟩⟩
 have F:=Oe (s:=QM G [(16,AV.fn (.func 250) [] [.iptr 1 [x] 0 0,.iptr 4 [.agg [a8 b,ae a,a8 e,aI d]] 0 0,.iptr 2 [.agg [a8 i,ae k]] 0 0]),(7,AV.ptr ⟨0,7,0,0⟩ 0 0)]) (l:=[(7,AV.ptr ⟨0,7,0,0⟩ 0 0)]) (by
  intro p hp
  simp only[nB,E3,or_false]at hp
  subst hp
  rfl)
 rw[<-F]
 refine(By _ _ _ λg=>?_).h _
 have n1:(⟨0,7,0,0⟩:Ref)≠⟨0,27,0,0⟩:=hm.n1
 have n2:=hm.n2
 have B:=hm.box
 have u:=hm.row
 have E:=o hm
 subst E
 have A:(wm [⟨b,a⟩] (opsOf l) (⟨⟨b,a,e⟩,d⟩:bV) ⟨i,k⟩)=qm (opsOf l) (⟨⟨b,a,e⟩,d⟩:bV) ⟨i,k⟩:=rfl
 rw[A]at B u
 simp[ai, *,uV,aa.get_put]
end
section
attribute [local simp] aG ay aw aF aE bQ gX aM aA aD bI bH bn aN aj bf fe
theorem Sj(out:List iI):Sl 2 (kz out) (.cD 2 (kz out) (Jw out)):=by
 refine .inr ⟨_,rfl,?_⟩
 unfold Jw
 split
 ·rename_i h;simp[h]
 ·simp
def qz(l:List aC)(o:aC):Nat->Nat->Bool
 | 0,_=>true
 | n+1,k=>decide (MB o∈qm l ⟨o.s.f.h,o.s.f.n+(k:Int)⟩ (MB o))&&qz l o n (k+1)
theorem KQ(l:List aC)(i:bV)(v:iI):(qm l i v).length<=1+l.length:=Tz l i v [Pu i]
theorem TQ{l:List (aC × AV)}{x0:AV}(b:Sl 17 (cF l) x0)(a : ∀p∈l,J8 p)(d:l.length<100000)(C:UInt8)(h:UInt8)(f:UInt32)(B:UInt8)(D:Int)(o:UInt8)(m:UInt32)(j:UInt8)(q:Int)(c:Int)(A:UInt8)(t:UInt32)(v:UInt8)(z:Int)(w:UInt8)(u:UInt32){al:List Int}{x:AV}(E:Sl 1 (rows al) x)(J:eJ ⟨⟨⟨o,m,j⟩,q⟩,c⟩=true){Q:AV->aa->Prop}{r3:Ref} :
 ∀(n k:Nat)(i:Int)(right:Bool)(H:aa),(k:Int)+n=c->i=k->Fr H->H.get r3=some ⟨17,[.agg [a8 C,a8 h,ae f,a8 B,aI D,a8 o,ae m,a8 j,aI q,aI c,a8 A,ae t,a8 v,aI z,a8 w,ae u,x]],false,false⟩->(k=0\/right=true) ->
 (∀y H',y=aB (right&&qz (opsOf l) (⟨C,⟨h,f,B⟩,D,⟨⟨⟨o,m,j⟩,q⟩,c⟩,⟨⟨A,t,v⟩,z⟩,⟨w,u⟩,al⟩:aC) n k)->Q y H') ->
 bF env Tryz.f244 0 qN [(21,aI i),(3,.ptr r3 0 0),(0,x0),(5,aB right),(20,aI c)] H Q:=by
 have K:=gI J
 simp only at K
 intro n
 induction n with
 | zero=>
  rintro k i right H hk rfl hF hB hr hQ
  refine AU _ _ _ _ _ _ _ λg=>?_
  have F : ¬(k:Int)<c:=by omega
  simp[ai, *,nN]
  all_goals exact hQ _ _ (by simp[qz])
 | succ n M=>
  rintro k i right H hk rfl hF hB hr hQ
  refine AU _ _ _ _ _ _ _ λg=>?_
  have F:(k:Int)<c:=by omega
  have N:=IntWalk.i64_in ((k:Int)+1) (by omega)
  have O:XH ⟨⟨⟨o,m,j⟩,q⟩,c⟩ (k:Int)=0:=by
   unfold XH
   rw[if_pos J,if_neg]
   simp only
   omega
  have R:=abl b a d o m j (q+k) (by omega) (by omega) h f
  have L:=KQ (opsOf l) ⟨⟨o,m,j⟩,q+k⟩ ⟨h,f⟩
  have P:=BC (Sj (qm (opsOf l) ⟨⟨o,m,j⟩,q+k⟩ ⟨h,f⟩)) (by rw[show(opsOf l).length=l.length from uD _]at L;omega) h f
  have I:qz (opsOf l) (⟨C,⟨h,f,B⟩,D,⟨⟨⟨o,m,j⟩,q⟩,c⟩,⟨⟨A,t,v⟩,z⟩,⟨w,u⟩,al⟩:aC) (n+1) k=(decide ((⟨h,f⟩:iI)∈qm (opsOf l) ⟨⟨o,m,j⟩,q+k⟩ ⟨h,f⟩)&&qz (opsOf l) (⟨C,⟨h,f,B⟩,D,⟨⟨⟨o,m,j⟩,q⟩,c⟩,⟨⟨A,t,v⟩,z⟩,⟨w,u⟩,al⟩:aC) n (k+1)):=rfl
  rw[I]at hQ
  clear I K
  cases right with
  | false=>
   simp[ai, *,nN,b.r,E.r]
   all_goals exact hQ _ _ (by simp)
  | true=>
   by_cases G:(⟨h,f⟩:iI)∈qm (opsOf l) ⟨⟨o,m,j⟩,q+k⟩ ⟨h,f⟩
   ·simp[ai, *,nN,b.r,E.r]
    exact M (k+1) _ true _ (by omega) (by simp) (by simp(maxDischargeDepth:=12) [CZ, *]) (by simp(maxDischargeDepth:=12) [CZ, *]) (.inr rfl) (λy H' e=>hQ y H' (by rw[e];simp[G]))
   ·simp[ai, *,nN,b.r,E.r]
    all_goals exact hQ _ _ (by simp[G])
theorem OO(l:List aC)(o:aC)(e:o.kind=3):kZ l o=(qS (MB o) o.to&&qz l o o.s.many.toNat 0):=by
 unfold kZ
 rw[if_pos e]
 congr 1
 have key : ∀n k,qz l o n k=(List.range n).all (λj=>decide (MB o∈qm l ⟨o.s.f.h,o.s.f.n+((k+j:Nat):Int)⟩ (MB o))):=by
  intro n
  induction n with
  | zero=>intro k;rfl
  | succ n c=>
   intro k
   rw[qz,c,PT,Br,List.all_map]
   congr 1
   congr 1
   funext j
   simp only[Function.comp,PJ]
   rw[show k+1+j=k+(j+1) by omega]
 rw[key]
 simp
theorem U8{l:List (aC × AV)}{x0:AV}(b:Sl 17 (cF l) x0)(a : ∀p∈l,J8 p)(d:l.length<100000)(v:UInt8)(A:UInt8)(u:UInt32)(z:UInt8)(w:Int)(n:UInt8)(t:UInt32)(o:UInt8)(q:Int)(c:Int)(j:UInt8)(h:UInt32)(k:UInt8)(f:Int)(m:UInt8)(i:UInt32){al:List Int}{x:AV}(B:Sl 1 (rows al) x)(D:eJ ⟨⟨⟨n,t,o⟩,q⟩,c⟩=true) :
 ak env 244 [x0,.agg [a8 v,a8 A,ae u,a8 z,aI w,a8 n,ae t,a8 o,aI q,aI c,a8 j,ae h,a8 k,aI f,a8 m,ae i,x]]=some (aB (kZ (opsOf l) (⟨v,⟨A,u,z⟩,w,⟨⟨⟨n,t,o⟩,q⟩,c⟩,⟨⟨j,h,k⟩,f⟩,⟨m,i⟩,al⟩:aC))):=by
 refine an rfl (by kernel_rfl) (JX _ _ _ _ λg=>?_)
 by_cases C:v=3
 ·subst C
  rw[OO _ _ rfl]
  have E:=gI D
  simp only at E
  simp[ai, *,yB,b.r,B.r]
  exact TQ b a d 3 A u z w n t o q c j h k f m i B D c.toNat 0 _ _ _ (by omega) rfl (by simp(maxDischargeDepth:=12) [CZ, *]) (by simp) (.inl rfl) (λy H' e=>by rw[e];simp[MB])
 ·have e:kZ (opsOf l) (⟨v,⟨A,u,z⟩,w,⟨⟨⟨n,t,o⟩,q⟩,c⟩,⟨⟨j,h,k⟩,f⟩,⟨m,i⟩,al⟩:aC)=true:=by unfold kZ;rw[if_neg C]
  simp[ai, *,yB,B.r]
theorem Qp(s t:List aC) : ∀l,lV l (s++t)=(lV l s&&lV (l++s) t):=by
 induction s with
 | nil=>intro l;simp[lV]
 | cons o s c=>
  intro l
  show(lT o&&kZ l o&&lV (l++[o]) (s++t))=(lT o&&kZ l o&&lV (l++[o]) s&&lV (l++o :: s) t)
  rw[c,Dv,List.singleton_append]
  simp only[yK]
theorem kU{o:aC}(h:lT o=true):eJ o.s=true:=by
 simp only[lT,aY]at h
 exact h.2.2.2.1
theorem Rf{l:List (aC × AV)}{x0:AV}(b:Sl 17 (cF l) x0)(a : ∀p∈l,J8 p)(d:l.length<100000){Q:AV->aa->Prop} :
 ∀(s:List (aC × AV)) (k:Nat) (i:Int) (H:aa),l.drop k=s->k<=l.length->i=k->Fr H ->
 (∀y H',y=aI (bad (lV (opsOf (l.take k)) (opsOf s)))->Q y H') ->
 bF env Tryz.f243 0 px [(10,aI i),(0,x0),(8,x0),(9,aI l.length)] H Q:=by
 intro s
 induction s with
 | nil=>
  rintro k i H hs hk rfl hF hQ
  obtain rfl:=drop_nil hs hk
  refine yQ _ _ _ _ _ _ λg=>?_
  simp[ai, *,mS]
  all_goals exact hQ _ _ rfl
 | cons p s Z=>
  rintro k i H hs hk rfl hF hQ
  obtain⟨K,T,N,P⟩:=drop_cons hs
  have hp:=a p (by rw[<-T];exact mq _)
  obtain⟨⟨A,⟨D,u,v⟩,C,⟨⟨⟨z,w,t⟩,B⟩,o⟩,⟨⟨q,f,j⟩,n⟩,⟨m,h⟩,al⟩,x⟩:=p
  obtain⟨E,J⟩:=hp
  simp only at E J
  refine yQ _ _ _ _ _ _ λg=>?_
  have e3:=IntWalk.i64_in ((k:Int)+1) (by omega)
  have hc:=mF A D u v C z w t B o q f j n m h E J
  have X:Sl 17 (cF (l.take k)) (.cD 17 (cF (l.take k)) none):=Sl.mk _ _
  obtain⟨c,rfl,F⟩:=b.YU (by intro e;have:=congrArg List.length e;simp at this;subst this;simp at K)
  have G:l.take (k+1)=l.take k++[((⟨A,⟨D,u,v⟩,C,⟨⟨⟨z,w,t⟩,B⟩,o⟩,⟨⟨q,f,j⟩,n⟩,⟨m,h⟩,al⟩:aC),x)]:=by rw[List.take_succ_eq_append_getElem K,T]
  have U:lV (opsOf (l.take k)) (opsOf (((⟨A,⟨D,u,v⟩,C,⟨⟨⟨z,w,t⟩,B⟩,o⟩,⟨⟨q,f,j⟩,n⟩,⟨m,h⟩,al⟩:aC),x) :: s))=(lT (⟨A,⟨D,u,v⟩,C,⟨⟨⟨z,w,t⟩,B⟩,o⟩,⟨⟨q,f,j⟩,n⟩,⟨m,h⟩,al⟩:aC)&&kZ (opsOf (l.take k)) (⟨A,⟨D,u,v⟩,C,⟨⟨⟨z,w,t⟩,B⟩,o⟩,⟨⟨q,f,j⟩,n⟩,⟨m,h⟩,al⟩:aC)&&lV (opsOf (l.take (k+1))) (opsOf s)):=by
   rw[G]
   show(_&&lV (opsOf (l.take k)++[_]) (opsOf s))=_
   simp only[opsOf,He,uC,Lf]
  rw[U]at hQ
  have I:(l.take k).length<100000:=by rw[uG];omega
  have Y:(cF l).take k=cF (l.take k):=by simp[cF,Lg]
  have k1:(k:Int)<=l.length:=by omega
  have k2:(0:Int)<=k:=by omega
  have V:cm (cF l) k 0 17 true=some (.agg [a8 A,a8 D,ae u,a8 v,aI C,a8 z,ae w,a8 t,aI B,aI o,a8 q,ae f,a8 j,aI n,a8 m,ae h,x]):=by simp[cF,Aw,P]
  clear U G
  cases L:lT (⟨A,⟨D,u,v⟩,C,⟨⟨⟨z,w,t⟩,B⟩,o⟩,⟨⟨q,f,j⟩,n⟩,⟨m,h⟩,al⟩:aC) with
  | false=>
   simp[ai, *,mS,b.r,b.idx,E.r]
   all_goals exact hQ _ _ (by simp[L,bad])
  | true=>
   have W:k<=c.getD k:=by
    cases c with
    | none=>exact de _
    | some c=>simp only[cY,jN]at F ⊢;omega
   have hf : ∀M:Option Nat,k<=M.getD k->ak env 244 [.cD 17 (cF (l.take k)) M,.agg [a8 A,a8 D,ae u,a8 v,aI C,a8 z,ae w,a8 t,aI B,aI o,a8 q,ae f,a8 j,aI n,a8 m,ae h,x]]=some (aB (kZ (opsOf (l.take k)) (⟨A,⟨D,u,v⟩,C,⟨⟨⟨z,w,t⟩,B⟩,o⟩,⟨⟨q,f,j⟩,n⟩,⟨m,h⟩,al⟩:aC))):=by
    intro M O
    have R:(cF (l.take k)).length=k:=by rw[jN,uG];omega
    exact U8 (.inr ⟨M,rfl,by rw[R];exact O⟩) (λp hp=>a p (AQ hp)) I A D u v C z w t B o q f j n m h E (kU L)
   cases S:kZ (opsOf (l.take k)) (⟨A,⟨D,u,v⟩,C,⟨⟨⟨z,w,t⟩,B⟩,o⟩,⟨⟨q,f,j⟩,n⟩,⟨m,h⟩,al⟩:aC) with
   | false=>
    simp[ai, *,mS,b.r,b.idx,E.r]
    all_goals exact hQ _ _ (by simp[L,S,bad])
   | true=>
    simp[ai, *,mS,b.r,b.idx,E.r]
    exact Z (k+1) _ _ N (by omega) (by simp) (by simp(maxDischargeDepth:=12) [CZ, *]) (λy H' e=>hQ y H' (by rw[e];simp[L,S]))
section
variable{l:List (aC × AV)}{x0:AV}(b:Sl 17 (cF l) x0)(a : ∀p∈l,J8 p)(d:l.length<100000)
include b a d
theorem S9:ak env 243 [x0]=some (aI (qV (opsOf l))):=by
 refine an rfl (by kernel_rfl) (Ib _ _ _ λg=>?_)
 have j:=b.len
 have c:(opsOf l).length=l.length:=uD _
 by_cases h:2048<l.length
 ·have f:(2048:Int)<l.length:=by omega
  have e:qV (opsOf l)=4:=by unfold qV;rw[if_pos (by rw[c];exact h)]
  simp[ai, *,wM,b.r]
 ·have f : ¬(2048:Int)<l.length:=by omega
  have e:qV (opsOf l)=bad (lV [] (opsOf l)):=by unfold qV bad;rw[if_neg (by rw[c];exact h)]
  simp[ai, *,wM,b.r]
  exact Rf b a d l 0 _ _ rfl (by omega) rfl Fr.nil (λy H' i=>by rw[i];simp[opsOf])
theorem VG(t:UInt8)(z:UInt8)(q:UInt32)(w:UInt8)(v:Int)(n:UInt8)(y:UInt32)(o:UInt8)(u:Int)(e:Int)(j:UInt8)(f:UInt32)(k:UInt8)(c:Int)(m:UInt8)(i:UInt32){al:List Int}{x:AV}(A:Sl 1 (rows al) x)(B:al.length<2000000):ak env 235 [x0,.agg [a8 t,a8 z,ae q,a8 w,aI v,a8 n,ae y,a8 o,aI u,aI e,a8 j,ae f,a8 k,aI c,a8 m,ae i,x]] =
 some (if qV (opsOf l)=0 then (if lT (⟨t,⟨z,q,w⟩,v,⟨⟨⟨n,y,o⟩,u⟩,e⟩,⟨⟨j,f,k⟩,c⟩,⟨m,i⟩,al⟩:aC) then .tup [aB (kZ (opsOf l) (⟨t,⟨z,q,w⟩,v,⟨⟨⟨n,y,o⟩,u⟩,e⟩,⟨⟨j,f,k⟩,c⟩,⟨m,i⟩,al⟩:aC)),aI 0] else .tup [aB false,aI 8]) else .tup [aB false,aI (qV (opsOf l))]):=by
 refine an rfl (by kernel_rfl) (JY _ _ _ _ λg=>?_)
 have F:=S9 b a d
 have E:=mF t z q w v n y o u e j f k c m i A B
 by_cases h:qV (opsOf l)=0
 ·rw[if_pos h]
  cases C:lT (⟨t,⟨z,q,w⟩,v,⟨⟨⟨n,y,o⟩,u⟩,e⟩,⟨⟨j,f,k⟩,c⟩,⟨m,i⟩,al⟩:aC) with
  | false=>simp[ai, *,uA,b.r,A.r]
  | true=>
   have D:=U8 b a d t z q w v n y o u e j f k c m i A (kU C)
   simp[ai, *,uA,b.r,A.r]
 ·rw[if_neg h]
  simp[ai, *,uA,b.r,A.r]
end
end
section
attribute [local simp] aG ay aw aF aE bQ gX aM aA aD bI bH bn aN aj bf fe
def bsO(z:Nat)(a:AV)(H:aa)(r:Ref)(n:Nat)(b:List (Nat × AV))(refs:List Ref):dz:=match jb (List.replicate n a) b with
 | some es=>some (.cG r 0 n (some n),(r,some ⟨z,es,true,false⟩) :: cH H refs)
 | none=>none
theorem zE{P:Program}{a:Bool}{t:TypeId}(o:qU P t=true)(H:aa)(d g f:Nat)(n:Nat)(ps:List (Nat × AV))(i:n * oE P t<=16777216)(x:(eb H.get ps).isSome=true)
 (k:((eb H.get ps).getD []).all (λp=>p.2.cells.length == oE P t&&p.2.cells.all AV.one)=true) (b:(jb (List.replicate n (jZ P t)) ((eb H.get ps).getD [])).isSome=true) (h:kB H.get (ck H.get (ps.map (·.2)))=false) :
 nJ P a true H ⟨d,g,f,0⟩ t n (some ps)=bsO (oE P t) (jZ P t) H ⟨d,g,f,0⟩ n ((eb H.get ps).getD []) (ck H.get (ps.map (·.2))):=by
 obtain⟨ws,hw⟩:=gU.1 x
 rw[hw,cY]at k b ⊢
 obtain⟨es,b⟩:=gU.1 b
 unfold qU at o
 obtain⟨e,u,l,y,A,m,v,z,q,B⟩:=lO o
 have j:jZ P t=u:=by unfold jZ;rw[l,fN,m];rfl
 rw[j]at b ⊢
 have c:mkSlice P H.get t n ps=some ⟨oE P t,es,true,false⟩:=by
  simp only[mkSlice,l,hw,m,y]
  rw[if_pos ⟨CA q,i,v,z,by simpa using k⟩,b]
  rfl
 have w:iB P a H.get ⟨d,g,f,0⟩ t n (some ps)=none:=by
  simp only[iB,h,mr,if_false]
 unfold nJ bsO
 rw[w,b]
 simp only[na,GN,cond_true,kH,c,Option.map_some]
attribute [local simp] zE bsO eb
def vD(o:aC):List UInt8:=[o.kind]++(jY o.h++(be 3 o.serial++(kX o.s.f++[u8 o.s.many])))
theorem aky(n:Int):be 3 n=[u8 (n / 65536),u8 (n / 256),u8 n]:=by simp[MF]
theorem IA(c:UInt8)(h:mz)(a:Int)(f:bV)(b:Int):ak env 209 [.cD 1 [.cD 1 [a8 c] (some 1),.cD 1 (kr (jY h)) none,.cD 1 [a8 (u8 (a / 65536)),a8 (u8 (a / 256)),a8 (u8 a)] (some 3),.cD 1 (kr (kX f)) none,.cD 1 [a8 (u8 b)] (some 1)] (some 5)] =
 some (.fsl 1 (kr ([c]++(jY h++(be 3 a++(kX f++[u8 b]))))) none):=by
 have e:lM [([c],AV.cD 1 [a8 c] (some 1)),(jY h,.cD 1 (kr (jY h)) none),(be 3 a,.cD 1 [a8 (u8 (a / 65536)),a8 (u8 (a / 256)),a8 (u8 a)] (some 3)),(kX f,.cD 1 (kr (kX f)) none),([u8 b],.cD 1 [a8 (u8 b)] (some 1))]=[c]++(jY h++(be 3 a++(kX f++[u8 b]))):=by
  simp only[lM,AP,HB,uE]
 rw[<-e]
 refine NJ (ps:=[([c],AV.cD 1 [a8 c] (some 1)),(jY h,.cD 1 (kr (jY h)) none),(be 3 a,.cD 1 [a8 (u8 (a / 65536)),a8 (u8 (a / 256)),a8 (u8 a)] (some 3)),(kX f,.cD 1 (kr (kX f)) none),([u8 b],.cD 1 [a8 (u8 b)] (some 1))]) (.inr ⟨some 5,rfl,by simp⟩) ?_ (by simp) (by rw[e];simp) (by rw[e];simp)
 intro p hp
 simp only[nB,E3,or_false]at hp
 rcases hp with rfl | rfl | rfl | rfl | rfl
 ·exact .inr ⟨some 1,rfl,by simp⟩
 ·exact Sl.mk _ _
 ·exact .inr ⟨some 3,by rw[aky];rfl,by simp⟩
 ·exact Sl.mk _ _
 ·exact .inr ⟨some 1,rfl,by simp⟩
theorem Vw(q:UInt8)(p:UInt8)(k:UInt32)(n:UInt8)(t:Int)(i:UInt8)(o:UInt32)(j:UInt8)(m:Int)(a:Int)(e:UInt8)(c:UInt32)(f:UInt8)(b:Int)(h:UInt8)(d:UInt32){x:AV}{l:List Int}(v:Sl 1 (rows l) x)(y:l.length<2000000)(u:lT (⟨q,⟨p,k,n⟩,t,⟨⟨⟨i,o,j⟩,m⟩,a⟩,⟨⟨e,c,f⟩,b⟩,⟨h,d⟩,l⟩:aC)=true)(z:q=2):ak env 163 [.agg [a8 q,a8 p,ae k,a8 n,aI t,a8 i,ae o,a8 j,aI m,aI a,a8 e,ae c,a8 f,aI b,a8 h,ae d,x]]=some (.tup [.cD 1 (kr (vD (⟨q,⟨p,k,n⟩,t,⟨⟨⟨i,o,j⟩,m⟩,a⟩,⟨⟨e,c,f⟩,b⟩,⟨h,d⟩,l⟩:aC))) none,aI 0]):=by
 refine an rfl (by kernel_rfl) (B7 _ _ _ λg=>?_)
 have w:=mF q p k n t i o j m a e c f b h d v y
 rw[u]at w
 have C:dZ ⟨p,k,n⟩=true:=by simp only[lT,aY]at u;exact u.1
 have B:FB ⟨⟨i,o,j⟩,m⟩=true:=by
  simp only[lT,aY]at u
  have:=u.2.2.2.1
  simp only[eJ,aY]at this
  exact this.1
 clear u
 subst z
 have A:=IA 2 ⟨p,k,n⟩ t ⟨⟨i,o,j⟩,m⟩ a
 unfold vD
 simp[ai, *,vL,v.r,bad,gC,fJ]
theorem Vv(u:UInt8)(m:UInt8)(h:UInt32)(j:UInt8)(n:Int)(d:UInt8)(k:UInt32)(f:UInt8)(i:Int)(c:Int)(q:UInt8)(p:UInt32)(t:UInt8)(o:Int)(b:UInt8)(a:UInt32){x:AV}{l:List Int}(A:Sl 1 (rows l) x)(F:l.length<2000000)(v:lT (⟨u,⟨m,h,j⟩,n,⟨⟨⟨d,k,f⟩,i⟩,c⟩,⟨⟨q,p,t⟩,o⟩,⟨b,a⟩,l⟩:aC)=true)(G:u=3):ak env 163 [.agg [a8 u,a8 m,ae h,a8 j,aI n,a8 d,ae k,a8 f,aI i,aI c,a8 q,ae p,a8 t,aI o,a8 b,ae a,x]]=some (.tup [.cD 1 (kr (vD (⟨u,⟨m,h,j⟩,n,⟨⟨⟨d,k,f⟩,i⟩,c⟩,⟨⟨q,p,t⟩,o⟩,⟨b,a⟩,l⟩:aC)++(b :: be 4 a.toNat))) none,aI 0]):=by
 refine an rfl (by kernel_rfl) (B7 _ _ _ λg=>?_)
 have E:=mF u m h j n d k f i c q p t o b a A F
 rw[v]at E
 subst G
 have J:dZ ⟨m,h,j⟩=true:=by simp only[lT,aY]at v;exact v.1
 have I:FB ⟨⟨d,k,f⟩,i⟩=true:=by
  simp only[lT,aY]at v
  have:=v.2.2.2.1
  simp only[eJ,aY]at this
  exact this.1
 have z:dZ ⟨b,a,0⟩=true:=by
  simp only[lT,aY]at v
  have:=v.2.2.2.2
  simp only[C9,LY]at this
  simp at this
  simp[dZ,this]
 clear v
 have H:=IA 3 ⟨m,h,j⟩ n ⟨⟨d,k,f⟩,i⟩ c
 unfold vD
 have B:jY ⟨b,a,0⟩=b :: (be 4 a.toNat++[0]):=rfl
 have w:(kr ([(3:UInt8)]++(jY ⟨m,h,j⟩++(be 3 n++(kX ⟨⟨d,k,f⟩,i⟩++[u8 c]))))).length=24:=by simp
 have y:=ND b a 0
 rw[if_pos z,B,Rm]at y
 rw[Rm]
 rw[show kr (([(3:UInt8)]++(jY ⟨m,h,j⟩++(be 3 n++(kX ⟨⟨d,k,f⟩,i⟩++[u8 c]))))++[b,u8 (↑a.toNat / 16777216),u8 (↑a.toNat / 65536),u8 (↑a.toNat / 256),u8 ↑a.toNat])=kr ([(3:UInt8)]++(jY ⟨m,h,j⟩++(be 3 n++(kX ⟨⟨d,k,f⟩,i⟩++[u8 c]))))++[a8 b,a8 (u8 (↑a.toNat / 16777216)),a8 (u8 (↑a.toNat / 65536)),a8 (u8 (↑a.toNat / 256)),a8 (u8 ↑a.toNat)] from He ..]
 have D:kr ([(3:UInt8)]++(jY ⟨m,h,j⟩++(be 3 n++(kX ⟨⟨d,k,f⟩,i⟩++[u8 c]))))≠[]:=by intro e;rw[e]at w;cases w
 generalize kr ([(3:UInt8)]++(jY ⟨m,h,j⟩++(be 3 n++(kX ⟨⟨d,k,f⟩,i⟩++[u8 c]))))=C at *
 clear z B
 simp[ai, *,vL,A.r,bad,gC,fJ]
 rfl
theorem RH(C A R:List UInt8)(a:Option Nat)(b:A.length<=a.getD A.length)(d:0<C.length)(c:C.length+A.length+R.length<1000000):ak env 209 [.cD 1 [.cD 1 (kr C) none,.cD 1 (kr A) a,.cD 1 (kr R) none] (some 3)]=some (.fsl 1 (kr (C++(A++R))) none):=by
 have e:lM [(C,AV.cD 1 (kr C) none),(A,.cD 1 (kr A) a),(R,.cD 1 (kr R) none)]=C++(A++R):=by
  simp only[lM,AP,HB,uE]
 rw[<-e]
 refine NJ (ps:=[(C,AV.cD 1 (kr C) none),(A,.cD 1 (kr A) a),(R,.cD 1 (kr R) none)]) (.inr ⟨some 3,rfl,by simp⟩) ?_ (by simp) (by rw[e];simp;omega) (by rw[e];simp;omega)
 intro p hp
 simp only[nB,E3,or_false]at hp
 rcases hp with rfl | rfl | rfl
 ·exact Sl.mk _ _
 ·exact .inr ⟨a,rfl,by simpa using b⟩
 ·exact Sl.mk _ _
theorem Vu(m:UInt8)(t:UInt8)(k:UInt32)(p:UInt8)(o:Int)(i:UInt8)(q:UInt32)(j:UInt8)(n:Int)(b:Int)(e:UInt8)(c:UInt32)(f:UInt8)(a:Int)(h:UInt8)(d:UInt32){x:AV}{l:List Int}(v:Sl 1 (rows l) x)(y:l.length<2000000)(u:lT (⟨m,⟨t,k,p⟩,o,⟨⟨⟨i,q,j⟩,n⟩,b⟩,⟨⟨e,c,f⟩,a⟩,⟨h,d⟩,l⟩:aC)=false):ak env 163 [.agg [a8 m,a8 t,ae k,a8 p,aI o,a8 i,ae q,a8 j,aI n,aI b,a8 e,ae c,a8 f,aI a,a8 h,ae d,x]]=some (.tup [ba,aI 8]):=by
 refine an rfl (by kernel_rfl) (B7 _ _ _ λg=>?_)
 have w:=mF m t k p o i q j n b e c f a h d v y
 rw[u]at w
 clear u
 simp[ai, *,vL,v.r,bad]
@[simp] theorem akk(r:Ref):Gb env.P r 170 (some (.v (.int .i64 13))) (some (.v (.int .i64 13)))=some (.cG r 0 13 none,[⟨1,[a8 0,a8 0,a8 0,a8 0,a8 0,a8 0,a8 0,a8 0,a8 0,a8 0,a8 0,a8 0,a8 0],true,false⟩]):=by kernel_rfl
theorem Tt{o:aC}(h:lT o=true):eJ o.s=true:=by
 simp only[lT,aY]at h
 exact h.2.2.2.1
theorem abu{l:List Int}(h:LU l=true):Cr l=0/\l.length<=64 /\∀n∈l, -2147483648<=n/\n<=2147483647:=by
 simp only[LU,aY,decide_eq_true_eq]at h
 refine⟨by unfold Cr;rw[if_neg (by omega),if_pos h.2],h.1,λn a=>?_⟩
 have:=gy.1 h.2 n a
 simp only[pJ,fv,aY,decide_eq_true_eq]at this
 omega
def BV(a:bV):List UInt8:=if gx a then List.replicate 13 0 else kX a
theorem Vx(v:UInt8)(o:UInt8)(j:UInt32)(m:UInt8)(p:Int)(h:UInt8)(n:UInt32)(i:UInt8)(k:Int)(f:Int)(c:UInt8)(b:UInt32)(d:UInt8)(a:Int)(u:UInt8)(t:UInt32){x:AV}{l:List Int}(D:Sl 1 (rows l) x)(N:l.length<2000000)(z:lT (⟨v,⟨o,j,m⟩,p,⟨⟨⟨h,n,i⟩,k⟩,f⟩,⟨⟨c,b,d⟩,a⟩,⟨u,t⟩,l⟩:aC)=true)(O:v=1):ak env 163 [.agg [a8 v,a8 o,ae j,a8 m,aI p,a8 h,ae n,a8 i,aI k,aI f,a8 c,ae b,a8 d,aI a,a8 u,ae t,x]]=some (.tup [.cD 1 (kr (vD (⟨v,⟨o,j,m⟩,p,⟨⟨⟨h,n,i⟩,k⟩,f⟩,⟨⟨c,b,d⟩,a⟩,⟨u,t⟩,l⟩:aC)++(BV ⟨⟨c,b,d⟩,a⟩++fQ l))) none,aI 0]):=by
 refine an rfl (by kernel_rfl) (B7 _ _ _ λg=>?_)
 have L:=mF v o j m p h n i k f c b d a u t D N
 rw[z]at L
 subst O
 have V:dZ ⟨o,j,m⟩=true:=by simp only[lT,aY]at z;exact z.1
 have B:=Tt z
 have U:FB ⟨⟨h,n,i⟩,k⟩=true:=by
  have:=B
  simp only[eJ,aY]at this
  exact this.1
 obtain⟨F,hlen,w⟩:(gx ⟨⟨c,b,d⟩,a⟩||FB ⟨⟨c,b,d⟩,a⟩)=true/\(l.length:Int)=f/\LU l=true:=by
  simp only[lT,aY]at z
  have:=z.2.2.2.2
  simp[C9,I7]at this
  refine⟨by simpa using this.2.1,this.2.2.2.1,this.2.2.2.2⟩
 obtain⟨I,M,G⟩:=abu w
 have H:=gI B
 simp only at H
 have y:=X8 D (by omega) G
 rw[if_pos I]at y
 have P:=Al l
 have E:kr (fQ l)≠[]:=by
  intro e
  have:=congrArg List.length e
  have S:(kr (fQ l)).length=(fQ l).length:=by simp
  simp only[Hf]at this
  omega
 rw[xp 1 E]at y
 clear z w I G H
 have T:=IA 1 ⟨o,j,m⟩ p ⟨⟨h,n,i⟩,k⟩ f
 unfold vD
 have K:([(1:UInt8)]++(jY ⟨o,j,m⟩++(be 3 p++(kX ⟨⟨h,n,i⟩,k⟩++[u8 f])))).length=24:=by simp
 generalize ([(1:UInt8)]++(jY ⟨o,j,m⟩++(be 3 p++(kX ⟨⟨h,n,i⟩,k⟩++[u8 f]))))=C at *
 generalize fQ l=R at *
 cases q:gx ⟨⟨c,b,d⟩,a⟩ with
 | true=>
  have J:=RH C (List.replicate 13 0) R none (by simp) (by omega) (by simp;omega)
  rw[show BV ⟨⟨c,b,d⟩,a⟩=List.replicate 13 0 by unfold BV;rw[if_pos q]]
  obtain⟨⟨⟨rfl,rfl⟩,rfl⟩,rfl⟩:((c=0/\b=0)/\d=0)/\a=0:=by simpa [gx] using q
  have A:kr (List.replicate 13 0)=[a8 0,a8 0,a8 0,a8 0,a8 0,a8 0,a8 0,a8 0,a8 0,a8 0,a8 0,a8 0,a8 0]:=rfl
  rw[A]at J
  generalize kr (C++(List.replicate 13 0++R))=W at *
  clear q F hlen
  simp[ai, *,vL,D.r,bad,gC,fJ,fw,bM]
 | false=>
  rw[q,E1]at F
  have J:=RH C (kX ⟨⟨c,b,d⟩,a⟩) R none (by simp) (by omega) (by simp;omega)
  rw[show BV ⟨⟨c,b,d⟩,a⟩=kX ⟨⟨c,b,d⟩,a⟩ by unfold BV;rw[if_neg (by rw[q];decide)]]
  generalize kr (C++(kX ⟨⟨c,b,d⟩,a⟩++R))=W at *
  have Q:(decide (c=0)&&decide (b=0)&&decide (d=0)&&decide (a=0))=false:=q
  clear q hlen
  simp[ai, *,vL,D.r,bad,gC,fJ,fw,bM]
end
section
attribute [local simp] aG ay aw aF aE bQ gX aM aA aD bI bH bn aN aj bf fe
theorem FJ{f:FuncId}(a:(env.mode f == 2)=true)(dep:Nat)(H:aa)(r:Ref)(first args captured:List AV) :
 aL env true (ak env) (bD env dep) H r (some (.fn (.func f) first captured)) args=bD env dep (.fn f) (first++args++captured) H:=by
 have h:env.mode f=2:=by simpa using a
 simp[aL,kJ,nC,na,GN,h]
end
section
def vA(o:aC):List UInt8:=vD o++(if o.kind=1 then BV o.a++fQ o.l else if o.kind=3 then o.to.lv :: be 4 o.to.cats.toNat else [])
theorem O6(o:aC):(vD o).length=24:=by simp[vD]
theorem Fs{o:aC}(h:lT o=true):1<=o.serial/\o.serial<16777216/\(1<=o.s.f.n/\o.s.f.n<=1099511627776)/\1<=o.s.many/\o.s.many<=64 /\
 ((o.kind=1/\o.to=⟨0,0⟩/\(o.a=rZ\/(1<=o.a.n/\o.a.n<=1099511627776))/\(o.l.length:Int)=o.s.many/\LU o.l=true)\/(o.kind=2/\o.to=⟨0,0⟩/\o.a=rZ/\o.l=[])\/(o.kind=3/\o.a=rZ/\o.l=[]/\o.to.lv<=15)):=by
 simp only[lT,aY,decide_eq_true_eq]at h
 obtain⟨u,p,i,g,hm⟩:=h
 have c:=gI g
 have m:=KV (UX g)
 refine⟨p,i,m,c.2.1,c.2.2.1,?_⟩
 have d : ∀t:iI,w7 t=true->t=⟨0,0⟩:=by
  rintro⟨a,b⟩ h;simp[w7]at h;rw[h.1,h.2]
 unfold C9 at hm
 split at hm
 ·rename_i q
  simp only[I7,aY,fv,decide_eq_true_eq]at hm
  refine .inl ⟨q,d _ hm.1,?_,hm.2.2.2.1,hm.2.2.2.2⟩
  rcases hm.2.1 with e | e
  ·exact .inl ((yI _).1 e)
  ·exact .inr (KV e)
 ·split at hm
  ·rename_i j
   simp only[O5,zI,aY,decide_eq_true_eq]at hm
   exact .inr (.inl ⟨j,d _ hm.1,(yI _).1 hm.2.1,hm.2.2⟩)
  ·split at hm
   ·rename_i k
    simp only[LY,zI,aY,decide_eq_true_eq]at hm
    exact .inr (.inr ⟨k,(yI _).1 hm.1.1,hm.1.2,hm.2⟩)
   ·cases hm
def Nv(o:aC):Nat:=if o.kind=1 then 37+4 * o.s.many.toNat else if o.kind=3 then 29 else 24
theorem Rr(a:bV):(BV a).length=13:=by unfold BV;split<;>simp
theorem Od{o:aC}(h:lT o=true):(vA o).length=Nv o:=by
 have hp:=Fs h
 unfold vA Nv
 rw[pH,O6]
 rcases hp.2.2.2.2.2 with ⟨k,_,_,a,_⟩ | ⟨k,_⟩ | ⟨k,_⟩
 ·rw[if_pos k,if_pos k,pH,Rr,Al];omega
 ·rw[k];rfl
 ·rw[k];simp
end
section
attribute [local simp] aG ay aw aF aE bQ gX aM aA aD bI bH bn aN aj bf fe
theorem Nu{o:aC}(h:lT o=true):24<=Nv o/\Nv o<=293:=by
 have hp:=Fs h
 unfold Nv
 split
 ·omega
 ·split<;>omega
def abP(o:aC):AV:=if lT o then .tup [.cD 1 (kr (vA o)) none,aI 0] else .tup [ba,aI 8]
theorem Ye(k:UInt8)(q:UInt8)(j:UInt32)(o:UInt8)(n:Int)(h:UInt8)(p:UInt32)(i:UInt8)(m:Int)(b:Int)(e:UInt8)(c:UInt32)(f:UInt8)(a:Int)(g:UInt8)(d:UInt32){x:AV}{l:List Int}(v:Sl 1 (rows l) x)(w:l.length<2000000):ak env 163 [.agg [a8 k,a8 q,ae j,a8 o,aI n,a8 h,ae p,a8 i,aI m,aI b,a8 e,ae c,a8 f,aI a,a8 g,ae d,x]]=some (abP (⟨k,⟨q,j,o⟩,n,⟨⟨⟨h,p,i⟩,m⟩,b⟩,⟨⟨e,c,f⟩,a⟩,⟨g,d⟩,l⟩:aC)):=by
 unfold abP
 cases u:lT (⟨k,⟨q,j,o⟩,n,⟨⟨⟨h,p,i⟩,m⟩,b⟩,⟨⟨e,c,f⟩,a⟩,⟨g,d⟩,l⟩:aC) with
 | false=>rw[Vu k q j o n h p i m b e c f a g d v w u];rfl
 | true=>
  have hp:=Fs u
  rw[if_pos rfl]
  unfold vA
  rcases hp.2.2.2.2.2 with ⟨t,_⟩ | ⟨t,_⟩ | ⟨t,_⟩
  ·rw[Vx k q j o n h p i m b e c f a g d v w u t,if_pos t]
  ·simp only at t
   rw[Vw k q j o n h p i m b e c f a g d v w u t,if_neg (by simp[t]),if_neg (by simp[t]),uE]
  ·simp only at t
   rw[Vv k q j o n h p i m b e c f a g d v w u t,if_neg (by simp[t]),if_pos t]
def Jt(v:UInt8)(c:UInt32)(ok:Bool):Bool:=decide (v<=15)&&(ok||(decide (v=0)&&decide (c=0)))
def yn(a:Int)(v:UInt8)(c:UInt32)(ok:Bool):Bool:=decide (0<=a)&&decide (a<8)&&Jt v c ok
@[simp] theorem NG(a:Int)(v:UInt8)(c:UInt32)(ok:Bool):ak env 202 [.agg [aI a,a8 v,ae c,aB ok]]=some (aI (bad (yn a v c ok))):=by
 refine an rfl (by kernel_rfl) (Ia _ _ _ λg=>?_)
 cases ok
 ·simp[ai, *,wL,fw,bM]
  repeat' ((first | apply iV<;>intro h | apply fZ<;>intro h | apply ga<;>intro h | apply fX<;>intro h | apply fY<;>intro h)<;>(try simp only[decide_eq_true_eq,decide_eq_false_iff_not,dN,kG,aY,fv]at h)<;>(try simp[ai, *,fw,bM,yn,Jt,bad]))
  all_goals (try grind)
 ·simp[ai, *,wL,fw,bM]
  repeat' ((first | apply iV<;>intro h | apply fZ<;>intro h | apply ga<;>intro h | apply fX<;>intro h | apply fY<;>intro h)<;>(try simp only[decide_eq_true_eq,decide_eq_false_iff_not,dN,kG,aY,fv]at h)<;>(try simp[ai, *,fw,bM,yn,Jt,bad]))
  all_goals (try grind)
def Jh(a:Int)(v:UInt8)(c:UInt32)(ok:Bool):List UInt8:=u8 a :: (if ok then 1 else 0) :: v :: be 4 c.toNat
@[simp] theorem akb(a:Int)(v:UInt8)(c:UInt32)(ok:Bool):ak env 164 [.agg [aI a,a8 v,ae c,aB ok]]=some (if yn a v c ok then .tup [.cD 1 (kr (Jh a v c ok)) none,aI 0] else .tup [ba,aI 8]):=by
 refine an rfl (by kernel_rfl) (LC _ _ _ λg=>?_)
 by_cases h:yn a v c ok=true
 ·have b:v<=15:=by simp[yn,Jt]at h;exact h.2.1
  have d:dZ ⟨v,c,0⟩=true:=by simp[dZ,b]
  cases ok<;>simp[ai, *,AI,bad,Jh,jY,kr,Rm]
 ·simp at h
  simp[ai, *,AI,bad]
structure bW where
 kind:UInt8
 user:Int
 op:aC
 code:Int
 gu:Int
 gv:UInt8
 gc:UInt32
 gok:Bool
def m0(a b:bW):Bool:=decide (a.kind=b.kind)&&(decide (a.user=b.user)&&(nF a.op b.op&&(decide (a.code=b.code)&&(decide (a.gu=b.gu)&&(decide (a.gv=b.gv)&&decide (a.gc=b.gc)&&decide (a.gok=b.gok))))))
theorem SY(S O:UInt8)(N P:Int)(I:UInt8)(M:UInt8)(v:UInt32)(A:UInt8)(K:Int)(G:UInt8)(B:UInt32)(t:UInt8)(J:Int)(j:Int)(o:UInt8)(a:UInt32)(f:UInt8)(i:Int)(h:UInt8)(b:UInt32)(D:UInt8)(w:UInt8)(H:UInt32)(E:UInt8)(u:Int)(C:UInt8)(L:UInt32)(z:UInt8)(F:Int)(e:Int)(p:UInt8)(d:UInt32)(k:UInt8)(c:Int)(q:UInt8)(n:UInt32)(Q R V g2:Int)(v1 X:UInt8)(Y w2:UInt32)(Z T:Bool){x y:AV}{l m:List Int}(W:Sl 1 (rows l) x)(U:Sl 1 (rows m) y)(hl:l.length<1000000000) :
 ak env 165 [.agg [a8 S,aI N,a8 I,a8 M,ae v,a8 A,aI K,a8 G,ae B,a8 t,aI J,aI j,a8 o,ae a,a8 f,aI i,a8 h,ae b,x,aI Q,aI V,a8 v1,ae Y,aB Z],.agg [a8 O,aI P,a8 D,a8 w,ae H,a8 E,aI u,a8 C,ae L,a8 z,aI F,aI e,a8 p,ae d,a8 k,aI c,a8 q,ae n,y,aI R,aI g2,a8 X,ae w2,aB T]] =
  some (aB (m0 ⟨S,N,(⟨I,⟨M,v,A⟩,K,⟨⟨⟨G,B,t⟩,J⟩,j⟩,⟨⟨o,a,f⟩,i⟩,⟨h,b⟩,l⟩:aC),Q,V,v1,Y,Z⟩ ⟨O,P,(⟨D,⟨w,H,E⟩,u,⟨⟨⟨C,L,z⟩,F⟩,e⟩,⟨⟨p,d,k⟩,c⟩,⟨q,n⟩,m⟩:aC),R,g2,X,w2,T⟩)):=by
 refine an rfl (by kernel_rfl) (HU _ _ _ _ λg=>?_)
 have hq:=Vt I M v A K G B t J j o a f i h b D w H E u C L z F e p d k c q n W U hl
 have hr:=W.r
 have hr2:=U.r
 unfold m0
 cases e1:decide (S=O) with
 | false=>simp[ai, *,mO,fw,bM]
 | true=>
 cases e2:decide (N=P) with
 | false=>simp[ai, *,mO,fw,bM]
 | true=>
 cases e3:nF (⟨I,⟨M,v,A⟩,K,⟨⟨⟨G,B,t⟩,J⟩,j⟩,⟨⟨o,a,f⟩,i⟩,⟨h,b⟩,l⟩:aC) (⟨D,⟨w,H,E⟩,u,⟨⟨⟨C,L,z⟩,F⟩,e⟩,⟨⟨p,d,k⟩,c⟩,⟨q,n⟩,m⟩:aC) with
 | false=>simp[ai, *,mO,fw,bM]
 | true=>
 cases e4:decide (Q=R) with
 | false=>simp[ai, *,mO,fw,bM]
 | true=>simp[ai, *,mO,fw,bM]
def vP:aC:=⟨0,⟨0,0,0⟩,0,⟨⟨⟨0,0,0⟩,0⟩,0⟩,⟨⟨0,0,0⟩,0⟩,⟨0,0⟩,[]⟩
def HI(r:bW):bW:=if r.kind=1 then ⟨1,r.user, { vP with h:=r.op.h},0,0,0,0,false⟩ else if r.kind=2 then ⟨2,0,r.op,r.code,0,0,0,false⟩ else ⟨r.kind,0,vP,0,r.gu,r.gv,r.gc,r.gok⟩
def ew(r:bW):Bool:=if r.kind=1 then (decide (0<=r.user)&&decide (r.user<=255))&&(dZ r.op.h&&m0 r (HI r)) else if r.kind=2 then (!decide (-1∈r.op.l)&&decide (0<=r.code)&&decide (r.code<65536))&&(lT r.op&&m0 r (HI r)) else if r.kind=3 then yn r.gu r.gv r.gc r.gok&&m0 r (HI r) else false
def J1(r:bW):AV:=if r.kind=1 then .cD 1 (kr (r.kind :: ((if dZ r.op.h then jY r.op.h else [])++[u8 r.user]))) none
 else if r.kind=2 then .cD 1 (kr (r.kind :: ([u8 (r.code / 256),u8 r.code]++(if lT r.op then vA r.op else [])))) none
 else if r.kind=3 then (if yn r.gu r.gv r.gc r.gok then .cD 1 (kr (r.kind :: Jh r.gu r.gv r.gc r.gok)) none else .cD 1 [a8 r.kind] (some 1)) else .cD 1 [a8 r.kind] (some 1)
set_option maxHeartbeats 800000 in
theorem Qk(k:UInt8)(u:Int)(B:UInt8)(q:UInt8)(n:UInt32)(p:UInt8)(D:Int)(A:UInt8)(z:UInt32)(t:UInt8)(C:Int)(i:Int)(j:UInt8)(a:UInt32)(d:UInt8)(f:Int)(e:UInt8)(b:UInt32)(c E:Int)(v:UInt8)(w:UInt32)(o:Bool){x:AV}{l:List Int}(J:Sl 1 (rows l) x)(hl:l.length<2000000) :
 ak env 101 [.agg [a8 k,aI u,a8 B,a8 q,ae n,a8 p,aI D,a8 A,ae z,a8 t,aI C,aI i,a8 j,ae a,a8 d,aI f,a8 e,ae b,x,aI c,aI E,a8 v,ae w,aB o]]=some (.tup [J1 ⟨k,u,(⟨B,⟨q,n,p⟩,D,⟨⟨⟨A,z,t⟩,C⟩,i⟩,⟨⟨j,a,d⟩,f⟩,⟨e,b⟩,l⟩:aC),c,E,v,w,o⟩,aB (ew ⟨k,u,(⟨B,⟨q,n,p⟩,D,⟨⟨⟨A,z,t⟩,C⟩,i⟩,⟨⟨j,a,d⟩,f⟩,⟨e,b⟩,l⟩:aC),c,E,v,w,o⟩)]):=by
 refine an rfl (by kernel_rfl) (rR _ _ _ λg=>?_)
 have hr:=J.r
 have F:=λk' u' (X:UInt8) (U:UInt8) (b_3:UInt32) (Y:UInt8) (T:Int) (W:UInt8) (b_7:UInt32) (V:UInt8) (Z:Int) (M:Int) (Q:UInt8) (L:UInt32) (N:UInt8) (K:Int) (P:UInt8) (O:UInt32) c' g' v' w' o' (y:AV) (m:List Int) (hy:Sl 1 (rows m) y)=>SY k k' u u' B q n p D A z t C i j a d f e b X U b_3 Y T W b_7 V Z M Q L N K P O c c' E g' v v' w w' o o' J hy (by omega)
 by_cases k1:k=1
 ·subst k1
  have hs:=F 1 u 0 q n p 0 0 0 0 0 0 0 0 0 0 0 0 0 0 0 0 false ba [] (.inl ⟨rfl,rfl⟩)
  have H:ew ⟨1,u,(⟨B,⟨q,n,p⟩,D,⟨⟨⟨A,z,t⟩,C⟩,i⟩,⟨⟨j,a,d⟩,f⟩,⟨e,b⟩,l⟩:aC),c,E,v,w,o⟩=((decide (0<=u)&&decide (u<=255))&&(dZ ⟨q,n,p⟩&&m0 ⟨1,u,(⟨B,⟨q,n,p⟩,D,⟨⟨⟨A,z,t⟩,C⟩,i⟩,⟨⟨j,a,d⟩,f⟩,⟨e,b⟩,l⟩:aC),c,E,v,w,o⟩ ⟨1,u,⟨0,⟨q,n,p⟩,0,⟨⟨⟨0,0,0⟩,0⟩,0⟩,⟨⟨0,0,0⟩,0⟩,⟨0,0⟩,[]⟩,0,0,0,0,false⟩)):=rfl
  have G:J1 ⟨1,u,(⟨B,⟨q,n,p⟩,D,⟨⟨⟨A,z,t⟩,C⟩,i⟩,⟨⟨j,a,d⟩,f⟩,⟨e,b⟩,l⟩:aC),c,E,v,w,o⟩ = .cD 1 (kr (1 :: ((if dZ ⟨q,n,p⟩ then jY ⟨q,n,p⟩ else [])++[u8 u]))) none:=rfl
  rw[H,G]
  clear F H G
  generalize m0 ⟨1,u,(⟨B,⟨q,n,p⟩,D,⟨⟨⟨A,z,t⟩,C⟩,i⟩,⟨⟨j,a,d⟩,f⟩,⟨e,b⟩,l⟩:aC),c,E,v,w,o⟩ ⟨1,u,⟨0,⟨q,n,p⟩,0,⟨⟨⟨0,0,0⟩,0⟩,0⟩,⟨⟨0,0,0⟩,0⟩,⟨0,0⟩,[]⟩,0,0,0,0,false⟩=sm at *
  cases R:dZ ⟨q,n,p⟩<;>by_cases c0:0<=u<;>by_cases c2:u<=255
  all_goals simp[ai, *,ct,jY,kr,Rm]
 ·by_cases S:k=2
  ·subst S
   have hs:=F 2 0 B q n p D A z t C i j a d f e b c 0 0 0 false x l J
   have H:ew ⟨2,u,(⟨B,⟨q,n,p⟩,D,⟨⟨⟨A,z,t⟩,C⟩,i⟩,⟨⟨j,a,d⟩,f⟩,⟨e,b⟩,l⟩:aC),c,E,v,w,o⟩=((!decide (-1∈l)&&decide (0<=c)&&decide (c<65536))&&(lT (⟨B,⟨q,n,p⟩,D,⟨⟨⟨A,z,t⟩,C⟩,i⟩,⟨⟨j,a,d⟩,f⟩,⟨e,b⟩,l⟩:aC)&&m0 ⟨2,u,(⟨B,⟨q,n,p⟩,D,⟨⟨⟨A,z,t⟩,C⟩,i⟩,⟨⟨j,a,d⟩,f⟩,⟨e,b⟩,l⟩:aC),c,E,v,w,o⟩ ⟨2,0,(⟨B,⟨q,n,p⟩,D,⟨⟨⟨A,z,t⟩,C⟩,i⟩,⟨⟨j,a,d⟩,f⟩,⟨e,b⟩,l⟩:aC),c,0,0,0,false⟩)):=rfl
   have G:J1 ⟨2,u,(⟨B,⟨q,n,p⟩,D,⟨⟨⟨A,z,t⟩,C⟩,i⟩,⟨⟨j,a,d⟩,f⟩,⟨e,b⟩,l⟩:aC),c,E,v,w,o⟩ = .cD 1 (kr (2 :: ([u8 (c / 256),u8 c]++(if lT (⟨B,⟨q,n,p⟩,D,⟨⟨⟨A,z,t⟩,C⟩,i⟩,⟨⟨j,a,d⟩,f⟩,⟨e,b⟩,l⟩:aC) then vA (⟨B,⟨q,n,p⟩,D,⟨⟨⟨A,z,t⟩,C⟩,i⟩,⟨⟨j,a,d⟩,f⟩,⟨e,b⟩,l⟩:aC) else [])))) none:=rfl
   have hP:=KC B q n p D A z t C i j a d f e b J (by omega)
   have hB:=Ye B q n p D A z t C i j a d f e b J hl
   rw[H,G]
   unfold abP at hB
   have I:lT (⟨B,⟨q,n,p⟩,D,⟨⟨⟨A,z,t⟩,C⟩,i⟩,⟨⟨j,a,d⟩,f⟩,⟨e,b⟩,l⟩:aC)=true->(vA (⟨B,⟨q,n,p⟩,D,⟨⟨⟨A,z,t⟩,C⟩,i⟩,⟨⟨j,a,d⟩,f⟩,⟨e,b⟩,l⟩:aC)).length<=293/\24<=(vA (⟨B,⟨q,n,p⟩,D,⟨⟨⟨A,z,t⟩,C⟩,i⟩,⟨⟨j,a,d⟩,f⟩,⟨e,b⟩,l⟩:aC)).length:=λh=>by rw[Od h];exact⟨(Nu h).2,(Nu h).1⟩
   clear F H G
   generalize m0 ⟨2,u,(⟨B,⟨q,n,p⟩,D,⟨⟨⟨A,z,t⟩,C⟩,i⟩,⟨⟨j,a,d⟩,f⟩,⟨e,b⟩,l⟩:aC),c,E,v,w,o⟩ ⟨2,0,(⟨B,⟨q,n,p⟩,D,⟨⟨⟨A,z,t⟩,C⟩,i⟩,⟨⟨j,a,d⟩,f⟩,⟨e,b⟩,l⟩:aC),c,0,0,0,false⟩=sm at *
   generalize vA (⟨B,⟨q,n,p⟩,D,⟨⟨⟨A,z,t⟩,C⟩,i⟩,⟨⟨j,a,d⟩,f⟩,⟨e,b⟩,l⟩:aC)=bs at *
   generalize decide (-1∈l)=pl at *
   cases R:lT (⟨B,⟨q,n,p⟩,D,⟨⟨⟨A,z,t⟩,C⟩,i⟩,⟨⟨j,a,d⟩,f⟩,⟨e,b⟩,l⟩:aC) with
   | false=>
    rw[R,if_neg (by decide)]at hB
    clear I
    cases pl<;>by_cases c0:0<=c<;>by_cases c2:c<65536
    all_goals simp[ai, *,ct,kr,gC,fJ]
   | true=>
    rw[R,if_pos rfl]at hB
    have hl2:=I R
    have f1:bs.length+1<=140737488355328/\bs.length+1+1<=140737488355328/\bs.length+1+1+1<=140737488355328:=by omega
    have f0:2+bs.length=bs.length+1+1:=by omega
    have f3:1+(bs.length+1+1)<=140737488355328/\1+(bs.length+1+1)=bs.length+1+1+1:=by omega
    have f2:2+bs.length<=140737488355328/\1+(2+bs.length)<=140737488355328/\2<2+bs.length/\0<bs.length:=by omega
    have hne:bs≠[]:=by rintro rfl;simp at f2
    clear I
    cases pl<;>by_cases c0:0<=c<;>by_cases c2:c<65536
    all_goals simp[ai, *,ct,kr,gC,fJ]
  ·by_cases k3:k=3
   ·subst k3
    have hs:=F 3 0 0 0 0 0 0 0 0 0 0 0 0 0 0 0 0 0 0 E v w o ba [] (.inl ⟨rfl,rfl⟩)
    have H:ew ⟨3,u,(⟨B,⟨q,n,p⟩,D,⟨⟨⟨A,z,t⟩,C⟩,i⟩,⟨⟨j,a,d⟩,f⟩,⟨e,b⟩,l⟩:aC),c,E,v,w,o⟩=(yn E v w o&&m0 ⟨3,u,(⟨B,⟨q,n,p⟩,D,⟨⟨⟨A,z,t⟩,C⟩,i⟩,⟨⟨j,a,d⟩,f⟩,⟨e,b⟩,l⟩:aC),c,E,v,w,o⟩ ⟨3,0,⟨0,⟨0,0,0⟩,0,⟨⟨⟨0,0,0⟩,0⟩,0⟩,⟨⟨0,0,0⟩,0⟩,⟨0,0⟩,[]⟩,0,E,v,w,o⟩):=rfl
    have G:J1 ⟨3,u,(⟨B,⟨q,n,p⟩,D,⟨⟨⟨A,z,t⟩,C⟩,i⟩,⟨⟨j,a,d⟩,f⟩,⟨e,b⟩,l⟩:aC),c,E,v,w,o⟩=if yn E v w o then .cD 1 (kr (3 :: Jh E v w o)) none else .cD 1 [a8 3] (some 1):=rfl
    rw[H,G]
    clear F H G
    generalize m0 ⟨3,u,(⟨B,⟨q,n,p⟩,D,⟨⟨⟨A,z,t⟩,C⟩,i⟩,⟨⟨j,a,d⟩,f⟩,⟨e,b⟩,l⟩:aC),c,E,v,w,o⟩ ⟨3,0,⟨0,⟨0,0,0⟩,0,⟨⟨⟨0,0,0⟩,0⟩,0⟩,⟨⟨0,0,0⟩,0⟩,⟨0,0⟩,[]⟩,0,E,v,w,o⟩=sm at *
    cases R:yn E v w o
    all_goals simp[ai, *,ct,Jh,kr,Rm]
   ·have H:ew ⟨k,u,(⟨B,⟨q,n,p⟩,D,⟨⟨⟨A,z,t⟩,C⟩,i⟩,⟨⟨j,a,d⟩,f⟩,⟨e,b⟩,l⟩:aC),c,E,v,w,o⟩=false:=by unfold ew;rw[if_neg k1,if_neg S,if_neg k3]
    have G:J1 ⟨k,u,(⟨B,⟨q,n,p⟩,D,⟨⟨⟨A,z,t⟩,C⟩,i⟩,⟨⟨j,a,d⟩,f⟩,⟨e,b⟩,l⟩:aC),c,E,v,w,o⟩ = .cD 1 [a8 k] (some 1):=by unfold J1;rw[if_neg k1,if_neg S,if_neg k3]
    rw[H,G]
    clear F H G
    simp[ai, *,ct]
def bW.val(r:bW)(x:AV):AV := .agg [a8 r.kind,aI r.user,a8 r.op.kind,a8 r.op.h.lv,ae r.op.h.cats,a8 r.op.h.num,aI r.op.serial,a8 r.op.s.f.h.lv,ae r.op.s.f.h.cats,a8 r.op.s.f.h.num,aI r.op.s.f.n,aI r.op.s.many,
 a8 r.op.a.h.lv,ae r.op.a.h.cats,a8 r.op.a.h.num,aI r.op.a.n,a8 r.op.to.lv,ae r.op.to.cats,x,aI r.code,aI r.gu,a8 r.gv,ae r.gc,aB r.gok]
def tA(p:bW × AV):Prop:=Sl 1 (rows p.1.op.l) p.2/\p.1.op.l.length<1000000
def bu(l:List (bW × AV)):List AV:=l.map λp=>p.1.val p.2
@[simp] theorem eY(l:List (bW × AV)):(bu l).length=l.length:=by simp[bu]
theorem Qj{p:bW × AV}(hp:tA p):ak env 82 [p.1.val p.2]=some (aI (if ew p.1 then 0 else 8)):=by
 obtain⟨⟨k,u,⟨t,⟨D,q,B⟩,A,⟨⟨⟨m,C,n⟩,y⟩,d⟩,⟨⟨h,e,i⟩,a⟩,⟨j,f⟩,l⟩,c,E,v,w,o⟩,x⟩:=p
 obtain⟨F,H⟩:=hp
 simp only at F H
 refine an rfl (by kernel_rfl) (Gy _ _ _ λg=>?_)
 have J:=Qk k u t D q B A m C n y d h e i a j f c E v w o F (by omega)
 have I:=F.r
 have G:J1 ⟨k,u,(⟨t,⟨D,q,B⟩,A,⟨⟨⟨m,C,n⟩,y⟩,d⟩,⟨⟨h,e,i⟩,a⟩,⟨j,f⟩,l⟩:aC),c,E,v,w,o⟩ = .cD 1 [a8 k] (some 1) \/∃es,J1 ⟨k,u,(⟨t,⟨D,q,B⟩,A,⟨⟨⟨m,C,n⟩,y⟩,d⟩,⟨⟨h,e,i⟩,a⟩,⟨j,f⟩,l⟩:aC),c,E,v,w,o⟩ = .cD 1 es none:=by
  unfold J1
  repeat' (split)
  all_goals (first | exact .inl rfl | exact .inr ⟨_,rfl⟩)
 generalize J1 ⟨k,u,(⟨t,⟨D,q,B⟩,A,⟨⟨⟨m,C,n⟩,y⟩,d⟩,⟨⟨h,e,i⟩,a⟩,⟨j,f⟩,l⟩:aC),c,E,v,w,o⟩=z at *
 unfold bW.val
 generalize ew ⟨k,u,(⟨t,⟨D,q,B⟩,A,⟨⟨⟨m,C,n⟩,y⟩,d⟩,⟨⟨h,e,i⟩,a⟩,⟨j,f⟩,l⟩:aC),c,E,v,w,o⟩=b at *
 rcases G with rfl | ⟨es,rfl⟩<;>cases b<;>simp[ai, *,A2]
def tE:AV->AV
 | .cD z [] _ => .cD z [] (some 0)
 | .cD z es _ => .cD z es none
 | x=>x
theorem Nn(z:Nat){es:List AV}(c:Option Nat)(h:es≠[]):tE (.cD z es c) = .cD z es none:=by
 cases es with
 | nil=>exact absurd rfl h
 | cons _ _=>rfl
theorem Vs(n:UInt8)(u:UInt8)(m:UInt32)(q:UInt8)(p:Int)(j:UInt8)(t:UInt32)(k:UInt8)(o:Int)(b:Int)(e:UInt8)(c:UInt32)(f:UInt8)(a:Int)(i:UInt8)(d:UInt32){x:AV}{l:List Int}(A:Sl 1 (rows l) x)(D:l.length<1000000) : ∃y,y=tE x/\Sl 1 (rows l) y/\ak env 108 [.agg [a8 n,a8 u,ae m,a8 q,aI p,a8 j,ae t,a8 k,aI o,aI b,a8 e,ae c,a8 f,aI a,a8 i,ae d,x]]=some (.agg [a8 n,a8 u,ae m,a8 q,aI p,a8 j,ae t,a8 k,aI o,aI b,a8 e,ae c,a8 f,aI a,a8 i,ae d,y]):=by
 have v:=Fi A (by omega) (by omega)
 rcases A with ⟨rfl,h⟩ | ⟨B,rfl,z⟩
 ·refine⟨ba,rfl,.inl ⟨rfl,h⟩,?_⟩
  refine an rfl (by kernel_rfl) (C2 _ _ _ λg=>?_)
  rw[O8]at v
  simp[ai, *,AG]
 ·by_cases w:rows l=[]
  ·rw[w]at v z ⊢
   refine⟨.cD 1 [] (some 0),rfl,.inr ⟨_,rfl,by simp⟩,?_⟩
   refine an rfl (by kernel_rfl) (C2 _ _ _ λg=>?_)
   rw[Re]at v
   simp[ai, *,AG]
  ·refine⟨.cD 1 (rows l) none,(Nn 1 B w).symm,Sl.mk _ _,?_⟩
   rw[rE 1 B w]at v
   have C:(rows l).length=l.length:=by simp
   generalize rows l=rw' at *
   refine an rfl (by kernel_rfl) (C2 _ _ _ λg=>?_)
   simp[ai, *,AG]
theorem Ya{p:bW × AV}(hp:tA p) : ∃y,y=tE p.2/\Sl 1 (rows p.1.op.l) y/\ak env 161 [p.1.val p.2]=some (p.1.val y):=by
 obtain⟨⟨k,u,⟨t,⟨D,q,B⟩,A,⟨⟨⟨j,C,m⟩,z⟩,b⟩,⟨⟨f,d,h⟩,a⟩,⟨i,e⟩,l⟩,c,J,v,w,o⟩,x⟩:=p
 obtain⟨n,F⟩:=hp
 simp only at n F
 obtain⟨y,G,E,K⟩:=Vs t D q B A j C m z b f d h a i e n F
 refine⟨y,G,E,?_⟩
 clear G
 refine an rfl (by kernel_rfl) (HT _ _ _ λg=>?_)
 unfold bW.val
 have I:=n.r
 have H:=E.r
 simp[ai, *,BW]
end
end Go.Proofs.YtmkmimgokagimaaGreat
namespace Go.Proofs.YtmkmimgokagimaaGreat
open Go.Ab Go.ChangeShapes Go.WideShapes Go.RowKit
theorem ahB:env.Ok (De env):=Sg Wl (by kernel_rfl) acH (λf t h=>by cases h) (λf args H y H' h=>by cases h)
theorem Yo:Pv env.P 58 (λ_=>True) (λp:UInt8 × UInt32 × Bool=>[a8 p.1,ae p.2.1,aB p.2.2]):=by
 intro n xs h
 have h:=mE (P:=env.P) Gm h
 obtain⟨m,x,r,rfl,c,y,r',rfl,a,rfl⟩:=h
 obtain⟨q,_,rfl⟩:=D8 _ _ c
 obtain⟨b,_,rfl⟩:=NN (P:=env.P) (t:=4) (by simp) _ _ a
 exact⟨(q.1,q.2,b),trivial,rfl⟩
def akc(p:bW × AV):List AV:=[a8 p.1.kind,aI p.1.user]++(aa0 (p.1.op,p.2)++[aI p.1.code,aI p.1.gu,a8 p.1.gv,ae p.1.gc,aB p.1.gok])
theorem aby:Pv env.P 58 (λ_=>True) Clear.enc:=by
 intro n xs h
 have h:=mE (P:=env.P) Gm h
 obtain⟨m,x,r,rfl,c,y,r',rfl,a,rfl⟩:=h
 obtain⟨p,_,rfl⟩:=D8 _ _ c
 obtain⟨b,_,rfl⟩:=NN (P:=env.P) (t:=4) (by simp) _ _ a
 exact⟨⟨p.1,p.2,b⟩,trivial,rfl⟩
theorem abx:Pv env.P 81 (λ_=>True) ah.enc:=by
 intro n xs h
 have h:=mE (P:=env.P) OQ h
 obtain⟨m,x,r,rfl,c,y,r',rfl,a,z,e,rfl,b,w,r3,rfl,d,rfl⟩:=h
 obtain⟨p,_,rfl⟩:=D8 _ _ c
 obtain⟨i,_,rfl⟩:=sn (P:=env.P) (t:=3) (by simp) _ _ a
 obtain⟨j,_,rfl⟩:=sn (P:=env.P) (t:=3) (by simp) _ _ b
 obtain⟨k,_,rfl⟩:=sn (P:=env.P) (t:=3) (by simp) _ _ d
 exact⟨⟨p.1,p.2,i,j,k⟩,trivial,rfl⟩
theorem abj{n:Nat}{x:AV}(h:Ui env.P n 25 x) : ∃(us:List Clear) (qs:List ah) (gr:Int) (b a:AV),x = .agg [b,a,aI gr]/\Sl 3 (bR us) b/\Sl 5 (bL qs) a:=by
 obtain⟨o,rfl,e⟩:=h.agg (by simp)
 have j:=mE (P:=env.P) OY e
 obtain⟨m,u,r,rfl,d,q,r',rfl,c,g,l,rfl,k,rfl⟩:=j
 have d:=D2 (P:=env.P) UO UJ X0 aby d
 obtain⟨us,b,_,rfl,f⟩:=d
 have c:=D2 (P:=env.P) UN UH XY abx c
 obtain⟨qs,a,_,rfl,i⟩:=c
 obtain⟨gr,_,rfl⟩:=sn (P:=env.P) (t:=3) (by simp) _ _ k
 exact⟨us,qs,gr,b,a,rfl,f,i⟩
end Go.Proofs.YtmkmimgokagimaaGreat
namespace Go.Proofs.YtmkmimgokagimaaGreat
open Go.Ab
section
attribute [local simp] aG ay aw aF aE bQ gX aM aA aD bI bH bn aN aj bf fe
def acD(h:mz):Value := .agg #[.int .u8 h.lv.toNat,.int .u32 h.cats.toNat,.int .u8 h.num.toNat]
def acA(i:bV):Value := .agg #[.int .u8 i.h.lv.toNat,.int .u32 i.h.cats.toNat,.int .u8 i.h.num.toNat,.int .i64 i.n]
def acg(v:iI):Value := .agg #[.int .u8 v.lv.toNat,.int .u32 v.cats.toNat]
def Bn(h:mz):AV := .agg [a8 h.lv,ae h.cats,a8 h.num]
def Bm(i:bV):AV := .agg [a8 i.h.lv,ae i.h.cats,a8 i.h.num,aI i.n]
def zr(v:iI):AV := .agg [a8 v.lv,ae v.cats]
theorem Jd(h:mz):gV (Bn h)=some (acD h):=rfl
theorem OF(i:bV):gV (Bm i)=some (acA i):=rfl
theorem I5(v:iI):gV (zr v)=some (acg v):=rfl
theorem Zz:(λ(e:Bool)(a b c:Int)(n:Int)=>bh env.P (Instr.checkKey e 10000 33 (.agg #[.int .u8 a,.int .u32 b,.int .u8 c,.int .i64 n])))=λ_ _ _ _ _=>some ():=by kernel_rfl
theorem ZA:(λ(e:Bool)(a b c:Int)=>bh env.P (Instr.checkKey e 10000 31 (.agg #[.int .u8 a,.int .u32 b,.int .u8 c])))=λ_ _ _ _=>some ():=by kernel_rfl
theorem Zy:(λ(e:Bool)(a b:Int)=>bh env.P (Instr.checkKey e 10000 29 (.agg #[.int .u8 a,.int .u32 b])))=λ_ _ _=>some ():=by kernel_rfl
theorem L6(d:TypeDesc)(u v:Array Value):Instr.sameNow d (.agg u) (.agg v)=none:=by
 unfold Instr.sameNow
 cases d<;>rfl
theorem WW{t:TypeId}{xs ys:List AV}{us d:List Value}{b:Bool}(f:GO env.P 8 t=true)(h:fw env.P 8 t xs ys=some b)(g:sk xs=some us)(k:sk ys=some d)(l:xs.length=env.P.cellsOf t)(e:ys.length=env.P.cellsOf t)(j:dq env.P t=some true) :
 bh env.P (Op.equal t (.agg us.toArray) (.agg d.toArray))=some b:=by
 obtain⟨u,v,c,a,i⟩:=WX 8 9992 t xs ys us d b f h g k l e
 unfold Ab.valOf at c a
 rw[j]at c a
 dsimp only at c a
 cases c
 cases a
 exact i
theorem R4:Xv env.P 33 acA where
 chk:=λe a=>congrFun (congrFun (congrFun (congrFun (congrFun Zz e) _) _) _) _
 eq:=λa b=>by
  have h:=WW (t:=33) (xs:=[a8 a.h.lv,ae a.h.cats,a8 a.h.num,aI a.n]) (ys:=[a8 b.h.lv,ae b.h.cats,a8 b.h.num,aI b.n]) (b:=decide (a=b)) (by kernel_rfl)
   (by obtain⟨⟨a1,a2,a3⟩,a4⟩:=a;obtain⟨⟨b1,b2,b3⟩,b4⟩:=b;simp[fw,bM,and_assoc,yK]) rfl rfl (by kernel_rfl) (by kernel_rfl) (by kernel_rfl)
  exact h
 now:=λd _ a b=>L6 d _ _
 und:=by kernel_rfl
 bits:=λa=>by simp[acA,Instr.sameBits]
theorem Mj:Xv env.P 31 acD where
 chk:=λe a=>congrFun (congrFun (congrFun (congrFun ZA e) _) _) _
 eq:=λa b=>by
  have h:=WW (t:=31) (xs:=[a8 a.lv,ae a.cats,a8 a.num]) (ys:=[a8 b.lv,ae b.cats,a8 b.num]) (b:=decide (a=b)) (by kernel_rfl)
   (by obtain⟨a1,a2,a3⟩:=a;obtain⟨b1,b2,b3⟩:=b;simp[fw,bM,and_assoc,yK]) rfl rfl (by kernel_rfl) (by kernel_rfl) (by kernel_rfl)
  exact h
 now:=λd _ a b=>L6 d _ _
 und:=by kernel_rfl
 bits:=λa=>by simp[acD,Instr.sameBits]
theorem Mi:Xv env.P 29 acg where
 chk:=λe a=>congrFun (congrFun (congrFun Zy e) _) _
 eq:=λa b=>by
  have h:=WW (t:=29) (xs:=[a8 a.lv,ae a.cats]) (ys:=[a8 b.lv,ae b.cats]) (b:=decide (a=b)) (by kernel_rfl)
   (by obtain⟨a1,a2⟩:=a;obtain⟨b1,b2⟩:=b;simp[fw,bM,and_assoc,yK]) rfl rfl (by kernel_rfl) (by kernel_rfl) (by kernel_rfl)
  exact h
 now:=λd _ a b=>L6 d _ _
 und:=by kernel_rfl
 bits:=λa=>by simp[acg,Instr.sameBits]
end
section
attribute [local simp] aG ay aw aF aE bQ gX aM aA aD bI bH bn aN aj bf fe
structure bE (H H':aa):Prop where
 fr:Fr H'
 old : ∀q b,H.get q=some b->H'.get q=some b
theorem bE.refl{H:aa}(h:Fr H):bE H H:=⟨h,λ_ _ h=>h⟩
theorem bE.trans{H H' a:aa}(h:bE H H')(c:bE H' a):bE H a:=⟨c.fr,λq b d=>c.old q b (h.old q b d)⟩
theorem bE.cons{H:aa}(n:Fr H)(d t:Nat)(b:bw):bE H ((⟨d,t,H.gen d t,0⟩,some b) :: H):=
 ⟨by simp(maxDischargeDepth:=12) [ek, *],λq c a=>by rw[aa.uR,if_neg (qM n (by rw[a];rfl) _ _ _)];exact a⟩
theorem nk{f:FuncId}(u:(env.mode f == 2)=true){dep:Nat}{H:aa}{r:Ref}{first args captured:List AV}{y:AV}{K:AV->aa->Prop}{m:Mk K}
 (h : ∃H',bD env dep (.fn f) (first++args++captured) H=some (y,H')/\bE H H') (c : ∀H',bE H H'->K y H') :
 jA (aL env true (ak env) (bD env dep) H r (some (.fn (.func f) first captured)) args) K m:=by
 obtain⟨H',b,a⟩:=h
 refine FH (v:=y) (H:=H') ?_ (c H' a)
 rw[FJ u]
 exact b
theorem eX{f:FuncId}{fn:Func}{c:Code}{dep:Nat}{args:List AV}{H:aa}{y:AV}(u:env.mode f=2)(b:env.allowed f=true)(k:env.P.funcs[f]?=some fn)(i:fn.body=some c)(A:Nat.ble args.length fn.ntmps=true)
 (h:bF env fn (dep+1) [.code c] (tK 0 args) H λx a=>x=y/\bE H a) (d:env.thrSpec f args H=none:=by rfl) : ∃H',bD env dep (.fn f) args H=some (y,H')/\bE H H':=by
 obtain⟨m,H',g,rfl,e⟩:=mJ (Q:=λx a=>x=y/\bE H a) u b k i A h d
 exact⟨H',g,e⟩
structure B5 (H:aa) (rh:Ref) (ops:List (aC × AV)) (ents:List (bV × AV)):Prop where
 box : ∃xo vo rm,H.get rh=some ⟨2,[.agg [xo,.mp rm]],false,false⟩/\kO 17 (cF ops) H xo vo/\H.get rm=some (bg (cB Bm ents))
theorem B5.grow{H H':aa}{rh:Ref}{ops:List (aC × AV)}{ents:List (bV × AV)}(h:B5 H rh ops ents)(g:bE H H'):B5 H' rh ops ents:=by
 obtain⟨m,e,rm,i,a,b⟩:=h.box
 refine⟨m,e,rm,g.old _ _ i,?_,g.old _ _ b⟩
 rcases a with a | ⟨r,c,fz,d,k,f⟩
 ·exact .inl a
 ·exact .inr ⟨r,c,fz,d,g.old _ _ k,f⟩
def fP(ents:List (bV × AV))(i:bV):Bool:=match aV i ents with | some (.v (.bool b))=>b | _=>false
def oy(ents:List (bV × AV)):Prop :=∀p∈ents,p.2=aB true
theorem TA{ents:List (bV × AV)}(h:oy ents)(i:bV):(aV i ents).getD (aB false)=aB (fP ents i):=by
 unfold fP
 induction ents with
 | nil=>rfl
 | cons p l a=>
  unfold aV
  split
  ·rename_i hp;rw[h p jB];rfl
  ·exact a λq b=>h q (iA _ b)
def wc(ents:List (bV × AV))(o:aC)(i:bV):Bool:=fP ents i&&qS (Pu i) (MB o)
theorem RZ{g:cX}{rm:Ref}{ents:List (bV × AV)}(w:oy ents)(e:g rm=some (bg (cB Bm ents)))(b:UInt8)(c:UInt32)(a:UInt8)(d:Int):ff env.P g 264 (some (.mp rm)) (some (.agg [a8 b,ae c,a8 a,aI d])) false=some (aB (fP ents (⟨⟨b,c,a⟩,d⟩:bV)),[]):=by
 have h:=BG R4 OF (t:=264) (et:=4) (by kernel_rfl) (z:=aB false) (by kernel_rfl) e (⟨⟨b,c,a⟩,d⟩:bV) false
 rw[TA w]at h
 exact h
section
variable(dep:Nat){H:aa}(n:Fr H){rh:Ref}{ops:List (aC × AV)}{ents:List (bV × AV)}(B:B5 H rh ops ents)(w:oy ents)
include n B w
theorem RG(G:UInt8)(M:UInt8)(E:UInt32)(K:UInt8)(J:Int)(C:UInt8)(L:UInt32)(D:UInt8)(I:Int)(m:Int)(v:UInt8)(o:UInt32)(y:UInt8)(k:Int)(z:UInt8)(t:UInt32)(f:UInt8)(e:UInt32)(d:UInt8)(i:Int){x:AV}{al:List Int}(j:Sl 1 (rows al) x) : ∃H',bD env dep (.fn 230) [.ptr rh 0 0,.agg [a8 G,a8 M,ae E,a8 K,aI J,a8 C,ae L,a8 D,aI I,aI m,a8 v,ae o,a8 y,aI k,a8 z,ae t,x],.agg [a8 f,ae e,a8 d,aI i]] H=some (aB (wc ents (⟨G,⟨M,E,K⟩,J,⟨⟨⟨C,L,D⟩,I⟩,m⟩,⟨⟨v,o,y⟩,k⟩,⟨z,t⟩,al⟩:aC) (⟨⟨f,e,d⟩,i⟩:bV)),H')/\bE H H':=by
 refine eX (fn:=Tryz.f230) (c:=rW) (by kernel_rfl) (by kernel_rfl) (by kernel_rfl) (by kernel_rfl) (by kernel_rfl) ?_
 refine rT _ _ _ _ _ _ λg=>?_
 obtain⟨X,Y,rm,U,T,P⟩:=B.box
 have l1:(H.get rh).isSome=true:=by rw[U];rfl
 have W:(H.get rm).isSome=true:=by rw[P];rfl
 have S:=λ(H':aa)(h:H'.get rm=some (bg (cB Bm ents)))=>RZ (g:=H'.get) w h f e d i
 have Q:=T.r
 have R : ∀H',Fr H'->(∀q b,H.get q=some b->H'.get q=some b)->bE H H':=λH' a b=>⟨a,b⟩
 have O : ∀b1 b2:bw,bE H ((⟨dep+1,5,H.gen (dep+1) 5,0⟩,some b2) :: (⟨dep+1,4,H.gen (dep+1) 4,0⟩,some b1) :: H):=λb1 b2=>⟨by simp(maxDischargeDepth:=12) [ek, *],λq c N=>by
  have V:(H.get q).isSome=true:=by rw[N];rfl
  simp[dH n V,N]⟩
 unfold wc
 cases Z:fP ents (⟨⟨f,e,d⟩,i⟩:bV) with
 | false=>
  simp[ai, *,gO,j.r]
 | true=>
  simp[ai, *,gO,j.r]
  all_goals rfl
theorem WK(b:UInt8)(d:UInt32)(a:UInt8)(e:Int){q:Ref}(m:H.get q=some ⟨1,[.ptr rh 0 0],false,false⟩) : ∃H',bD env dep (.fn 233) [.agg [a8 b,ae d,a8 a,aI e],.ptr q 0 0] H=some (aB (fP ents (⟨⟨b,d,a⟩,e⟩:bV)),H')/\bE H H':=by
 refine eX (fn:=Tryz.f233) (c:=pD) (by kernel_rfl) (by kernel_rfl) (by kernel_rfl) (by kernel_rfl) (by kernel_rfl) ?_
 refine pq _ _ _ _ _ λg=>?_
 obtain⟨y,x,rm,t,i,k⟩:=B.box
 have z:(H.get rh).isSome=true:=by rw[t];rfl
 have D:(H.get q).isSome=true:=by rw[m];rfl
 have C:(H.get rm).isSome=true:=by rw[k];rfl
 have v:=λ(H':aa)(h:H'.get rm=some (bg (cB Bm ents)))=>RZ (g:=H'.get) w h b d a e
 have o:=i.r
 have f : ∀b1:bw,bE H ((⟨dep+1,2,H.gen (dep+1) 2,0⟩,some b1) :: H):=λb1=>bE.cons n _ _ _
 simp[ai, *,jT]
theorem Xl(y:UInt8)(I:UInt8)(t:UInt32)(D:UInt8)(C:Int)(k:UInt8)(E:UInt32)(o:UInt8)(z:Int)(b:Int)(f:UInt8)(d:UInt32)(h:UInt8)(a:Int)(i:UInt8)(e:UInt32)(G:UInt8)(v:UInt32)(m:UInt8)(J:Int){x:AV}{al:List Int}(j:Sl 1 (rows al) x){q p:Ref}(M:H.get q=some ⟨1,[.ptr rh 0 0],false,false⟩)(hp:H.get p=some ⟨17,[.agg [a8 y,a8 I,ae t,a8 D,aI C,a8 k,ae E,a8 o,aI z,aI b,a8 f,ae d,a8 h,aI a,a8 i,ae e,x]],false,false⟩) :
 ∃H',bD env dep (.fn 242) [.agg [a8 G,ae v,a8 m,aI J],.ptr q 0 0,.ptr p 0 0] H=some (aB (!wc ents (⟨y,⟨I,t,D⟩,C,⟨⟨⟨k,E,o⟩,z⟩,b⟩,⟨⟨f,d,h⟩,a⟩,⟨i,e⟩,al⟩:aC) (⟨⟨G,v,m⟩,J⟩:bV)),H')/\bE H H':=by
 refine eX (fn:=Tryz.f242) (c:=qX) (by kernel_rfl) (by kernel_rfl) (by kernel_rfl) (by kernel_rfl) (by kernel_rfl) ?_
 refine qP _ _ _ _ _ _ λg=>?_
 have R:(H.get q).isSome=true:=by rw[M];rfl
 have P:(H.get p).isSome=true:=by rw[hp];rfl
 have L : ∀b1:bw,bE H ((⟨dep+1,3,H.gen (dep+1) 3,0⟩,some b1) :: H):=λb1=>bE.cons n _ _ _
 have N:=λb1=>RG (dep+1) (L b1).fr (B.grow (L b1)) w y I t D C k E o z b f d h a i e G v m J j
 simp[ai, *,k9,j.r]
 refine nk (by kernel_rfl) (N _) λQ O=>?_
 have K:=(L _).trans O
 simp[K]
end
def om(l:List bV):List AV:=l.map Bm
@[simp] theorem aeR(l:List bV):(om l).length=l.length:=by simp[om]
def QZ(p:bV->Bool):List bV->Nat->Int
 | [],_ => -1
 | i :: l,k=>if p i then k else QZ p l (k+1)
theorem OD(p:bV->Bool) : ∀(l:List bV)(k:Nat),decide (0<=QZ p l k)=l.any p
 | [],k=>rfl
 | i :: l,k=>by
  unfold QZ
  rw[Hq]
  cases h:p i with
  | true=>simp
  | false=>simpa using OD p l (k+1)
section
variable(dep:Nat){F:FuncId}(u:(env.mode F == 2)=true){caps:List AV}{l:List bV}{x0:AV}(j:Sl 4 (om l) x0)(A:l.length<100000){H0:aa}{p:bV->Bool}
include u j A
theorem TT(hp : ∀i H,bE H0 H ->∃H',bD env (dep+1) (.fn F) ([]++[Bm i]++caps) H=some (aB (p i),H')/\bE H H'){Q:AV->aa->Prop} : ∀(s:List bV)(k:Nat)(i:Int)(H:aa),l.drop k=s->k<=l.length->i=k->bE H0 H->(∀y H',y=aI (QZ p s k)->bE H0 H'->Q y H') ->
 bF env Tryz.f241 (dep+1) bA [(8,aI i),(0,x0),(1,.fn (.func F) [] caps),(7,aI l.length)] H Q:=by
 intro s
 induction s with
 | nil=>
  rintro k i H hs hk rfl hG hQ
  obtain rfl:=drop_nil hs hk
  have f:=hQ _ H rfl hG
  refine dD _ _ _ _ _ _ _ λg=>?_
  clear hp hQ
  simp[ai, *,cg]
  all_goals exact f
 | cons a s t=>
  rintro k i H hs hk rfl hG hQ
  obtain⟨I,E,e,d⟩:=drop_cons hs
  have x:=IntWalk.i64_in ((k:Int)+1) (by omega)
  have v:cm (om l) k 0 4 true=some (Bm a):=by simp[om,d,Bm]
  have z:=hp a H hG
  have o:=λH' G=>t (k+1) ((k:Int)+1) H' e (by omega) (by simp) G
  have q:(k:Int)<l.length:=by omega
  clear t hp hs e E d
  refine dD _ _ _ _ _ _ _ λg=>?_
  simp[ai, *,cg,j.r,j.idx]
  refine nk u z λD m=>?_
  have c:=hG.trans m
  unfold QZ at hQ
  cases b:p a with
  | true=>
   rw[b]at hQ
   simp
   exact hQ _ _ (by simp) c
  | false=>
   rw[b]at hQ
   simp[x]
   exact o D c (λy H' C h=>hQ y H' (by simpa using C) h)
theorem Gq{H:aa}(n:Fr H)(hp : ∀i H',bE H H' ->∃a,bD env (dep+2) (.fn F) ([]++[Bm i]++caps) H'=some (aB (p i),a)/\bE H' a) :
 ∃H',bD env dep (.fn 232) [x0,.fn (.func F) [] caps] H=some (aB (l.any p),H')/\bE H H':=by
 have k : ∃H',bD env (dep+1) (.fn 241) ([]++[x0,.fn (.func F) [] caps]++[]) H=some (aI (QZ p l 0),H')/\bE H H':=by
  refine eX (fn:=Tryz.f241) (c:=jd) (by kernel_rfl) (by kernel_rfl) (by kernel_rfl) (by kernel_rfl) (by kernel_rfl) ?_
  refine iZ _ _ _ _ _ λg=>?_
  have b:=TT (dep+1) u j A (p:=p) hp (Q:=λx d=>x=aI (QZ p l 0)/\bE H d) l 0 0 H rfl (by omega) rfl (bE.refl n) (λy H' e h=>⟨e,h⟩)
  clear hp
  simp[ai, *,dR,j.r]
  all_goals exact b
 refine eX (fn:=Tryz.f232) (c:=iz) (by kernel_rfl) (by kernel_rfl) (by kernel_rfl) (by kernel_rfl) (by kernel_rfl) ?_
 refine iy _ _ _ _ _ λg=>?_
 unfold dy
 refine nk (by kernel_rfl) k λd f=>?_
 have:=OD p l 0
 simp[f,<-this]
end
end
section
attribute [local simp] aG ay aw aF aE bQ gX aM aA aD bI bH bn aN aj bf fe
def cp(s:wN):List bV:=(List.range s.many.toNat).map λk=>AZ s.f (k:Nat)
theorem QQ(f:UInt8)(l:UInt32)(e:UInt8)(h:Int)(c:Int)(x:eJ (⟨⟨⟨f,l,e⟩,h⟩,c⟩:wN)=true){Q:AV->aa->Prop} : ∀(d k:Nat)(i:Int)(u:AV)(H:aa),k+d=c.toNat->i=k->Fr H->H.get ⟨0,1,0,0⟩=some ⟨5,[.agg [a8 f,ae l,a8 e,aI h,aI c]],false,false⟩->uW [20] 4 (om ((List.range k).map λ(k:Nat)=>AZ ⟨⟨f,l,e⟩,h⟩ k)) H u ->
 (∀y H',uW [20] 4 (om (cp (⟨⟨⟨f,l,e⟩,h⟩,c⟩:wN))) H' y->Q y H') ->
 bF env Tryz.f213 0 o5 [(8,aI i),(2,u),(1,.ptr ⟨0,1,0,0⟩ 0 0),(7,aI c)] H Q:=by
 have I:=gI x
 simp only at I
 intro d
 induction d with
 | zero=>
  rintro k i u H hk rfl b a hO hQ
  have v:=hQ u H (by unfold cp;simp only;rw[show c.toNat=k by omega];exact hO)
  have w : ¬(k:Int)<c:=by omega
  refine Bx _ _ _ _ _ _ λg=>?_
  clear hQ hO
  simp[ai, *,sY]
  all_goals exact v
 | succ d A=>
  rintro k i u H hk rfl b a hO hQ
  have K:=IntWalk.i64_in ((k:Int)+1) (by omega)
  have w:(k:Int)<c:=by omega
  have z:XH (⟨⟨⟨f,l,e⟩,h⟩,c⟩:wN) (k:Int)=0:=by
   unfold XH
   rw[if_pos x,if_neg]
   simp only
   omega
  have J:=agz f l e h c (k:Int)
  rw[if_pos z]at J
  have N:(H.get ⟨0,1,0,0⟩).isSome=true:=by rw[a];rfl
  have o : ∀(g:Nat)(m:Nat)(q:aa),m=k+1->Fr q->q.get ⟨0,1,0,0⟩=some ⟨5,[.agg [a8 f,ae l,a8 e,aI h,aI c]],false,false⟩->q.get ⟨0,20,g,0⟩=some ⟨4,om ((List.range k).map λ(k:Nat)=>AZ ⟨⟨f,l,e⟩,h⟩ k)++[.agg [a8 f,ae l,a8 e,aI (h+k)]],true,false⟩ ->
   bF env Tryz.f213 0 o5 [(8,aI ((k:Int)+1)),(2,.cG ⟨0,20,g,0⟩ 0 m none),(1,.ptr ⟨0,1,0,0⟩ 0 0),(7,aI c)] q Q:=by
   intro g m q C E F G
   subst C
   refine A (k+1) ((k:Int)+1) _ q (by omega) (by simp) E F (.inr ⟨20,g,by simp,by simp,?_⟩) hQ
   rw[G]
   simp[om,List.range_succ,Bm,AZ]
  clear A hQ
  refine Bx _ _ _ _ _ _ λg=>?_
  generalize he:om ((List.range k).map λ(k:Nat)=>AZ ⟨⟨f,l,e⟩,h⟩ k)=es at *
  have p:es.length=k:=by rw[<-he];simp
  clear he z
  rcases hO with ⟨rfl,rfl⟩ | ⟨t,gg,B,rfl,D⟩
  ·have n:=λq=>o (H.gen 0 20) 1 q (by simp at p;omega)
   clear o p
   simp[ai, *,sY]
   refine n _ ?_ ?_ ?_
   ·simp(maxDischargeDepth:=12) [ek, *]
   ·simp(maxDischargeDepth:=12) [ek, *]
   ·simp(maxDischargeDepth:=12) [ek, *]
  ·rw[vS]at B
   subst B
   rw[p]
   have n:=o (H.gen 0 20) (k+1)
   clear o
   have L:(H.get ⟨0,20,gg,0⟩).isSome=true:=by rw[D];rfl
   have M:nx 4 24 k true none (some ⟨4,es,true,false⟩) (some [.agg [a8 f,ae l,a8 e,aI (h+k)]]):=by
    simp[p];omega
   simp[ai, *,sY]
   refine n _ rfl ?_ ?_ ?_
   ·simp(maxDischargeDepth:=12) [ek, *]
   ·simp(maxDischargeDepth:=12) [ek, *]
   ·simp(maxDischargeDepth:=12) [ek, *]
theorem LL(k:UInt8)(f:UInt32)(i:UInt8)(d:Int)(c:Int)(n:eJ (⟨⟨⟨k,f,i⟩,d⟩,c⟩:wN)=true):ak env 213 [.agg [a8 k,ae f,a8 i,aI d,aI c]]=some (.cD 4 (om (cp (⟨⟨⟨k,f,i⟩,d⟩,c⟩:wN))) none):=by
 have p:=gI n
 simp only at p
 have m:om (cp (⟨⟨⟨k,f,i⟩,d⟩,c⟩:wN))≠[]:=by
  intro e
  have:=congrArg List.length e
  simp[cp]at this
  omega
 refine an rfl (by kernel_rfl) (LD _ _ _ λg=>?_)
 have l:=λH u o=>QQ k f i d c n (Q:=λy H'=>view H'.get 8 y=some (.cD 4 (om (cp (⟨⟨⟨k,f,i⟩,d⟩,c⟩:wN))) none)) c.toNat 0 0 ba H (by omega) rfl u o (.inl ⟨rfl,by simp[om]⟩) (λy H' h=>by
  rcases h with ⟨_,h⟩ | ⟨t,g,_,rfl,q⟩
  ·exact absurd h m
  ·rw[Kq q rfl])
 simp[ai, *,ES]
 exact l _ (by simp(maxDischargeDepth:=12) [ek, *]) rfl
theorem Of(s:wN):Sl 4 (om (cp s)) (.cD 4 (om (cp s)) none):=Sl.mk _ _
theorem Ft{s:wN}(h:eJ s=true):(cp s).length<100000:=by
 have c:=gI h
 simp[cp]
 omega
def sI(ents:List (bV × AV))(o:aC):Bool := !(cp o.s).any λi => !wc ents o i
section
variable(dep:Nat){H:aa}(b:Fr H){rh:Ref}{ops:List (aC × AV)}{ents:List (bV × AV)}(j:B5 H rh ops ents)(a:oy ents)
include b j a
theorem Xk(z:UInt8)(C:UInt8)(y:UInt32)(B:UInt8)(A:Int)(e:UInt8)(l:UInt32)(f:UInt8)(k:Int)(d:Int)(u:UInt8)(o:UInt32)(v:UInt8)(m:Int)(w:UInt8)(t:UInt32){x:AV}{al:List Int}(J:Sl 1 (rows al) x)(K:eJ ⟨⟨⟨e,l,f⟩,k⟩,d⟩=true) :
 ∃H',bD env dep (.fn 234) [.ptr rh 0 0,.agg [a8 z,a8 C,ae y,a8 B,aI A,a8 e,ae l,a8 f,aI k,aI d,a8 u,ae o,a8 v,aI m,a8 w,ae t,x]] H=some (aB (sI ents (⟨z,⟨C,y,B⟩,A,⟨⟨⟨e,l,f⟩,k⟩,d⟩,⟨⟨u,o,v⟩,m⟩,⟨w,t⟩,al⟩:aC)),H')/\bE H H':=by
 refine eX (fn:=Tryz.f234) (c:=sP) (by kernel_rfl) (by kernel_rfl) (by kernel_rfl) (by kernel_rfl) (by kernel_rfl) ?_
 refine sj _ _ _ _ _ λg=>?_
 have N:=LL e l f k d K
 have D : ∀b1 b2:bw,bE H ((⟨dep+1,3,H.gen (dep+1) 3,0⟩,some b2) :: (⟨dep+1,2,H.gen (dep+1) 2,0⟩,some b1) :: H):=λb1 b2=>⟨by simp(maxDischargeDepth:=12) [ek, *],λq c I=>by
  have M:(H.get q).isSome=true:=by rw[I];rfl
  simp[dH b M,I]⟩
 have L : ∃H',bD env (dep+1) (.fn 232) ([]++[.cD 4 (om (cp ⟨⟨⟨e,l,f⟩,k⟩,d⟩)) none,.fn (.func 242) [] [.ptr ⟨dep+1,2,H.gen (dep+1) 2,0⟩ 0 0,.ptr ⟨dep+1,3,H.gen (dep+1) 3,0⟩ 0 0]]++[])
  ((⟨dep+1,3,H.gen (dep+1) 3,0⟩,some ⟨17,[.agg [a8 z,a8 C,ae y,a8 B,aI A,a8 e,ae l,a8 f,aI k,aI d,a8 u,ae o,a8 v,aI m,a8 w,ae t,x]],false,false⟩) :: (⟨dep+1,2,H.gen (dep+1) 2,0⟩,some ⟨1,[.ptr rh 0 0],false,false⟩) :: H)=some (aB ((cp ⟨⟨⟨e,l,f⟩,k⟩,d⟩).any λi => !wc ents (⟨z,⟨C,y,B⟩,A,⟨⟨⟨e,l,f⟩,k⟩,d⟩,⟨⟨u,o,v⟩,m⟩,⟨w,t⟩,al⟩:aC) i),H')/\bE _ H':=
  Gq (dep+1) (F:=242) (by kernel_rfl) (Of _) (Ft K) (p:=λi => !wc ents (⟨z,⟨C,y,B⟩,A,⟨⟨⟨e,l,f⟩,k⟩,d⟩,⟨⟨u,o,v⟩,m⟩,⟨w,t⟩,al⟩:aC) i) (D _ _).fr (λi H' E=>by
   have:=Xl (dep+3) E.fr ((j.grow (D _ _)).grow E) a z C y B A e l f k d u o v m w t i.h.lv i.h.cats i.h.num i.n J (q:=⟨dep+1,2,H.gen (dep+1) 2,0⟩) (p:=⟨dep+1,3,H.gen (dep+1) 3,0⟩) (E.old _ _ (by simp)) (E.old _ _ (by simp))
   exact this)
 simp[ai, *,lS,J.r]
 refine nk (by kernel_rfl) L λO E=>?_
 have G:=(D _ _).trans E
 simp[G,sI]
end
end
section
attribute [local simp] aG ay aw aF aE bQ gX aM aA aD bI bH bn aN aj bf fe
theorem R2{g:cX}{r rm:Ref}{ents:List (bV × AV)}(a:g rm=some (bg (cB Bm ents))):cN env.P false g r .len #[264] [.mp rm]=some (aI ents.length,[]):=by
 have c:(J0 env.P 264).isSome=true:=by kernel_rfl
 obtain⟨p,hp⟩:=gU.1 c
 have e:cN env.P false g r .len #[264] [.mp rm]=xl env.P g (some 264) rm:=rfl
 rw[e]
 unfold xl
 rw[wj a,fN,hp]
 simp[cB]
def fT(ents:List (bV × AV))(o:aC):Int:=
 if (!gx o.a && !wc ents o o.a)=true then 6 else if JK o≠0\/(cp o.s).any (fP ents)=true then 2 else if 8192<(ents.length:Int)+o.s.many then 4 else 0
def Aj(ents:List (bV × AV))(o:aC):Int:=if sI ents o=false then 6 else if (decide (o.s.f.h.lv=o.h.lv)&&decide (o.s.f.h.cats=o.h.cats))=false then 2 else 0
def Ak(ops:List (aC × AV))(ents:List (bV × AV))(o:aC):Int:=if sI ents o=false then 6 else if qV (opsOf ops)=0/\kZ (opsOf ops) o=true then 0 else 2
def vk(ops:List (aC × AV))(ents:List (bV × AV))(o:aC):Int:=if o.kind=1 then fT ents o else if o.kind=2 then Aj ents o else Ak ops ents o
def wA(ops:List (aC × AV))(ents:List (bV × AV))(o:aC):Int:=if vk ops ents o=0/\2048<=ops.length then 4 else vk ops ents o
section
variable(dep:Nat){H:aa}(i:Fr H){rh:Ref}{ops:List (aC × AV)}{ents:List (bV × AV)}(b:B5 H rh ops ents)(d:oy ents)
include i b d
theorem Th(u:UInt8)(t:UInt8)(p:UInt32)(w:UInt8)(v:Int)(m:UInt8)(n:UInt32)(o:UInt8)(q:Int)(a:Int)(j:UInt8)(f:UInt32)(k:UInt8)(e:Int)(l:UInt8)(h:UInt32){x:AV}{al:List Int}(B:Sl 1 (rows al) x)(E:eJ ⟨⟨⟨m,n,o⟩,q⟩,a⟩=true) :
 ∃H',bD env dep (.fn 219) [.ptr rh 0 0,.agg [a8 u,a8 t,ae p,a8 w,aI v,a8 m,ae n,a8 o,aI q,aI a,a8 j,ae f,a8 k,aI e,a8 l,ae h,x]] H=some (aI (Aj ents (⟨u,⟨t,p,w⟩,v,⟨⟨⟨m,n,o⟩,q⟩,a⟩,⟨⟨j,f,k⟩,e⟩,⟨l,h⟩,al⟩:aC)),H')/\bE H H':=by
 refine eX (fn:=Tryz.f219) (c:=qB) (by kernel_rfl) (by kernel_rfl) (by kernel_rfl) (by kernel_rfl) (by kernel_rfl) ?_
 refine qi _ _ _ _ _ λg=>?_
 have z : ∀b1:bw,bE H ((⟨dep+1,3,H.gen (dep+1) 3,0⟩,some b1) :: H):=λb1=>bE.cons i _ _ _
 have F:=Xk (dep+1) (z ⟨17,[.agg [a8 u,a8 t,ae p,a8 w,aI v,a8 m,ae n,a8 o,aI q,aI a,a8 j,ae f,a8 k,aI e,a8 l,ae h,x]],false,false⟩).fr (b.grow (z _)) d u t p w v m n o q a j f k e l h B E
 simp[ai, *,kN,B.r]
 refine nk (by kernel_rfl) F λG D=>?_
 have y:=(z _).trans D
 have A:=D.old ⟨dep+1,3,H.gen (dep+1) 3,0⟩ _ (by simp;rfl)
 unfold Aj
 cases sI ents (⟨u,⟨t,p,w⟩,v,⟨⟨⟨m,n,o⟩,q⟩,a⟩,⟨⟨j,f,k⟩,e⟩,⟨l,h⟩,al⟩:aC) with
 | false=>simp[y]
 | true=>
  cases C:(decide (m=t)&&decide (n=p)) with
  | false=>simp[A,y,B.r,fw,bM,C]
  | true=>simp[A,y,B.r,fw,bM,C]
theorem raise_at(F : ∀p∈ops,J8 p)(P:ops.length<100000)(q:UInt8)(y:UInt8)(o:UInt32)(v:UInt8)(u:Int)(m:UInt8)(w:UInt32)(n:UInt8)(t:Int)(e:Int)(j:UInt8)(f:UInt32)(k:UInt8)(a:Int)(l:UInt8)(h:UInt32){x:AV}{al:List Int}(E:Sl 1 (rows al) x)(I:al.length<2000000)(K:lT (⟨q,⟨y,o,v⟩,u,⟨⟨⟨m,w,n⟩,t⟩,e⟩,⟨⟨j,f,k⟩,a⟩,⟨l,h⟩,al⟩:aC)=true) :
 ∃H',bD env dep (.fn 220) [.ptr rh 0 0,.agg [a8 q,a8 y,ae o,a8 v,aI u,a8 m,ae w,a8 n,aI t,aI e,a8 j,ae f,a8 k,aI a,a8 l,ae h,x]] H=some (aI (Ak ops ents (⟨q,⟨y,o,v⟩,u,⟨⟨⟨m,w,n⟩,t⟩,e⟩,⟨⟨j,f,k⟩,a⟩,⟨l,h⟩,al⟩:aC)),H')/\bE H H':=by
 have M:=kU K
 simp only at M
 refine eX (fn:=Tryz.f220) (c:=qW) (by kernel_rfl) (by kernel_rfl) (by kernel_rfl) (by kernel_rfl) (by kernel_rfl) ?_
 refine qO _ _ _ _ _ λg=>?_
 have B : ∀b1:bw,bE H ((⟨dep+1,3,H.gen (dep+1) 3,0⟩,some b1) :: H):=λb1=>bE.cons i _ _ _
 have Q:=Xk (dep+1) (B ⟨17,[.agg [a8 q,a8 y,ae o,a8 v,aI u,a8 m,ae w,a8 n,aI t,aI e,a8 j,ae f,a8 k,aI a,a8 l,ae h,x]],false,false⟩).fr (b.grow (B _)) d q y o v u m w n t e j f k a l h E M
 simp[ai, *,k8,E.r]
 refine nk (by kernel_rfl) Q λU N=>?_
 have z:=(B _).trans N
 have D:=N.old ⟨dep+1,3,H.gen (dep+1) 3,0⟩ _ (by simp;rfl)
 obtain⟨S,T,rm,J,O,R⟩:=(b.grow z).box
 have C:=O.r
 have A:=VG O.sl F P q y o v u m w n t e j f k a l h E I
 rw[if_pos K]at A
 unfold Ak
 cases sI ents (⟨q,⟨y,o,v⟩,u,⟨⟨⟨m,w,n⟩,t⟩,e⟩,⟨⟨j,f,k⟩,a⟩,⟨l,h⟩,al⟩:aC) with
 | false=>simp[z]
 | true=>
  by_cases G:qV (opsOf ops)=0
  ·rw[if_pos G]at A
   cases L:kZ (opsOf ops) (⟨q,⟨y,o,v⟩,u,⟨⟨⟨m,w,n⟩,t⟩,e⟩,⟨⟨j,f,k⟩,a⟩,⟨l,h⟩,al⟩:aC) with
   | false=>
    rw[L]at A
    simp[D,z,J,C,E.r,A]
   | true=>
    rw[L]at A
    simp[D,z,J,C,E.r,A,G]
  ·rw[if_neg G]at A
   simp[D,z,J,C,E.r,A,G]
end
end
section
attribute [local simp] aG ay aw aF aE bQ gX aM aA aD bI bH bn aN aj bf fe
section
variable(dep:Nat){H:aa}(f:Fr H){rh:Ref}{ops:List (aC × AV)}{ents:List (bV × AV)}(a:B5 H rh ops ents)(d:oy ents)(j:ents.length<1000000)
include f a d j
theorem TH(C:UInt8)(E:UInt8)(A:UInt32)(B:UInt8)(D:Int)(y:UInt8)(w:UInt32)(v:UInt8)(z:Int)(e:Int)(o:UInt8)(k:UInt32)(l:UInt8)(m:Int)(u:UInt8)(t:UInt32){x:AV}{al:List Int}(R:Sl 1 (rows al) x)(hal:al.length<1000000)(ho:lT (⟨C,⟨E,A,B⟩,D,⟨⟨⟨y,w,v⟩,z⟩,e⟩,⟨⟨o,k,l⟩,m⟩,⟨u,t⟩,al⟩:aC)=true) :
 ∃H',bD env dep (.fn 218) [.ptr rh 0 0,.agg [a8 C,a8 E,ae A,a8 B,aI D,a8 y,ae w,a8 v,aI z,aI e,a8 o,ae k,a8 l,aI m,a8 u,ae t,x]] H=some (aI (fT ents (⟨C,⟨E,A,B⟩,D,⟨⟨⟨y,w,v⟩,z⟩,e⟩,⟨⟨o,k,l⟩,m⟩,⟨u,t⟩,al⟩:aC)),H')/\bE H H':=by
 have hs:=kU ho
 simp only at hs
 have hn:=gI hs
 simp only at hn
 refine eX (fn:=Tryz.f218) (c:=qC) (by kernel_rfl) (by kernel_rfl) (by kernel_rfl) (by kernel_rfl) (by kernel_rfl) ?_
 refine qj _ _ _ _ _ λg=>?_
 have hN:=LL y w v z e hs
 have hR:=X7 C E A B D y w v z e o k l m u t R hal
 have w1:=IntWalk.i64_in ((ents.length:Int)+e) (by omega)
 have Z : ∀b1 b2:bw,bE H ((⟨dep+1,3,H.gen (dep+1) 3,0⟩,some b2) :: (⟨dep+1,2,H.gen (dep+1) 2,0⟩,some b1) :: H):=λb1 b2=>⟨by simp(maxDischargeDepth:=12) [ek, *],λq c hq=>by
  have lq:(H.get q).isSome=true:=by rw[hq];rfl
  simp[dH f lq,hq]⟩
 have V : ∀(Hs:aa),bE H Hs->Hs.get ⟨dep+1,2,H.gen (dep+1) 2,0⟩=some ⟨1,[.ptr rh 0 0],false,false⟩ ->
  ∃H',bD env (dep+1) (.fn 232) ([]++[.cD 4 (om (cp ⟨⟨⟨y,w,v⟩,z⟩,e⟩)) none,.fn (.func 233) [] [.ptr ⟨dep+1,2,H.gen (dep+1) 2,0⟩ 0 0]]++[]) Hs=some (aB ((cp ⟨⟨⟨y,w,v⟩,z⟩,e⟩).any (fP ents)),H')/\bE Hs H':=λHs hG hq=>
  Gq (dep+1) (F:=233) (by kernel_rfl) (Of _) (Ft hs) (p:=fP ents) hG.fr (λi H' hG'=>by
   have:=WK (dep+3) hG'.fr ((a.grow hG).grow hG') d i.h.lv i.h.cats i.h.num i.n (q:=⟨dep+1,2,H.gen (dep+1) 2,0⟩) (hG'.old _ _ hq)
   exact this)
 cases hz:gx (⟨⟨o,k,l⟩,m⟩:bV) with
 | true=>
  have I : ¬((!gx (⟨⟨o,k,l⟩,m⟩:bV) && !wc ents (⟨C,⟨E,A,B⟩,D,⟨⟨⟨y,w,v⟩,z⟩,e⟩,⟨⟨o,k,l⟩,m⟩,⟨u,t⟩,al⟩:aC) ⟨⟨o,k,l⟩,m⟩)=true):=by simp[hz]
  have T:=hz
  unfold gx at T
  have P : ∀b1 b2 b3:bw,bE H ((⟨dep+1,5,H.gen (dep+1) 5,0⟩,some b3) :: (⟨dep+1,3,H.gen (dep+1) 3,0⟩,some b2) :: (⟨dep+1,2,H.gen (dep+1) 2,0⟩,some b1) :: H):=λb1 b2 b3=>⟨by simp(maxDischargeDepth:=12) [ek, *],λq c hq=>by
   have lq:(H.get q).isSome=true:=by rw[hq];rfl
   simp[dH f lq,hq]⟩
  by_cases S:JK (⟨C,⟨E,A,B⟩,D,⟨⟨⟨y,w,v⟩,z⟩,e⟩,⟨⟨o,k,l⟩,m⟩,⟨u,t⟩,al⟩:aC)=0
  rotate_left
  ·rw[if_neg S]at hR
   have N:fT ents (⟨C,⟨E,A,B⟩,D,⟨⟨⟨y,w,v⟩,z⟩,e⟩,⟨⟨o,k,l⟩,m⟩,⟨u,t⟩,al⟩:aC)=2:=by unfold fT;rw[if_neg I,if_pos (.inl S)]
   simp[ai, *,dX,R.r,fw,bM,T,R.r,hR,S]
   all_goals exact P _ _ _
  ·rw[if_pos S]at hR
   simp[ai, *,dX,R.r,fw,bM,T,R.r,hR,S,hN]
   refine nk (by kernel_rfl) ((λb=>V _ (P ⟨1,[.ptr rh 0 0],false,false⟩ ⟨17,[.agg [a8 C,a8 E,ae A,a8 B,aI D,a8 y,ae w,a8 v,aI z,aI e,a8 o,ae k,a8 l,aI m,a8 u,ae t,x]],false,false⟩ b) (by simp)) _) λH2 O=>?_
   have G:=((λb=>P ⟨1,[.ptr rh 0 0],false,false⟩ ⟨17,[.agg [a8 C,a8 E,ae A,a8 B,aI D,a8 y,ae w,a8 v,aI z,aI e,a8 o,ae k,a8 l,aI m,a8 u,ae t,x]],false,false⟩ b) _).trans O
   obtain⟨xo,vo,rm,h1,h2,h3⟩:=(a.grow G).box
   have W:=R2 (r:=⟨dep+1,37,H2.gen (dep+1) 37,0⟩) h3
   have U:=O.old _ _ ((λ(b:bw)=>(by simp:aa.get ((⟨dep+1,5,H.gen (dep+1) 5,0⟩,some b) :: (⟨dep+1,3,H.gen (dep+1) 3,0⟩,some ⟨17,[.agg [a8 C,a8 E,ae A,a8 B,aI D,a8 y,ae w,a8 v,aI z,aI e,a8 o,ae k,a8 l,aI m,a8 u,ae t,x]],false,false⟩) :: (⟨dep+1,2,H.gen (dep+1) 2,0⟩,some ⟨1,[.ptr rh 0 0],false,false⟩) :: H) ⟨dep+1,2,H.gen (dep+1) 2,0⟩=some ⟨1,[.ptr rh 0 0],false,false⟩)) _)
   have X:=O.old _ _ ((λ(b:bw)=>(by simp:aa.get ((⟨dep+1,5,H.gen (dep+1) 5,0⟩,some b) :: (⟨dep+1,3,H.gen (dep+1) 3,0⟩,some ⟨17,[.agg [a8 C,a8 E,ae A,a8 B,aI D,a8 y,ae w,a8 v,aI z,aI e,a8 o,ae k,a8 l,aI m,a8 u,ae t,x]],false,false⟩) :: (⟨dep+1,2,H.gen (dep+1) 2,0⟩,some ⟨1,[.ptr rh 0 0],false,false⟩) :: H) ⟨dep+1,3,H.gen (dep+1) 3,0⟩=some ⟨17,[.agg [a8 C,a8 E,ae A,a8 B,aI D,a8 y,ae w,a8 v,aI z,aI e,a8 o,ae k,a8 l,aI m,a8 u,ae t,x]],false,false⟩)) _)
   cases M:(cp ⟨⟨⟨y,w,v⟩,z⟩,e⟩).any (fP ents) with
   | true=>
    have N:fT ents (⟨C,⟨E,A,B⟩,D,⟨⟨⟨y,w,v⟩,z⟩,e⟩,⟨⟨o,k,l⟩,m⟩,⟨u,t⟩,al⟩:aC)=2:=by unfold fT;rw[if_neg I,if_pos (.inr M)]
    simp[G,N]
   | false=>
    have L : ¬(JK (⟨C,⟨E,A,B⟩,D,⟨⟨⟨y,w,v⟩,z⟩,e⟩,⟨⟨o,k,l⟩,m⟩,⟨u,t⟩,al⟩:aC)≠0\/(cp ⟨⟨⟨y,w,v⟩,z⟩,e⟩).any (fP ents)=true):=by rw[M];simp[S]
    by_cases Y:8192<(ents.length:Int)+e
    ·have N:fT ents (⟨C,⟨E,A,B⟩,D,⟨⟨⟨y,w,v⟩,z⟩,e⟩,⟨⟨o,k,l⟩,m⟩,⟨u,t⟩,al⟩:aC)=4:=by unfold fT;rw[if_neg I,if_neg L,if_pos Y]
     simp[G,N,U,X,h1,W,w1,Y,R.r]
    ·have N:fT ents (⟨C,⟨E,A,B⟩,D,⟨⟨⟨y,w,v⟩,z⟩,e⟩,⟨⟨o,k,l⟩,m⟩,⟨u,t⟩,al⟩:aC)=0:=by unfold fT;rw[if_neg I,if_neg L,if_neg Y]
     simp[G,N,U,X,h1,W,w1,Y,R.r]
 | false=>
  have T:=hz
  unfold gx at T
  have hS:=RG (dep+1) (Z ⟨1,[.ptr rh 0 0],false,false⟩ ⟨17,[.agg [a8 C,a8 E,ae A,a8 B,aI D,a8 y,ae w,a8 v,aI z,aI e,a8 o,ae k,a8 l,aI m,a8 u,ae t,x]],false,false⟩).fr (a.grow (Z _ _)) d C E A B D y w v z e o k l m u t o k l m R
  simp[ai, *,dX,R.r,fw,bM,T]
  refine nk (by kernel_rfl) hS λH1 hG1=>?_
  have hGa:=(Z _ _).trans hG1
  have K:=hGa.fr
  have J:=hG1.old ⟨dep+1,2,H.gen (dep+1) 2,0⟩ _ (by simp;rfl)
  have Q:=hG1.old ⟨dep+1,3,H.gen (dep+1) 3,0⟩ _ (by simp;rfl)
  have l2a:(H1.get ⟨dep+1,2,H.gen (dep+1) 2,0⟩).isSome=true:=by rw[J];rfl
  have l3a:(H1.get ⟨dep+1,3,H.gen (dep+1) 3,0⟩).isSome=true:=by rw[Q];rfl
  have P : ∀b3:bw,bE H ((⟨dep+1,5,H1.gen (dep+1) 5,0⟩,some b3) :: H1):=λb3=>hGa.trans (bE.cons K _ _ _)
  clear Z
  cases hsb:wc ents (⟨C,⟨E,A,B⟩,D,⟨⟨⟨y,w,v⟩,z⟩,e⟩,⟨⟨o,k,l⟩,m⟩,⟨u,t⟩,al⟩:aC) ⟨⟨o,k,l⟩,m⟩ with
  | false=>
   have N:fT ents (⟨C,⟨E,A,B⟩,D,⟨⟨⟨y,w,v⟩,z⟩,e⟩,⟨⟨o,k,l⟩,m⟩,⟨u,t⟩,al⟩:aC)=6:=by unfold fT;rw[if_pos (by simp[hz,hsb])]
   simp[N,hGa]
  | true=>
   have I : ¬((!gx (⟨⟨o,k,l⟩,m⟩:bV) && !wc ents (⟨C,⟨E,A,B⟩,D,⟨⟨⟨y,w,v⟩,z⟩,e⟩,⟨⟨o,k,l⟩,m⟩,⟨u,t⟩,al⟩:aC) ⟨⟨o,k,l⟩,m⟩)=true):=by simp[hsb]
   by_cases S:JK (⟨C,⟨E,A,B⟩,D,⟨⟨⟨y,w,v⟩,z⟩,e⟩,⟨⟨o,k,l⟩,m⟩,⟨u,t⟩,al⟩:aC)=0
   rotate_left
   ·rw[if_neg S]at hR
    have N:fT ents (⟨C,⟨E,A,B⟩,D,⟨⟨⟨y,w,v⟩,z⟩,e⟩,⟨⟨o,k,l⟩,m⟩,⟨u,t⟩,al⟩:aC)=2:=by unfold fT;rw[if_neg I,if_pos (.inl S)]
    simp[J,Q,R.r,hR,S,N,dH K l2a,dH K l3a,P]
   ·rw[if_pos S]at hR
    simp[J,Q,R.r,hR,S,hN,dH K l2a,dH K l3a]
    have hc:=λb=>V _ (P b) (by rw[aa.uR,if_neg (qM K l2a _ _ _)];exact J)
    refine nk (by kernel_rfl) (hc _) λH2 O=>?_
    have G:=(P _).trans O
    obtain⟨xo,vo,rm,h1,h2,h3⟩:=(a.grow G).box
    have W:=R2 (r:=⟨dep+1,37,H2.gen (dep+1) 37,0⟩) h3
    have U:=O.old ⟨dep+1,2,H.gen (dep+1) 2,0⟩ _ (by rw[aa.uR,if_neg (qM K l2a _ _ _)];exact J)
    have X:=O.old ⟨dep+1,3,H.gen (dep+1) 3,0⟩ _ (by rw[aa.uR,if_neg (qM K l3a _ _ _)];exact Q)
    cases M:(cp ⟨⟨⟨y,w,v⟩,z⟩,e⟩).any (fP ents) with
    | true=>
     have N:fT ents (⟨C,⟨E,A,B⟩,D,⟨⟨⟨y,w,v⟩,z⟩,e⟩,⟨⟨o,k,l⟩,m⟩,⟨u,t⟩,al⟩:aC)=2:=by unfold fT;rw[if_neg I,if_pos (.inr M)]
     simp[G,N]
    | false=>
     have L : ¬(JK (⟨C,⟨E,A,B⟩,D,⟨⟨⟨y,w,v⟩,z⟩,e⟩,⟨⟨o,k,l⟩,m⟩,⟨u,t⟩,al⟩:aC)≠0\/(cp ⟨⟨⟨y,w,v⟩,z⟩,e⟩).any (fP ents)=true):=by rw[M];simp[S]
     by_cases Y:8192<(ents.length:Int)+e
     ·have N:fT ents (⟨C,⟨E,A,B⟩,D,⟨⟨⟨y,w,v⟩,z⟩,e⟩,⟨⟨o,k,l⟩,m⟩,⟨u,t⟩,al⟩:aC)=4:=by unfold fT;rw[if_neg I,if_neg L,if_pos Y]
      simp[G,N,U,X,h1,W,w1,Y,R.r]
     ·have N:fT ents (⟨C,⟨E,A,B⟩,D,⟨⟨⟨y,w,v⟩,z⟩,e⟩,⟨⟨o,k,l⟩,m⟩,⟨u,t⟩,al⟩:aC)=0:=by unfold fT;rw[if_neg I,if_neg L,if_neg Y]
      simp[G,N,U,X,h1,W,w1,Y,R.r]
omit f a d j in
theorem Fg:jD env.P 271 (some [(1,AV.fn (Fn.func 218) [] []),(2,AV.fn (Fn.func 219) [] []),(3,AV.fn (Fn.func 220) [] [])]) =
 some (.agg [.v .nilFunc,.fn (.func 218) [] [],.fn (.func 219) [] [],.fn (.func 220) [] []],[]):=by kernel_rfl
omit f a d j in
theorem UR:sx env.P 271 (some (.agg [.v .nilFunc,.fn (.func 218) [] [],.fn (.func 219) [] [],.fn (.func 220) [] []])) (some (a8 1))=some (.fn (.func 218) [] [],[]):=by kernel_rfl
omit f a d j in
theorem UQ:sx env.P 271 (some (.agg [.v .nilFunc,.fn (.func 218) [] [],.fn (.func 219) [] [],.fn (.func 220) [] []])) (some (a8 2))=some (.fn (.func 219) [] [],[]):=by kernel_rfl
omit f a d j in
theorem UP:sx env.P 271 (some (.agg [.v .nilFunc,.fn (.func 218) [] [],.fn (.func 219) [] [],.fn (.func 220) [] []])) (some (a8 3))=some (.fn (.func 220) [] [],[]):=by kernel_rfl
theorem Sb(R : ∀p∈ops,J8 p)(W:ops.length<100000)(D:UInt8)(A:UInt8)(u:UInt32)(y:UInt8)(w:Int)(q:UInt8)(z:UInt32)(t:UInt8)(v:Int)(i:Int)(m:UInt8)(k:UInt32)(n:UInt8)(b:Int)(o:UInt8)(l:UInt32){x:AV}{al:List Int}(P:Sl 1 (rows al) x)(T:al.length<1000000)(Q:lT (⟨D,⟨A,u,y⟩,w,⟨⟨⟨q,z,t⟩,v⟩,i⟩,⟨⟨m,k,n⟩,b⟩,⟨o,l⟩,al⟩:aC)=true) :
 ∃H',bD env dep (.fn 193) [.ptr rh 0 0,.agg [a8 D,a8 A,ae u,a8 y,aI w,a8 q,ae z,a8 t,aI v,aI i,a8 m,ae k,a8 n,aI b,a8 o,ae l,x]] H=some (aI (wA ops ents (⟨D,⟨A,u,y⟩,w,⟨⟨⟨q,z,t⟩,v⟩,i⟩,⟨⟨m,k,n⟩,b⟩,⟨o,l⟩,al⟩:aC)),H')/\bE H H':=by
 refine eX (fn:=Tryz.f193) (c:=rX) (by kernel_rfl) (by kernel_rfl) (by kernel_rfl) (by kernel_rfl) (by kernel_rfl) ?_
 refine rU _ _ _ _ _ λg=>?_
 have U:=kU Q
 simp only at U
 have C : ∀b1:bw,bE H ((⟨dep+1,3,H.gen (dep+1) 3,0⟩,some b1) :: H):=λb1=>bE.cons f _ _ _
 have V:D=1\/D=2\/D=3:=by
  simp only[lT,aY]at Q
  have h:=Q.2.2.2.2
  unfold C9 at h
  split at h
  ·exact .inl (by assumption)
  ·split at h
   ·exact .inr (.inl (by assumption))
   ·split at h
    ·exact .inr (.inr (by assumption))
    ·cases h
 have O : ∀(I:aa)(e:Int),bE ((⟨dep+1,3,H.gen (dep+1) 3,0⟩,some ⟨17,[.agg [a8 D,a8 A,ae u,a8 y,aI w,a8 q,ae z,a8 t,aI v,aI i,a8 m,ae k,a8 n,aI b,a8 o,ae l,x]],false,false⟩) :: H) I ->∃(N:AV) (rm:Ref),I.get rh=some ⟨2,[.agg [N,.mp rm]],false,false⟩/\xz N=some ops.length/\bE H I:=by
  intro I e J
  obtain⟨N,X,rm,F,E,G⟩:=((a.grow (C _)).grow J).box
  exact⟨N,rm,F,by rw[E.len];simp,(C _).trans J⟩
 rcases V with rfl | rfl | rfl
 ·have S:=TH (dep+1) (C ⟨17,[.agg [a8 1,a8 A,ae u,a8 y,aI w,a8 q,ae z,a8 t,aI v,aI i,a8 m,ae k,a8 n,aI b,a8 o,ae l,x]],false,false⟩).fr (a.grow (C _)) d j _ _ _ _ _ _ _ _ _ _ _ _ _ _ _ _ P T Q
  have K:vk ops ents ⟨1,⟨A,u,y⟩,w,⟨⟨⟨q,z,t⟩,v⟩,i⟩,⟨⟨m,k,n⟩,b⟩,⟨o,l⟩,al⟩=fT ents ⟨1,⟨A,u,y⟩,w,⟨⟨⟨q,z,t⟩,v⟩,i⟩,⟨⟨m,k,n⟩,b⟩,⟨o,l⟩,al⟩:=by unfold vk;rfl
  unfold wA
  rw[K]
  clear K
  generalize fT ents ⟨1,⟨A,u,y⟩,w,⟨⟨⟨q,z,t⟩,v⟩,i⟩,⟨⟨m,k,n⟩,b⟩,⟨o,l⟩,al⟩=er at *
  simp[ai, *,eE,P.r,Fg,UR,UQ,UP]
  refine nk (by kernel_rfl) S λI J=>?_
  obtain⟨N,rm,F,E,G⟩:=O I 0 J
  by_cases L:er=0
  ·subst L
   by_cases M:2048<=ops.length
   ·have B:(2048:Int)<=ops.length:=by omega
    simp[F,E,G,M,B]
   ·have B : ¬(2048:Int)<=ops.length:=by omega
    simp[F,E,G,M,B]
  ·simp[F,E,G,L]
 ·have S:=Th (dep+1) (C ⟨17,[.agg [a8 2,a8 A,ae u,a8 y,aI w,a8 q,ae z,a8 t,aI v,aI i,a8 m,ae k,a8 n,aI b,a8 o,ae l,x]],false,false⟩).fr (a.grow (C _)) d 2 A u y w q z t v i m k n b o l P U
  have K:vk ops ents ⟨2,⟨A,u,y⟩,w,⟨⟨⟨q,z,t⟩,v⟩,i⟩,⟨⟨m,k,n⟩,b⟩,⟨o,l⟩,al⟩=Aj ents ⟨2,⟨A,u,y⟩,w,⟨⟨⟨q,z,t⟩,v⟩,i⟩,⟨⟨m,k,n⟩,b⟩,⟨o,l⟩,al⟩:=by unfold vk;rfl
  unfold wA
  rw[K]
  clear K
  generalize Aj ents ⟨2,⟨A,u,y⟩,w,⟨⟨⟨q,z,t⟩,v⟩,i⟩,⟨⟨m,k,n⟩,b⟩,⟨o,l⟩,al⟩=er at *
  simp[ai, *,eE,P.r,Fg,UR,UQ,UP]
  refine nk (by kernel_rfl) S λI J=>?_
  obtain⟨N,rm,F,E,G⟩:=O I 0 J
  by_cases L:er=0
  ·subst L
   by_cases M:2048<=ops.length
   ·have B:(2048:Int)<=ops.length:=by omega
    simp[F,E,G,M,B]
   ·have B : ¬(2048:Int)<=ops.length:=by omega
    simp[F,E,G,M,B]
  ·simp[F,E,G,L]
 ·have S:=raise_at (dep+1) (C ⟨17,[.agg [a8 3,a8 A,ae u,a8 y,aI w,a8 q,ae z,a8 t,aI v,aI i,a8 m,ae k,a8 n,aI b,a8 o,ae l,x]],false,false⟩).fr (a.grow (C _)) d R W _ _ _ _ _ _ _ _ _ _ _ _ _ _ _ _ P (by omega) Q
  have K:vk ops ents ⟨3,⟨A,u,y⟩,w,⟨⟨⟨q,z,t⟩,v⟩,i⟩,⟨⟨m,k,n⟩,b⟩,⟨o,l⟩,al⟩=Ak ops ents ⟨3,⟨A,u,y⟩,w,⟨⟨⟨q,z,t⟩,v⟩,i⟩,⟨⟨m,k,n⟩,b⟩,⟨o,l⟩,al⟩:=by unfold vk;rfl
  unfold wA
  rw[K]
  clear K
  generalize Ak ops ents ⟨3,⟨A,u,y⟩,w,⟨⟨⟨q,z,t⟩,v⟩,i⟩,⟨⟨m,k,n⟩,b⟩,⟨o,l⟩,al⟩=er at *
  simp[ai, *,eE,P.r,Fg,UR,UQ,UP]
  refine nk (by kernel_rfl) S λI J=>?_
  obtain⟨N,rm,F,E,G⟩:=O I 0 J
  by_cases L:er=0
  ·subst L
   by_cases M:2048<=ops.length
   ·have B:(2048:Int)<=ops.length:=by omega
    simp[F,E,G,M,B]
   ·have B : ¬(2048:Int)<=ops.length:=by omega
    simp[F,E,G,M,B]
  ·simp[F,E,G,L]
end
end
section
attribute [local simp] aG ay aw aF aE bQ gX aM aA aD bI bH bn aN aj bf fe
def vc(ents:List (bV × AV))(l:List bV):List (bV × AV):=l.foldl (λe i=>gw i (aB true) e) ents
@[simp] theorem adi(ents:List (bV × AV)):vc ents []=ents:=id rfl
@[simp] theorem Gt(ents:List (bV × AV))(i:bV)(l:List bV):vc ents (i :: l)=vc (gw i (aB true) ents) l:=id rfl
theorem Nx{K:Type}[DecidableEq K](k:K)(x:AV) : ∀l:List (K × AV),(gw k x l).length<=l.length+1
 | []=>by simp[gw]
 | p :: l=>by
  unfold gw
  split
  ·simp
  ·have:=Nx k x l;simp;omega
theorem Dm : ∀(l:List bV)(ents:List (bV × AV)),(vc ents l).length<=ents.length+l.length
 | [],ents=>by simp
 | i :: l,ents=>by
  have:=Dm l (gw i (aB true) ents)
  have a:=Nx i (aB true) ents
  simp
  omega
theorem Cc{i:bV} : ∀ {ents:List (bV × AV)},oy ents->oy (gw i (aB true) ents)
 | [],h=>by intro p hp;simp[gw]at hp;rw[hp]
 | q :: l,h=>by
  intro p hp
  unfold gw at hp
  split at hp
  ·rcases nB.1 hp with rfl | hp
   ·rfl
   ·exact h p (iA _ hp)
  ·rcases nB.1 hp with rfl | hp
   ·exact h _ jB
   ·exact Cc (λp hp=>h p (iA _ hp)) p hp
theorem Gu : ∀(l:List bV){ents:List (bV × AV)},oy ents->oy (vc ents l)
 | [],_,h=>h
 | i :: l,_,h=>Gu l (Cc h)
def ot:List (aC × AV)->List (bV × AV)->List (aC × AV)->Option (List (aC × AV) × List (bV × AV))
 | ops,ents,[]=>some (ops,ents)
 | ops,ents,p :: l=>if lT p.1=true/\wA ops ents p.1=0 then ot (ops++[p]) (if p.1.kind=1 then vc ents (cp p.1.s) else ents) l else none
structure GQ (H0 H:aa) (rh rm:Ref) (ops:List (aC × AV)) (ents:List (bV × AV)):Prop where
 fr:Fr H
 box : ∃xo,H.get rh=some ⟨2,[.agg [xo,.mp rm]],false,false⟩/\((xo=ba/\ops=[]) \/∃g,xo = .cG ⟨1,34,g,0⟩ 0 ops.length none/\H.get ⟨1,34,g,0⟩=some ⟨17,cF ops,true,false⟩)
 map:H.get rm=some (bg (cB Bm ents))
 old : ∀q b,q.d=0->H0.get q=some b->H.get q=some b
 ok:oy ents
theorem GQ.da{H0 H:aa}{rh rm:Ref}{ops:List (aC × AV)}{ents:List (bV × AV)}(h:GQ H0 H rh rm ops ents):B5 H rh ops ents:=by
 obtain⟨e,b,a⟩:=h.box
 rcases a with ⟨rfl,rfl⟩ | ⟨g,rfl,a⟩
 ·exact⟨ba,ba,rm,b,kO.of (.inl ⟨rfl,rfl⟩) _,h.map⟩
 ·exact⟨_,.cD 17 (cF ops) none,rm,b,.inr ⟨_,none,false,by rw[jN],a,rfl,de _⟩,h.map⟩
theorem GQ.grow{H0 H H':aa}{rh rm:Ref}{ops:List (aC × AV)}{ents:List (bV × AV)}(h:GQ H0 H rh rm ops ents)(g:bE H H'):GQ H0 H' rh rm ops ents:=by
 obtain⟨n,m,a⟩:=h.box
 refine⟨g.fr,⟨n,g.old _ _ m,?_⟩,g.old _ _ h.map,λq b j k=>g.old _ _ (h.old q b j k),h.ok⟩
 rcases a with a | ⟨i,e,a⟩
 ·exact .inl a
 ·exact .inr ⟨i,e,g.old _ _ a⟩
section
variable{l:List (aC × AV)}{f:AV}(u:Sl 17 (cF l) f)(c : ∀p∈l,J8 p/\p.1.l.length<1000000)(B:l.length<10000){rh rm:Ref}(w:rh.t=11)(tm:rm.t=9)(A:rh.d=1)(z:rm.d=1){H0:aa}{Q:AV->aa->Prop}
include u c B w tm A z
theorem WN{ops:List (aC × AV)}{n:List bV}(hn:n.length<100000){j:Int}{m:List (bV × AV)}
 (N : ∀H,GQ H0 H rh rm ops m->bF env Tryz.f172 (0+1) o4 [(4,.ptr rh 0 0),(14,aI (IntKind.i64.wrap (j+1))),(12,f),(13,aI l.length)] H Q) :
 ∀(s:List bV)(k:Nat)(i:Int)(ents:List (bV × AV)) (H:aa),n.drop k=s->k<=n.length->i=k->GQ H0 H rh rm ops ents->vc ents s=m ->
 bF env Tryz.f172 (0+1) sL [(44,aI i),(4,.ptr rh 0 0),(42,.cD 4 (om n) none),(12,f),(13,aI l.length),(14,aI j),(43,aI n.length)] H Q:=by
 have T:Sl 4 (om n) (.cD 4 (om n) none):=Sl.mk _ _
 intro s
 induction s with
 | nil=>
  rintro k i ents H hs hk rfl hI he
  obtain rfl:=drop_nil hs hk
  simp at he
  subst he
  have G:=N H hI
  refine DN _ _ _ _ _ _ _ _ _ _ λg=>?_
  clear N hI c
  simp[ai, *,AJ]
  all_goals exact G
 | cons a s V=>
  rintro k i ents H hs hk rfl hI he
  obtain⟨hlt,hg,F,E⟩:=drop_cons hs
  have e3:=IntWalk.i64_in ((k:Int)+1) (by omega)
  obtain⟨⟨C,y,v⟩,x⟩:=a
  have hrd:cm (om n) k 0 4 true=some (.agg [a8 C,ae y,a8 v,aI x]):=by simp[om,E,Bm]
  have S:(k:Int)<n.length:=by omega
  obtain⟨P,⟨U,h1,o⟩,Z,O,Y⟩:=hI
  have l1:(H.get rh).isSome=true:=by rw[h1];rfl
  have l3:(H.get rm).isSome=true:=by rw[Z];rfl
  have J:=λ(H':aa)(h:H'.get rm=some (bg (cB Bm ents)))=>vT R4 OF (t:=264) (et:=4) (by kernel_rfl) h ⟨⟨C,y,v⟩,x⟩ (aB true)
  have n1:rh≠rm:=by rintro rfl;omega
  have n2:=n1.symm
  have M:=λH' h=>V (k+1) ((k:Int)+1) (gw ⟨⟨C,y,v⟩,x⟩ (aB true) ents) H' F (by omega) (by simp) h (by simpa using he)
  have L : ∀(D:aa),Fr D->D.get rh=some ⟨2,[.agg [U,.mp rm]],false,false⟩->D.get rm=some (bg (cB Bm (gw ⟨⟨C,y,v⟩,x⟩ (aB true) ents)))->(∀q,q≠rm->(H.get q).isSome=true->D.get q=H.get q)->GQ H0 D rh rm ops (gw ⟨⟨C,y,v⟩,x⟩ (aB true) ents):=by
   intro D f1 f2 f3 W
   refine⟨f1,⟨U,f2,?_⟩,f3,λq b I X=>?_,Cc Y⟩
   ·rcases o with o | ⟨g,e,o⟩
    ·exact .inl o
    ·exact .inr ⟨g,e,by rw[W _ (λe=>by have h:=congrArg Ref.t e;rw[tm]at h;exact absurd h (by simp)) (by rw[o];rfl)];exact o⟩
   ·rw[W q (by rintro rfl;omega) (by rw[O q b I X];rfl)];exact O q b I X
  have K:(Bm ⟨⟨C,y,v⟩,x⟩) = .agg [a8 C,ae y,a8 v,aI x]:=rfl
  rw[K]at J
  clear V N c O o hs F hg E he
  refine DN _ _ _ _ _ _ _ _ _ _ λg=>?_
  simp[ai, *,AJ,T.r,T.idx]
  refine M _ (L _ ?_ ?_ ?_ λq I R=>?_)
  ·simp(maxDischargeDepth:=12) [ek, *]
  ·simp(maxDischargeDepth:=12) [ek, *]
  ·simp(maxDischargeDepth:=12) [ek, *]
  ·simp[dH P R,aa.get_put,I]
def MN(H0:aa)(rh rm:Ref)(n:Nat)(o:Option (List (aC × AV) × List (bV × AV)))(y:AV)(H:aa):Prop:=
 Fr H/\(∀q b,q.d=0->H0.get q=some b->H.get q=some b)/\match o with
  | none=>y = .tup [.v (.pointer none),aB false]
  | some (ops,ents)=>y = .tup [.ptr rh 0 0,aB true]/\GQ H0 H rh rm ops ents/\ops.length<=n/\ents.length<=64 * ops.length /\∀p∈ops,J8 p
theorem W2 : ∀(s:List (aC × AV)) (k:Nat) (i:Int) (ops:List (aC × AV)) (ents:List (bV × AV)) (H:aa),l.drop k=s->k<=l.length->i=k->ops.length<=k->ents.length<=64 * ops.length->(∀p∈ops,J8 p)->GQ H0 H rh rm ops ents ->
 (∀y H',MN H0 rh rm l.length (ot ops ents s) y H'->Q y H') ->
 bF env Tryz.f172 (0+1) o4 [(4,.ptr rh 0 0),(14,aI i),(12,f),(13,aI l.length)] H Q:=by
 intro s
 induction s with
 | nil=>
  rintro k i ops ents H hs hk rfl ho he hok hI hQ
  obtain rfl:=drop_nil hs hk
  have V:=hQ _ H ⟨hI.fr,hI.old,rfl,hI,ho,he,hok⟩
  refine F2 _ _ _ _ _ _ _ λg=>?_
  clear hQ hI c
  simp[ai, *,xM]
  all_goals exact V
 | cons p s ih=>
  rintro k i ops ents H hs hk rfl ho he hok hI hQ
  obtain⟨hlt,hg,hs',hg'⟩:=drop_cons hs
  have e3:=IntWalk.i64_in ((k:Int)+1) (by omega)
  have hp:=c p (hg ▸ mq hlt)
  obtain⟨⟨K,⟨P,M,N⟩,O,⟨⟨⟨I,G,F⟩,J⟩,a⟩,⟨⟨E,j,o⟩,D⟩,⟨C,n⟩,al⟩,x⟩:=p
  obtain⟨⟨S,hal'⟩,hal⟩:=hp
  simp only at S hal hal'
  have hrd:cm (cF l) k 0 17 true=some (.agg [a8 K,a8 P,ae M,a8 N,aI O,a8 I,ae G,a8 F,aI J,aI a,a8 E,ae j,a8 o,aI D,a8 C,ae n,x]):=by simp[cF,hg',Aw]
  have hlt':(k:Int)<l.length:=by omega
  have hC:=mF K P M N O I G F J a E j o D C n S hal'
  have hH:=hI.da
  have hFr:=hI.fr
  have hg1 : ∀b1:bw,bE H ((⟨1,6,H.gen 1 6,0⟩,some b1) :: H):=λb1=>bE.cons hFr _ _ _
  have hcell : ∀ {b:aC × AV},(cF l).length=l.length:=jN l
  refine F2 _ _ _ _ _ _ _ λg=>?_
  have hno : ¬(lT (⟨K,⟨P,M,N⟩,O,⟨⟨⟨I,G,F⟩,J⟩,a⟩,⟨⟨E,j,o⟩,D⟩,⟨C,n⟩,al⟩:aC)=true/\wA ops ents (⟨K,⟨P,M,N⟩,O,⟨⟨⟨I,G,F⟩,J⟩,a⟩,⟨⟨E,j,o⟩,D⟩,⟨C,n⟩,al⟩:aC)=0)->Q (.tup [.v (.pointer none),aB false]) H->True:=λ_ _=>trivial
  clear hno hcell
  cases hb:lT (⟨K,⟨P,M,N⟩,O,⟨⟨⟨I,G,F⟩,J⟩,a⟩,⟨⟨E,j,o⟩,D⟩,⟨C,n⟩,al⟩:aC) with
  | false=>
   have hd:ot ops ents (((⟨K,⟨P,M,N⟩,O,⟨⟨⟨I,G,F⟩,J⟩,a⟩,⟨⟨E,j,o⟩,D⟩,⟨C,n⟩,al⟩:aC),x) :: s)=none:=by simp[ot,hb]
   rw[hd]at hQ
   have V:=λb1=>hQ (.tup [.v (.pointer none),aB false]) _ ⟨(hg1 b1).fr,λq b Y hb=>(hg1 b1).old _ _ (hI.old q b Y hb),rfl⟩
   clear hQ ih hI c hH
   simp[ai, *,xM,u.r,u.idx,S.r]
   all_goals exact V _
  | true=>
   have hfits:=Sb 1 (hg1 ⟨17,[.agg [a8 K,a8 P,ae M,a8 N,aI O,a8 I,ae G,a8 F,aI J,aI a,a8 E,ae j,a8 o,aI D,a8 C,ae n,x]],false,false⟩).fr (hH.grow (hg1 _)) hI.ok (by omega) hok (by omega) K P M N O I G F J a E j o D C n S hal hb
   have hsp:=kU hb
   simp only at hsp
   have hN:=LL I G F J a hsp
   simp[ai, *,xM,u.r,u.idx,S.r]
   refine nk (by kernel_rfl) hfits λH4 hG4=>?_
   have hI4:=(hI.grow (hg1 _)).grow hG4
   by_cases hd0:wA ops ents (⟨K,⟨P,M,N⟩,O,⟨⟨⟨I,G,F⟩,J⟩,a⟩,⟨⟨E,j,o⟩,D⟩,⟨C,n⟩,al⟩:aC)=0
   ·have hd:ot ops ents (((⟨K,⟨P,M,N⟩,O,⟨⟨⟨I,G,F⟩,J⟩,a⟩,⟨⟨E,j,o⟩,D⟩,⟨C,n⟩,al⟩:aC),x) :: s)=ot (ops++[((⟨K,⟨P,M,N⟩,O,⟨⟨⟨I,G,F⟩,J⟩,a⟩,⟨⟨E,j,o⟩,D⟩,⟨C,n⟩,al⟩:aC),x)]) (if K=1 then vc ents (cp ⟨⟨⟨I,G,F⟩,J⟩,a⟩) else ents) s:=by
     show(if _ then _ else _)=_
     rw[if_pos ⟨hb,hd0⟩]
    rw[hd]at hQ
    have hnl:=Ft hsp
    have hnl2:(cp ⟨⟨⟨I,G,F⟩,J⟩,a⟩).length<=64:=by
     have hn:=gI hsp
     simp only at hn
     simp[cp]
     omega
    have hal2:=Dm (cp ⟨⟨⟨I,G,F⟩,J⟩,a⟩) ents
    have hok' : ∀p∈ops++[((⟨K,⟨P,M,N⟩,O,⟨⟨⟨I,G,F⟩,J⟩,a⟩,⟨⟨E,j,o⟩,D⟩,⟨C,n⟩,al⟩:aC),x)],J8 p:=by
     intro p hp
     rcases oH.1 hp with hp | hp
     ·exact hok p hp
     ·rw[vS]at hp;subst hp;exact⟨S,hal'⟩
    obtain⟨hF4,⟨xo,h1,h2⟩,h3,h4,h5⟩:=hI4
    have hb6:=hG4.old ⟨1,6,H.gen 1 6,0⟩ _ (by simp;rfl)
    have lh:(H4.get rh).isSome=true:=by rw[h1];rfl
    have lm:(H4.get rm).isSome=true:=by rw[h3];rfl
    have n34 : ∀g,(⟨1,34,g,0⟩:Ref)≠rh:=λg e=>by have h:=congrArg Ref.t e;rw[w]at h;exact absurd h (by simp)
    have n34' : ∀g,rh≠(⟨1,34,g,0⟩:Ref):=λg e=>n34 g e.symm
    have m34 : ∀g,(⟨1,34,g,0⟩:Ref)≠rm:=λg e=>by have h:=congrArg Ref.t e;rw[tm]at h;exact absurd h (by simp)
    have m34' : ∀g,rm≠(⟨1,34,g,0⟩:Ref):=λg e=>m34 g e.symm
    have nhm:rh≠rm:=by rintro rfl;omega
    have nmh:=nhm.symm
    have n6:rh≠⟨1,6,H.gen 1 6,0⟩:=λe=>by have h:=congrArg Ref.t e;rw[w]at h;exact absurd h (by simp)
    have n6':=n6.symm
    have hst : ∀(g m:Nat)(H1:aa),m=ops.length+1->Fr H1->H1.get rh=some ⟨2,[.agg [.cG ⟨1,34,g,0⟩ 0 m none,.mp rm]],false,false⟩->H1.get ⟨1,34,g,0⟩=some ⟨17,cF ops++[.agg [a8 K,a8 P,ae M,a8 N,aI O,a8 I,ae G,a8 F,aI J,aI a,a8 E,ae j,a8 o,aI D,a8 C,ae n,x]],true,false⟩->H1.get rm=some (bg (cB Bm ents)) ->
     (∀q,q.d=0->(H4.get q).isSome=true->H1.get q=H4.get q)->GQ H0 H1 rh rm (ops++[((⟨K,⟨P,M,N⟩,O,⟨⟨⟨I,G,F⟩,J⟩,a⟩,⟨⟨E,j,o⟩,D⟩,⟨C,n⟩,al⟩:aC),x)]) ents:=by
     intro g m H1 hm f1 f2 f3 f4 f5
     subst hm
     refine⟨f1,⟨_,f2,.inr ⟨g,by simp,by rw[f3];simp[cF,Aw]⟩⟩,f4,λq b Y hb=>?_,h5⟩
     rw[f5 q Y (by rw[h4 q b Y hb];rfl)]
     exact h4 q b Y hb
    have L : ∀(X:aa),GQ H0 X rh rm (ops++[((⟨K,⟨P,M,N⟩,O,⟨⟨⟨I,G,F⟩,J⟩,a⟩,⟨⟨E,j,o⟩,D⟩,⟨C,n⟩,al⟩:aC),x)]) ents->(if K=1 then bF env Tryz.f172 (0+1) sL [(44,aI 0),(4,.ptr rh 0 0),(42,.cD 4 (om (cp ⟨⟨⟨I,G,F⟩,J⟩,a⟩)) none),(12,f),(13,aI l.length),(14,aI k),(43,aI (cp ⟨⟨⟨I,G,F⟩,J⟩,a⟩).length)] X Q
     else bF env Tryz.f172 (0+1) o4 [(4,.ptr rh 0 0),(14,aI ((k:Int)+1)),(12,f),(13,aI l.length)] X Q):=by
     intro X hI7
     split
     ·rename_i T
      rw[if_pos T]at hQ
      exact WN u c B w tm A z hnl (λH' hI'=>by rw[e3];exact ih (k+1) _ _ _ H' hs' (by omega) (by simp) (by simp;omega) (by simp;omega) hok' hI' hQ) _ 0 0 ents X rfl (by omega) rfl hI7 rfl
     ·rename_i T
      rw[if_neg T]at hQ
      exact ih (k+1) _ _ _ X hs' (by omega) (by simp) (by simp;omega) (by simp;omega) hok' hI7 hQ
    clear c hQ ih hI hH hfits hC hok hok' hal2 hs hs' hg hg' h4 h5 hG4 hrd hd
    rcases h2 with ⟨rfl,rfl⟩ | ⟨g,rfl,h2⟩
    ·have U:=hst (H4.gen 1 34) 1
     clear hst
     have heo:cF []=[]:=rfl
     by_cases T:K=1
     ·subst T
      have Z:=λX h=>L X h
      simp only[if_true]at Z
      clear L
      simp[ai, *,S.r]
      refine Z _ (U _ rfl ?_ ?_ ?_ ?_ λq Y W=>?_)
      ·simp(maxDischargeDepth:=12) [ek, *]
      ·simp(maxDischargeDepth:=12) [ek, *]
      ·simp(maxDischargeDepth:=12) [ek, *]
      ·simp(maxDischargeDepth:=12) [ek, *]
      ·have nq:q≠rh:=by rintro rfl;omega
       have R : ∀g,q≠(⟨1,34,g,0⟩:Ref):=λg e=>by have h:=congrArg Ref.d e;rw[Y]at h;exact absurd h (by simp)
       simp[dH hF4 W,aa.get_put,nq,R,nq.symm,λg=>(R g).symm]
     ·have Z:=λX h=>L X h
      simp only[T,if_false]at Z
      clear L
      simp[ai, *,S.r]
      refine Z _ (U _ rfl ?_ ?_ ?_ ?_ λq Y W=>?_)
      ·simp(maxDischargeDepth:=12) [ek, *]
      ·simp(maxDischargeDepth:=12) [ek, *]
      ·simp(maxDischargeDepth:=12) [ek, *]
      ·simp(maxDischargeDepth:=12) [ek, *]
      ·have nq:q≠rh:=by rintro rfl;omega
       have R : ∀g,q≠(⟨1,34,g,0⟩:Ref):=λg e=>by have h:=congrArg Ref.d e;rw[Y]at h;exact absurd h (by simp)
       simp[dH hF4 W,aa.get_put,nq,R,nq.symm,λg=>(R g).symm]
    ·have U:=hst (H4.gen 1 34) (ops.length+1)
     clear hst
     have l34:(H4.get ⟨1,34,g,0⟩).isSome=true:=by rw[h2];rfl
     have f4:nx 17 112 ops.length true none (some ⟨17,cF ops,true,false⟩) (some [.agg [a8 K,a8 P,ae M,a8 N,aI O,a8 I,ae G,a8 F,aI J,aI a,a8 E,ae j,a8 o,aI D,a8 C,ae n,x]]):=by
      simp;omega
     by_cases T:K=1
     ·subst T
      have Z:=λX h=>L X h
      simp only[if_true]at Z
      clear L
      simp[ai, *,S.r]
      refine Z _ (U _ rfl ?_ ?_ ?_ ?_ λq Y W=>?_)
      ·simp(maxDischargeDepth:=12) [ek, *]
      ·simp(maxDischargeDepth:=12) [ek, *]
      ·simp(maxDischargeDepth:=12) [ek, *]
      ·simp(maxDischargeDepth:=12) [ek, *]
      ·have nq:q≠rh:=by rintro rfl;omega
       have R : ∀g,q≠(⟨1,34,g,0⟩:Ref):=λg e=>by have h:=congrArg Ref.d e;rw[Y]at h;exact absurd h (by simp)
       simp[dH hF4 W,aa.get_put,nq,R,nq.symm,λg=>(R g).symm]
     ·have Z:=λX h=>L X h
      simp only[T,if_false]at Z
      clear L
      simp[ai, *,S.r]
      refine Z _ (U _ rfl ?_ ?_ ?_ ?_ λq Y W=>?_)
      ·simp(maxDischargeDepth:=12) [ek, *]
      ·simp(maxDischargeDepth:=12) [ek, *]
      ·simp(maxDischargeDepth:=12) [ek, *]
      ·simp(maxDischargeDepth:=12) [ek, *]
      ·have nq:q≠rh:=by rintro rfl;omega
       have R : ∀g,q≠(⟨1,34,g,0⟩:Ref):=λg e=>by have h:=congrArg Ref.d e;rw[Y]at h;exact absurd h (by simp)
       simp[dH hF4 W,aa.get_put,nq,R,nq.symm,λg=>(R g).symm]
   ·have hd:ot ops ents (((⟨K,⟨P,M,N⟩,O,⟨⟨⟨I,G,F⟩,J⟩,a⟩,⟨⟨E,j,o⟩,D⟩,⟨C,n⟩,al⟩:aC),x) :: s)=none:=by
     show(if _ then _ else _)=_
     rw[if_neg (λh=>hd0 h.2)]
    rw[hd]at hQ
    have V:=hQ (.tup [.v (.pointer none),aB false]) H4 ⟨hI4.fr,hI4.old,rfl⟩
    simp[hd0]
    all_goals exact V
end
end
section
attribute [local simp] aG ay aw aF aE bQ gX aM aA aD bI bH bn aN aj bf fe
@[simp] theorem agQ(r:Ref):(AV.mp r).cells=[.mp r]:=id rfl
@[simp] theorem akj(r:Ref):(AV.mp r).one=true:=id rfl
section
variable{l:List (aC × AV)}{x0:AV}(d:Sl 17 (cF l) x0)(a : ∀p∈l,J8 p/\p.1.l.length<1000000)(e:l.length<10000)
include d a e
theorem W1{H:aa}(j:Fr H) : ∃y H',bD env 0 (.fn 172) [x0] H=some (y,H') /\∃rh rm,MN H rh rm l.length (ot [] [] l) y H':=by
 refine mJ (Q:=λy H' =>∃rh rm,MN H rh rm l.length (ot [] [] l) y H') (fn:=Tryz.f172) (c:=T5) (by kernel_rfl) (by kernel_rfl) (by kernel_rfl) (by kernel_rfl) (by kernel_rfl) ?_
 refine Sz _ _ _ _ λg=>?_
 have f:=λk n=>W2 d a e (rh:=⟨1,11,H.gen 1 11,0⟩) (rm:=⟨1,9,H.gen 1 9,0⟩) rfl rfl rfl rfl (H0:=H) (Q:=λy H' =>∃rh rm,MN H rh rm l.length (ot [] [] l) y H') l 0 0 [] [] k rfl (by omega) rfl (by simp) (by simp) (by intro p hp;cases hp) n (λy H' h=>⟨_,_,h⟩)
 clear a
 simp[ai, *,La,d.r]
 refine f _ ⟨?_,⟨ba,?_,.inl ⟨rfl,rfl⟩⟩,?_,λq b o i=>?_,λp hp=>nomatch hp⟩
 ·simp(maxDischargeDepth:=12) [ek, *]
 ·simp
 ·simp[cB]
 ·have m:(H.get q).isSome=true:=by rw[i];rfl
  simp[dH j m,i]
def nH(l:List (aC × AV))(o:aC):Int:=match ot [] [] l with
 | none=>8
 | some (ops,ents)=>if lT o then wA ops ents o else 8
theorem S8(u:UInt8)(z:UInt8)(n:UInt32)(o:UInt8)(w:Int)(t:UInt8)(q:UInt32)(m:UInt8)(v:Int)(j:Int)(k:UInt8)(b:UInt32)(f:UInt8)(i:Int)(h:UInt8)(c:UInt32){x:AV}{al:List Int}(A:Sl 1 (rows al) x)(D:al.length<1000000):ak env 137 [x0,.agg [a8 u,a8 z,ae n,a8 o,aI w,a8 t,ae q,a8 m,aI v,aI j,a8 k,ae b,a8 f,aI i,a8 h,ae c,x]]=some (aI (nH l (⟨u,⟨z,n,o⟩,w,⟨⟨⟨t,q,m⟩,v⟩,j⟩,⟨⟨k,b,f⟩,i⟩,⟨h,c⟩,al⟩:aC))):=by
 refine an rfl (by kernel_rfl) (Nl _ _ _ _ λg=>?_)
 have Q:=mF u z n o w t q m v j k b f i h c A (by omega)
 obtain⟨y,J,M,rh,rm,F,hold,hm⟩:=W1 d a e (H:=[(⟨0,3,0,0⟩,some ⟨17,[.agg [a8 u,a8 z,ae n,a8 o,aI w,a8 t,ae q,a8 m,aI v,aI j,a8 k,ae b,a8 f,aI i,a8 h,ae c,x]],false,false⟩)]) (by simp[MM,JG,Fr.nil])
 have K:=hold ⟨0,3,0,0⟩ _ rfl rfl
 have C:aL env true (ak env) (bD env 0) [(⟨0,3,0,0⟩,some ⟨17,[.agg [a8 u,a8 z,ae n,a8 o,aI w,a8 t,ae q,a8 m,aI v,aI j,a8 k,ae b,a8 f,aI i,a8 h,ae c,x]],false,false⟩)] ⟨0,10,0,0⟩ (some (.fn (.func 172) [] [])) [x0]=some (y,J):=by
  rw[FJ (by kernel_rfl)]
  exact M
 unfold nH
 cases G:ot [] [] l with
 | none=>
  rw[G]at hm
  dsimp only at hm
  subst hm
  clear hold a
  simp[ai, *,xN,d.r,A.r,C]
 | some p=>
  obtain⟨ops,ents⟩:=p
  rw[G]at hm
  dsimp only at hm
  obtain⟨rfl,B,N,he,E⟩:=hm
  clear hold
  cases L:lT (⟨u,⟨z,n,o⟩,w,⟨⟨⟨t,q,m⟩,v⟩,j⟩,⟨⟨k,b,f⟩,i⟩,⟨h,c⟩,al⟩:aC) with
  | false=>
   clear a B
   simp[ai, *,xN,d.r,A.r,C]
  | true=>
   have I:=Sb 0 F B.da B.ok (by omega) E (by omega) u z n o w t q m v j k b f i h c A D L
   clear a B
   simp[ai, *,xN,d.r,A.r,C]
   refine nk (by kernel_rfl) I λO P=>?_
   simp
end
end
end Go.Proofs.YtmkmimgokagimaaGreat
