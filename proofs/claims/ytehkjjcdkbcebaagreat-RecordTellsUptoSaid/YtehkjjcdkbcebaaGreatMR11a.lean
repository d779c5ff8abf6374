/-
  Operations: whether they may be. No statement of a seat is proved here.
-/
import Derived.Test.YtehkjjcdkbcebaaGreatMCatFns
set_option linter.unusedVariables false
set_option linter.unusedSimpArgs false
set_option linter.unusedSectionVars false
set_option linter.unnecessarySimpa false
set_option maxRecDepth 100000
namespace Go.Proofs.YtehkjjcdkbcebaaGreat
open Go.Ab
section
attribute [local simp] bn aO aE aQ aP cy ld bp aG aU cZ cY aX bo ar bS fC
def E7:AV := .agg [.v .nilFunc,.v .nilFunc,.fn (.func 146) [] [.iptr 1 [.fn (.func 145) [] []] 0 0],.fn (.func 147) [] [],
 .fn (.func 148) [] [.iptr 1 [.fn (.func 145) [] []] 0 0,.iptr 1 [.fn (.func 144) [] []] 0 0],.fn (.func 149) [] [],.fn (.func 150) [] [.iptr 1 [.fn (.func 144) [] []] 0 0],.fn (.func 151) [] []]
theorem PJ:au env 138 []=some E7:=GN (n:=2000) (by kernel_rfl)
@[simp] theorem XX:au env 141 []=some (.agg [a8 0,bc 0]):=by
 refine ax rfl (by kernel_rfl) (BA _ _ λg=>?_)
 simp[ak, *,vD]
section
variable(m:UInt8)(p:UInt8)(a_3:UInt32)(u:UInt8)(o:Int)(q:UInt8)(t:UInt32)(s:UInt8)(w:Int)(k:Int)(c:UInt8)(a:UInt32)(f:UInt8)(d:Int)(j:UInt8)(i:UInt32){x:AV}{l:List Int}(y:Sl 1 (rows l) x)(z:l.length<2000000)
include y z
theorem MW:au env 144 [.agg [a8 m,a8 p,bc a_3,a8 u,aI o,a8 q,bc t,a8 s,aI w,aI k,a8 c,bc a,a8 f,aI d,a8 j,bc i,x]]=some (aB (vB (⟨m,⟨p,a_3,u⟩,o,⟨⟨⟨q,t,s⟩,w⟩,k⟩,⟨⟨c,a,f⟩,d⟩,⟨j,i⟩,l⟩:dY))):=by
 refine ax rfl (by kernel_rfl) (Dd _ _ _ λg=>?_)
 unfold vB
 cases b:iJ (⟨⟨c,a,f⟩,d⟩:uO) with
 | true=>
  unfold iJ at b
  simp[ak, *,r9,y.r,kT,eF]
 | false=>
  unfold iJ at b
  simp[ak, *,r9,y.r,kT,eF]
theorem JU:au env 145 [.agg [a8 m,a8 p,bc a_3,a8 u,aI o,a8 q,bc t,a8 s,aI w,aI k,a8 c,bc a,a8 f,aI d,a8 j,bc i,x]]=some (aB (rj (⟨j,i⟩:R8))):=by
 refine ax rfl (by kernel_rfl) (Dc _ _ _ λg=>?_)
 simp[ak, *,wW,y.r,kT,eF,rj]
theorem MV:au env 148 [.agg [a8 m,a8 p,bc a_3,a8 u,aI o,a8 q,bc t,a8 s,aI w,aI k,a8 c,bc a,a8 f,aI d,a8 j,bc i,x],.iptr 1 [.fn (.func 145) [] []] 0 0,.iptr 1 [.fn (.func 144) [] []] 0 0]=some (aB (Jf (⟨m,⟨p,a_3,u⟩,o,⟨⟨⟨q,t,s⟩,w⟩,k⟩,⟨⟨c,a,f⟩,d⟩,⟨j,i⟩,l⟩:dY))):=by
 refine ax rfl (by kernel_rfl) (Da _ _ _ _ _ λg=>?_)
 have b:=MW m p a_3 u o q t s w k c a f d j i y z
 have e:=JU m p a_3 u o q t s w k c a f d j i y z
 unfold Jf
 cases h:rj (⟨j,i⟩:R8)<;>simp[ak, *,wV,y.r]
theorem PI:au env 150 [.agg [a8 m,a8 p,bc a_3,a8 u,aI o,a8 q,bc t,a8 s,aI w,aI k,a8 c,bc a,a8 f,aI d,a8 j,bc i,x],.iptr 1 [.fn (.func 144) [] []] 0 0]=some (aB (E2 (⟨m,⟨p,a_3,u⟩,o,⟨⟨⟨q,t,s⟩,w⟩,k⟩,⟨⟨c,a,f⟩,d⟩,⟨j,i⟩,l⟩:dY))):=by
 refine ax rfl (by kernel_rfl) (C9 _ _ _ _ λg=>?_)
 have e:=MW m p a_3 u o q t s w k c a f d j i y z
 unfold E2
 cases b:vB (⟨m,⟨p,a_3,u⟩,o,⟨⟨⟨q,t,s⟩,w⟩,k⟩,⟨⟨c,a,f⟩,d⟩,⟨j,i⟩,l⟩:dY)<;>simp[ak, *,wU,y.r]
theorem MU:au env 146 [.agg [a8 m,a8 p,bc a_3,a8 u,aI o,a8 q,bc t,a8 s,aI w,aI k,a8 c,bc a,a8 f,aI d,a8 j,bc i,x],.iptr 1 [.fn (.func 145) [] []] 0 0]=some (aB (Dn (⟨m,⟨p,a_3,u⟩,o,⟨⟨⟨q,t,s⟩,w⟩,k⟩,⟨⟨c,a,f⟩,d⟩,⟨j,i⟩,l⟩:dY))):=by
 refine ax rfl (by kernel_rfl) (Db _ _ _ _ λg=>?_)
 have B:=JU m p a_3 u o q t s w k c a f d j i y z
 have C:=zm y (by omega)
 have A:=zo l
 unfold Dn
 cases v:rj (⟨j,i⟩:R8) with
 | false=>
  cases e:iJ (⟨⟨c,a,f⟩,d⟩:uO) with
  | false=>
   unfold iJ at e
   simp[ak, *,gB,y.r,kT,eF]
  | true=>
   unfold iJ at e
   simp[ak, *,gB,y.r,kT,eF]
 | true=>
  have key : ∀b:Bool,(iJ (⟨⟨c,a,f⟩,d⟩:uO)||uF (⟨⟨c,a,f⟩,d⟩:uO))=b->True:=λ_ _=>trivial
  cases h:BT ⟨q,t,s⟩ ⟨p,a_3,u⟩ with
  | false=>
   unfold BT at h
   cases e:iJ (⟨⟨c,a,f⟩,d⟩:uO) with
   | false=>
    unfold iJ at e
    cases n:uF (⟨⟨c,a,f⟩,d⟩:uO)<;>simp[ak, *,gB,y.r,kT,eF]
   | true=>
    unfold iJ at e
    simp[ak, *,gB,y.r,kT,eF]
  | true=>
   unfold BT at h
   by_cases D:(l.length:Int)=k
   ·cases e:iJ (⟨⟨c,a,f⟩,d⟩:uO) with
    | false=>
     unfold iJ at e
     cases n:uF (⟨⟨c,a,f⟩,d⟩:uO)<;>simp[ak, *,gB,y.r,kT,eF]
    | true=>
     unfold iJ at e
     simp[ak, *,gB,y.r,kT,eF]
   ·cases e:iJ (⟨⟨c,a,f⟩,d⟩:uO) with
    | false=>
     unfold iJ at e
     cases n:uF (⟨⟨c,a,f⟩,d⟩:uO)<;>simp[ak, *,gB,y.r,kT,eF]
    | true=>
     unfold iJ at e
     simp[ak, *,gB,y.r,kT,eF]
theorem oD:au env 116 [.agg [a8 m,a8 p,bc a_3,a8 u,aI o,a8 q,bc t,a8 s,aI w,aI k,a8 c,bc a,a8 f,aI d,a8 j,bc i,x]]=some (aI (bad (nB (⟨m,⟨p,a_3,u⟩,o,⟨⟨⟨q,t,s⟩,w⟩,k⟩,⟨⟨c,a,f⟩,d⟩,⟨j,i⟩,l⟩:dY)))):=by
 refine ax rfl (by kernel_rfl) (F4 _ _ _ λg=>?_)
 have L:=MU m p a_3 u o q t s w k c a f d j i y z
 have H:=MV m p a_3 u o q t s w k c a f d j i y z
 have K:=PI m p a_3 u o q t s w k c a f d j i y z
 have F:=PJ
 unfold nB yp
 by_cases B:m=0
 ·subst B
  simp[ak, *,iS,y.r]
 by_cases b:4<=m
 ·have n1 : ¬m=1:=by rintro rfl;exact absurd b (by decide)
  have n2 : ¬m=2:=by rintro rfl;exact absurd b (by decide)
  have M : ¬m=3:=by rintro rfl;exact absurd b (by decide)
  simp[ak, *,iS,y.r]
 cases J:ej ⟨p,a_3,u⟩ with
 | false=>simp[ak, *,iS,y.r]
 | true=>
 rcases AZ o 1 with n | E
 ·have E : ¬1<=o:=by omega
  simp[ak, *,iS,y.r]
 have n : ¬o<1:=by omega
 rcases AZ o 16777216 with C | v
 rotate_left
 ·have C : ¬o<16777216:=by omega
  simp[ak, *,iS,y.r]
 have v : ¬16777216<=o:=by omega
 cases I:k7 ⟨⟨⟨q,t,s⟩,w⟩,k⟩ with
 | false=>simp[ak, *,iS,y.r]
 | true=>
 have D:m=1\/m=2\/m=3:=by
  have e:m.toNat<4:=by have:=UInt8.not_le.1 b;exact this
  have G:m.toNat≠0:=λh=>B (uo.1 h)
  rcases(show m.toNat=1\/m.toNat=2\/m.toNat=3 by omega)with h | h | h
  ·exact .inl (uo.1 h)
  ·exact .inr (.inl (uo.1 h))
  ·exact .inr (.inr (uo.1 h))
 rcases D with rfl | rfl | rfl
 ·cases A:Dn (⟨1,⟨p,a_3,u⟩,o,⟨⟨⟨q,t,s⟩,w⟩,k⟩,⟨⟨c,a,f⟩,d⟩,⟨j,i⟩,l⟩:dY)<;>simp[ak, *,iS,y.r,E7,zq,Cn]
 ·cases A:Jf (⟨2,⟨p,a_3,u⟩,o,⟨⟨⟨q,t,s⟩,w⟩,k⟩,⟨⟨c,a,f⟩,d⟩,⟨j,i⟩,l⟩:dY)<;>simp[ak, *,iS,y.r,E7,zq,Cn]
 ·cases A:E2 (⟨3,⟨p,a_3,u⟩,o,⟨⟨⟨q,t,s⟩,w⟩,k⟩,⟨⟨c,a,f⟩,d⟩,⟨j,i⟩,l⟩:dY)<;>simp[ak, *,iS,y.r,E7,zq,Cn]
end
end
section
attribute [local simp] bn aO aE aQ aP cy ld bp aG aU cZ cY aX bo ar bS fC
def CB(t:Int):List Int->Nat->Int
 | [],_ => -1
 | a :: l,k=>if t=a then k else CB t l (k+1)
theorem Oc(t:Int)(l:List Int) : ∀k:Nat,(0<=CB t l k↔t∈l):=by
 induction l with
 | nil=>intro k;simp[CB]
 | cons a l b=>
  intro k
  unfold CB
  by_cases h:t=a
  ·simp[h]
  ·rw[if_neg h,b];simp[h]
theorem GR{m:AV}{Q:AV->ab->Prop}{l:List Int}(c:Sl 1 (rows l) m)(d:l.length<4611686018427387904){t:Int}{H:ab} :
 ∀(s:List Int)(k:Nat)(i:Int),l.drop k=s->k<=l.length->i=k->(∀y,y=aI (CB t s k)->Q y H) ->
 dZ env Tryz.f132 0 dN [(8,aI i),(0,m),(1,aR t),(7,aI l.length)] H Q:=by
 intro s
 induction s with
 | nil=>
  rintro k i hs hk rfl hQ
  obtain rfl:=drop_nil hs hk
  refine jk _ _ _ _ _ _ λg=>?_
  simp[ak, *,dQ]
  all_goals exact hQ _ rfl
 | cons a s j=>
  rintro k i hs hk rfl hQ
  obtain⟨o,u,b,n⟩:=drop_cons hs
  refine jk _ _ _ _ _ _ λg=>?_
  have q:=IntWalk.i64_in ((k:Int)+1) (by omega)
  by_cases h:t=a
  ·have e:CB t (a :: s) k=k:=by unfold CB;rw[if_pos h]
   simp[ak, *,dQ,c.idx,rows,aR]
   all_goals exact hQ _ (by simp[e])
  ·have e:CB t (a :: s) k=CB t s (k+1):=by rw[CB,if_neg h]
   have f:=j (k+1) ((k:Int)+1) b (by omega) (by simp) (λy p=>hQ y (by rw[p,e]))
   clear j hQ e
   simp[ak, *,dQ,c.idx,rows,aR]
   exact f
section
variable{x:AV}{l:List Int}(c:Sl 1 (rows l) x)(d:l.length<4611686018427387904)
include c d
theorem Nj(t:Int):au env 132 [x,aR t]=some (aI (CB t l 0)):=by
 refine ax rfl (by kernel_rfl) (ow _ _ _ _ λg=>?_)
 have h:=c.len
 simp[ak, *,jZ]
 exact GR c d l 0 _ rfl (by omega) rfl (λy e=>by simp[e])
theorem Gh(t:Int):au env 105 [x,aR t]=some (aB (decide (t∈l))):=by
 refine ax rfl (by kernel_rfl) (nz _ _ _ _ λg=>?_)
 have h:=Nj c d t
 have a:=c.r
 have e:=Oc t l 0
 simp[ak, *,jc]
end
theorem K8(o:UInt8)(n:UInt8)(a_3:UInt32)(t:UInt8)(q:Int)(p:UInt8)(s:UInt32)(u:UInt8)(m:Int)(j:Int)(i:UInt8)(b:UInt32)(k:UInt8)(e:Int)(f:UInt8)(a:UInt32){x:AV}{l:List Int}(c:Sl 1 (rows l) x)(d:l.length<4611686018427387904):au env 69 [.agg [a8 o,a8 n,bc a_3,a8 t,aI q,a8 p,bc s,a8 u,aI m,aI j,a8 i,bc b,a8 k,aI e,a8 f,bc a,x]]=some (aB (!decide (-1∈l))):=by
 refine ax rfl (by kernel_rfl) (F3 _ _ _ λg=>?_)
 have h:=Gh c d (-1)
 have v:=c.r
 unfold aR at h
 simp[ak, *,Ap]
def mB(a b:dY):Bool:=decide (a.kind=b.kind)&&((decide (a.h.lv=b.h.lv)&&decide (a.h.cats=b.h.cats)&&decide (a.h.num=b.h.num))&&(decide (a.serial=b.serial) &&
 ((decide (a.s.f.h.lv=b.s.f.h.lv)&&decide (a.s.f.h.cats=b.s.f.h.cats)&&decide (a.s.f.h.num=b.s.f.h.num)&&decide (a.s.f.n=b.s.f.n)&&decide (a.s.many=b.s.many)) &&
 ((decide (a.a.h.lv=b.a.h.lv)&&decide (a.a.h.cats=b.a.h.cats)&&decide (a.a.h.num=b.a.h.num)&&decide (a.a.n=b.a.n))&&((decide (a.to.lv=b.to.lv)&&decide (a.to.cats=b.to.cats))&&decide (a.l=b.l))))))
theorem Nd(F:UInt8)(E:UInt8)(a_3:UInt32)(z:UInt8)(w:Int)(v:UInt8)(G:UInt32)(M:UInt8)(u:Int)(k:Int)(s:UInt8)(p:UInt32)(t:UInt8)(e:Int)(f:UInt8)(a:UInt32)(H:UInt8)(B:UInt8)(A:UInt32)(J:UInt8)(D:Int)(C:UInt8)(K:UInt32)(I:UInt8)(L:Int)(q:Int)(b:UInt8)(h:UInt32)(o:UInt8)(n:Int)(i:UInt8)(j:UInt32){x y:AV}{l m:List Int}(c:Sl 1 (rows l) x)(N:Sl 1 (rows m) y)(d:l.length<1000000000):au env 45 [.agg [a8 F,a8 E,bc a_3,a8 z,aI w,a8 v,bc G,a8 M,aI u,aI k,a8 s,bc p,a8 t,aI e,a8 f,bc a,x],.agg [a8 H,a8 B,bc A,a8 J,aI D,a8 C,bc K,a8 I,aI L,aI q,a8 b,bc h,a8 o,aI n,a8 i,bc j,y]]=some (aB (mB (⟨F,⟨E,a_3,z⟩,w,⟨⟨⟨v,G,M⟩,u⟩,k⟩,⟨⟨s,p,t⟩,e⟩,⟨f,a⟩,l⟩:dY) (⟨H,⟨B,A,J⟩,D,⟨⟨⟨C,K,I⟩,L⟩,q⟩,⟨⟨b,h,o⟩,n⟩,⟨i,j⟩,m⟩:dY))):=by
 refine ax rfl (by kernel_rfl) (HX _ _ _ _ λg=>?_)
 have W:=K0 c N (by omega)
 have Q:=c.r
 have O:=N.r
 unfold mB
 cases S:decide (F=H) with
 | false=>simp[ak, *,lI,kT,eF]
 | true=>
 cases R:(decide (E=B)&&decide (a_3=A)&&decide (z=J)) with
 | false=>simp[ak, *,lI,kT,eF]
 | true=>
 cases U:decide (w=D) with
 | false=>simp[ak, *,lI,kT,eF]
 | true=>
 cases T:(decide (v=C)&&decide (G=K)&&decide (M=I)&&decide (u=L)&&decide (k=q)) with
 | false=>simp[ak, *,lI,kT,eF]
 | true=>
 cases P:(decide (s=b)&&decide (p=h)&&decide (t=o)&&decide (e=n)) with
 | false=>simp[ak, *,lI,kT,eF]
 | true=>
 cases V:(decide (f=i)&&decide (a=j)) with
 | false=>simp[ak, *,lI,kT,eF]
 | true=>simp[ak, *,lI,kT,eF]
end
section
attribute [local simp] bn aO aE aQ aP cy ld bp aG aU cZ cY aX bo ar bS fC
def TM(z:Nat)(zz:AV)(H:ab)(r:Ref)(n:Nat)(a:List (Nat × AV))(refs:List Ref):cb:=match gq (List.replicate n zz) a with
 | some es=>some (.bD r 0 n (some n),(r,some ⟨z,es,true,false⟩) :: bG H refs)
 | none=>none
theorem s9{P:Program}{a:Bool}{t:TypeId}(l:pK P t=true)(H:ab)(d c h:Nat)(n:Nat)(ps:List (Nat × AV))(j:n * jf P t<=16777216)(u:(dt H.get ps).isSome=true)
 (k:((dt H.get ps).getD []).all (λp=>p.2.cells.length == jf P t&&p.2.cells.all AV.one)=true) (b:(gq (List.replicate n (gN P t)) ((dt H.get ps).getD [])).isSome=true) (g:kX H.get (ba H.get (ps.map (·.2)))=false) :
 jX P a true H ⟨d,c,h,0⟩ t n (some ps)=TM (jf P t) (gN P t) H ⟨d,c,h,0⟩ n ((dt H.get ps).getD []) (ba H.get (ps.map (·.2))):=by
 obtain⟨ws,hw⟩:=fO.1 u
 rw[hw,bO]at k b ⊢
 obtain⟨es,b⟩:=fO.1 b
 unfold pK at l
 obtain⟨e,zz,o,q,y,m,v,x,s,z⟩:=gk l
 have i:gN P t=zz:=by unfold gN;rw[o,dF,m];rfl
 rw[i]at b ⊢
 have f:mkSlice P H.get t n ps=some ⟨jf P t,es,true,false⟩:=by
  simp only[mkSlice,o,hw,m,q]
  rw[if_pos ⟨ur s,j,v,x,by simpa using k⟩,b]
  rfl
 have w:fQ P a H.get ⟨d,c,h,0⟩ t n (some ps)=none:=by
  simp only[fQ,g,gH,if_false]
 unfold jX TM
 rw[w,b]
 simp only[jB,Aw,cond_true,iM,f,Option.map_some]
attribute [local simp] s9 TM dt
def k8(o:dY):List UInt8:=[o.kind]++(bJ o.h++(be 3 o.serial++(cR o.s.f++[u8 o.s.many])))
theorem QT(n:Int):be 3 n=[u8 (n / 65536),u8 (n / 256),u8 n]:=by simp[FC]
theorem BU(c:UInt8)(h:KC)(a:Int)(f:uO)(b:Int):au env 49 [.bl 1 [.bl 1 [a8 c] (some 1),.bl 1 (al (bJ h)) none,.bl 1 [a8 (u8 (a / 65536)),a8 (u8 (a / 256)),a8 (u8 a)] (some 3),.bl 1 (al (cR f)) none,.bl 1 [a8 (u8 b)] (some 1)] (some 5)] =
 some (.fsl 1 (al ([c]++(bJ h++(be 3 a++(cR f++[u8 b]))))) none):=by
 have e:iX [([c],AV.bl 1 [a8 c] (some 1)),(bJ h,.bl 1 (al (bJ h)) none),(be 3 a,.bl 1 [a8 (u8 (a / 65536)),a8 (u8 (a / 256)),a8 (u8 a)] (some 3)),(cR f,.bl 1 (al (cR f)) none),([u8 b],.bl 1 [a8 (u8 b)] (some 1))]=[c]++(bJ h++(be 3 a++(cR f++[u8 b]))):=by
  simp only[iX,kZ,y8,pQ]
 rw[<-e]
 refine BZ (ps:=[([c],AV.bl 1 [a8 c] (some 1)),(bJ h,.bl 1 (al (bJ h)) none),(be 3 a,.bl 1 [a8 (u8 (a / 65536)),a8 (u8 (a / 256)),a8 (u8 a)] (some 3)),(cR f,.bl 1 (al (cR f)) none),([u8 b],.bl 1 [a8 (u8 b)] (some 1))]) (.inr ⟨some 5,rfl,by simp⟩) ?_ (by simp) (by rw[e];simp) (by rw[e];simp)
 intro p hp
 simp only[eU,uV,or_false]at hp
 rcases hp with rfl | rfl | rfl | rfl | rfl
 ·exact .inr ⟨some 1,rfl,by simp⟩
 ·exact Sl.mk _ _
 ·exact .inr ⟨some 3,by rw[QT];rfl,by simp⟩
 ·exact Sl.mk _ _
 ·exact .inr ⟨some 1,rfl,by simp⟩
theorem Nh(p:UInt8)(j:UInt8)(a_3:UInt32)(n:UInt8)(q:Int)(k:UInt8)(m:UInt32)(o:UInt8)(i:Int)(a:Int)(f:UInt8)(c:UInt32)(h:UInt8)(d:Int)(e:UInt8)(b:UInt32){x:AV}{l:List Int}(t:Sl 1 (rows l) x)(w:l.length<2000000)(s:nB (⟨p,⟨j,a_3,n⟩,q,⟨⟨⟨k,m,o⟩,i⟩,a⟩,⟨⟨f,c,h⟩,d⟩,⟨e,b⟩,l⟩:dY)=true)(u:p=2):au env 90 [.agg [a8 p,a8 j,bc a_3,a8 n,aI q,a8 k,bc m,a8 o,aI i,aI a,a8 f,bc c,a8 h,aI d,a8 e,bc b,x]]=some (.tup [.bl 1 (al (k8 (⟨p,⟨j,a_3,n⟩,q,⟨⟨⟨k,m,o⟩,i⟩,a⟩,⟨⟨f,c,h⟩,d⟩,⟨e,b⟩,l⟩:dY))) none,aI 0]):=by
 refine ax rfl (by kernel_rfl) (vH _ _ _ λg=>?_)
 have v:=oD p j a_3 n q k m o i a f c h d e b t w
 rw[s]at v
 have z:ej ⟨j,a_3,n⟩=true:=by simp only[nB,aY]at s;exact s.1
 have A:uF ⟨⟨k,m,o⟩,i⟩=true:=by
  simp only[nB,aY]at s
  have:=s.2.2.2.1
  simp only[k7,aY]at this
  exact this.1
 clear s
 subst u
 have y:=BU 2 ⟨j,a_3,n⟩ q ⟨⟨k,m,o⟩,i⟩ a
 unfold k8
 simp[ak, *,qw,t.r,bad,dq,cK]
theorem Ng(s:UInt8)(f:UInt8)(a_3:UInt32)(j:UInt8)(m:Int)(h:UInt8)(i:UInt32)(k:UInt8)(d:Int)(c:Int)(p:UInt8)(n:UInt32)(q:UInt8)(o:Int)(b:UInt8)(a:UInt32){x:AV}{l:List Int}(y:Sl 1 (rows l) x)(D:l.length<2000000)(u:nB (⟨s,⟨f,a_3,j⟩,m,⟨⟨⟨h,i,k⟩,d⟩,c⟩,⟨⟨p,n,q⟩,o⟩,⟨b,a⟩,l⟩:dY)=true)(A:s=3):au env 90 [.agg [a8 s,a8 f,bc a_3,a8 j,aI m,a8 h,bc i,a8 k,aI d,aI c,a8 p,bc n,a8 q,aI o,a8 b,bc a,x]]=some (.tup [.bl 1 (al (k8 (⟨s,⟨f,a_3,j⟩,m,⟨⟨⟨h,i,k⟩,d⟩,c⟩,⟨⟨p,n,q⟩,o⟩,⟨b,a⟩,l⟩:dY)++(b :: be 4 a.toNat))) none,aI 0]):=by
 refine ax rfl (by kernel_rfl) (vH _ _ _ λg=>?_)
 have B:=oD s f a_3 j m h i k d c p n q o b a y D
 rw[u]at B
 subst A
 have G:ej ⟨f,a_3,j⟩=true:=by simp only[nB,aY]at u;exact u.1
 have H:uF ⟨⟨h,i,k⟩,d⟩=true:=by
  simp only[nB,aY]at u
  have:=u.2.2.2.1
  simp only[k7,aY]at this
  exact this.1
 have w:ej ⟨b,a,0⟩=true:=by
  simp only[nB,aY]at u
  have:=u.2.2.2.2
  simp only[yp,E2]at this
  simp at this
  simp[ej,this]
 clear u
 have F:=BU 3 ⟨f,a_3,j⟩ m ⟨⟨h,i,k⟩,d⟩ c
 unfold k8
 have z:bJ ⟨b,a,0⟩=b :: (be 4 a.toNat++[0]):=rfl
 have t:(al ([(3:UInt8)]++(bJ ⟨f,a_3,j⟩++(be 3 m++(cR ⟨⟨h,i,k⟩,d⟩++[u8 c]))))).length=24:=by simp
 have v:=Gg b a 0
 rw[if_pos w,z,qP]at v
 rw[qP]
 rw[show al (([(3:UInt8)]++(bJ ⟨f,a_3,j⟩++(be 3 m++(cR ⟨⟨h,i,k⟩,d⟩++[u8 c]))))++[b,u8 (↑a.toNat / 16777216),u8 (↑a.toNat / 65536),u8 (↑a.toNat / 256),u8 ↑a.toNat])=al ([(3:UInt8)]++(bJ ⟨f,a_3,j⟩++(be 3 m++(cR ⟨⟨h,i,k⟩,d⟩++[u8 c]))))++[a8 b,a8 (u8 (↑a.toNat / 16777216)),a8 (u8 (↑a.toNat / 65536)),a8 (u8 (↑a.toNat / 256)),a8 (u8 ↑a.toNat)] from xd ..]
 have E:al ([(3:UInt8)]++(bJ ⟨f,a_3,j⟩++(be 3 m++(cR ⟨⟨h,i,k⟩,d⟩++[u8 c]))))≠[]:=by intro e;rw[e]at t;cases t
 generalize al ([(3:UInt8)]++(bJ ⟨f,a_3,j⟩++(be 3 m++(cR ⟨⟨h,i,k⟩,d⟩++[u8 c]))))=C at *
 clear w z
 simp[ak, *,qw,y.r,bad,dq,cK]
 rfl
theorem JT(C A R:List UInt8)(a:Option Nat)(b:A.length<=a.getD A.length)(c:0<C.length)(d:C.length+A.length+R.length<1000000):au env 49 [.bl 1 [.bl 1 (al C) none,.bl 1 (al A) a,.bl 1 (al R) none] (some 3)]=some (.fsl 1 (al (C++(A++R))) none):=by
 have e:iX [(C,AV.bl 1 (al C) none),(A,.bl 1 (al A) a),(R,.bl 1 (al R) none)]=C++(A++R):=by
  simp only[iX,kZ,y8,pQ]
 rw[<-e]
 refine BZ (ps:=[(C,AV.bl 1 (al C) none),(A,.bl 1 (al A) a),(R,.bl 1 (al R) none)]) (.inr ⟨some 3,rfl,by simp⟩) ?_ (by simp) (by rw[e];simp;omega) (by rw[e];simp;omega)
 intro p hp
 simp only[eU,uV,or_false]at hp
 rcases hp with rfl | rfl | rfl
 ·exact Sl.mk _ _
 ·exact .inr ⟨a,rfl,by simpa using b⟩
 ·exact Sl.mk _ _
theorem Nf(k:UInt8)(j:UInt8)(a_3:UInt32)(p:UInt8)(n:Int)(m:UInt8)(o:UInt32)(q:UInt8)(i:Int)(f:Int)(e:UInt8)(b:UInt32)(h:UInt8)(c:Int)(d:UInt8)(a:UInt32){x:AV}{l:List Int}(s:Sl 1 (rows l) x)(v:l.length<2000000)(t:nB (⟨k,⟨j,a_3,p⟩,n,⟨⟨⟨m,o,q⟩,i⟩,f⟩,⟨⟨e,b,h⟩,c⟩,⟨d,a⟩,l⟩:dY)=false):au env 90 [.agg [a8 k,a8 j,bc a_3,a8 p,aI n,a8 m,bc o,a8 q,aI i,aI f,a8 e,bc b,a8 h,aI c,a8 d,bc a,x]]=some (.tup [bF,aI 8]):=by
 refine ax rfl (by kernel_rfl) (vH _ _ _ λg=>?_)
 have u:=oD k j a_3 p n m o q i f e b h c d a s v
 rw[t]at u
 clear t
 simp[ak, *,qw,s.r,bad]
@[simp] theorem Y5(r:Ref):uy env.P r 27 (some (.v (.int .i64 13))) (some (.v (.int .i64 13)))=some (.bD r 0 13 none,[⟨1,[a8 0,a8 0,a8 0,a8 0,a8 0,a8 0,a8 0,a8 0,a8 0,a8 0,a8 0,a8 0,a8 0],true,false⟩]):=by kernel_rfl
theorem Lw{o:dY}(h:nB o=true):k7 o.s=true:=by
 simp only[nB,aY]at h
 exact h.2.2.2.1
theorem Iy{l:List Int}(h:Cb l=true):sP l=0/\l.length<=64 /\∀n∈l, -2147483648<=n/\n<=2147483647:=by
 simp only[Cb,aY,decide_eq_true_eq]at h
 refine⟨by unfold sP;rw[if_neg (by omega),if_pos h.2],h.1,λn a=>?_⟩
 have:=da.1 h.2 n a
 simp only[fw,jh,aY,decide_eq_true_eq]at this
 omega
def lH(a:uO):List UInt8:=if iJ a then List.replicate 13 0 else cR a
theorem Ni(t:UInt8)(i:UInt8)(a_3:UInt32)(m:UInt8)(p:Int)(j:UInt8)(k:UInt32)(n:UInt8)(h:Int)(f:Int)(c:UInt8)(a:UInt32)(d:UInt8)(b:Int)(s:UInt8)(q:UInt32){x:AV}{l:List Int}(A:Sl 1 (rows l) x)(M:l.length<2000000)(w:nB (⟨t,⟨i,a_3,m⟩,p,⟨⟨⟨j,k,n⟩,h⟩,f⟩,⟨⟨c,a,d⟩,b⟩,⟨s,q⟩,l⟩:dY)=true)(J:t=1):au env 90 [.agg [a8 t,a8 i,bc a_3,a8 m,aI p,a8 j,bc k,a8 n,aI h,aI f,a8 c,bc a,a8 d,aI b,a8 s,bc q,x]]=some (.tup [.bl 1 (al (k8 (⟨t,⟨i,a_3,m⟩,p,⟨⟨⟨j,k,n⟩,h⟩,f⟩,⟨⟨c,a,d⟩,b⟩,⟨s,q⟩,l⟩:dY)++(lH ⟨⟨c,a,d⟩,b⟩++aH l))) none,aI 0]):=by
 refine ax rfl (by kernel_rfl) (vH _ _ _ λg=>?_)
 have K:=oD t i a_3 m p j k n h f c a d b s q A M
 rw[w]at K
 subst J
 have S:ej ⟨i,a_3,m⟩=true:=by simp only[nB,aY]at w;exact w.1
 have z:=Lw w
 have T:uF ⟨⟨j,k,n⟩,h⟩=true:=by
  have:=z
  simp only[k7,aY]at this
  exact this.1
 obtain⟨H,hlen,u⟩:(iJ ⟨⟨c,a,d⟩,b⟩||uF ⟨⟨c,a,d⟩,b⟩)=true/\(l.length:Int)=f/\Cb l=true:=by
  simp only[nB,aY]at w
  have:=w.2.2.2.2
  simp[yp,Dn]at this
  refine⟨by simpa using this.2.1,this.2.2.2.1,this.2.2.2.2⟩
 obtain⟨E,L,G⟩:=Iy u
 have D:=JO z
 simp only at D
 have v:=PN A (by omega) G
 rw[if_pos E]at v
 have N:=kC l
 have B:al (aH l)≠[]:=by
  intro e
  have:=congrArg List.length e
  have Q:(al (aH l)).length=(aH l).length:=by simp
  simp only[lV]at this
  omega
 rw[rC 1 B]at v
 clear w u E G D
 have P:=BU 1 ⟨i,a_3,m⟩ p ⟨⟨j,k,n⟩,h⟩ f
 unfold k8
 have I:([(1:UInt8)]++(bJ ⟨i,a_3,m⟩++(be 3 p++(cR ⟨⟨j,k,n⟩,h⟩++[u8 f])))).length=24:=by simp
 generalize ([(1:UInt8)]++(bJ ⟨i,a_3,m⟩++(be 3 p++(cR ⟨⟨j,k,n⟩,h⟩++[u8 f]))))=C at *
 generalize aH l=R at *
 cases o:iJ ⟨⟨c,a,d⟩,b⟩ with
 | true=>
  have F:=JT C (List.replicate 13 0) R none (by simp) (by omega) (by simp;omega)
  rw[show lH ⟨⟨c,a,d⟩,b⟩=List.replicate 13 0 by unfold lH;rw[if_pos o]]
  obtain⟨⟨⟨rfl,rfl⟩,rfl⟩,rfl⟩:((c=0/\a=0)/\d=0)/\b=0:=by simpa [iJ] using o
  have y:al (List.replicate 13 0)=[a8 0,a8 0,a8 0,a8 0,a8 0,a8 0,a8 0,a8 0,a8 0,a8 0,a8 0,a8 0,a8 0]:=rfl
  rw[y]at F
  generalize al (C++(List.replicate 13 0++R))=W at *
  clear o H hlen
  simp[ak, *,qw,A.r,bad,dq,cK,kT,eF]
 | false=>
  rw[o,tl]at H
  have F:=JT C (cR ⟨⟨c,a,d⟩,b⟩) R none (by simp) (by omega) (by simp;omega)
  rw[show lH ⟨⟨c,a,d⟩,b⟩=cR ⟨⟨c,a,d⟩,b⟩ by unfold lH;rw[if_neg (by rw[o];decide)]]
  generalize al (C++(cR ⟨⟨c,a,d⟩,b⟩++R))=W at *
  have O:(decide (c=0)&&decide (a=0)&&decide (d=0)&&decide (b=0))=false:=o
  clear o hlen
  simp[ak, *,qw,A.r,bad,dq,cK,kT,eF]
end
section
attribute [local simp] bn aO aE aQ aP cy ld bp aG aU cZ cY aX bo ar bS fC
theorem K9(c:Option Nat)(b1 b2 b3 b4 b5:UInt8):au env 130 [.bl 1 [a8 b1,a8 b2,a8 b3,a8 b4,a8 b5] c]=some (.fsl 1 [a8 b1,a8 b2,a8 b3,a8 b4,a8 b5] none):=by
 refine ax rfl (by kernel_rfl) (BF _ _ _ λg=>?_)
 simp[ak, *,vF]
theorem Gi{x y:AV}{l m:List UInt8}(d:Sl 1 (al l) x)(f:Sl 1 (al m) y):au env 57 [x,y]=some (aB (decide (l=m))):=by
 refine ax rfl (by kernel_rfl) (BE _ _ _ _ λg=>?_)
 have e : ∀l:List UInt8,al l=[]->l=[]:=λl h=>by simpa [al] using h
 rcases d with ⟨rfl,b⟩ | ⟨c,rfl,b⟩<;>rcases f with ⟨rfl,a⟩ | ⟨i,rfl,a⟩
 ·obtain rfl:=e l b
  obtain rfl:=e m a
  simp[ak, *,lJ]
 ·obtain rfl:=e l b
  simp[ak, *,lJ]
  try exact⟨λh=>h.symm,λh=>h.symm⟩
 ·obtain rfl:=e m a
  simp[ak, *,lJ]
 ·simp[ak, *,lJ]
theorem zM{f:FuncId}(a:(env.mode f == 2)=true)(dep:Nat)(H:ab)(r:Ref)(first args captured:List AV) :
 aT env true (au env) (dA env dep) H r (some (.fn (.func f) first captured)) args=dA env dep (.fn f) (first++args++captured) H:=by
 have h:env.mode f=2:=by simpa using a
 simp[aT,iZ,kK,jB,Aw,h]
def fx(l:List UInt8):KC:=⟨l.getD 0 0,u32 (val ((l.drop 1).take 4)),l.getD 5 0⟩
def gM(l:List UInt8):uO:=⟨fx l,val (l.drop 6)⟩
theorem EV{l:List UInt8}(h:l.length=6) : ∃a b c d e f,l=[a,b,c,d,e,f]:=by
 match l,h with
 | [a,b,c,d,e,f],_=>exact⟨a,b,c,d,e,f,rfl⟩
theorem vg{l:List UInt8}(h:l.length=13) : ∃a b c d e f g i j k m n o,l=[a,b,c,d,e,f,g,i,j,k,m,n,o]:=by
 match l,h with
 | [a,b,c,d,e,f,g,i,j,k,m,n,o],_=>exact⟨a,b,c,d,e,f,g,i,j,k,m,n,o,rfl⟩
theorem kz{z:Nat}{es:List AV}{x:AV}(h:Sl z es x)(a:0<es.length) : ∃c,x = .bl z es c/\es.length<=c.getD es.length:=by
 rcases h with ⟨rfl,rfl⟩ | ⟨c,rfl,h⟩
 ·simp at a
 ·exact⟨c,rfl,h⟩
theorem GY{v:AV}{l:List UInt8}(i:Sl 1 (al l) v)(g:l.length=6):au env 100 [v] =
 some (if ej (fx l) then .tup [.agg [a8 (fx l).lv,bc (fx l).cats,a8 (fx l).num],aI 0] else .tup [.agg [a8 0,bc 0,a8 0],aI 8]):=by
 obtain⟨a,b,c,d,e,f,rfl⟩:=EV g
 obtain⟨j,rfl,h⟩:=kz i (by simp[al])
 exact z7 (by simpa [al] using h)
theorem Tr{v:AV}{l:List UInt8}(s:Sl 1 (al l) v)(p:l.length=13):au env 143 [v] =
 some (if uF (gM l) then .tup [.agg [a8 (gM l).h.lv,bc (gM l).h.cats,a8 (gM l).h.num,aI (gM l).n],aI 0] else .tup [.agg [a8 0,bc 0,a8 0,aI 0],aI 8]):=by
 obtain⟨a,b,c,d,e,f,g,i,j,k,m,n,o,rfl⟩:=vg p
 obtain⟨t,rfl,q⟩:=kz s (by simp[al])
 exact Ss (by simpa [al] using q)
def wH(l:List UInt8)(a:Nat)(b:Bool)(n:Nat):Bool:=b||decide (l.length<a+n)
def zZ(l:List UInt8)(a:Nat)(b:Bool)(n:Nat):Nat:=if wH l a b n then a else a+n
def sd(l:List UInt8)(a:Nat)(b:Bool)(n:Nat):List UInt8:=if wH l a b n then List.replicate n 0 else (l.drop a).take n
theorem zl{l:List UInt8}{a:Nat}(b:Bool)(n:Nat)(h:a<=l.length):zZ l a b n<=l.length:=by
 unfold zZ wH
 split
 ·exact h
 ·rename_i c;simp at c;omega
theorem tH{l:List UInt8}{a:Nat}(b:Bool)(n:Nat):(sd l a b n).length=n:=by
 unfold sd
 split
 ·simp
 ·rename_i c;simp[wH]at c;simp;omega
def ry(x:AV)(a:Nat)(b:Bool):aJ:=⟨3,[.agg [x,aI a,aB b]],false,false⟩
structure Tk (H H':ab) (r:Ref) (x:AV) (l bs:List UInt8) (a:Nat) (b:Bool) (y v:AV):Prop where
 seen:kR 1 (al bs) H' y v
 fr:Fr H'
 box:H'.get r=some (ry x a b)
 old : ∀q c,q≠r->H.get q=some c->H'.get q=some c
 spot : ∀q,y.at?=some q->q.t=31
theorem ME(d:Nat){H:ab}{r:Ref}{x:AV}{l:List UInt8}{a n:Nat}{c:aJ}(g:Fr H)(i:H.get r=some c) :
 ∃v,Tk H ((⟨d,31,H.gen d 31,0⟩,some ⟨1,List.replicate n (a8 0),true,false⟩) :: H.put r (some ⟨3,[.agg [x,aI a,aB true]],false,false⟩)) r x l (List.replicate n 0) a true (.bD ⟨d,31,H.gen d 31,0⟩ 0 n none) v:=by
 have j:(H.get r).isSome=true:=by rw[i];rfl
 have b:al (List.replicate n 0)=List.replicate n (a8 0):=by simp[al]
 refine⟨.bl 1 (al (List.replicate n 0)) none,?_,by simp(maxDischargeDepth:=12) [ov, *],?_,?_,?_⟩
 ·refine .inr ⟨⟨d,31,H.gen d 31,0⟩,none,false,?_,?_,rfl,?_⟩
  ·rw[b];simp
  ·rw[b];simp
  ·simp
 ·rw[ab.jr,if_neg (mO g j _ _ _),ab.aj,if_pos rfl];rfl
 ·intro q k h f
  rw[ab.jr,if_neg (mO g (by rw[f];rfl) _ _ _),ab.aj,if_neg (λe=>h e)]
  exact f
 ·intro q e;cases e;rfl
theorem Sj{H:ab}{r:Ref}{x y:AV}{l bs:List UInt8}{a:Nat}{c:aJ}{b1 b2:Option aJ}(m:Fr H)(j:H.get r=some c)(f:Sl 1 (al bs) y)(b : ∃g,b1=some g)(d:b2=some ⟨3,[.agg [x,aI a,aB false]],false,false⟩) :
 ∃v,Tk H ((H.put r b1).put r b2) r x l bs a false y v:=by
 have k:(H.get r).isSome=true:=by rw[j];rfl
 subst d
 refine⟨y,kR.of f _,?_,?_,?_,?_⟩
 ·obtain⟨g,rfl⟩:=b
  simp(maxDischargeDepth:=12) [ov, *]
 ·rw[ab.aj,if_pos rfl];rfl
 ·intro q n h i
  rw[ab.aj,if_neg (λe=>h e),ab.aj,if_neg (λe=>h e)]
  exact i
 ·intro q e
  rcases f with ⟨rfl,_⟩ | ⟨c,rfl,_⟩<;>cases e
theorem Py(dep:Nat){H:ab}{r:Ref}{x:AV}{l:List UInt8}{a:Nat}{b:Bool}(n:Nat)(k:Fr H)(u:Sl 1 (al l) x)(f:H.get r=some (ry x a b))(J:a<=l.length)(L:l.length<1000000000)(F:n<1000000) :
 ∃y s,dA env dep (.fn 127) [.ptr r 0 0,aI n] H=some (y,s) /\∃v,Tk H s r x l (sd l a b n) (zZ l a b n) (wH l a b n) y v:=by
 refine yw (fn:=Tryz.f127) (c:=oa) (by kernel_rfl) (by kernel_rfl) (by kernel_rfl) (by kernel_rfl) (by kernel_rfl) ?_
 refine n8 _ _ _ _ _ λg=>?_
 unfold ry at f
 have p:=u.len
 have I:=IntWalk.i64_in ((l.length:Int) - a) (by omega)
 have G:=λr=>Nv (P:=env.P) (r:=r) (t:=27) (z:=1) (by':=1) (zz:=a8 0) (by kernel_rfl) (by kernel_rfl) (n:=n) (by unfold aX;omega) (by omega)
 have E:al (List.replicate n 0)=List.replicate n (a8 0):=by simp[al]
 cases b with
 | true=>
  have e:wH l a true n=true:=rfl
  have i:zZ l a true n=a:=rfl
  have m:sd l a true n=List.replicate n 0:=rfl
  simp[ak, *,ee,f]
  exact ME _ k f
 | false=>
  by_cases d:(l.length:Int) - a<n
  ·have e:wH l a false n=true:=by simp only[wH,tl,decide_eq_true_eq];omega
   have i:zZ l a false n=a:=by unfold zZ;rw[e];rfl
   have m:sd l a false n=List.replicate n 0:=by unfold sd;rw[e];rfl
   have A:decide ((l.length:Int) - a<n)=true:=decide_eq_true d
   clear d
   simp[ak, *,ee,f]
   exact ME _ k f
  ·have e:wH l a false n=false:=by simp only[wH,tl,decide_eq_false_iff_not];omega
   have i:zZ l a false n=a+n:=by unfold zZ;rw[e];rfl
   have m:sd l a false n=(l.drop a).take n:=by unfold sd;rw[e];rfl
   have A:decide ((l.length:Int) - a<n)=false:=decide_eq_false d
   have M:=IntWalk.i64_in ((a:Int)+n) (by omega)
   have K:=IntWalk.i64_in (a:Int) (by omega)
   have B:=IntWalk.i64_in ((a:Int)+n - n) (by omega)
   have q:(a:Int)+n - n=a:=by omega
   rw[q]at B
   have o:a+n<=l.length:=by omega
   have h:=λg=>KV (P:=env.P) (t:=27) (z:=1) (by kernel_rfl) g u (lo:=(a:Int)) (hi:=(a:Int)+n) (by omega) (by omega) (by simp;omega)
   have w:((a:Int)+n).toNat - (a:Int).toNat=n:=by omega
   rw[w,Ex]at h
   clear d w q
   simp[ak, *,ee,f]
   obtain⟨y,C,j⟩:=h _
   refine TF C ?_
   have D:Sl 1 (al ((l.drop a).take n)) y:=by simpa [al] using j
   rw[i,e,m]
   exact Sj k f D ⟨_,rfl⟩ rfl
end
section
theorem JJ{a b:Int}(h:a % 256=b % 256):u8 a=u8 b:=by
 apply uo.1
 have c:=xh a
 have d:=xh b
 omega
theorem Mo(n:Int) : ∃j,IntKind.i32.wrap n=n+4294967296 * j /\ -2147483648<=IntKind.i32.wrap n/\IntKind.i32.wrap n<=2147483647:=by
 rw[IntKind.wrap_i32]
 exact⟨-((n+2147483648) / 4294967296),by omega,by omega,by omega⟩
def word(a b c d:UInt8):Int:=IntKind.i32.wrap (val [a,b,c,d])
def words:List UInt8->List Int
 | a :: b :: c :: d :: l=>word a b c d :: words l
 | _=>[]
theorem Ky(n j:Int):be 4 (n+4294967296 * j)=be 4 n:=by
 rw[qP,qP,JJ (a:=(n+4294967296 * j) / 16777216) (b:=n / 16777216) (by omega),JJ (a:=(n+4294967296 * j) / 65536) (b:=n / 65536) (by omega),
  JJ (a:=(n+4294967296 * j) / 256) (b:=n / 256) (by omega),JJ (a:=n+4294967296 * j) (b:=n) (by omega)]
theorem Kw(a b c d:UInt8):be 4 (word a b c d)=[a,b,c,d]:=by
 obtain⟨j,h,_⟩:=Mo (val [a,b,c,d])
 unfold word
 rw[h,Ky]
 exact AM rfl
theorem G0{P:List UInt8->Prop}(g:P [])(e : ∀a b c d l,P l->P (a :: b :: c :: d :: l)) : ∀(n:Nat)(l:List UInt8),l.length=4 * n->P l:=by
 intro n
 induction n with
 | zero=>intro l h;obtain rfl:l=[]:=uu.1 (by omega);exact g
 | succ n f=>
  intro l h
  match l,h with
  | a :: b :: c :: d :: l,h=>exact e a b c d l (f l (by simp only[ji]at h;omega))
theorem qf(n:Nat)(l:List UInt8)(h:l.length=4 * n):aH (words l)=l/\(words l).length=n:=by
 constructor
 ·exact G0 (P:=λl=>aH (words l)=l) rfl (λa b c d l e=>by
   show be 4 (word a b c d)++aH (words l)=_
   rw[e,Kw];rfl) n l h
 ·have:=kC (words l)
  rw[G0 (P:=λl=>aH (words l)=l) rfl (λa b c d l e=>by
   show be 4 (word a b c d)++aH (words l)=_
   rw[e,Kw];rfl) n l h]at this
  omega
theorem Pk{n:Int}(c : -2147483648<=n)(d:n<=2147483647):word (u8 (n / 16777216)) (u8 (n / 65536)) (u8 (n / 256)) (u8 n)=n:=by
 obtain⟨j,h,f,b⟩:=Mo (val [u8 (n / 16777216),u8 (n / 65536),u8 (n / 256),u8 n])
 unfold word
 rw[<-qP]at *
 have e:val (be 4 n)=n\/val (be 4 n)=n+4294967296:=by
  rcases AZ n 0 with a | a
  ·right
   have:=Ky n 1
   rw[<-this]
   exact xg (by omega) (by omega)
  ·exact .inl (xg a (by omega))
 omega
theorem EH(l:List Int)(h : ∀n∈l, -2147483648<=n/\n<=2147483647):words (aH l)=l:=by
 induction l with
 | nil=>rfl
 | cons n l b=>
  have a:=h n (jM ..)
  show words (be 4 n++aH l)=_
  rw[qP]
  show word _ _ _ _ :: words (aH l)=_
  rw[Pk a.1 a.2,b λm c=>h m (jI _ c)]
theorem xi(c:UInt32):u32 (val (be 4 (c.toNat:Int)))=c:=by
 have:=c.toNat_lt
 rw[xg (by omega) (by omega)]
 simp
theorem CV(l:List UInt8)(h:l.length=4):be 4 ((u32 (val l)).toNat:Int)=l:=by
 have a:=sJ l
 rw[h]at a
 have e:((u32 (val l)).toNat:Int)=val l:=by
  rw[qB];omega
 rw[e]
 exact AM h
theorem tX(h:KC):fx (bJ h)=h:=by
 obtain⟨a,b,c⟩:=h
 have:=xi b
 rw[qP]at this
 simp[fx,bJ,qP]
 simpa using this
theorem yA{l:List UInt8}(h:l.length=6):bJ (fx l)=l:=by
 obtain⟨a,b,c,d,e,f,rfl⟩:=EV h
 have:=CV [b,c,d,e] rfl
 simp[fx,bJ,this]
theorem yz{i:uO}(d:0<=i.n)(f:i.n<72057594037927936):gM (cR i)=i:=by
 obtain⟨h,n⟩:=i
 have g:fx (bJ h++be 7 n)=h:=by
  have:=tX h
  obtain⟨a,b,c⟩:=h
  simp only[fx,bJ,qP]at *
  simpa using this
 have e:(bJ h++be 7 n).drop 6=be 7 n:=xL (xw h)
 unfold gM cR
 rw[g,e,xg d (by simpa using f)]
theorem tW{l:List UInt8}(h:l.length=13):cR (gM l)=l:=by
 have p:fx l=fx (l.take 6):=by
  obtain⟨a,b,c,d,e,f,g,i,j,k,m,n,o,rfl⟩:=vg h
  rfl
 unfold cR gM
 rw[p,yA (by simp;omega),AM (by simp;omega),xQ]
theorem CC{l:List UInt8}(h:l.length=13):iJ (gM l)=decide (l=List.replicate 13 0):=by
 rw[Bool.eq_iff_iff,sh,decide_eq_true_eq]
 constructor
 ·intro e
  rw[<-tW h,e]
  rfl
 ·rintro rfl;rfl
def dL(o:dY):List UInt8:=k8 o++(if o.kind=1 then lH o.a++aH o.l else if o.kind=3 then o.to.lv :: be 4 o.to.cats.toNat else [])
def kV(l:List UInt8):dY:=⟨l.headD 0,fx ((l.drop 1).take 6),val ((l.drop 7).take 3),⟨gM ((l.drop 10).take 13),(((l.drop 23).headD 0).toNat:Int)⟩,
 if l.headD 0=1 then gM ((l.drop 24).take 13) else ke,if l.headD 0=3 then ⟨(l.drop 24).headD 0,u32 (val ((l.drop 25).take 4))⟩ else ⟨0,0⟩,
 if l.headD 0=1 then words ((l.drop 37).take (4 * ((l.drop 23).headD 0).toNat)) else []⟩
def iR(k m:UInt8):Nat:=if k=1 then 37+4 * m.toNat else if k=3 then 29 else 24
def m0(l:List UInt8):Nat:=iR (l.headD 0) ((l.drop 23).headD 0)
def kp(l:List UInt8):Bool:=decide (24<=l.length)&&(decide (m0 l<=l.length)&&nB (kV l))
theorem JM{l:List UInt8}(h:24<=l.length) : ∃k c a d m rest,l=k :: (c++(a++(d++(m :: rest))))/\c.length=6/\a.length=3/\d.length=13:=by
 match l,h with
 | k :: l,h=>
  simp only[ji]at h
  refine⟨k,l.take 6,(l.drop 6).take 3,(l.drop 9).take 13,(l.drop 22).headD 0,l.drop 23,?_,by simp;omega,by simp;omega,by simp;omega⟩
  have g:l.drop 22=(l.drop 22).headD 0 :: l.drop 23:=by
   match b:l.drop 22 with
   | []=>have:=congrArg List.length b;simp at this;omega
   | m :: t=>
    have:l.drop 23=(l.drop 22).drop 1:=by rw[lU]
    rw[this,b];rfl
  rw[<-g]
  have e:(l.drop 9).take 13++l.drop 22=l.drop 9:=by
   have:l.drop 22=(l.drop 9).drop 13:=by rw[lU]
   rw[this,xQ]
  have f:(l.drop 6).take 3++l.drop 9=l.drop 6:=by
   have:l.drop 9=(l.drop 6).drop 3:=by rw[lU]
   rw[this,xQ]
  rw[e,f,xQ]
def wN(k:UInt8)(b a c:List UInt8)(m:UInt8)(rest:List UInt8):dY:=⟨k,fx b,val a,⟨gM c,(m.toNat:Int)⟩,
 if k=1 then gM (rest.take 13) else ke,if k=3 then ⟨rest.headD 0,u32 (val ((rest.drop 1).take 4))⟩ else ⟨0,0⟩,
 if k=1 then words ((rest.drop 13).take (4 * m.toNat)) else []⟩
theorem Ce(k:UInt8)(c b a:List UInt8)(m:UInt8)(rest:List UInt8)(o:c.length=6)(n:b.length=3)(e:a.length=13):kV (k :: (c++(b++(a++(m :: rest)))))=wN k c b a m rest/\m0 (k :: (c++(b++(a++(m :: rest)))))=iR k m:=by
 have d1:(k :: (c++(b++(a++(m :: rest))))).drop 1=c++(b++(a++(m :: rest))):=rfl
 have d7:(k :: (c++(b++(a++(m :: rest))))).drop 7=b++(a++(m :: rest)):=by
  show(c++(b++(a++(m :: rest)))).drop 6=_
  exact xL o
 have g:(k :: (c++(b++(a++(m :: rest))))).drop 10=a++(m :: rest):=by
  have:(k :: (c++(b++(a++(m :: rest))))).drop 10=((k :: (c++(b++(a++(m :: rest))))).drop 7).drop 3:=by rw[lU]
  rw[this,d7]
  exact xL n
 have d:(k :: (c++(b++(a++(m :: rest))))).drop 23=m :: rest:=by
  have:(k :: (c++(b++(a++(m :: rest))))).drop 23=((k :: (c++(b++(a++(m :: rest))))).drop 10).drop 13:=by rw[lU]
  rw[this,g]
  exact xL e
 have l : ∀j,(k :: (c++(b++(a++(m :: rest))))).drop (24+j)=rest.drop j:=by
  intro j
  have:(k :: (c++(b++(a++(m :: rest))))).drop (24+j)=((k :: (c++(b++(a++(m :: rest))))).drop 23).drop (1+j):=by rw[lU];congr 1;omega
  rw[this,d,Nat.add_comm]
  rfl
 have f:=l 0
 have h:=l 1
 have i:=l 13
 simp only[uU,y0,Nat.reduceAdd]at f h i
 constructor
 ·unfold kV wN
  rw[d1,d7,g,d,f,h,i,uj o,uj n,uj e]
  rfl
 ·unfold m0
  rw[d]
  rfl
theorem ON{a:List UInt8}(h:a.length=3):be 3 (val a)=a:=AM h
theorem My(m:UInt8):u8 (m.toNat:Int)=m:=by simp
theorem LW{l:List UInt8}(h:kp l=true):dL (kV l)=l.take (m0 l)/\nB (kV l)=true/\m0 l<=l.length/\24<=m0 l:=by
 simp only[kp,aY,decide_eq_true_eq]at h
 obtain⟨p,g,u⟩:=h
 refine⟨?_,u,g,by unfold m0 iR;split<;>first | omega | (split<;>omega)⟩
 obtain⟨k,c,d,b,m,rest,rfl,v,s,o⟩:=JM p
 obtain⟨C,w⟩:=Ce k c d b m rest v s o
 rw[w]at g ⊢
 rw[C]at u ⊢
 have n:(k :: (c++(d++(b++(m :: rest))))).length=24+rest.length:=by simp only[ji,gG];omega
 have y:k8 (wN k c d b m rest)=k :: (c++(d++(b++[m]))):=by
  unfold k8 wN
  simp only[yA v,ON s,tW o,My]
  rfl
 have i : ∀j,(k :: (c++(d++(b++(m :: rest))))).take (24+j)=(k :: (c++(d++(b++[m]))))++rest.take j:=by
  intro j
  have:k :: (c++(d++(b++(m :: rest))))=(k :: (c++(d++(b++[m]))))++rest:=by simp
  rw[this,List.take_append]
  have e:(k :: (c++(d++(b++[m])))).length=24:=by simp only[ji,gG,lV];omega
  rw[e,fC (by omega)]
  congr 2;omega
 unfold dL
 rw[y]
 have B:(wN k c d b m rest).kind=k:=rfl
 rw[B]
 rw[n]at g
 by_cases k1:k=1
 ·subst k1
  have f:iR 1 m=24+(13+4 * m.toNat):=by unfold iR;rw[if_pos rfl];omega
  rw[f]at g ⊢
  rw[i,if_pos rfl]
  congr 1
  have x:(wN 1 c d b m rest).a=gM (rest.take 13):=rfl
  have A:(wN 1 c d b m rest).l=words ((rest.drop 13).take (4 * m.toNat)):=rfl
  rw[x,A,(qf m.toNat _ (by simp;omega)).1,List.take_add]
  congr 1
  unfold lH
  rw[CC (by simp;omega)]
  split
  ·rename_i e;simp only[decide_eq_true_eq]at e;rw[e]
  ·exact tW (by simp;omega)
 ·rw[if_neg k1]
  by_cases q:k=3
  ·subst q
   have f:iR 3 m=24+5:=by unfold iR;rfl
   rw[f]at g ⊢
   rw[i,if_pos rfl]
   congr 1
   match rest,g with
   | t :: rest,g=>
    simp only[ji]at g
    have z:(wN 3 c d b m (t :: rest)).to=⟨t,u32 (val (rest.take 4))⟩:=rfl
    rw[z]
    simp only[CV _ (show(rest.take 4).length=4 by simp;omega)]
    rfl
  ·have f:iR k m=24+0:=by unfold iR;rw[if_neg k1,if_neg q]
   rw[f,i,if_neg q]
   simp
theorem Hk(o:dY):(k8 o).length=24:=by simp[k8]
theorem oI{o:dY}(h:nB o=true):1<=o.serial/\o.serial<16777216/\(1<=o.s.f.n/\o.s.f.n<=1099511627776)/\1<=o.s.many/\o.s.many<=64 /\
 ((o.kind=1/\o.to=⟨0,0⟩/\(o.a=ke\/(1<=o.a.n/\o.a.n<=1099511627776))/\(o.l.length:Int)=o.s.many/\Cb o.l=true)\/(o.kind=2/\o.to=⟨0,0⟩/\o.a=ke/\o.l=[])\/(o.kind=3/\o.a=ke/\o.l=[]/\o.to.lv<=15)):=by
 simp only[nB,aY,decide_eq_true_eq]at h
 obtain⟨p,m,i,d,hm⟩:=h
 have c:=JO d
 have hi:=D5 (ML d)
 refine⟨m,i,hi,c.2.1,c.2.2.1,?_⟩
 have g : ∀t:R8,rj t=true->t=⟨0,0⟩:=by
  rintro⟨a,b⟩ h;simp[rj]at h;rw[h.1,h.2]
 unfold yp at hm
 split at hm
 ·rename_i k1
  simp only[Dn,aY,jh,decide_eq_true_eq]at hm
  refine .inl ⟨k1,g _ hm.1,?_,hm.2.2.2.1,hm.2.2.2.2⟩
  rcases hm.2.1 with e | e
  ·exact .inl ((sh _).1 e)
  ·exact .inr (D5 e)
 ·split at hm
  ·rename_i k
   simp only[Jf,vB,aY,decide_eq_true_eq]at hm
   exact .inr (.inl ⟨k,g _ hm.1,(sh _).1 hm.2.1,hm.2.2⟩)
  ·split at hm
   ·rename_i j
    simp only[E2,vB,aY,decide_eq_true_eq]at hm
    exact .inr (.inr ⟨j,(sh _).1 hm.1.1,hm.1.2,hm.2⟩)
   ·cases hm
def wJ(o:dY):Nat:=if o.kind=1 then 37+4 * o.s.many.toNat else if o.kind=3 then 29 else 24
theorem xC(a:uO):(lH a).length=13:=by unfold lH;split<;>simp
theorem rE{o:dY}(h:nB o=true):(dL o).length=wJ o:=by
 have hp:=oI h
 unfold dL wJ
 rw[gG,Hk]
 rcases hp.2.2.2.2.2 with ⟨k,_,_,a,_⟩ | ⟨k,_⟩ | ⟨k,_⟩
 ·rw[if_pos k,if_pos k,gG,xC,kC];omega
 ·rw[k];rfl
 ·rw[k];simp
end
section
attribute [local simp] bn aO aE aQ aP cy ld bp aG aU cZ cY aX bo ar bS fC
theorem qE{o:dY}(h:nB o=true):24<=wJ o/\wJ o<=293:=by
 have hp:=oI h
 unfold wJ
 split
 ·omega
 ·split<;>omega
def SR(o:dY):AV:=if nB o then .tup [.bl 1 (al (dL o)) none,aI 0] else .tup [bF,aI 8]
theorem PV(j:UInt8)(i:UInt8)(a_3:UInt32)(o:UInt8)(m:Int)(k:UInt8)(n:UInt32)(p:UInt8)(h:Int)(f:Int)(e:UInt8)(b:UInt32)(g:UInt8)(c:Int)(d:UInt8)(a:UInt32){x:AV}{l:List Int}(t:Sl 1 (rows l) x)(u:l.length<2000000):au env 90 [.agg [a8 j,a8 i,bc a_3,a8 o,aI m,a8 k,bc n,a8 p,aI h,aI f,a8 e,bc b,a8 g,aI c,a8 d,bc a,x]]=some (SR (⟨j,⟨i,a_3,o⟩,m,⟨⟨⟨k,n,p⟩,h⟩,f⟩,⟨⟨e,b,g⟩,c⟩,⟨d,a⟩,l⟩:dY)):=by
 unfold SR
 cases s:nB (⟨j,⟨i,a_3,o⟩,m,⟨⟨⟨k,n,p⟩,h⟩,f⟩,⟨⟨e,b,g⟩,c⟩,⟨d,a⟩,l⟩:dY) with
 | false=>rw[Nf j i a_3 o m k n p h f e b g c d a t u s];rfl
 | true=>
  have hp:=oI s
  rw[if_pos rfl]
  unfold dL
  rcases hp.2.2.2.2.2 with ⟨q,_⟩ | ⟨q,_⟩ | ⟨q,_⟩
  ·rw[Ni j i a_3 o m k n p h f e b g c d a t u s q,if_pos q]
  ·simp only at q
   rw[Nh j i a_3 o m k n p h f e b g c d a t u s q,if_neg (by simp[q]),if_neg (by simp[q]),pQ]
  ·simp only at q
   rw[Ng j i a_3 o m k n p h f e b g c d a t u s q,if_neg (by simp[q]),if_pos q]
end
section
theorem Lg{o:dY}(h:nB o=true)(b:List UInt8):kV (dL o++b)=o/\m0 (dL o++b)=wJ o/\kp (dL o++b)=true:=by
 have hp:=oI h
 have i:=rE h
 obtain⟨k,e,g,⟨f,m⟩,a,to,l⟩:=o
 simp only at hp
 obtain⟨v,E,⟨z,A⟩,w,D,C⟩:=hp
 have F:((u8 m).toNat:Int)=m:=by rw[xh];omega
 have n:(u8 m).toNat=m.toNat:=by omega
 have d:dL ⟨k,e,g,⟨f,m⟩,a,to,l⟩++b=k :: (bJ e++(be 3 g++(cR f++(u8 m :: ((if k=1 then lH a++aH l else if k=3 then to.lv :: be 4 to.cats.toNat else [])++b))))):=by
  simp[dL,k8]
 obtain⟨G,y⟩:=Ce k (bJ e) (be 3 g) (cR f) (u8 m) ((if k=1 then lH a++aH l else if k=3 then to.lv :: be 4 to.cats.toNat else [])++b) (by simp) (by simp) (by simp)
 have s:kV (dL ⟨k,e,g,⟨f,m⟩,a,to,l⟩++b)=⟨k,e,g,⟨f,m⟩,a,to,l⟩:=by
  rw[d,G]
  unfold wN
  rw[tX,xg (by omega) (by omega),yz (by omega) (by omega),F,n]
  rcases C with ⟨rfl,rfl,u,H,j⟩ | ⟨rfl,rfl,rfl,rfl⟩ | ⟨rfl,rfl,rfl,_⟩
  ·have q:(aH l).length=4 * m.toNat:=by rw[kC];omega
   simp only[if_true]
   rw[pS,uj (xC a),xL (xC a),uj q,EH _ (Iy j).2.2]
   have:gM (lH a)=a:=by
    unfold lH
    rcases u with rfl | u
    ·rfl
    ·split
     ·rename_i p;rw[(sh _).1 p];rfl
     ·exact yz (by omega) (by omega)
   rw[this]
   rfl
  ·rfl
  ·obtain⟨t,c⟩:=to
   have x:((t :: be 4 (c.toNat:Int))++b).drop 1=be 4 (c.toNat:Int)++b:=rfl
   have B:((t :: be 4 (c.toNat:Int))++b).headD 0=t:=rfl
   simp only[show ¬(3:UInt8)=1 by decide,if_false,if_true]
   rw[x,B,uj (zO _ _),xi]
 have p:m0 (dL ⟨k,e,g,⟨f,m⟩,a,to,l⟩++b)=wJ ⟨k,e,g,⟨f,m⟩,a,to,l⟩:=by
  rw[d,y]
  unfold iR wJ
  rw[n]
 refine⟨s,p,?_⟩
 simp only[kp,aY,decide_eq_true_eq]
 rw[s,p,gG,i]
 exact⟨by unfold wJ;split<;>first | omega | (split<;>omega),by omega,h⟩
end
section
attribute [local simp] bn aO aE aQ aP cy ld bp aG aU cZ cY aX bo ar bS fC
def LG(bs:List UInt8):uO:=if uF (gM bs) then gM bs else ke
def vp(bs:List UInt8)(zero:Bool):Bool := !uF (gM bs) && !(zero&&decide (bs=List.replicate 13 0))
structure Ti (H H':ab) (r:Ref) (x:AV) (bs:List UInt8) (a:Nat) (b:Bool) (y:AV):Prop where
 val:y = .agg [a8 (LG bs).h.lv,bc (LG bs).h.cats,a8 (LG bs).h.num,aI (LG bs).n]
 fr:Fr H'
 box:H'.get r=some (ry x a b)
 old : ∀q c,q≠r->H.get q=some c->H'.get q=some c
theorem xl(dep:Nat){H:ab}{r:Ref}{x:AV}{l:List UInt8}{a:Nat}{b:Bool}(n:Nat){i:Int}{K:AV->ab->Prop}{m:Mk K}(hi:i=n)(e:Sl 1 (al l) x)(g:a<=l.length)(k:l.length<1000000000)(d:n<1000000)
 (j:Fr H) (p:H.get r=some (ry x a b)) (h : ∀y v c,Tk H c r x l (sd l a b n) (zZ l a b n) (wH l a b n) y v->K y c):iq (dA env dep (.fn 127) [.ptr r 0 0,aI i] H) K m:=by
 subst hi
 obtain⟨y,c,f,v,o⟩:=Py dep n j e p g k d
 exact tY f (h y v c o)
theorem WA(dep:Nat){H:ab}{r:Ref}{x:AV}{l:List UInt8}{a:Nat}{b:Bool}(zero:Bool)(A:Fr H)(P:Sl 1 (al l) x)(K:H.get r=some (ry x a b))(N:a<=l.length)(S:l.length<1000000000) :
 ∃y M,dA env dep (.fn 128) [.ptr r 0 0,aB zero] H=some (y,M)/\Ti H M r x (sd l a b 13) (zZ l a b 13) (wH l a b 13||vp (sd l a b 13) zero) y:=by
 refine yw (fn:=Tryz.f128) (c:=px) (by kernel_rfl) (by kernel_rfl) (by kernel_rfl) (by kernel_rfl) (by kernel_rfl) ?_
 refine pg _ _ _ _ _ λg=>?_
 have E:(H.get r).isSome=true:=by rw[K];rfl
 have V:=zM (f:=127) (by kernel_rfl)
 simp[ak, *,eJ,V, -aO]
 refine xl (dep+1) 13 rfl P N S (by omega) (by simp(maxDischargeDepth:=12) [ov, *]) (by rw[ab.jr,if_neg (mO A E _ _ _)];exact K) λy v p T=>?_
 obtain⟨u,fr,d,old,spot⟩:=T
 have s:=tH (l:=l) (a:=a) b 13
 have hG:=Tr u.sl s
 have Y:au env 57 [v,.bl 1 [a8 0,a8 0,a8 0,a8 0,a8 0,a8 0,a8 0,a8 0,a8 0,a8 0,a8 0,a8 0,a8 0] none]=some (aB (decide (sd l a b 13=List.replicate 13 0))):=Gi u.sl (Sl.mk 1 (al (List.replicate 13 0)))
 have W:=old ⟨dep+1,4,H.gen (dep+1) 4,0⟩ ⟨4,[.agg [a8 0,bc 0,a8 0,aI 0]],false,false⟩ (mO A E _ _ _) (by simp)
 have n1:(⟨dep+1,4,H.gen (dep+1) 4,0⟩:Ref)≠r:=mO A E _ _ _
 have n2:=n1.symm
 have Z:(p.get r).isSome=true:=by rw[d];rfl
 have l3:(p.get ⟨dep+1,4,H.gen (dep+1) 4,0⟩).isSome=true:=by rw[W];rfl
 unfold ry at d
 have k : ∀(t:ab)(y:AV)(z:Bool),y = .agg [a8 (LG (sd l a b 13)).h.lv,bc (LG (sd l a b 13)).h.cats,a8 (LG (sd l a b 13)).h.num,aI (LG (sd l a b 13)).n]->Fr t->t.get r=some ⟨3,[.agg [x,aI (zZ l a b 13),aB z]],false,false⟩ ->
  (∀q c,q≠r->q≠⟨dep+1,4,H.gen (dep+1) 4,0⟩->p.get q=some c->t.get q=some c)->Ti H t r x (sd l a b 13) (zZ l a b 13) z y:=by
  intro t y z Q F B U
  refine⟨Q,F,B,λq c j o=>?_⟩
  have G:q≠⟨dep+1,4,H.gen (dep+1) 4,0⟩:=λe=>mO A (by rw[o];rfl) _ _ _ e.symm
  exact U q c j G (old q c j (by rw[ab.jr,if_neg (λe=>G e.symm)];exact o))
 have J:LG (sd l a b 13)=if uF (gM (sd l a b 13)) then gM (sd l a b 13) else ke:=rfl
 have X:vp (sd l a b 13) zero=(!uF (gM (sd l a b 13)) && !(zero&&decide (sd l a b 13=List.replicate 13 0))):=rfl
 generalize sd l a b 13=bs at *
 generalize zZ l a b 13=a' at *
 generalize wH l a b 13=b' at *
 clear N old
 generalize decide (bs=List.replicate 13 0)=dz at *
 generalize hi:gM bs=i at *
 obtain⟨⟨k1,I,O⟩,L⟩:=i
 rcases u with ⟨rfl,u⟩ | ⟨q,c,fz,rfl,j,rfl,o⟩
 ·have hr:=u.r
  cases C:uF ⟨⟨k1,I,O⟩,L⟩<;>cases zero<;>cases b'
  all_goals simp[ak, *,eJ,ke]
  all_goals
   refine k _ _ _ ?_ (by simp(maxDischargeDepth:=12) [ov, *]) ?_ ?_
   ·simp[J,C,ke]
   ·simp[ab.aj,tQ,tS, *]
   ·intro q c j m o
    have R:(p.get q).isSome=true:=by rw[o];rfl
    have D:=j.symm
    have w:=m.symm
    simp[ab.aj,tQ,tS, *]
 ·have l4:(p.get q).isSome=true:=by rw[j];rfl
  cases C:uF ⟨⟨k1,I,O⟩,L⟩<;>cases zero<;>cases b'
  all_goals simp[ak, *,eJ,ke]
  all_goals
   refine k _ _ _ ?_ (by simp(maxDischargeDepth:=12) [ov, *]) ?_ ?_
   ·simp[J,C,ke]
   ·simp[ab.aj,tQ,tS, *]
   ·intro q c j m o
    have R:(p.get q).isSome=true:=by rw[o];rfl
    have D:=j.symm
    have w:=m.symm
    simp[ab.aj,tQ,tS, *]
@[simp] theorem XW(a:UInt8)(b:UInt32):au env 120 [.agg [a8 a,bc b]]=some (aB (decide (a<=15))):=by
 refine ax rfl (by kernel_rfl) (tE _ _ _ λg=>?_)
 simp[ak, *,nY]
@[simp] theorem xZ(a:UInt8)(b:UInt32)(n:UInt8):au env 95 [.agg [a8 a,bc b,a8 n]]=some (aB (ej ⟨a,b,n⟩)):=by
 refine ax rfl (by kernel_rfl) (pA _ _ _ λg=>?_)
 simp[ak, *,kQ,ej]
 repeat' ((first | apply td<;>intro h | apply oN<;>intro h | apply oO<;>intro h | apply oL<;>intro h | apply oM<;>intro h)<;>(try simp only[decide_eq_true_eq,decide_eq_false_iff_not,gE,rn,aY,jh]at h)<;>(try simp[ak, *]))
@[simp] theorem XV(a:UInt8)(b:UInt32)(n:UInt8)(k:Int):au env 122 [.agg [a8 a,bc b,a8 n,aI k]]=some (aB (uF ⟨⟨a,b,n⟩,k⟩)):=by
 refine ax rfl (by kernel_rfl) (tC _ _ _ λg=>?_)
 simp[ak, *,nW,uF]
 repeat' ((first | apply td<;>intro h | apply oN<;>intro h | apply oO<;>intro h | apply oL<;>intro h | apply oM<;>intro h)<;>(try simp only[decide_eq_true_eq,decide_eq_false_iff_not,gE,rn,aY,jh]at h)<;>(try simp[ak, *]))
@[simp] theorem Sq(a:UInt8)(b:UInt32)(n:UInt8)(k m:Int):au env 121 [.agg [a8 a,bc b,a8 n,aI k,aI m]]=some (aB (k7 ⟨⟨⟨a,b,n⟩,k⟩,m⟩)):=by
 refine ax rfl (by kernel_rfl) (qA _ _ _ λg=>?_)
 cases d:uF ⟨⟨a,b,n⟩,k⟩ with
 | false=>simp[ak, *,ek,k7]
 | true=>
  have c:=D5 d
  simp only at c
  by_cases j:1<=m
  ·by_cases f:m<=64
   ·have i:=IntWalk.i64_in (1099511627777 - m) (by omega)
    have e:decide (k+m - 1<=1099511627776)=decide (k<=1099511627777 - m):=by
     by_cases h:k<=1099511627777 - m
     ·rw[decide_eq_true h,decide_eq_true (by omega)]
     ·rw[decide_eq_false h,decide_eq_false (by omega)]
    simp[ak, *,ek,k7]
   ·simp[ak, *,ek,k7]
  ·simp[ak, *,ek,k7]
@[simp] theorem VO(a:UInt8)(b:UInt32)(n:UInt8)(k:Int):au env 108 [.agg [a8 a,bc b,a8 n,aI k]]=some (aB (iJ ⟨⟨a,b,n⟩,k⟩)):=by
 refine ax rfl (by kernel_rfl) (sD _ _ _ λg=>?_)
 simp[ak, *,nr,kT,eF,iJ]
@[simp] theorem M7(n:Int):au env 134 [aI n]=some (aB (pC n)):=by
 refine ax rfl (by kernel_rfl) (uM _ _ _ λg=>?_)
 have e:pC n=(decide (0<=n)&&(decide (n<=1114111)&&(decide (n<55296)||decide (57343<n)))):=by
  unfold pC
  rw[Bool.eq_iff_iff]
  simp only[jh,aY,decide_eq_true_eq]
  omega
 rw[e]
 simp[ak, *,ou]
 repeat' ((first | apply td<;>intro h | apply oN<;>intro h | apply oO<;>intro h | apply oL<;>intro h | apply oM<;>intro h)<;>(try simp only[decide_eq_true_eq,decide_eq_false_iff_not,gE,rn,aY,jh]at h)<;>(try simp[ak, *]))
theorem E3{l:List Int}{h:AV}(d:Sl 1 (rows l) h)(x:l.length<4611686018427387904)(q : ∀a∈l, -2147483648<=a/\a<=2147483647){Q:AV->ab->Prop}{H:ab} :
 ∀(s:List Int)(k:Nat)(i:Int),l.drop k=s->k<=l.length->i=k->(∀y,y=aI (bad (s.all fw))->Q y H) ->
 dZ env Tryz.f123 0 fJ [(3,aI i),(0,h)] H Q:=by
 intro s
 induction s with
 | nil=>
  rintro k i hs hk rfl hQ
  obtain rfl:=drop_nil hs hk
  refine lx _ _ _ _ λg=>?_
  simp[ak, *,eu,d.r]
  all_goals exact hQ _ rfl
 | cons a s m=>
  rintro k i hs hk rfl hQ
  obtain⟨t,p,f,o⟩:=drop_cons hs
  have w:=q a (by rw[<-p];exact gD _)
  refine lx _ _ _ _ λg=>?_
  have u:=IntWalk.i64_in ((k:Int)+1) (by omega)
  have v:=IntWalk.i64_in a (by omega)
  have c:fw a=(decide (a = -1)||pC a):=by simp[fw,pC,Bool.or_assoc]
  by_cases n:a = -1
  ·subst n
   have b : ∀y,y=aI (bad (s.all fw))->Q y H:=λy e=>hQ y (by rw[e];simp[fw])
   clear hQ
   simp[ak, *,eu,d.r,d.idx,aR]
   exact m (k+1) _ f (by omega) (by simp) b
  ·cases j:pC a with
   | true=>
    have b : ∀y,y=aI (bad (s.all fw))->Q y H:=λy e=>hQ y (by rw[e];simp[c,j])
    clear hQ c
    simp[ak, *,eu,d.r,d.idx,aR]
    exact m (k+1) _ f (by omega) (by simp) b
   | false=>
    have b : ∀y,y=aI 8->Q y H:=λy e=>hQ y (by rw[e];simp[c,j,n])
    clear hQ c
    simp[ak, *,eu,d.r,d.idx,aR]
    all_goals exact b _ rfl
theorem K3{l:List Int}{x:AV}(b:Sl 1 (rows l) x)(f:l.length<4611686018427387904)(d : ∀a∈l, -2147483648<=a/\a<=2147483647):au env 123 [x]=some (aI (sP l)):=by
 refine ax rfl (by kernel_rfl) (rU _ _ _ λg=>?_)
 by_cases c:64<l.length
 ·have:(64:Int)<l.length:=by omega
  simp[ak, *,jG,sP,b.r]
 ·have : ¬(64:Int)<l.length:=by omega
  have e:sP l=bad (l.all fw):=by unfold sP bad;rw[if_neg c]
  simp[ak, *,jG,b.r]
  exact E3 b f d l 0 _ rfl (by omega) rfl (λy e=>by simp[e])
theorem AG(m:UInt8)(n:UInt8)(a_3:UInt32)(q:UInt8)(h:Int)(o:UInt8)(p:UInt32)(s:UInt8)(t:Int)(j:Int)(d:UInt8)(b:UInt32)(e:UInt8)(c:Int)(i:UInt8)(f:UInt32){x:AV}{l:List Int}(k:Sl 1 (rows l) x)(O:l.length<2000000)(I : ∀a∈l, -2147483648<=a/\a<=2147483647):au env 96 [.agg [a8 m,a8 n,bc a_3,a8 q,aI h,a8 o,bc p,a8 s,aI t,aI j,a8 d,bc b,a8 e,aI c,a8 i,bc f,x]]=some (aB (nB (⟨m,⟨n,a_3,q⟩,h,⟨⟨⟨o,p,s⟩,t⟩,j⟩,⟨⟨d,b,e⟩,c⟩,⟨i,f⟩,l⟩:dY))):=by
 refine ax rfl (by kernel_rfl) (tx _ _ _ λg=>?_)
 have N:=K3 k (by omega) I
 have P:=zo l
 unfold nB
 cases Q:ej ⟨n,a_3,q⟩ with
 | false=>simp[ak, *,aw,k.r]
 | true=>
 rcases AZ h 1 with A | F
 ·have F : ¬1<=h:=by omega
  simp[ak, *,aw,k.r]
 have A : ¬h<1:=by omega
 rcases AZ h 16777216 with G | C
 rotate_left
 ·have G : ¬h<16777216:=by omega
  simp[ak, *,aw,k.r]
 have C : ¬16777216<=h:=by omega
 cases L:k7 ⟨⟨⟨o,p,s⟩,t⟩,j⟩ with
 | false=>simp[ak, *,aw,k.r]
 | true=>
 by_cases k1:m=1
 ·subst k1
  unfold yp
  simp only[Dn,if_true]
  cases y:rj (⟨i,f⟩:R8) with
  | false=>
   unfold rj at y
   simp[ak, *,aw,k.r,kT,eF]
  | true=>
   unfold rj at y
   cases D:BT ⟨o,p,s⟩ ⟨n,a_3,q⟩ with
   | false=>
    unfold BT at D
    cases v:iJ (⟨⟨d,b,e⟩,c⟩:uO) with
    | false=>cases E:uF (⟨⟨d,b,e⟩,c⟩:uO)<;>simp[ak, *,aw,k.r,kT,eF]
    | true=>simp[ak, *,aw,k.r,kT,eF]
   | true=>
    unfold BT at D
    by_cases R:(l.length:Int)=j
    ·cases v:iJ (⟨⟨d,b,e⟩,c⟩:uO) with
     | false=>cases E:uF (⟨⟨d,b,e⟩,c⟩:uO)<;>simp[ak, *,aw,k.r,kT,eF]
     | true=>simp[ak, *,aw,k.r,kT,eF]
    ·cases v:iJ (⟨⟨d,b,e⟩,c⟩:uO) with
     | false=>cases E:uF (⟨⟨d,b,e⟩,c⟩:uO)<;>simp[ak, *,aw,k.r,kT,eF]
     | true=>simp[ak, *,aw,k.r,kT,eF]
 ·by_cases u:vB (⟨m,⟨n,a_3,q⟩,h,⟨⟨⟨o,p,s⟩,t⟩,j⟩,⟨⟨d,b,e⟩,c⟩,⟨i,f⟩,l⟩:dY)=true
  ·have z:=u
   simp only[vB,aY,decide_eq_true_eq]at z
   obtain⟨v,w⟩:=z
   subst w
   unfold yp
   by_cases K:m=2
   ·subst K
    simp only[Jf,if_true]
    cases y:rj (⟨i,f⟩:R8) with
    | false=>
     unfold rj at y
     simp[ak, *,aw,k.r,kT,eF]
    | true=>
     unfold rj at y
     simp[ak, *,aw,k.r,kT,eF]
   ·by_cases J:m=3
    ·subst J
     simp only[E2,if_true]
     simp[ak, *,aw,k.r,kT,eF]
    ·simp[ak, *,aw,k.r,kT,eF]
  ·have M:yp (⟨m,⟨n,a_3,q⟩,h,⟨⟨⟨o,p,s⟩,t⟩,j⟩,⟨⟨d,b,e⟩,c⟩,⟨i,f⟩,l⟩:dY)=false:=by
    have B:vB (⟨m,⟨n,a_3,q⟩,h,⟨⟨⟨o,p,s⟩,t⟩,j⟩,⟨⟨d,b,e⟩,c⟩,⟨i,f⟩,l⟩:dY)=false:=by simpa using u
    unfold yp Jf E2
    rw[B]
    simp[k1]
   simp only[vB,aY,decide_eq_true_eq,not_and]at u
   cases v:iJ (⟨⟨d,b,e⟩,c⟩:uO) with
   | false=>
    clear u
    simp[ak, *,aw,k.r,kT,eF]
   | true=>
    have w:0<l.length:=xO.2 (u v)
    have H : ¬l=[]:=u v
    clear u
    simp[ak, *,aw,k.r,kT,eF]
@[simp] theorem Rj(g:cf)(k:Nat)(n:Int):ad g k (aR n)=[]:=by cases k<;>rfl
theorem IH{P:Program}{g:cf}{r:Ref}{src dst:TypeId}(a:(P.underlying src).isNone=false)(b:intKind P dst=some .i32)(x:UInt32) :
 bC P g r src dst (some (bc x))=some (aR (IntKind.i32.wrap x.toNat),[]):=by
 unfold bc;rw[na P .i32 a b];rfl
theorem KF(a b c d:UInt8):(((((a.toUInt32 <<< 24) ||| (b.toUInt32 <<< 16)) ||| (c.toUInt32 <<< 8)) ||| d.toUInt32).toNat:Int)=val [a,b,c,d]:=by
 have q:=a.toNat_lt
 have s:=b.toNat_lt
 have o:=c.toNat_lt
 have p:=d.toNat_lt
 have m:(a.toUInt32 <<< 24).toNat=a.toNat * 16777216:=by
  rw[ED];simp[Ev];omega
 have g:(b.toUInt32 <<< 16).toNat=b.toNat * 65536:=by
  rw[ED];simp[Ev];omega
 have i:(c.toUInt32 <<< 8).toNat=c.toNat * 256:=by
  rw[ED];simp[Ev];omega
 have n:d.toUInt32.toNat=d.toNat:=by simp
 have e : ∀(x k y:Nat),y<2 ^ k->(x * 2 ^ k) ||| y=x * 2 ^ k+y:=by
  intro x k y h
  rw[yZ,Mi h]
 simp only[UInt32.toNat_or,m,g,i,n]
 have l:a.toNat * 16777216 ||| b.toNat * 65536=(a.toNat * 256+b.toNat) * 65536:=by
  have:=e a.toNat 24 (b.toNat * 65536) (by omega)
  simp only[Nat.reducePow]at this
  rw[this];omega
 have j:(a.toNat * 256+b.toNat) * 65536 ||| c.toNat * 256=((a.toNat * 256+b.toNat) * 256+c.toNat) * 256:=by
  have:=e (a.toNat * 256+b.toNat) 16 (c.toNat * 256) (by omega)
  simp only[Nat.reducePow]at this
  rw[this];omega
 have f:((a.toNat * 256+b.toNat) * 256+c.toNat) * 256 ||| d.toNat=(((a.toNat * 256+b.toNat) * 256+c.toNat) * 256+d.toNat):=by
  have:=e ((a.toNat * 256+b.toNat) * 256+c.toNat) 8 d.toNat (by omega)
  simp only[Nat.reducePow]at this
  rw[this]
 rw[l,j,f]
 simp[val,we]
 omega
structure Ma (r r2:Ref) (info:AV) (H:ab) (out:List Int):Prop where
 fr:Fr H
 mark:H.get r=some (c9 0 info)
 n1:r2≠r
 box:(H.get r2=some ⟨1,[bF],false,false⟩/\out=[]) \/∃q:Ref,q.d=2/\q.t=43/\q.k=0/\q≠r/\q≠r2/\H.get r2=some ⟨1,[.bD q 0 out.length none],false,false⟩/\H.get q=some ⟨1,rows out,true,false⟩/\0<out.length
theorem LK{r r2:Ref}{tm:List AV}{H:ab}{out:List Int}{ps:List Tmp}(i:ps=[17])(k:bZ tm 2 = .ptr r2 0 0)(o:Ma r r2 (.lp 0 50 ps dx dw tm) H out)(m:out.length<60000000)(a b c d:UInt8)(f:Option Nat)(C:4<=f.getD 4) :
 ∃y u,dA env 1 (.yld r) [.bl 1 [a8 a,a8 b,a8 c,a8 d] f] H=some (y,u)/\(y=aB true/\Ma r r2 (.lp 0 50 ps dx dw tm) u (out++[word a b c d])):=by
 subst i
 refine D0 (fn:=Tryz.f129) (dep:=1) o.mark (by kernel_rfl) rfl rfl (by kernel_rfl) (by kernel_rfl) ?_
 rw[<-yl (s:=bZ (qF tm [17] [.bl 1 [a8 a,a8 b,a8 c,a8 d] f])) (l:=[(2,.ptr r2 0 0),(17,.bl 1 [a8 a,a8 b,a8 c,a8 d] f)]) (by
  intro p hp
  simp only[eU,uV,or_false]at hp
  rcases hp with rfl | rfl
  ·show bZ (xj tm 17 _) 2=_
   rw[oB]
   simpa using k
  ·show bZ (xj tm 17 _) 17=_
   rw[oB]
   simp)]
 refine(xe r _ _ _ _ λg=>?_).h _
 obtain⟨fr,mark,n1,box⟩:=o
 have B:=n1.symm
 have K:(H.get r).isSome=true:=by rw[mark];rfl
 have e:=λ(g:cf)(r:Ref)=>IH (P:=env.P) (g:=g) (r:=r) (src:=43) (dst:=21) (by kernel_rfl) (by kernel_rfl) ((((a.toUInt32 <<< 24) ||| (b.toUInt32 <<< 16)) ||| (c.toUInt32 <<< 8)) ||| d.toUInt32)
 rw[KF]at e
 have t:IntKind.i32.wrap (val [a,b,c,d])=word a b c d:=rfl
 rw[t]at e
 clear t
 rcases box with ⟨j,rfl⟩ | ⟨q,w,n,v,n2,D,j,E,G⟩
 ·have z:(H.get r2).isSome=true:=by rw[j];rfl
  simp[ak, *,mU,nL,ab.aj]
  refine⟨_,rfl,⟨by simp(maxDischargeDepth:=12) [ov, *],by simp(maxDischargeDepth:=12) [ov, *],n1,.inr ⟨⟨2,43,H.gen 2 43,0⟩,rfl,rfl,rfl,by simp(maxDischargeDepth:=12) [ov, *],by simp(maxDischargeDepth:=12) [ov, *],by simp(maxDischargeDepth:=12) [ov, *],?_,by simp⟩⟩⟩
  simp[ab.aj,rows,tQ,tS, *]
 ·have z:(H.get r2).isSome=true:=by rw[j];rfl
  have L:(H.get q).isSome=true:=by rw[E];rfl
  have x:=n2.symm
  have A:=D.symm
  obtain⟨O,J,N,I⟩:=q
  simp only at w n v
  subst w n v
  have M:out.length+1<=17592186044416:=by omega
  have F:(out.length+1) * 4<=140737488355328:=by omega
  simp[ak, *,mU,nL,ab.aj]
  refine⟨_,rfl,⟨by simp(maxDischargeDepth:=12) [ov, *],by simp(maxDischargeDepth:=12) [ov, *],n1,.inr ⟨⟨2,43,H.gen 2 43,0⟩,rfl,rfl,rfl,by simp(maxDischargeDepth:=12) [ov, *],by simp(maxDischargeDepth:=12) [ov, *],by simp(maxDischargeDepth:=12) [ov, *],?_,by simp⟩⟩⟩
  simp[ab.aj,rows,tQ,tS, *]
theorem Jg{r r2:Ref}{tm:List AV}(p:bZ tm 2 = .ptr r2 0 0){bs:List UInt8}{x:AV}(u:Sl 1 (al bs) x)(G:bs.length<60000000){Q:AV->ab->Prop} :
 ∀(m k:Nat)(s:List UInt8)(i:Int)(out:List Int)(H:ab),bs.drop k=s->s.length=4 * m->k<=bs.length->i=k->out.length<=k ->
 Ma r r2 (.lp 0 50 [17] dx dw tm) H out ->
 (∀y e,Ma r r2 (.lp 0 50 [17] dx dw tm) e (out++words s)->Q y e) ->
 dZ env Tryz.f92 (0+1) bU [(2,.iptr 1 [aI 4] 0 0),(4,aI i),(1,.iptr 1 [x] 0 0),(0,.yld r)] H Q:=by
 intro m
 induction m with
 | zero=>
  rintro k s i out H hs hm hk rfl ho hI hQ
  obtain rfl:s=[]:=uu.1 (by omega)
  have j:=congrArg List.length hs
  rw[lg,lV]at j
  have A : ¬(k:Int)<bs.length:=by omega
  have t:=u.r
  refine cF _ _ _ _ _ _ _ λg=>?_
  simp[ak, *,bX]
  exact hQ _ _ (by simpa [words] using hI)
 | succ m B=>
  rintro k s i out H hs hm hk rfl ho hI hQ
  match s,hm with
  | a :: b :: c :: d :: s,hm=>
  simp only[ji]at hm
  have j:=congrArg List.length hs
  rw[lg]at j
  simp only[ji]at j
  have o:0<(al bs).length:=by simp;omega
  obtain⟨z,rfl,f⟩:=kz u o
  have l:bs.drop (k+4)=s:=by
   rw[<-lU,hs];rfl
  have J:(k:Int)<bs.length:=by omega
  have E:=IntWalk.i64_in ((k:Int)) (by omega)
  have I:=IntWalk.i64_in ((k:Int)+4) (by omega)
  have C:(al bs).drop k=a8 a :: a8 b :: a8 c :: a8 d :: al s:=by
   have:(al bs).drop k=al (bs.drop k):=by simp[al]
   rw[this,hs];rfl
  have D : ¬(4 * ((m:Int)+1)<4):=by omega
  have v:((k:Int)+4).toNat - k=4:=by omega
  have w:(k:Int)<=k+4/\(k:Int)+4<=z.getD bs.length/\(k:Int)+4<=bs.length:=by
   have:(al bs).length=bs.length:=by simp
   rw[this]at f
   omega
  obtain⟨y,e,F,rfl,n⟩:=LK rfl p hI (by omega) a b c d (some 4) (by simp)
  have q:words (a :: b :: c :: d :: s)=word a b c d :: words s:=rfl
  rw[q]at hQ
  clear q f
  refine cF _ _ _ _ _ _ _ λg=>?_
  simp[ak, *,bX,vx]
  exact B (k+4) s ((k:Int)+4) (out++[word a b c d]) e l (by omega) (by omega) (by simp) (by simp;omega) n (λy e h=>hQ y e (by simpa using h))
theorem LR{r r2:Ref}{tm:List AV}(a:bZ tm 2 = .ptr r2 0 0){bs:List UInt8}{x:AV}(e:Sl 1 (al bs) x)(d:bs.length<60000000){m:Nat}(f:bs.length=4 * m){H:ab}
 (i:Ma r r2 (.lp 0 50 [17] dx dw tm) H []) :
 ∃y b,dA env 0 (.fn 92) [.yld r,.iptr 1 [x] 0 0,.iptr 1 [aI 4] 0 0] H=some (y,b)/\Ma r r2 (.lp 0 50 [17] dx dw tm) b (words bs):=by
 refine yw (fn:=Tryz.f92) (c:=jY) (by kernel_rfl) (by kernel_rfl) (by kernel_rfl) (by kernel_rfl) (by kernel_rfl) ?_
 refine jO _ _ _ _ _ _ λg=>?_
 simp[ak, *,gw]
 exact Jg a e d m 0 bs _ [] H rfl f (by omega) rfl (by simp) i (λy b h=>by simpa using h)
theorem Sz:iW = .code (.rangeFunc (.tmp 16) #[17] dx dw) :: qH:=by kernel_rfl
theorem PY{bs:List UInt8}{x:AV}(a:Sl 1 (al bs) x):au env 48 [x,aI 4]=some (.fn (.func 92) [] [.iptr 1 [x] 0 0,.iptr 1 [aI 4] 0 0]):=by
 refine ax rfl (by kernel_rfl) (kL _ _ _ _ λg=>?_)
 have b:=a.r
 simp[ak, *,gZ]
def mj(l:List Int):AV:=if l=[] then bF else .bl 1 (rows l) none
theorem oW(l:List Int):Sl 1 (rows l) (mj l):=by
 unfold mj
 split
 ·rename_i h;subst h;exact .inl ⟨rfl,rfl⟩
 ·exact .inr ⟨_,rfl,by simp⟩
theorem PO{bs:List UInt8}{x:AV}(i:Sl 1 (al bs) x){m:Nat}(a:bs.length=4 * m)(u:m<=64) :
 au env 129 [x]=some (if sP (words bs)=0 then .tup [pF 1 (rows (words bs)),aI 0] else .tup [bF,aI (sP (words bs))]):=by
 refine ax rfl (by kernel_rfl) (EM _ _ _ λg=>?_)
 have I:=i.r
 have F:=PY i
 have Q : ¬((256:Int)<4 * m):=by omega
 have C:((4:Int) * m).tmod 4=0:=by rw[zW (by omega)];omega
 have c:(words bs).length<4611686018427387904:=by have:=(qf m bs a).2;omega
 have b:=zm (oW (words bs)) c
 have f:=λt L N=>mC env.P t L N .i64 (4 * (m:Int)) 4 (by decide)
 simp[ak, *,yP]
 rw[Sz]
 refine⟨λD=>CF (gi:=92) (first:=[]) (captured:=[.iptr 1 [x] 0 0,.iptr 1 [aI 4] 0 0]) rfl ?_⟩
 intro tm z
 have O:bZ tm 2 = .ptr ⟨0,2,0,0⟩ 0 0:=(z 2).trans rfl
 rw[show Tryz.f129.ntmps=50 from by kernel_rfl]
 obtain⟨y,E,J,a⟩:=LR (r:=⟨0,50,0,0⟩) (r2:=⟨0,2,0,0⟩) (tm:=tm)
  (H:=(⟨0,50,0,0⟩,some (c9 0 (.lp 0 50 [17] dx dw tm))) :: [(⟨0,2,0,0⟩,some ⟨1,[bF],false,false⟩)])
  O i (by omega) a ⟨by simp(maxDischargeDepth:=12) [R9, *],by simp,by decide,.inl ⟨by simp,rfl⟩⟩
 refine⟨y,E,0,_,by simpa using J,by simp only[ab.CI,ab.Ki];rw[nL];exact(congrArg Wd a.mark).trans (vo _ _),.inl ⟨rfl,?_⟩⟩
 have w:=yl (s:=HB D [(16,AV.fn (.func 92) [] [.iptr 1 [x] 0 0,.iptr 1 [aI 4] 0 0]),(2,AV.ptr ⟨0,2,0,0⟩ 0 0)]) (l:=[(2,AV.ptr ⟨0,2,0,0⟩ 0 0)]) (by
  intro p hp
  simp only[eU,uV,or_false]at hp
  subst hp
  rfl)
 rw[<-w]
 refine(wb _ _ _ λg=>?_).h _
 have n1:(⟨0,2,0,0⟩:Ref)≠⟨0,50,0,0⟩:=a.n1
 have j:=a.box
 clear w f Q C F I z
 generalize words bs=ws at *
 rcases j with ⟨G,rfl⟩ | ⟨q,S,R,T,n2,K,G,U,A⟩
 ·have k:mj []=bF:=rfl
  have v:sP []=0:=rfl
  rw[k,v]at b
  simp[ak, *,mq,ab.aj]
  all_goals rfl
 ·have k:mj ws = .bl 1 (rows ws) none:=by unfold mj;rw[if_neg (by rintro rfl;simp at A)]
  have n:rows ws≠[]:=by intro e;have:=congrArg List.length e;simp at this;subst this;simp at A
  rw[k]at b
  rw[rD 1 n]
  generalize d:rows ws=rw' at *
  have o:rw'.length=ws.length:=by rw[<-d];simp
  have B:=n2.symm
  have M:=K.symm
  by_cases v:sP ws=0<;>simp[ak, *,mq,ab.aj]
theorem Wz(dep:Nat){H:ab}{r:Ref}{x:AV}{l:List UInt8}{a:Nat}{b:Bool}(zero:Bool){K:AV->ab->Prop}{m:Mk K}(d:Sl 1 (al l) x)(f:a<=l.length)(i:l.length<1000000000)
 (g:Fr H) (k:H.get r=some (ry x a b)) (h : ∀y c,Ti H c r x (sd l a b 13) (zZ l a b 13) (wH l a b 13||vp (sd l a b 13) zero) y->K y c):iq (dA env dep (.fn 128) [.ptr r 0 0,.v (.bool zero)] H) K m:=by
 obtain⟨y,c,e,j⟩:=WA dep zero g d k f i
 exact tY e (h y c j)
theorem Tk.pick{H e:ab}{r:Ref}{x:AV}{l bs:List UInt8}{a:Nat}{b:Bool}{y v:AV}(n:Tk H e r x l bs a b y v)(i:Nat){j:Int}(h:j=i)(hi:i<bs.length) :
 ∃p,bE env.P e.get 27 (some y) (some (.v (.int .i64 j)))=some (p,[])/\lz env.P e.get 5 (some p)=some (a8 (bs.getD i 0),[])/\(∀r i j,r.t≠31->pD p (.ptr r i j)=true)/\(∀r i j,r.t≠31->pD y (.ptr r i j)=true):=by
 subst h
 obtain⟨seen,fr,box,old,spot⟩:=n
 have s:bs[i]?=some (bs.getD i 0):=by simp[hi]
 have o:(i:Int)<bs.length:=by omega
 rcases seen with ⟨rfl,m⟩ | ⟨q,c,fz,rfl,g,rfl,k⟩
 ·obtain⟨u,rfl,k⟩:=kz m (by simp;omega)
  refine⟨.iptr 1 (al bs) i 0,?_,?_,λ_ _ _ _=>rfl,λ_ _ _ _=>rfl⟩
  ·simp[hi]
  ·simp[al,hi]
 ·have d:=spot q rfl
  refine⟨.ptr q i 0,?_,?_,λr i j f=>?_,λr i j f=>?_⟩
  ·simp[g,hi]
  ·simp[al,hi,g]
  ·simp;rintro rfl;exact f d
  ·simp;rintro rfl;exact f d
theorem UR(H:ab)(r:Ref)(c:aJ):(H.put r (some c)).get r=some c:=by rw[ab.aj,if_pos rfl]
def zD(bs:List UInt8):KC:=if ej (fx bs) then fx bs else ⟨0,0,0⟩
theorem I8{v:AV}{l:List UInt8}(b:Sl 1 (al l) v)(a:l.length=6):au env 100 [v]=some (.tup [.agg [a8 (zD l).lv,bc (zD l).cats,a8 (zD l).num],aI (bad (ej (fx l)))]):=by
 rw[GY b a]
 unfold zD
 cases ej (fx l)<;>rfl
theorem PD(a b c:UInt8):S0 (S0 ((a.toNat:Int) * 65536) ((b.toNat:Int) * 256)) (c.toNat:Int)=val [a,b,c]:=by
 have h:=a.toNat_lt
 have i:=b.toNat_lt
 have g:=c.toNat_lt
 have e:=E9 (a:=(a.toNat:Int)) (b:=(b.toNat:Int) * 256) (k:=16) (by omega) (by omega) (by omega) (by omega) (by omega)
 simp only[Nat.reducePow,Int.reducePow]at e
 rw[e]
 have d:=E9 (a:=(a.toNat:Int) * 256+b.toNat) (b:=(c.toNat:Int)) (k:=8) (by omega) (by omega) (by omega) (by omega) (by omega)
 simp only[Nat.reducePow,Int.reducePow]at d
 have f:(a.toNat:Int) * 65536+b.toNat * 256=((a.toNat:Int) * 256+b.toNat) * 256:=by omega
 rw[f,d]
 simp[val,we]
 omega
def lT:AV := .tup [.agg [a8 0,a8 0,bc 0,a8 0,aI 0,a8 0,bc 0,a8 0,aI 0,aI 0,a8 0,bc 0,a8 0,aI 0,a8 0,bc 0,bF],aI 0,aI 8]
def wh(o:dY):List AV:=[a8 o.kind,a8 o.h.lv,bc o.h.cats,a8 o.h.num,aI o.serial,a8 o.s.f.h.lv,bc o.s.f.h.cats,a8 o.s.f.h.num,aI o.s.f.n,aI o.s.many,a8 o.a.h.lv,bc o.a.h.cats,a8 o.a.h.num,aI o.a.n,a8 o.to.lv,bc o.to.cats]
def mo(l:List UInt8):AV:=if kp l then .tup [.agg (wh (kV l)++[pF 1 (rows (kV l).l)]),aI (m0 l),aI 0] else lT
theorem yL{l:List UInt8}(h:24<=l.length->m0 l<=l.length->nB (kV l)=false):mo l=lT:=by
 unfold mo
 rw[if_neg]
 intro a
 simp only[kp,aY,decide_eq_true_eq]at a
 rw[h a.1 a.2.1]at a
 exact absurd a.2.2 (by decide)
theorem mA{l:List UInt8}{a n:Nat}{b:Bool}(h:wH l a b n=false):b=false/\a+n<=l.length/\zZ l a b n=a+n/\sd l a b n=(l.drop a).take n:=by
 unfold zZ sd
 rw[h]
 simp only[wH,HJ,decide_eq_false_iff_not]at h
 exact⟨h.1,by omega,rfl,rfl⟩
theorem tG{l:List UInt8}{a n:Nat}(h:a+n<=l.length):wH l a false n=false/\zZ l a false n=a+n/\sd l a false n=(l.drop a).take n:=by
 have e:wH l a false n=false:=by simp only[wH,tl,decide_eq_false_iff_not];omega
 obtain⟨_,_,b,c⟩:=mA e
 exact⟨e,b,c⟩
theorem CE(l:List UInt8)(n:Nat):((l.drop n).take 1).getD 0 0=(l.drop n).headD 0:=by
 cases l.drop n<;>rfl
theorem Qk{o:dY}(h:ej o.h=false):nB o=false:=by simp[nB,h]
theorem J7{o:dY}(h:k7 o.s=false):nB o=false:=by simp[nB,h]
theorem S3{o:dY}(h:uF o.s.f=false):nB o=false:=J7 (by simp[k7,h])
theorem Fb{o:dY}(h:yp o=false):nB o=false:=by simp[nB,h]
theorem B9(l:List Int):(pF 1 (rows l)=bF/\mj l=bF)\/(pF 1 (rows l) = .fsl 1 (rows l) none/\mj l = .bl 1 (rows l) none):=by
 by_cases h:l=[]
 ·subst h;exact .inl ⟨rfl,rfl⟩
 ·exact .inr ⟨rD 1 (by simpa using h),by unfold mj;rw[if_neg h]⟩
theorem PW{l:List UInt8}{x:AV}(hx:Sl 1 (al l) x)(hl:l.length<60000000):au env 101 [x]=some (mo l):=by
 refine ax rfl (by kernel_rfl) (KK _ _ _ λg=>?_)
 have hr:=hx.r
 have hT:=zM (f:=127) (by kernel_rfl)
 have hTi:=zM (f:=128) (by kernel_rfl)
 simp[ak, *,Ek,hT,hTi]
 refine xl 0 (a:=0) (b:=false) 1 rfl hx (ui _) (by omega) (by omega) (by simp(maxDischargeDepth:=12) [ov, *]) (by simp[ry]) λy1 v1 H1 F=>?_
 obtain⟨p1,hp1,hl1,_⟩:=F.pick (j:=0) 0 rfl (by rw[tH];omega)
 have hb1:=F.old ⟨0,2,0,0⟩ _ (by decide) rfl
 have hF1:=F.fr
 have hr1:=F.box
 have Z6:=zl (l:=l) (a:=0) false 1 (ui _)
 clear F
 generalize ZR:zZ l 0 false 1=A1 at *
 generalize ZV:wH l 0 false 1=B1 at *
 generalize hk0:(sd l 0 false 1).getD 0 0=k at *
 simp[ak, *,ab.aj]
 have s1:(H1.get ⟨0,2,0,0⟩).isSome=true:=by rw[hb1];rfl
 refine xl 0 (a:=A1) (b:=B1) 6 rfl hx Z6 (by omega) (by omega) (by simp(maxDischargeDepth:=12) [ov, *]) (by simp(maxDischargeDepth:=12) [ov, *]) λy2 v2 H2 Zt=>?_
 have hb2:=Zt.old ⟨0,2,0,0⟩ _ (by decide) (UR _ _ _)
 have hG:=I8 Zt.seen.sl (tH _ _)
 have hs2:=Zt.seen.r
 have hF2:=Zt.fr
 have hr2:=Zt.box
 have Z9:=zl (l:=l) B1 6 Z6
 clear Zt hb1 hr1 hp1 hl1
 generalize ZX:zZ l A1 B1 6=A2 at *
 generalize ZW:wH l A1 B1 6=B2 at *
 generalize ZF:zD (sd l A1 B1 6)=hh at *
 obtain⟨D,E,I⟩:=hh
 have s2:(H2.get ⟨0,2,0,0⟩).isSome=true:=by rw[hb2];rfl
 have s2r:(H2.get ⟨0,17,0,0⟩).isSome=true:=by rw[hr2];rfl
 generalize ZB:bad (ej (fx (sd l A1 B1 6)))=f at *
 simp[ak, *,ab.aj]
 refine xl 0 (a:=A2) (b:=B2) 3 rfl hx Z9 (by omega) (by omega) (by simp(maxDischargeDepth:=12) [ov, *]) (by simp(maxDischargeDepth:=12) [ov, *]) λy3 v3 H3 A=>?_
 have hb3:=A.old ⟨0,2,0,0⟩ _ (by decide) (by rw[ab.jr,if_neg (by simp)];exact hb2)
 have hb8:=A.old ⟨0,8,H2.gen 0 8,0⟩ ⟨3,[.agg [a8 D,bc E,a8 I]],false,false⟩ (by simp) (by simp)
 have hl3:=tH (l:=l) (a:=A2) B2 3
 obtain⟨p30,hp30,Zw,hn30,hny3⟩:=A.pick (j:=0) 0 rfl (by omega)
 obtain⟨p31,hp31,ZG,hn31,_⟩:=A.pick (j:=1) 1 rfl (by omega)
 obtain⟨p32,hp32,ZA,hn32,_⟩:=A.pick (j:=2) 2 rfl (by omega)
 have hF3:=A.fr
 have hr3:=A.box
 have ha3:=zl (l:=l) B2 3 Z9
 clear A hb2 hr2 hs2 hG
 generalize ZS:zZ l A2 B2 3=A3 at *
 generalize ZT:wH l A2 B2 3=B3 at *
 have s3:(H3.get ⟨0,2,0,0⟩).isSome=true:=by rw[hb3];rfl
 have s3r:(H3.get ⟨0,17,0,0⟩).isSome=true:=by rw[hr3];rfl
 obtain⟨ZH,Zy,b32,e3⟩ : ∃a b c,sd l A2 B2 3=[a,b,c]:=by
  match h:sd l A2 B2 3,hl3 with
  | [a,b,c],_=>exact⟨a,b,c,rfl⟩
 rw[e3]at Zw ZG ZA
 simp only[List.getD_cons_zero,List.getD_cons_succ]at Zw ZG ZA
 have w30:IntKind.i64.wrap ((ZH.toNat:Int) * 65536)=(ZH.toNat:Int) * 65536:=IntWalk.i64_in _ (by have:=ZH.toNat_lt;omega)
 have w31:IntKind.i64.wrap ((Zy.toNat:Int) * 256)=(Zy.toNat:Int) * 256:=IntWalk.i64_in _ (by have:=Zy.toNat_lt;omega)
 have wsr:=PD ZH Zy b32
 simp[ak, *,ab.aj,yf]
 refine⟨⟨rfl,rfl,rfl⟩,?_⟩
 refine Wz 0 (a:=A3) (b:=B3) false hx ha3 (by omega) (by simp(maxDischargeDepth:=12) [ov, *]) (by simp(maxDischargeDepth:=12) [ov, *]) λy4 H4 ZI=>?_
 have hb4:=ZI.old ⟨0,2,0,0⟩ _ (by decide) (UR _ _ _)
 have hF4:=ZI.fr
 have hr4:=ZI.box
 have hy4:=ZI.val
 have Z5:=zl (l:=l) B3 13 ha3
 clear ZI hb3 hr3 hb8 hp30 hp31 hp32 Zw ZG ZA w30 w31 wsr hn30 hn31 hn32 hny3
 subst hy4
 generalize ZQ:zZ l A3 B3 13=A4 at *
 generalize ZN:(wH l A3 B3 13||vp (sd l A3 B3 13) false)=B4 at *
 generalize ZL:LG (sd l A3 B3 13)=fi at *
 obtain⟨⟨N,P,M⟩,O⟩:=fi
 have s4:(H4.get ⟨0,2,0,0⟩).isSome=true:=by rw[hb4];rfl
 have s4r:(H4.get ⟨0,17,0,0⟩).isSome=true:=by rw[hr4];rfl
 generalize ZZ:val [ZH,Zy,b32]=sr at *
 simp[ak, *,ab.aj]
 refine xl 0 (a:=A4) (b:=B4) 1 rfl hx Z5 (by omega) (by omega) (by simp(maxDischargeDepth:=12) [ov, *]) (by simp(maxDischargeDepth:=12) [ov, *]) λy5 v5 H5 ZJ=>?_
 have Z4:=ZJ.old ⟨0,2,0,0⟩ _ (by decide) (UR _ _ _)
 obtain⟨p5,hp5,hv5,_⟩:=ZJ.pick (j:=0) 0 rfl (by rw[tH];omega)
 have hF5:=ZJ.fr
 have ZM:=ZJ.box
 have ha5:=zl (l:=l) B4 1 Z5
 clear ZJ hb4 hr4
 generalize hA5:zZ l A4 B4 1=A5 at *
 generalize ZY:wH l A4 B4 1=B5 at *
 generalize hm5:(sd l A4 B4 1).getD 0 0=m at *
 have s5:(H5.get ⟨0,2,0,0⟩).isSome=true:=by rw[Z4];rfl
 have s5r:(H5.get ⟨0,17,0,0⟩).isSome=true:=by rw[ZM];rfl
 have hmI:IntKind.i64.wrap (m.toNat:Int)=m.toNat:=IntWalk.i64_in _ (by have:=m.toNat_lt;omega)
 unfold ry at ZM
 clear s1 s2 s2r s3 s3r s4 s4r hF1 hF2 hF3 hF4
 have hnz:=λn:Int=>show(aI n).at?=none from rfl
 cases B5 with
 | true=>
  have i:mo l=lT:=by
   refine yL λh24 _=>S3 ?_
   obtain⟨w,C,J⟩:=tG (l:=l) (a:=0) (n:=1) (by omega)
   rw[w]at ZV;rw[C]at ZR;subst ZV;subst ZR
   obtain⟨w,C,J⟩:=tG (l:=l) (a:=0+1) (n:=6) (by omega)
   rw[w]at ZW;rw[C]at ZX;subst ZW;subst ZX
   obtain⟨w,C,J⟩:=tG (l:=l) (a:=0+1+6) (n:=3) (by omega)
   rw[w]at ZT;rw[C]at ZS;subst ZT;subst ZS
   obtain⟨w,C,J⟩:=tG (l:=l) (a:=0+1+6+3) (n:=13) (by omega)
   rw[w,J]at ZN;rw[C]at ZQ;subst ZQ
   cases B4 with
   | true=>
    show uF (gM ((l.drop 10).take 13))=false
    simpa [vp] using ZN
   | false=>
    obtain⟨w,C,J⟩:=tG (l:=l) (a:=0+1+6+3+13) (n:=1) (by omega)
    rw[w]at ZY;cases ZY
  unfold lT at i
  simp[ak, *,ab.aj]
 | false=>
  obtain⟨rfl,t5,u5,d5⟩:=mA ZY
  obtain⟨t4,Z3⟩:wH l A3 B3 13=false/\vp (sd l A3 B3 13) false=false:=by simpa using ZN
  obtain⟨rfl,q4,u4,d4⟩:=mA t4
  obtain⟨rfl,q3,u3,d3⟩:=mA ZT
  obtain⟨rfl,q2,u2,d2⟩:=mA ZW
  obtain⟨_,q1,u1,d1⟩:=mA ZV
  rw[u1]at ZR;subst ZR
  rw[u2]at ZX;subst ZX
  rw[u3]at ZS;subst ZS
  rw[u4]at ZQ;subst ZQ
  rw[u5]at hA5;subst hA5
  simp only[qx,Nat.reduceAdd]at *
  have hk:l.headD 0=k:=by rw[<-hk0,d1];exact(CE l 0).symm
  have hm:(l.drop 23).headD 0=m:=by rw[<-hm5,d5];exact(CE l 23).symm
  rw[d2]at ZF ZB
  rw[d3]at e3
  rw[d4]at ZL Z3
  have Zx:uF (gM ((l.drop 10).take 13))=true:=by simpa [vp] using Z3
  rw[LG,if_pos Zx]at ZL
  rw[<-e3]at ZZ
  clear d1 d2 d3 d4 d5 u1 u2 u3 u4 u5 ZV ZW ZT ZN ZY Z3 t4 hl3 hk0 hm5 q1 q2 q3 q4 Z6 Z9 ha3 Z5 e3
  cases Zu:ej (fx ((l.drop 1).take 6)) with
  | false=>
   have i:mo l=lT:=yL λ_ _=>Qk Zu
   rw[Zu]at ZB
   subst ZB
   unfold lT at i
   clear Zu Zx ZL ZZ ZF hk hm
   simp[ak, *,ab.aj,Ei]
  | true=>
   rw[Zu]at ZB
   subst ZB
   rw[zD,if_pos Zu]at ZF
   have o:kV l=⟨k,⟨D,E,I⟩,sr,⟨⟨⟨N,P,M⟩,O⟩,(m.toNat:Int)⟩,if k=1 then gM ((l.drop 24).take 13) else ke,if k=3 then ⟨(l.drop 24).headD 0,u32 (val ((l.drop 25).take 4))⟩ else ⟨0,0⟩,
    if k=1 then words ((l.drop 37).take (4 * m.toNat)) else []⟩:=by
    unfold kV;rw[hk,hm,ZF,ZL,ZZ]
   have G:m0 l=iR k m:=by unfold m0;rw[hk,hm]
   clear Zu Zx ZL ZZ ZF hk hm
   by_cases h64:64<(m.toNat:Int)
   ·have i:mo l=lT:=yL λ_ _=>J7 (by rw[o];simp only[k7,Dz,decide_eq_false_iff_not];exact .inr (.inr (.inl (by omega))))
    unfold lT at i
    clear o G
    simp[ak, *,ab.aj,yK]
   ·have K:m.toNat<=64:=by omega
    by_cases F:k=1
    ·subst F
     simp[ak, *,ab.aj,yK]
     refine Wz 0 (a:=24) (b:=false) true hx t5 (by omega) (by simp(maxDischargeDepth:=12) [ov, *]) (by simp[ab.aj,ry, *]) λy6 H6 B=>?_
     have ZU:=B.old ⟨0,2,0,0⟩ _ (by decide) (UR _ _ _)
     have hF6:=B.fr
     have ZE:=B.box
     have hy6:=B.val
     have ha6:=zl (l:=l) false 13 t5
     clear B Z4 ZM hp5 hv5 s5 s5r hF5
     subst hy6
     generalize X:sd l 24 false 13=L6 at *
     generalize S:zZ l 24 false 13=A6 at *
     generalize L:(wH l 24 false 13||vp L6 true)=B6 at *
     generalize hi6:LG L6=ai at *
     obtain⟨⟨Z1,Z0,a_3⟩,ZO⟩:=ai
     have s6:(H6.get ⟨0,2,0,0⟩).isSome=true:=by rw[ZU];rfl
     have s6r:(H6.get ⟨0,17,0,0⟩).isSome=true:=by rw[ZE];rfl
     have w4:IntKind.i64.wrap (4 * (m.toNat:Int))=4 * (m.toNat:Int):=IntWalk.i64_in _ (by omega)
     simp[ak, *,ab.aj]
     refine xl 0 (a:=A6) (b:=B6) (4 * m.toNat) (by simp) hx ha6 (by omega) (by omega) (by simp(maxDischargeDepth:=12) [ov, *]) (by simp[ab.aj, *]) λy7 v7 H7 W=>?_
     have hb7:=W.old ⟨0,2,0,0⟩ _ (by decide) (UR _ _ _)
     have hl7:=tH (l:=l) (a:=A6) B6 (4 * m.toNat)
     have hF7:=W.fr
     have hr7:=W.box
     have u:=W.seen
     have H:=W.spot
     have U:=PO W.seen.sl hl7 K
     clear W ZU ZE s6 s6r hF6 w4
     unfold ry at hr7
     generalize Z2:sd l A6 B6 (4 * m.toNat)=L7 at *
     generalize hA7:zZ l A6 B6 (4 * m.toNat)=A7 at *
     generalize ZC:wH l A6 B6 (4 * m.toNat)=B7 at *
     have s7:(H7.get ⟨0,2,0,0⟩).isSome=true:=by rw[hb7];rfl
     have s7r:(H7.get ⟨0,17,0,0⟩).isSome=true:=by rw[hr7];rfl
     have Zs:m0 l=37+4 * m.toNat:=by rw[G];rfl
     rw[if_pos rfl,if_neg (by decide),if_pos rfl]at o
     have p:=B9 (words L7)
     cases B7 with
     | true=>
      have i:mo l=lT:=yL λ_ hh=>by
       rw[Zs]at hh
       obtain⟨w,C,J⟩:=tG (l:=l) (a:=24) (n:=13) (by omega)
       rw[w,tl]at L
       rw[C]at S
       subst S
       rw[J]at X
       cases B6 with
       | false=>
        obtain⟨w,C,J⟩:=tG (l:=l) (a:=24+13) (n:=4 * m.toNat) (by omega)
        rw[w]at ZC;cases ZC
       | true=>
        simp only[vp,hU,aY,gE,decide_eq_false_iff_not]at L
        refine Fb ?_
        rw[o,X]
        have hz:=CC (l:=L6) (by rw[<-X];simp;omega)
        rw[decide_eq_false L.2]at hz
        simp[yp,Dn,hz,L.1]
      unfold lT at i
      clear o G Zs L ZC S hA7 X Z2 K ha6
      by_cases hE:sP (words L7)=0
      ·rw[if_pos hE]at U
       clear hE
       generalize words L7=ws at *
       rcases u with ⟨rfl,u⟩ | ⟨q,cq,fz,rfl,hq,rfl,Q⟩
       ·have Z:=u.r
        rcases p with p | p<;>rw[p.1]at U<;>simp[ak, *,ab.aj]
       ·have R:q≠⟨0,2,0,0⟩:=by intro e;have:=H q rfl;rw[e]at this;cases this
        have s:q≠⟨0,17,0,0⟩:=by intro e;have:=H q rfl;rw[e]at this;cases this
        have V:=R.symm
        have z:=s.symm
        rcases p with p | p<;>rw[p.1]at U<;>cases fz<;>simp[ak, *,ab.aj]
      ·rw[if_neg hE]at U
       clear hE p
       generalize words L7=ws at *
       rcases u with ⟨rfl,u⟩ | ⟨q,cq,fz,rfl,hq,rfl,Q⟩
       ·have Z:=u.r
        simp[ak, *,ab.aj]
       ·have R:q≠⟨0,2,0,0⟩:=by intro e;have:=H q rfl;rw[e]at this;cases this
        have s:q≠⟨0,17,0,0⟩:=by intro e;have:=H q rfl;rw[e]at this;cases this
        have V:=R.symm
        have z:=s.symm
        cases fz<;>simp[ak, *,ab.aj]
     | false=>
      obtain⟨rfl,q7,u7,d7⟩:=mA ZC
      obtain⟨t6,Zz⟩:wH l 24 false 13=false/\vp L6 true=false:=by simpa using L
      obtain⟨_,q6,u6,d6⟩:=mA t6
      rw[u6]at S
      subst S
      rw[u7]at hA7
      subst hA7
      rw[d7]at Z2
      rw[d6]at X
      have i:mo l=if nB (kV l) then .tup [.agg (wh (kV l)++[pF 1 (rows (kV l).l)]),aI (37+4 * m.toNat:Nat),aI 0] else lT:=by
       unfold mo kp
       rw[Zs]
       have h1:decide (24<=l.length)=true:=by simpa using t5
       have h2:decide (37+4 * m.toNat<=l.length)=true:=by simp only[decide_eq_true_eq];omega
       rw[h1,h2,hU,hU]
      have hai:gM L6=⟨⟨Z1,Z0,a_3⟩,ZO⟩:=by
       rw[<-hi6,LG]
       split
       ·rfl
       ·rename_i hn
        have hn':uF (gM L6)=false:=by simpa using hn
        simp only[vp,hn',xK,hU,rn,decide_eq_true_eq]at Zz
        rw[Zz];rfl
      rw[X,hai,Z2]at o
      rw[o]at i
      clear o G Zs L ZC X Z2 K ha6 Zz hai d6 d7 u6 u7 t6 hi6
      by_cases hE:sP (words L7)=0
      ·rw[if_pos hE]at U
       have hwl:(words L7).length<2000000:=by have:=(qf _ L7 hl7).2;have:=m.toNat_lt;omega
       have hC:=oD 1 D E I sr N P M O m.toNat Z1 Z0 a_3 ZO 0 0 (oW (words L7)) hwl
       clear hE hwl
       generalize words L7=ws at *
       cases hO:nB ⟨1,⟨D,E,I⟩,sr,⟨⟨⟨N,P,M⟩,O⟩,(m.toNat:Int)⟩,⟨⟨Z1,Z0,a_3⟩,ZO⟩,⟨0,0⟩,ws⟩ with
       | true=>
        simp only[hO,wh,if_true]at i
        rcases p with p | p<;>rw[p.1]at U i<;>rw[p.2]at hC
        all_goals
         rcases u with ⟨rfl,u⟩ | ⟨q,cq,fz,rfl,hq,rfl,Q⟩
         ·have Z:=u.r
          simp[ak, *,ab.aj]
         ·have R:q≠⟨0,2,0,0⟩:=by intro e;have:=H q rfl;rw[e]at this;cases this
          have s:q≠⟨0,17,0,0⟩:=by intro e;have:=H q rfl;rw[e]at this;cases this
          have V:=R.symm
          have z:=s.symm
          cases fz<;>simp[ak, *,ab.aj]
       | false=>
        simp only[hO,lT]at i
        rcases p with p | p<;>rw[p.1]at U<;>rw[p.2]at hC
        all_goals
         rcases u with ⟨rfl,u⟩ | ⟨q,cq,fz,rfl,hq,rfl,Q⟩
         ·have Z:=u.r
          simp[ak, *,ab.aj]
         ·have R:q≠⟨0,2,0,0⟩:=by intro e;have:=H q rfl;rw[e]at this;cases this
          have s:q≠⟨0,17,0,0⟩:=by intro e;have:=H q rfl;rw[e]at this;cases this
          have V:=R.symm
          have z:=s.symm
          cases fz<;>simp[ak, *,ab.aj]
      ·rw[if_neg hE]at U
       have hz:nB ⟨1,⟨D,E,I⟩,sr,⟨⟨⟨N,P,M⟩,O⟩,(m.toNat:Int)⟩,⟨⟨Z1,Z0,a_3⟩,ZO⟩,⟨0,0⟩,words L7⟩=false:=Fb (by
        have:Cb (words L7)=false:=by
         rw[Bool.eq_false_iff];intro h;exact hE ((zo _).2 h)
        simp[yp,Dn,this])
       rw[hz,if_neg (by decide)]at i
       unfold lT at i
       clear p hz
       generalize words L7=ws at *
       rcases u with ⟨rfl,u⟩ | ⟨q,cq,fz,rfl,hq,rfl,Q⟩
       ·have Z:=u.r
        simp[ak, *,ab.aj]
       ·have R:q≠⟨0,2,0,0⟩:=by intro e;have:=H q rfl;rw[e]at this;cases this
        have s:q≠⟨0,17,0,0⟩:=by intro e;have:=H q rfl;rw[e]at this;cases this
        have V:=R.symm
        have z:=s.symm
        cases fz<;>simp[ak, *,ab.aj]
    ·by_cases A:k=3
     ·subst A
      simp[ak, *,ab.aj,yK]
      refine xl 0 (a:=24) (b:=false) 5 rfl hx t5 (by omega) (by omega) (by simp(maxDischargeDepth:=12) [ov, *]) (by simp[ab.aj,ry, *]) λy6 v6 H6 B=>?_
      have ZU:=B.old ⟨0,2,0,0⟩ _ (by decide) (UR _ _ _)
      have hl6:=tH (l:=l) (a:=24) false 5
      obtain⟨w,C,J,c4,c5,e6⟩ : ∃a b c d e,sd l 24 false 5=[a,b,c,d,e]:=by
       match h:sd l 24 false 5,hl6 with
       | [a,b,c,d,e],_=>exact⟨a,b,c,d,e,rfl⟩
      have hF6:=B.fr
      have ZE:=B.box
      have y:=B.seen
      have T:=B.spot
      clear B Z4 ZM hp5 hv5 s5 s5r hF5
      rw[e6]at y
      unfold ry at ZE
      have s6:(H6.get ⟨0,2,0,0⟩).isSome=true:=by rw[ZU];rfl
      have s6r:(H6.get ⟨0,17,0,0⟩).isSome=true:=by rw[ZE];rfl
      have hBC:=λcp=>K9 cp w C J c4 c5
      have Z7:=I8 (v := .bl 1 [a8 w,a8 C,a8 J,a8 c4,a8 c5,a8 0] none) (l:=[w,C,J,c4,c5,0]) (Sl.mk _ _) rfl
      have ZP:fx [w,C,J,c4,c5,0]=⟨w,u32 (val [C,J,c4,c5]),0⟩:=rfl
      have Zv:zD [w,C,J,c4,c5,0]=if w<=15 then ⟨w,u32 (val [C,J,c4,c5]),0⟩ else ⟨0,0,0⟩:=by
       unfold zD;rw[ZP];simp[ej]
      have hhb:ej ⟨w,u32 (val [C,J,c4,c5]),0⟩=decide (w<=15):=by simp[ej]
      rw[ZP,hhb]at Z7
      have hdr:wH l 24 false 5=false->(l.drop 24).headD 0=w/\(l.drop 25).take 4=[C,J,c4,c5]/\29<=l.length:=by
       intro hB
       obtain⟨_,q,_,d⟩:=mA hB
       rw[d]at e6
       have:l.drop 25=(l.drop 24).drop 1:=by rw[lU]
       rw[this]
       match hd:l.drop 24,e6 with
       | a :: t,e6=>
        have e7:a :: t.take 4=w :: [C,J,c4,c5]:=e6
        injection e7 with e8 e9
        exact⟨e8,e9,q⟩
      have ZD:wH l 24 false 5=true->mo l=lT:=λhB=>yL λ_ hh=>by
       rw[G]at hh
       have:iR 3 m=29:=rfl
       simp only[wH,tl,decide_eq_true_eq]at hB
       omega
      generalize L:wH l 24 false 5=B6 at *
      have S:B6=false->zZ l 24 false 5=29:=λe=>(mA (L.trans e)).2.2.1
      generalize zZ l 24 false 5=A6 at *
      cases B6 with
      | true=>
       have i:=ZD rfl
       unfold lT at i
       clear o G hdr ZD K
       rcases y with ⟨rfl,y⟩ | ⟨q,cq,fz,rfl,hq,rfl,Q⟩
       ·obtain⟨cp,rfl,Z8⟩:=kz y (by simp)
        simp[ak, *,ab.aj,al]
       ·have R:q≠⟨0,2,0,0⟩:=by intro e;have:=T q rfl;rw[e]at this;cases this
        have s:q≠⟨0,17,0,0⟩:=by intro e;have:=T q rfl;rw[e]at this;cases this
        have V:=R.symm
        have z:=s.symm
        cases fz<;>simp[ak, *,ab.aj,al]
      | false=>
       obtain⟨d1,d2,d3⟩:=hdr rfl
       obtain rfl:=S rfl
       have i:mo l=if nB (kV l) then .tup [.agg (wh (kV l)++[pF 1 (rows (kV l).l)]),aI 29,aI 0] else lT:=by
        have ZK:m0 l=29:=by rw[G];rfl
        unfold mo kp
        rw[ZK]
        have h1:decide (24<=l.length)=true:=by simpa using t5
        have h2:decide (29<=l.length)=true:=by simpa using d3
        rw[h1,h2,hU,hU]
        rfl
       rw[d1,d2,if_neg (by decide),if_pos rfl,if_neg (by decide)]at o
       rw[o]at i
       clear o G hdr ZD K d1 d2 d3 S
       by_cases Y:w<=15
       ·rw[if_pos Y]at Zv
        rw[Zv,decide_eq_true Y,yK]at Z7
        clear Zv ZP hhb Y
        generalize u32 (val [C,J,c4,c5])=cc at *
        have hC:=oD 3 D E I sr N P M O m.toNat 0 0 0 0 w cc (l:=[]) (x:=bF) (.inl ⟨rfl,rfl⟩) (by simp)
        cases hO:nB ⟨3,⟨D,E,I⟩,sr,⟨⟨⟨N,P,M⟩,O⟩,(m.toNat:Int)⟩,⟨⟨0,0,0⟩,0⟩,⟨w,cc⟩,[]⟩ with
        | true=>
         simp only[ke,hO,wh,show pF 1 (rows [])=bF from rfl,if_true]at i
         rcases y with ⟨rfl,y⟩ | ⟨q,cq,fz,rfl,hq,rfl,Q⟩
         ·obtain⟨cp,rfl,Z8⟩:=kz y (by simp)
          simp[ak, *,ab.aj,al]
         ·have R:q≠⟨0,2,0,0⟩:=by intro e;have:=T q rfl;rw[e]at this;cases this
          have s:q≠⟨0,17,0,0⟩:=by intro e;have:=T q rfl;rw[e]at this;cases this
          have V:=R.symm
          have z:=s.symm
          cases fz<;>simp[ak, *,ab.aj,al]
        | false=>
         simp only[ke,hO,lT]at i
         rcases y with ⟨rfl,y⟩ | ⟨q,cq,fz,rfl,hq,rfl,Q⟩
         ·obtain⟨cp,rfl,Z8⟩:=kz y (by simp)
          simp[ak, *,ab.aj,al]
         ·have R:q≠⟨0,2,0,0⟩:=by intro e;have:=T q rfl;rw[e]at this;cases this
          have s:q≠⟨0,17,0,0⟩:=by intro e;have:=T q rfl;rw[e]at this;cases this
          have V:=R.symm
          have z:=s.symm
          cases fz<;>simp[ak, *,ab.aj,al]
       ·have hz:nB ⟨3,⟨D,E,I⟩,sr,⟨⟨⟨N,P,M⟩,O⟩,(m.toNat:Int)⟩,ke,⟨w,u32 (val [C,J,c4,c5])⟩,[]⟩=false:=Fb (by simp[yp,E2,Y])
        rw[hz,if_neg (by decide)]at i
        unfold lT at i
        rw[if_neg Y]at Zv
        rw[Zv,decide_eq_false Y,Ei]at Z7
        clear Zv ZP hhb Y hz
        rcases y with ⟨rfl,y⟩ | ⟨q,cq,fz,rfl,hq,rfl,Q⟩
        ·obtain⟨cp,rfl,Z8⟩:=kz y (by simp)
         simp[ak, *,ab.aj,al]
        ·have R:q≠⟨0,2,0,0⟩:=by intro e;have:=T q rfl;rw[e]at this;cases this
         have s:q≠⟨0,17,0,0⟩:=by intro e;have:=T q rfl;rw[e]at this;cases this
         have V:=R.symm
         have z:=s.symm
         cases fz<;>simp[ak, *,ab.aj,al]
     ·have i:mo l=if nB (kV l) then .tup [.agg (wh (kV l)++[pF 1 (rows (kV l).l)]),aI 24,aI 0] else lT:=by
       have ZK:m0 l=24:=by rw[G];unfold iR;rw[if_neg F,if_neg A]
       unfold mo kp
       rw[ZK]
       have:decide (24<=l.length)=true:=by simpa using t5
       rw[this,hU,hU]
       rfl
      rw[if_neg F,if_neg A,if_neg F]at o
      rw[o]at i
      clear o G K
      have hC:=oD k D E I sr N P M O m.toNat 0 0 0 0 0 0 (l:=[]) (x:=bF) (.inl ⟨rfl,rfl⟩) (by simp)
      cases hO:nB ⟨k,⟨D,E,I⟩,sr,⟨⟨⟨N,P,M⟩,O⟩,(m.toNat:Int)⟩,⟨⟨0,0,0⟩,0⟩,⟨0,0⟩,[]⟩ with
      | true=>
       simp only[ke,hO,wh,show pF 1 (rows [])=bF from rfl,if_true]at i
       simp[ak, *,ab.aj]
      | false=>
       simp only[ke,hO,lT]at i
       simp[ak, *,ab.aj]
def rZ(v:UInt8)(c:UInt32)(ok:Bool):Bool:=decide (v<=15)&&(ok||(decide (v=0)&&decide (c=0)))
def n9(a:Int)(v:UInt8)(c:UInt32)(ok:Bool):Bool:=decide (0<=a)&&decide (a<8)&&rZ v c ok
@[simp] theorem VS(a:Int)(v:UInt8)(c:UInt32)(ok:Bool):au env 119 [.agg [aI a,a8 v,bc c,aB ok]]=some (aI (bad (n9 a v c ok))):=by
 refine ax rfl (by kernel_rfl) (BD _ _ _ λg=>?_)
 cases ok
 ·simp[ak, *,qV,kT,eF]
  repeat' ((first | apply td<;>intro h | apply oN<;>intro h | apply oO<;>intro h | apply oL<;>intro h | apply oM<;>intro h)<;>(try simp only[decide_eq_true_eq,decide_eq_false_iff_not,gE,rn,aY,jh]at h)<;>(try simp[ak, *,kT,eF,n9,rZ,bad]))
  all_goals (try grind)
 ·simp[ak, *,qV,kT,eF]
  repeat' ((first | apply td<;>intro h | apply oN<;>intro h | apply oO<;>intro h | apply oL<;>intro h | apply oM<;>intro h)<;>(try simp only[decide_eq_true_eq,decide_eq_false_iff_not,gE,rn,aY,jh]at h)<;>(try simp[ak, *,kT,eF,n9,rZ,bad]))
  all_goals (try grind)
def iC(a:Int)(v:UInt8)(c:UInt32)(ok:Bool):List UInt8:=u8 a :: (if ok then 1 else 0) :: v :: be 4 c.toNat
@[simp] theorem YY(a:Int)(v:UInt8)(c:UInt32)(ok:Bool):au env 91 [.agg [aI a,a8 v,bc c,aB ok]]=some (if n9 a v c ok then .tup [.bl 1 (al (iC a v c ok)) none,aI 0] else .tup [bF,aI 8]):=by
 refine ax rfl (by kernel_rfl) (EP _ _ _ λg=>?_)
 by_cases h:n9 a v c ok=true
 ·have b:v<=15:=by simp[n9,rZ]at h;exact h.2.1
  have d:ej ⟨v,c,0⟩=true:=by simp[ej,b]
  cases ok<;>simp[ak, *,ud,bad,iC,bJ,al,qP]
 ·simp at h
  simp[ak, *,ud,bad]
structure eQ where
 kind:UInt8
 user:Int
 op:dY
 code:Int
 gu:Int
 gv:UInt8
 gc:UInt32
 gok:Bool
def l8(a b:eQ):Bool:=decide (a.kind=b.kind)&&(decide (a.user=b.user)&&(mB a.op b.op&&(decide (a.code=b.code)&&(decide (a.gu=b.gu)&&(decide (a.gv=b.gv)&&decide (a.gc=b.gc)&&decide (a.gok=b.gok))))))
theorem DK(k1 N:UInt8)(P O:Int)(D:UInt8)(C:UInt8)(a_3:UInt32)(v:UInt8)(u:Int)(t:UInt8)(E:UInt32)(K:UInt8)(s:Int)(i:Int)(p:UInt8)(n:UInt32)(q:UInt8)(c:Int)(d:UInt8)(a:UInt32)(F:UInt8)(z:UInt8)(w:UInt32)(H:UInt8)(B:Int)(A:UInt8)(I:UInt32)(G:UInt8)(J:Int)(o:Int)(b:UInt8)(e:UInt32)(k:UInt8)(j:Int)(f:UInt8)(h:UInt32)(M L Z R:Int)(X Y:UInt8)(Q V:UInt32)(U W:Bool){x y:AV}{l m:List Int}(S:Sl 1 (rows l) x)(T:Sl 1 (rows m) y)(hl:l.length<1000000000) :
 au env 32 [.agg [a8 k1,aI P,a8 D,a8 C,bc a_3,a8 v,aI u,a8 t,bc E,a8 K,aI s,aI i,a8 p,bc n,a8 q,aI c,a8 d,bc a,x,aI M,aI Z,a8 X,bc Q,aB U],.agg [a8 N,aI O,a8 F,a8 z,bc w,a8 H,aI B,a8 A,bc I,a8 G,aI J,aI o,a8 b,bc e,a8 k,aI j,a8 f,bc h,y,aI L,aI R,a8 Y,bc V,aB W]] =
  some (aB (l8 ⟨k1,P,(⟨D,⟨C,a_3,v⟩,u,⟨⟨⟨t,E,K⟩,s⟩,i⟩,⟨⟨p,n,q⟩,c⟩,⟨d,a⟩,l⟩:dY),M,Z,X,Q,U⟩ ⟨N,O,(⟨F,⟨z,w,H⟩,B,⟨⟨⟨A,I,G⟩,J⟩,o⟩,⟨⟨b,e,k⟩,j⟩,⟨f,h⟩,m⟩:dY),L,R,Y,V,W⟩)):=by
 refine ax rfl (by kernel_rfl) (By _ _ _ _ λg=>?_)
 have hq:=Nd D C a_3 v u t E K s i p n q c d a F z w H B A I G J o b e k j f h S T hl
 have hr:=S.r
 have Zs:=T.r
 unfold l8
 cases e1:decide (k1=N) with
 | false=>simp[ak, *,j1,kT,eF]
 | true=>
 cases e2:decide (P=O) with
 | false=>simp[ak, *,j1,kT,eF]
 | true=>
 cases e3:mB (⟨D,⟨C,a_3,v⟩,u,⟨⟨⟨t,E,K⟩,s⟩,i⟩,⟨⟨p,n,q⟩,c⟩,⟨d,a⟩,l⟩:dY) (⟨F,⟨z,w,H⟩,B,⟨⟨⟨A,I,G⟩,J⟩,o⟩,⟨⟨b,e,k⟩,j⟩,⟨f,h⟩,m⟩:dY) with
 | false=>simp[ak, *,j1,kT,eF]
 | true=>
 cases e4:decide (M=L) with
 | false=>simp[ak, *,j1,kT,eF]
 | true=>simp[ak, *,j1,kT,eF]
def ef:dY:=⟨0,⟨0,0,0⟩,0,⟨⟨⟨0,0,0⟩,0⟩,0⟩,⟨⟨0,0,0⟩,0⟩,⟨0,0⟩,[]⟩
def Bo(r:eQ):eQ:=if r.kind=1 then ⟨1,r.user, { ef with h:=r.op.h},0,0,0,0,false⟩ else if r.kind=2 then ⟨2,0,r.op,r.code,0,0,0,false⟩ else ⟨r.kind,0,ef,0,r.gu,r.gv,r.gc,r.gok⟩
def jL(r:eQ):List UInt8:=r.kind :: (if r.kind=1 then bJ r.op.h++[u8 r.user] else if r.kind=2 then [u8 (r.code / 256),u8 r.code]++dL r.op else iC r.gu r.gv r.gc r.gok)
def b9(r:eQ):Bool:=if r.kind=1 then (decide (0<=r.user)&&decide (r.user<=255))&&(ej r.op.h&&l8 r (Bo r)) else if r.kind=2 then (!decide (-1∈r.op.l)&&decide (0<=r.code)&&decide (r.code<65536))&&(nB r.op&&l8 r (Bo r)) else if r.kind=3 then n9 r.gu r.gv r.gc r.gok&&l8 r (Bo r) else false
def wg(r:eQ):AV:=if r.kind=1 then .bl 1 (al (r.kind :: ((if ej r.op.h then bJ r.op.h else [])++[u8 r.user]))) none
 else if r.kind=2 then .bl 1 (al (r.kind :: ([u8 (r.code / 256),u8 r.code]++(if nB r.op then dL r.op else [])))) none
 else if r.kind=3 then (if n9 r.gu r.gv r.gc r.gok then .bl 1 (al (r.kind :: iC r.gu r.gv r.gc r.gok)) none else .bl 1 [a8 r.kind] (some 1)) else .bl 1 [a8 r.kind] (some 1)
set_option maxHeartbeats 800000 in
theorem xn(k:UInt8)(u:Int)(z:UInt8)(p:UInt8)(a_3:UInt32)(n:UInt8)(t:Int)(s:UInt8)(A:UInt32)(B:UInt8)(q:Int)(e:Int)(i:UInt8)(f:UInt32)(j:UInt8)(b:Int)(d:UInt8)(a:UInt32)(c C:Int)(v:UInt8)(w:UInt32)(o:Bool){x:AV}{l:List Int}(I:Sl 1 (rows l) x)(hl:l.length<2000000) :
 au env 46 [.agg [a8 k,aI u,a8 z,a8 p,bc a_3,a8 n,aI t,a8 s,bc A,a8 B,aI q,aI e,a8 i,bc f,a8 j,aI b,a8 d,bc a,x,aI c,aI C,a8 v,bc w,aB o]]=some (.tup [wg ⟨k,u,(⟨z,⟨p,a_3,n⟩,t,⟨⟨⟨s,A,B⟩,q⟩,e⟩,⟨⟨i,f,j⟩,b⟩,⟨d,a⟩,l⟩:dY),c,C,v,w,o⟩,aB (b9 ⟨k,u,(⟨z,⟨p,a_3,n⟩,t,⟨⟨⟨s,A,B⟩,q⟩,e⟩,⟨⟨i,f,j⟩,b⟩,⟨d,a⟩,l⟩:dY),c,C,v,w,o⟩)]):=by
 refine ax rfl (by kernel_rfl) (nA _ _ _ λg=>?_)
 have hr:=I.r
 have D:=λk' u' (V:UInt8) (R:UInt8) (Q:UInt32) (Y:UInt8) (U:Int) (T:UInt8) (Zs:UInt32) (W:UInt8) (Zt:Int) (P:Int) (H:UInt8) (J:UInt32) (N:UInt8) (M:Int) (K:UInt8) (L:UInt32) c' g' v' w' o' (y:AV) (m:List Int) (hy:Sl 1 (rows m) y)=>DK k k' u u' z p a_3 n t s A B q e i f j b d a V R Q Y U T Zs W Zt P H J N M K L c c' C g' v v' w w' o o' I hy (by omega)
 by_cases k1:k=1
 ·subst k1
  have hs:=D 1 u 0 p a_3 n 0 0 0 0 0 0 0 0 0 0 0 0 0 0 0 0 false bF [] (.inl ⟨rfl,rfl⟩)
  have G:b9 ⟨1,u,(⟨z,⟨p,a_3,n⟩,t,⟨⟨⟨s,A,B⟩,q⟩,e⟩,⟨⟨i,f,j⟩,b⟩,⟨d,a⟩,l⟩:dY),c,C,v,w,o⟩=((decide (0<=u)&&decide (u<=255))&&(ej ⟨p,a_3,n⟩&&l8 ⟨1,u,(⟨z,⟨p,a_3,n⟩,t,⟨⟨⟨s,A,B⟩,q⟩,e⟩,⟨⟨i,f,j⟩,b⟩,⟨d,a⟩,l⟩:dY),c,C,v,w,o⟩ ⟨1,u,⟨0,⟨p,a_3,n⟩,0,⟨⟨⟨0,0,0⟩,0⟩,0⟩,⟨⟨0,0,0⟩,0⟩,⟨0,0⟩,[]⟩,0,0,0,0,false⟩)):=rfl
  have F:wg ⟨1,u,(⟨z,⟨p,a_3,n⟩,t,⟨⟨⟨s,A,B⟩,q⟩,e⟩,⟨⟨i,f,j⟩,b⟩,⟨d,a⟩,l⟩:dY),c,C,v,w,o⟩ = .bl 1 (al (1 :: ((if ej ⟨p,a_3,n⟩ then bJ ⟨p,a_3,n⟩ else [])++[u8 u]))) none:=rfl
  rw[G,F]
  clear D G F
  generalize l8 ⟨1,u,(⟨z,⟨p,a_3,n⟩,t,⟨⟨⟨s,A,B⟩,q⟩,e⟩,⟨⟨i,f,j⟩,b⟩,⟨d,a⟩,l⟩:dY),c,C,v,w,o⟩ ⟨1,u,⟨0,⟨p,a_3,n⟩,0,⟨⟨⟨0,0,0⟩,0⟩,0⟩,⟨⟨0,0,0⟩,0⟩,⟨0,0⟩,[]⟩,0,0,0,0,false⟩=sm at *
  cases O:ej ⟨p,a_3,n⟩<;>by_cases c0:0<=u<;>by_cases c2:u<=255
  all_goals simp[ak, *,bN,bJ,al,qP]
 ·by_cases S:k=2
  ·subst S
   have hs:=D 2 0 z p a_3 n t s A B q e i f j b d a c 0 0 0 false x l I
   have G:b9 ⟨2,u,(⟨z,⟨p,a_3,n⟩,t,⟨⟨⟨s,A,B⟩,q⟩,e⟩,⟨⟨i,f,j⟩,b⟩,⟨d,a⟩,l⟩:dY),c,C,v,w,o⟩=((!decide (-1∈l)&&decide (0<=c)&&decide (c<65536))&&(nB (⟨z,⟨p,a_3,n⟩,t,⟨⟨⟨s,A,B⟩,q⟩,e⟩,⟨⟨i,f,j⟩,b⟩,⟨d,a⟩,l⟩:dY)&&l8 ⟨2,u,(⟨z,⟨p,a_3,n⟩,t,⟨⟨⟨s,A,B⟩,q⟩,e⟩,⟨⟨i,f,j⟩,b⟩,⟨d,a⟩,l⟩:dY),c,C,v,w,o⟩ ⟨2,0,(⟨z,⟨p,a_3,n⟩,t,⟨⟨⟨s,A,B⟩,q⟩,e⟩,⟨⟨i,f,j⟩,b⟩,⟨d,a⟩,l⟩:dY),c,0,0,0,false⟩)):=rfl
   have F:wg ⟨2,u,(⟨z,⟨p,a_3,n⟩,t,⟨⟨⟨s,A,B⟩,q⟩,e⟩,⟨⟨i,f,j⟩,b⟩,⟨d,a⟩,l⟩:dY),c,C,v,w,o⟩ = .bl 1 (al (2 :: ([u8 (c / 256),u8 c]++(if nB (⟨z,⟨p,a_3,n⟩,t,⟨⟨⟨s,A,B⟩,q⟩,e⟩,⟨⟨i,f,j⟩,b⟩,⟨d,a⟩,l⟩:dY) then dL (⟨z,⟨p,a_3,n⟩,t,⟨⟨⟨s,A,B⟩,q⟩,e⟩,⟨⟨i,f,j⟩,b⟩,⟨d,a⟩,l⟩:dY) else [])))) none:=rfl
   have hP:=K8 z p a_3 n t s A B q e i f j b d a I (by omega)
   have X:=PV z p a_3 n t s A B q e i f j b d a I hl
   rw[G,F]
   unfold SR at X
   have E:nB (⟨z,⟨p,a_3,n⟩,t,⟨⟨⟨s,A,B⟩,q⟩,e⟩,⟨⟨i,f,j⟩,b⟩,⟨d,a⟩,l⟩:dY)=true->(dL (⟨z,⟨p,a_3,n⟩,t,⟨⟨⟨s,A,B⟩,q⟩,e⟩,⟨⟨i,f,j⟩,b⟩,⟨d,a⟩,l⟩:dY)).length<=293/\24<=(dL (⟨z,⟨p,a_3,n⟩,t,⟨⟨⟨s,A,B⟩,q⟩,e⟩,⟨⟨i,f,j⟩,b⟩,⟨d,a⟩,l⟩:dY)).length:=λh=>by rw[rE h];exact⟨(qE h).2,(qE h).1⟩
   clear D G F
   generalize l8 ⟨2,u,(⟨z,⟨p,a_3,n⟩,t,⟨⟨⟨s,A,B⟩,q⟩,e⟩,⟨⟨i,f,j⟩,b⟩,⟨d,a⟩,l⟩:dY),c,C,v,w,o⟩ ⟨2,0,(⟨z,⟨p,a_3,n⟩,t,⟨⟨⟨s,A,B⟩,q⟩,e⟩,⟨⟨i,f,j⟩,b⟩,⟨d,a⟩,l⟩:dY),c,0,0,0,false⟩=sm at *
   generalize dL (⟨z,⟨p,a_3,n⟩,t,⟨⟨⟨s,A,B⟩,q⟩,e⟩,⟨⟨i,f,j⟩,b⟩,⟨d,a⟩,l⟩:dY)=bs at *
   generalize decide (-1∈l)=pl at *
   cases O:nB (⟨z,⟨p,a_3,n⟩,t,⟨⟨⟨s,A,B⟩,q⟩,e⟩,⟨⟨i,f,j⟩,b⟩,⟨d,a⟩,l⟩:dY) with
   | false=>
    rw[O,if_neg (by decide)]at X
    clear E
    cases pl<;>by_cases c0:0<=c<;>by_cases c2:c<65536
    all_goals simp[ak, *,bN,al,dq,cK]
   | true=>
    rw[O,if_pos rfl]at X
    have Zu:=E O
    have f1:bs.length+1<=140737488355328/\bs.length+1+1<=140737488355328/\bs.length+1+1+1<=140737488355328:=by omega
    have f0:2+bs.length=bs.length+1+1:=by omega
    have f3:1+(bs.length+1+1)<=140737488355328/\1+(bs.length+1+1)=bs.length+1+1+1:=by omega
    have f2:2+bs.length<=140737488355328/\1+(2+bs.length)<=140737488355328/\2<2+bs.length/\0<bs.length:=by omega
    have Zv:bs≠[]:=by rintro rfl;simp at f2
    clear E
    cases pl<;>by_cases c0:0<=c<;>by_cases c2:c<65536
    all_goals simp[ak, *,bN,al,dq,cK]
  ·by_cases Z:k=3
   ·subst Z
    have hs:=D 3 0 0 0 0 0 0 0 0 0 0 0 0 0 0 0 0 0 0 C v w o bF [] (.inl ⟨rfl,rfl⟩)
    have G:b9 ⟨3,u,(⟨z,⟨p,a_3,n⟩,t,⟨⟨⟨s,A,B⟩,q⟩,e⟩,⟨⟨i,f,j⟩,b⟩,⟨d,a⟩,l⟩:dY),c,C,v,w,o⟩=(n9 C v w o&&l8 ⟨3,u,(⟨z,⟨p,a_3,n⟩,t,⟨⟨⟨s,A,B⟩,q⟩,e⟩,⟨⟨i,f,j⟩,b⟩,⟨d,a⟩,l⟩:dY),c,C,v,w,o⟩ ⟨3,0,⟨0,⟨0,0,0⟩,0,⟨⟨⟨0,0,0⟩,0⟩,0⟩,⟨⟨0,0,0⟩,0⟩,⟨0,0⟩,[]⟩,0,C,v,w,o⟩):=rfl
    have F:wg ⟨3,u,(⟨z,⟨p,a_3,n⟩,t,⟨⟨⟨s,A,B⟩,q⟩,e⟩,⟨⟨i,f,j⟩,b⟩,⟨d,a⟩,l⟩:dY),c,C,v,w,o⟩=if n9 C v w o then .bl 1 (al (3 :: iC C v w o)) none else .bl 1 [a8 3] (some 1):=rfl
    rw[G,F]
    clear D G F
    generalize l8 ⟨3,u,(⟨z,⟨p,a_3,n⟩,t,⟨⟨⟨s,A,B⟩,q⟩,e⟩,⟨⟨i,f,j⟩,b⟩,⟨d,a⟩,l⟩:dY),c,C,v,w,o⟩ ⟨3,0,⟨0,⟨0,0,0⟩,0,⟨⟨⟨0,0,0⟩,0⟩,0⟩,⟨⟨0,0,0⟩,0⟩,⟨0,0⟩,[]⟩,0,C,v,w,o⟩=sm at *
    cases O:n9 C v w o
    all_goals simp[ak, *,bN,iC,al,qP]
   ·have G:b9 ⟨k,u,(⟨z,⟨p,a_3,n⟩,t,⟨⟨⟨s,A,B⟩,q⟩,e⟩,⟨⟨i,f,j⟩,b⟩,⟨d,a⟩,l⟩:dY),c,C,v,w,o⟩=false:=by unfold b9;rw[if_neg k1,if_neg S,if_neg Z]
    have F:wg ⟨k,u,(⟨z,⟨p,a_3,n⟩,t,⟨⟨⟨s,A,B⟩,q⟩,e⟩,⟨⟨i,f,j⟩,b⟩,⟨d,a⟩,l⟩:dY),c,C,v,w,o⟩ = .bl 1 [a8 k] (some 1):=by unfold wg;rw[if_neg k1,if_neg S,if_neg Z]
    rw[G,F]
    clear D G F
    simp[ak, *,bN]
theorem kB(t:TypeId)(b a:Operand){n:Int}(h:0<=n):bK env.P .rem t b a (some (.v (.int .i64 n))) (some (.v (.int .i64 256)))=some (.v (.int .i64 (n % 256)),[]):=by
 rw[mC env.P t b a .i64 _ _ (by decide),zW h]
theorem kD(t:TypeId)(b a:Operand){n:Int}(k:Int)(e:1<k)(h:0<=n)(f:n<9223372036854775808):bK env.P .quo t b a (some (.v (.int .i64 n))) (some (.v (.int .i64 k)))=some (.v (.int .i64 (n / k)),[]):=by
 rw[nH env.P t b a .i64 _ _ (by omega),FM h,IntWalk.i64_in]
 have c:0<=n / k:=Int.ediv_nonneg h (by omega)
 have d:n / k<=n:=Int.ediv_le_self _ h
 constructor<;>omega
@[simp] theorem PF(n:Int)(m:0<=n)(o:n<9223372036854775808):au env 133 [aI n,aI 4]=some (.bl 1 (al (be 4 n)) none):=by
 refine ax rfl (by kernel_rfl) (mY _ _ _ _ λg=>?_)
 have k:=λt a b=>kB t a b (n:=n) (by omega)
 have l:=λt a b=>kD t a b (n:=n) 256 (by decide) (by omega) (by omega)
 have d:n / 256 / 256=n / 65536:=by omega
 have j:=λt a b=>kB t a b (n:=(n / 256)) (by omega)
 have i:=λt a b=>kD t a b (n:=(n / 256)) 256 (by decide) (by omega) (by omega)
 rw[d]at i
 have e:n / 65536 / 256=n / 16777216:=by omega
 have r2:=λt a b=>kB t a b (n:=(n / 65536)) (by omega)
 have f:=λt a b=>kD t a b (n:=(n / 65536)) 256 (by decide) (by omega) (by omega)
 rw[e]at f
 have h:n / 16777216 / 256=n / 4294967296:=by omega
 have r3:=λt a b=>kB t a b (n:=(n / 16777216)) (by omega)
 have c:=λt a b=>kD t a b (n:=(n / 16777216)) 256 (by decide) (by omega) (by omega)
 rw[h]at c
 simp[ak, *,j6]
 refine aK _ _ _ _ _ _ λg=>?_
 simp[ak, *,aD,jy]
 refine aK _ _ _ _ _ _ λg=>?_
 simp[ak, *,aD,jy]
 refine aK _ _ _ _ _ _ λg=>?_
 simp[ak, *,aD,jy]
 refine aK _ _ _ _ _ _ λg=>?_
 simp[ak, *,aD,jy]
 refine aK _ _ _ _ _ _ λg=>?_
 simp[ak, *,aD,jy,qP,al]
@[simp] theorem PE(n:Int)(v:0<=n)(w:n<9223372036854775808):au env 133 [aI n,aI 7]=some (.bl 1 (al (be 7 n)) none):=by
 refine ax rfl (by kernel_rfl) (mY _ _ _ _ λg=>?_)
 have s:=λt a b=>kB t a b (n:=n) (by omega)
 have u:=λt a b=>kD t a b (n:=n) 256 (by decide) (by omega) (by omega)
 have f:n / 256 / 256=n / 65536:=by omega
 have q:=λt a b=>kB t a b (n:=(n / 256)) (by omega)
 have o:=λt a b=>kD t a b (n:=(n / 256)) 256 (by decide) (by omega) (by omega)
 rw[f]at o
 have h:n / 65536 / 256=n / 16777216:=by omega
 have r2:=λt a b=>kB t a b (n:=(n / 65536)) (by omega)
 have i:=λt a b=>kD t a b (n:=(n / 65536)) 256 (by decide) (by omega) (by omega)
 rw[h]at i
 have m:n / 16777216 / 256=n / 4294967296:=by omega
 have r3:=λt a b=>kB t a b (n:=(n / 16777216)) (by omega)
 have c:=λt a b=>kD t a b (n:=(n / 16777216)) 256 (by decide) (by omega) (by omega)
 rw[m]at c
 have p:n / 4294967296 / 256=n / 1099511627776:=by omega
 have r4:=λt a b=>kB t a b (n:=(n / 4294967296)) (by omega)
 have k:=λt a b=>kD t a b (n:=(n / 4294967296)) 256 (by decide) (by omega) (by omega)
 rw[p]at k
 have d:n / 1099511627776 / 256=n / 281474976710656:=by omega
 have r5:=λt a b=>kB t a b (n:=(n / 1099511627776)) (by omega)
 have l:=λt a b=>kD t a b (n:=(n / 1099511627776)) 256 (by decide) (by omega) (by omega)
 rw[d]at l
 have j:n / 281474976710656 / 256=n / 72057594037927936:=by omega
 have r6:=λt a b=>kB t a b (n:=(n / 281474976710656)) (by omega)
 have e:=λt a b=>kD t a b (n:=(n / 281474976710656)) 256 (by decide) (by omega) (by omega)
 rw[j]at e
 simp[ak, *,j6]
 refine aK _ _ _ _ _ _ λg=>?_
 simp[ak, *,aD,jy]
 refine aK _ _ _ _ _ _ λg=>?_
 simp[ak, *,aD,jy]
 refine aK _ _ _ _ _ _ λg=>?_
 simp[ak, *,aD,jy]
 refine aK _ _ _ _ _ _ λg=>?_
 simp[ak, *,aD,jy]
 refine aK _ _ _ _ _ _ λg=>?_
 simp[ak, *,aD,jy]
 refine aK _ _ _ _ _ _ λg=>?_
 simp[ak, *,aD,jy]
 refine aK _ _ _ _ _ _ λg=>?_
 simp[ak, *,aD,jy]
 refine aK _ _ _ _ _ _ λg=>?_
 simp[ak, *,aD,jy,Jr,al]
@[simp] theorem DL(a:UInt8)(b:UInt32)(n:UInt8):au env 106 [.agg [a8 a,bc b,a8 n]]=some (.fsl 1 (al (bJ ⟨a,b,n⟩)) none):=by
 refine ax rfl (by kernel_rfl) (rS _ _ _ λg=>?_)
 have d:=b.toNat_lt
 have c:=PF (b.toNat:Int) (by omega) (by omega)
 simp[ak, *,mM,bJ,al]
theorem DM(a:UInt8)(b:UInt32)(n:UInt8)(k:Int)(c:0<=k)(d:k<9223372036854775808):au env 107 [.agg [a8 a,bc b,a8 n,aI k]]=some (.bl 1 (al (cR ⟨⟨a,b,n⟩,k⟩)) none):=by
 refine ax rfl (by kernel_rfl) (rT _ _ _ λg=>?_)
 have e:=PE k c d
 simp[ak, *,mN,cR,al]
theorem JZ{r:eQ}(h:b9 r=true):wg r = .bl 1 (al (jL r)) none:=by
 unfold b9 at h
 unfold wg jL
 split at h
 ·rename_i k1
  simp only[aY]at h
  rw[if_pos k1,if_pos k1,if_pos h.2.1]
 ·rename_i k1
  rw[if_neg k1,if_neg k1]
  split at h
  ·rename_i a
   simp only[aY]at h
   rw[if_pos a,if_pos a,if_pos h.2.1]
  ·rename_i a
   rw[if_neg a,if_neg a]
   split at h
   ·rename_i b
    simp only[aY]at h
    rw[if_pos b,if_pos h.1]
   ·cases h
theorem Cc{r:eQ}(h:b9 r=true):(r.kind=1/\(jL r).length=8)\/(r.kind=2/\(jL r).length=3+wJ r.op/\nB r.op=true)\/(r.kind=3/\(jL r).length=8):=by
 unfold b9 at h
 unfold jL
 split at h
 ·rename_i k1
  refine .inl ⟨k1,?_⟩
  rw[if_pos k1];simp
 ·rename_i k1
  rw[if_neg k1]
  split at h
  ·rename_i a
   simp only[aY]at h
   refine .inr (.inl ⟨a,?_,h.2.1⟩)
   rw[if_pos a]
   simp[rE h.2.1];omega
  ·rename_i a
   rw[if_neg a]
   split at h
   ·rename_i b
    refine .inr (.inr ⟨b,?_⟩)
    simp[iC]
   ·cases h
def jQ(r:eQ):Nat:=((jL r).length+118) / 119
theorem E1{r:eQ}(h:b9 r=true):1<=jQ r/\jQ r<=3/\(r.kind=2\/jQ r=1):=by
 unfold jQ
 rcases Cc h with ⟨k,e⟩ | ⟨k,e,a⟩ | ⟨k,e⟩
 ·rw[e];simp
 ·rw[e];have:=qE a;exact⟨by omega,by omega,.inl k⟩
 ·rw[e];simp
theorem BW(k:UInt8)(u:Int)(y:UInt8)(s:UInt8)(a_3:UInt32)(q:UInt8)(p:Int)(n:UInt8)(A:UInt32)(B:UInt8)(m:Int)(f:Int)(i:UInt8)(h:UInt32)(j:UInt8)(b:Int)(d:UInt8)(a:UInt32)(c C:Int)(v:UInt8)(w:UInt32)(o:Bool){x:AV}{l:List Int}(I:Sl 1 (rows l) x)(L:l.length<2000000) :
 au env 25 [.agg [a8 k,aI u,a8 y,a8 s,bc a_3,a8 q,aI p,a8 n,bc A,a8 B,aI m,aI f,a8 i,bc h,a8 j,aI b,a8 d,bc a,x,aI c,aI C,a8 v,bc w,aB o]]=some (if b9 ⟨k,u,(⟨y,⟨s,a_3,q⟩,p,⟨⟨⟨n,A,B⟩,m⟩,f⟩,⟨⟨i,h,j⟩,b⟩,⟨d,a⟩,l⟩:dY),c,C,v,w,o⟩ then .tup [aI (jQ ⟨k,u,(⟨y,⟨s,a_3,q⟩,p,⟨⟨⟨n,A,B⟩,m⟩,f⟩,⟨⟨i,h,j⟩,b⟩,⟨d,a⟩,l⟩:dY),c,C,v,w,o⟩),aI 0] else .tup [aI 0,aI 8]):=by
 refine ax rfl (by kernel_rfl) (Ar _ _ _ λg=>?_)
 have J:=xn k u y s a_3 q p n A B m f i h j b d a c C v w o I L
 have V:=I.r
 have H := @JZ ⟨k,u,(⟨y,⟨s,a_3,q⟩,p,⟨⟨⟨n,A,B⟩,m⟩,f⟩,⟨⟨i,h,j⟩,b⟩,⟨d,a⟩,l⟩:dY),c,C,v,w,o⟩
 have D := @Cc ⟨k,u,(⟨y,⟨s,a_3,q⟩,p,⟨⟨⟨n,A,B⟩,m⟩,f⟩,⟨⟨i,h,j⟩,b⟩,⟨d,a⟩,l⟩:dY),c,C,v,w,o⟩
 have G:jQ ⟨k,u,(⟨y,⟨s,a_3,q⟩,p,⟨⟨⟨n,A,B⟩,m⟩,f⟩,⟨⟨i,h,j⟩,b⟩,⟨d,a⟩,l⟩:dY),c,C,v,w,o⟩=((jL ⟨k,u,(⟨y,⟨s,a_3,q⟩,p,⟨⟨⟨n,A,B⟩,m⟩,f⟩,⟨⟨i,h,j⟩,b⟩,⟨d,a⟩,l⟩:dY),c,C,v,w,o⟩).length+118) / 119:=rfl
 cases F:b9 ⟨k,u,(⟨y,⟨s,a_3,q⟩,p,⟨⟨⟨n,A,B⟩,m⟩,f⟩,⟨⟨i,h,j⟩,b⟩,⟨d,a⟩,l⟩:dY),c,C,v,w,o⟩ with
 | false=>
  rw[F]at J
  generalize E:wg ⟨k,u,(⟨y,⟨s,a_3,q⟩,p,⟨⟨⟨n,A,B⟩,m⟩,f⟩,⟨⟨i,h,j⟩,b⟩,⟨d,a⟩,l⟩:dY),c,C,v,w,o⟩=z at *
  clear H D G
  have O:z = .bl 1 [a8 k] (some 1) \/∃es,z = .bl 1 es none:=by
   rw[<-E];unfold wg
   split
   ·exact .inr ⟨_,rfl⟩
   ·split
    ·exact .inr ⟨_,rfl⟩
    ·split
     ·split
      ·exact .inr ⟨_,rfl⟩
      ·exact .inl rfl
     ·exact .inl rfl
  clear E
  rcases O with rfl | ⟨es,rfl⟩<;>simp[ak, *,pL]
 | true=>
  rw[H F,F]at J
  have W:(jL ⟨k,u,(⟨y,⟨s,a_3,q⟩,p,⟨⟨⟨n,A,B⟩,m⟩,f⟩,⟨⟨i,h,j⟩,b⟩,⟨d,a⟩,l⟩:dY),c,C,v,w,o⟩).length<=1000:=by
   rcases D F with ⟨_,e⟩ | ⟨_,e,Q⟩ | ⟨_,e⟩
   ·omega
   ·have:=qE Q;omega
   ·omega
  rw[G]
  clear H D G
  generalize jL ⟨k,u,(⟨y,⟨s,a_3,q⟩,p,⟨⟨⟨n,A,B⟩,m⟩,f⟩,⟨⟨i,h,j⟩,b⟩,⟨d,a⟩,l⟩:dY),c,C,v,w,o⟩=bs at *
  have U:=IntWalk.i64_in ((bs.length:Int)+119) (by omega)
  have M:=IntWalk.i64_in ((bs.length:Int)+119 - 1) (by omega)
  have N:((bs.length:Int)+119 - 1)=bs.length+118:=by omega
  have S:=λt R T=>nH env.P t R T .i64 ((bs.length:Int)+118) 119 (by decide)
  have K:((bs.length:Int)+118).tdiv 119=(((bs.length+118) / 119:Nat):Int):=by
   rw[FM (by omega)];omega
  rw[K,IntWalk.i64_in _ (by omega)]at S
  rw[N]at M
  simp[ak, *,pL]
theorem FG{P:Program}{t t':TypeId}(x:pK P t=true)(b:isInt P t'=true)(y:(gN P t).cells.all AV.one=true)(H:ab)(r q:Ref)(n:Int)(m:Nat){es:List AV}{fz:Bool}(A:H.get q=some ⟨jf P t,es,true,fz⟩)(D:m=es.length)(I:0<n)(F:n<=aX)(C:(m+n.toNat) * pw P t<=aX) :
 cS P true H r (some t) (some t') (.bD q 0 m none) (aI n)=some (.bD ⟨q.d,q.t,H.gen q.d q.t,0⟩ 0 (m+n.toNat) none,(⟨q.d,q.t,H.gen q.d q.t,0⟩,some ⟨jf P t,es++List.replicate n.toNat (gN P t),true,fz⟩) :: H.put q none):=by
 subst D
 unfold pK at x
 obtain⟨e,zz,l,i,p,c,v,G,B,o⟩:=gk x
 have E:gN P t=zz:=by unfold gN;rw[l,dF,c];rfl
 rw[E]at y ⊢
 have f:(P.underlying t').isNone=false:=by
  unfold isInt at b
  cases h:P.underlying t' with
  | none=>rw[h]at b;cases b
  | some d=>rfl
 have s : ¬((P.underlying t').isNone=true\/isInt P t'≠isNum (aI n)):=by rw[f,b];simp[isNum]
 have u : ¬(jf P t≠jf P t\/jf P t=0\/pw P t=0\/zz.cells.length≠jf P t):=by simp[v,B,o]
 have a:kn P H.get e (aI n)=some (jf P t,List.replicate n.toNat zz):=by
  show(match ei P e,av P e with | some w,some z=>if 0<=n/\n<=aX/\w.cells.length=z/\w.cells.all AV.one then some (z,List.replicate n.toNat w) else none | _,_=>none)=_
  rw[c,i]
  exact if_pos ⟨by omega,F,by simp[v,B,o],y⟩
 have g:List.replicate n.toNat zz≠[]:=by
  intro h
  have:=congrArg List.length h
  simp only[zU,lV]at this
  omega
 have j : ¬(jf P t≠jf P t\/jf P t=0\/pw P t=0\/List.replicate n.toNat zz=[]\/zz.cells.length≠jf P t):=by simp only[g,false_or];exact u
 have k:dy P H.get r (some t) (some t') (.bD q 0 es.length none) (aI n)=none:=by
  simp only[dy,dF,l,Option.map_some,bO,if_neg s,i,p,c,a,if_neg u,if_neg g,A]
  simp[g]
 simp only[cS,k]
 simp only[jB,Aw,zR,gT,dF,l,Option.map_some,bO,if_neg s,i,p,c,a,if_neg j,A,zU]
 unfold aX at C
 simp[C]
theorem Iw{l:List Int}{M:AV}(q:Sl 1 (rows l) M)(hl:l.length<100000)(S : ∀n∈l,fw n=true){Q:AV->ab->Prop} :
 ∀(s:List Int)(k:Nat)(i:Int)(a:List Int)(D:AV)(H:ab),l.drop k=s->k<=l.length->i=k->a.length=k->Fr H->nx [35] 1 (al (aH a)) H D->(a=[]->D=bF) ->
 (∀y o,nx [35] 1 (al (aH (a++s))) o y->(a++s=[]->y=bF)->Q y o) ->
 dZ env Tryz.f109 0 eD [(4,aI i),(3,D),(0,M)] H Q:=by
 intro s
 induction s with
 | nil=>
  rintro k i a x5 H hs hk rfl ha hF hO hN hQ
  obtain rfl:=drop_nil hs hk
  refine lX _ _ _ _ _ λg=>?_
  have p:=hQ x5 H (by simpa using hO) (by simpa using hN)
  clear hQ hO hN
  simp[ak, *,du,q.len]
  all_goals exact p
 | cons n s K=>
  rintro k i a x5 H hs hk rfl ha hF hO hN hQ
  obtain⟨Z,X,I,J⟩:=drop_cons hs
  have L:=S n (by rw[<-X];exact gD _)
  have e3:=IntWalk.i64_in ((k:Int)+1) (by omega)
  refine lX _ _ _ _ _ λg=>?_
  have Zs:cG (rows l) k 0 1 false=some (.v (.int .i32 n)):=by simp[rows,J,aR]
  have u:=λC o=>K (k+1) ((k:Int)+1) (a++[n]) C o I (by omega) (by simp) (by simp;omega)
  have p : ∀y o,nx [35] 1 (al (aH ((a++[n])++s))) o y->((a++[n])++s=[]->y=bF)->Q y o:=λy o h L=>hQ y o (by simpa using h) (λe=>by simp at e)
  have w:=kC a
  have d:(al (aH a)).length=4 * a.length:=by rw[show(al (aH a)).length=(aH a).length from by simp,w]
  have j : ∀(g m:Nat)(o:ab),m=4 * a.length+4->o.get ⟨0,35,g,0⟩=some ⟨1,al (aH a)++[a8 (u8 (n / 16777216)),a8 (u8 (n / 65536)),a8 (u8 (n / 256)),a8 (u8 n)],true,false⟩->nx [35] 1 (al (aH (a++[n]))) o (.bD ⟨0,35,g,0⟩ 0 m none):=by
   intro g m o N h
   subst N
   have e:al (aH (a++[n]))=al (aH a)++[a8 (u8 (n / 16777216)),a8 (u8 (n / 65536)),a8 (u8 (n / 256)),a8 (u8 n)]:=by simp[aH,qP,al]
   rw[e]
   exact .inr ⟨35,g,by simp,by rw[gG,d];rfl,h⟩
  clear hQ hN K
  have x:n = -1\/(0<=n/\n<=1114111):=by
   simp only[fw,jh,aY,decide_eq_true_eq]at L;omega
  have q1:=λt c f=>kD t c f (n:=4294967295) 16777216 (by decide) (by omega) (by omega)
  have O:=λt c f=>kD t c f (n:=4294967295) 65536 (by decide) (by omega) (by omega)
  have Y:=λt c f=>kD t c f (n:=4294967295) 256 (by decide) (by omega) (by omega)
  have q4:=λt c f=>kB t c f (n:=4294967295) (by omega)
  have W:=λt c f=>kB t c f (n:=65535) (by omega)
  have U:=λt c f=>kB t c f (n:=16777215) (by omega)
  simp only[show(4294967295:Int) / 16777216=255 by decide,show(4294967295:Int) / 65536=65535 by decide,show(4294967295:Int) / 256=16777215 by decide,show(4294967295:Int) % 256=255 by decide,show(65535:Int) % 256=255 by decide,show(16777215:Int) % 256=255 by decide]at q1 O Y q4 W U
  have hu:u8 255=255:=rfl
  have B:u8 (-1)=255:=rfl
  rcases x with rfl | ⟨p0,p1⟩
  ·have d1:(-1:Int) / 16777216 = -1:=by decide
   have d2:(-1:Int) / 65536 = -1:=by decide
   have d3:(-1:Int) / 256 = -1:=by decide
   rw[d1,d2,d3,B]at j
   have P:IntKind.i64.wrap (-1) = -1:=rfl
   rcases hO with ⟨rfl,F⟩ | ⟨t,G,A,rfl,E⟩
   ·have z:a=[]:=by
     have:=congrArg List.length F
     rw[d]at this
     simp only[lV]at this
     exact uw (by omega)
    subst z
    have b:=j (H.gen 0 35) 4
    clear j
    simp[ak, *,du,q.r,q.idx]
    exact u _ _ (by simp(maxDischargeDepth:=12) [ov, *]) (b _ rfl (by simp[aH])) (λe=>by simp at e) p
   ·rw[pT]at A
    subst A
    have V:(H.get ⟨0,35,G,0⟩).isSome=true:=by rw[E];rfl
    have T:ql 1 1 (al (aH a)).length true none (some ⟨1,al (aH a),true,false⟩) (some [a8 255,a8 255,a8 255,a8 255]):=by
     rw[aG,d];refine⟨rfl,d.symm ▸ rfl,.inr ⟨?_,rfl⟩⟩;simp;omega
    have b:=λo=>j (H.gen 0 35) ((al (aH a)).length+4) o (by rw[d])
    clear j ha d w
    generalize al (aH a)=bs at *
    simp[ak, *,du,q.r,q.idx]
    exact u _ _ (by simp(maxDischargeDepth:=12) [ov, *]) (b _ (by simp)) (λe=>by simp at e) p
  ·have P:=IntWalk.i64_in n (by omega)
   have R : ¬n<0:=by omega
   have p2:0<=n / 65536:=by omega
   have p3:0<=n / 256:=by omega
   have t1:=λt c f=>kD t c f (n:=n) 16777216 (by decide) (by omega) (by omega)
   have t2:=λt c f=>kD t c f (n:=n) 65536 (by decide) (by omega) (by omega)
   have t3:=λt c f=>kD t c f (n:=n) 256 (by decide) (by omega) (by omega)
   have t4:=λt c f=>kB t c f (n:=n) (by omega)
   have t5:=λt c f=>kB t c f (n:=n / 65536) (by omega)
   have t6:=λt c f=>kB t c f (n:=n / 256) (by omega)
   rcases hO with ⟨rfl,F⟩ | ⟨t,G,A,rfl,E⟩
   ·have z:a=[]:=by
     have:=congrArg List.length F
     rw[d]at this
     simp only[lV]at this
     exact uw (by omega)
    subst z
    have b:=j (H.gen 0 35) 4
    clear j
    simp[ak, *,du,q.r,q.idx,jy]
    exact u _ _ (by simp(maxDischargeDepth:=12) [ov, *]) (b _ rfl (by simp[aH])) (λe=>by simp at e) p
   ·rw[pT]at A
    subst A
    have V:(H.get ⟨0,35,G,0⟩).isSome=true:=by rw[E];rfl
    have T:ql 1 1 (al (aH a)).length true none (some ⟨1,al (aH a),true,false⟩) (some [a8 (u8 (n / 16777216)),a8 (u8 (n / 65536)),a8 (u8 (n / 256)),a8 (u8 n)]):=by
     rw[aG,d];refine⟨rfl,d.symm ▸ rfl,.inr ⟨?_,rfl⟩⟩;simp;omega
    have b:=λo=>j (H.gen 0 35) ((al (aH a)).length+4) o (by rw[d])
    clear j ha d w
    generalize al (aH a)=bs at *
    simp[ak, *,du,q.r,q.idx,jy]
    exact u _ _ (by simp(maxDischargeDepth:=12) [ov, *]) (b _ (by simp)) (λe=>by simp at e) p
theorem M6{l:List Int}{x:AV}(m:Sl 1 (rows l) x)(k:l.length<100000)(i : ∀n∈l,fw n=true):au env 109 [x]=some (iT 1 (al (aH l))):=by
 refine ax rfl (by kernel_rfl) (sH _ _ _ λg=>?_)
 have b:=λH Q=>Iw m k i (H:=H) (Q:=Q) l 0 0 [] bF rfl (by omega) rfl rfl
 have c : ∀y f,nx [35] 1 (al (aH ([]++l))) f y->([]++l=[]->y=bF)->view f.get 8 y=some (iT 1 (al (aH l))):=by
  intro y f h a
  rw[pR]at h a
  rcases h with ⟨rfl,j⟩ | ⟨t,u,q,rfl,o⟩
  ·rw[j];simp[iT]
  ·have d:al (aH l)≠[]:=by
    intro e
    have p:=congrArg List.length e
    have s:=kC l
    have v:(al (aH l)).length=(aH l).length:=by simp
    simp only[lV]at p
    have:l=[]:=uw (by omega)
    cases a this
   rw[rC 1 d]
   generalize al (aH l)=bs at *
   simp[o]
 simp[ak, *,nw]
 exact b _ _ Fr.nil (.inl ⟨rfl,rfl⟩) (λ_=>rfl) c
theorem OU(H:ab)(r q:Ref){es:List AV}{fz:Bool}(b:H.get q=some ⟨1,es,true,fz⟩)(a:es.length=24) :
 cS env.P true H r (some 27) (some 3) (.bD q 0 24 none) (aI 13)=some (.bD ⟨q.d,q.t,H.gen q.d q.t,0⟩ 0 37 none,(⟨q.d,q.t,H.gen q.d q.t,0⟩,some ⟨1,es++[a8 0,a8 0,a8 0,a8 0,a8 0,a8 0,a8 0,a8 0,a8 0,a8 0,a8 0,a8 0,a8 0],true,fz⟩) :: H.put q none):=by
 have h:=FG (P:=env.P) (t:=27) (t':=3) (by kernel_rfl) (by kernel_rfl) (by kernel_rfl) H r q 13 24 (es:=es) (fz:=fz) (by rw[Ot];exact b) a.symm (by decide) (by decide) (by simp)
 rw[Ot]at h
 rw[h]
 have e:gN env.P 27=a8 0:=by kernel_rfl
 rw[e]
 rfl
theorem vM(v:UInt8)(q:UInt8)(a_3:UInt32)(p:UInt8)(a:Int)(k:UInt8)(m:UInt32)(o:UInt8)(j:Int)(i:Int)(d:UInt8)(c:UInt32)(f:UInt8)(b:Int)(u:UInt8)(s:UInt32){x:AV}{l:List Int}(L:Sl 1 (rows l) x)(V:l.length<100000)(O:nB (⟨v,⟨q,a_3,p⟩,a,⟨⟨⟨k,m,o⟩,j⟩,i⟩,⟨⟨d,c,f⟩,b⟩,⟨u,s⟩,l⟩:dY)=true):au env 84 [.agg [a8 v,a8 q,bc a_3,a8 p,aI a,a8 k,bc m,a8 o,aI j,aI i,a8 d,bc c,a8 f,aI b,a8 u,bc s,x]]=some (.bl 1 (al (dL (⟨v,⟨q,a_3,p⟩,a,⟨⟨⟨k,m,o⟩,j⟩,i⟩,⟨⟨d,c,f⟩,b⟩,⟨u,s⟩,l⟩:dY))) none):=by
 refine ax rfl (by kernel_rfl) (rQ _ _ _ λg=>?_)
 have hr:=L.r
 have hp:=oI O
 simp only at hp
 obtain⟨Z,Zv,⟨Zs,Zt⟩,P,Zu,X⟩:=hp
 have t1:=λt B C=>kD t B C (n:=a) 65536 (by decide) (by omega) (by omega)
 have t2:=λt B C=>kD t B C (n:=a) 256 (by decide) (by omega) (by omega)
 have t3:=λt B C=>kB t B C (n:=a / 256) (by omega)
 have t4:=λt B C=>kB t B C (n:=a) (by omega)
 have b1:=DM k m o j (by omega) (by omega)
 have Q:k8 (⟨v,⟨q,a_3,p⟩,a,⟨⟨⟨k,m,o⟩,j⟩,i⟩,⟨⟨d,c,f⟩,b⟩,⟨u,s⟩,l⟩:dY)=v :: (bJ ⟨q,a_3,p⟩++([u8 (a / 65536),u8 (a / 256),u8 a]++(cR ⟨⟨k,m,o⟩,j⟩++[u8 i]))):=by simp[k8,QT]
 unfold dL
 rw[Q]
 have lh:=xw ⟨q,a_3,p⟩
 have li:=I0 ⟨⟨k,m,o⟩,j⟩
 rcases X with ⟨rfl,I,H,E,w⟩ | ⟨rfl,I,H,E⟩ | ⟨rfl,H,E,U⟩
 ·obtain⟨R,T,K⟩:=Iy w
  have M : ∀n∈l,fw n=true:=by
   have:=w
   simp only[Cb,aY,da]at this
   exact this.2
  have S:=M6 L V M
  have D:=kC l
  have J:al (aH l)≠[]:=by
   intro e
   have:=congrArg List.length e
   rw[fY,lV]at this
   omega
  rw[rC 1 J]at S
  have N:(al (aH l)).length=4 * l.length:=by rw[fY,D]
  have G : ∀A:List UInt8,al (A++aH l)=al A++al (aH l):=λA=>by simp[al]
  rw[if_pos rfl]
  have f1:37+4 * l.length<=140737488355328:=by omega
  clear R K w D M O
  rcases Bool.eq_false_or_eq_true (iJ ⟨⟨d,c,f⟩,b⟩)with y | y
  ·have z:lH ⟨⟨d,c,f⟩,b⟩=List.replicate 13 0:=by unfold lH;rw[if_pos y]
   rw[z]
   have F:al (1 :: (bJ ⟨q,a_3,p⟩++([u8 (a / 65536),u8 (a / 256),u8 a]++(cR ⟨⟨k,m,o⟩,j⟩++[u8 i])))++(List.replicate 13 0++aH l))=al (1 :: (bJ ⟨q,a_3,p⟩++([u8 (a / 65536),u8 (a / 256),u8 a]++(cR ⟨⟨k,m,o⟩,j⟩++[u8 i])))++List.replicate 13 0)++al (aH l):=by rw[<-pS,G]
   rw[F]
   clear G F
   generalize al (aH l)=W at *
   simp[ak, *,eM,al,jy,bJ,cR,qP,Jr]
   refine tY (OU _ _ _ rfl rfl) ?_
   simp[*]
   refine⟨by omega,?_⟩
   rw[fC]
   ·simp[qP,Jr]
   ·simp only[ji];omega
  ·have z:lH ⟨⟨d,c,f⟩,b⟩=cR ⟨⟨d,c,f⟩,b⟩:=by unfold lH;rw[if_neg (by rw[y];decide)]
   rw[z]
   have F:al (1 :: (bJ ⟨q,a_3,p⟩++([u8 (a / 65536),u8 (a / 256),u8 a]++(cR ⟨⟨k,m,o⟩,j⟩++[u8 i])))++(cR ⟨⟨d,c,f⟩,b⟩++aH l))=al (1 :: (bJ ⟨q,a_3,p⟩++([u8 (a / 65536),u8 (a / 256),u8 a]++(cR ⟨⟨k,m,o⟩,j⟩++[u8 i])))++cR ⟨⟨d,c,f⟩,b⟩)++al (aH l):=by rw[<-pS,G]
   rw[F]
   have Y:=DM d c f b (by
    rcases H with h | h;· rw[h]at y;cases y
    ·omega) (by
      rcases H with h | h;· rw[h]at y;cases y
      ·omega)
   clear G F
   generalize al (aH l)=W at *
   simp[ak, *,eM,al,jy,bJ,cR,qP,Jr]
   exact⟨by omega,fC (by simp;omega)⟩
 ·simp[ak, *,eM,al,jy,bJ,cR,qP,Jr]
 ·simp[ak, *,eM,al,jy,bJ,cR,qP,Jr]
def z5(k:UInt8)(m:Int):Int:=if m<1 then 0 else if 64<m then 0 else if k=1 then 37+4 * m else if k=2 then 24 else if k=3 then 29 else 0
theorem M4(k:UInt8)(m:Int):au env 110 [a8 k,aI m]=some (aI (z5 k m)):=by
 refine ax rfl (by kernel_rfl) (sF _ _ _ _ λg=>?_)
 unfold z5
 by_cases a:m<1
 ·simp[ak, *,dX]
 ·by_cases b:64<m
  ·simp[ak, *,dX]
  ·have d:=IntWalk.i64_in (4 * m) (by omega)
   have e:=IntWalk.i64_in (37+4 * m) (by omega)
   by_cases k1:k=1
   ·simp[ak, *,dX]
   ·by_cases f:k=2
    ·simp[ak, *,dX]
    ·by_cases c:k=3<;>simp[ak, *,dX]
theorem IL{l:List Int}{x:AV}(m:Sl 1 (rows l) x)(N:l.length<100000)(v:UInt8)(u:UInt8)(a_3:UInt32)(B:UInt8)(z:Int)(w:UInt8)(A:UInt32)(C:UInt8)(o:Int)(f:Int)(e:UInt8)(b:UInt32)(j:UInt8)(c:Int)(d:UInt8)(a:UInt32){r:Ref}{H:ab}(O:H.get r=some ⟨17,[.agg [a8 v,a8 u,bc a_3,a8 B,aI z,a8 w,bc A,a8 C,aI o,aI f,a8 e,bc b,a8 j,aI c,a8 d,bc a,x]],false,false⟩){Q:AV->ab->Prop} :
 ∀(s:List Int)(k:Nat)(i:Int),l.drop k=s->k<=l.length->i=k->(∀y,y=aB (!decide (-1∈s))->Q y H) ->
 dZ env Tryz.f82 0 fI [(3,aI i),(1,.ptr r 0 0)] H Q:=by
 intro s
 induction s with
 | nil=>
  rintro k i hs hk rfl hQ
  obtain rfl:=drop_nil hs hk
  refine lu _ _ _ _ λg=>?_
  have I:=m.r
  simp[ak, *,fM]
  all_goals exact hQ _ (by simp)
 | cons n s D=>
  rintro k i hs hk rfl hQ
  obtain⟨J,M,q,G⟩:=drop_cons hs
  refine lu _ _ _ _ λg=>?_
  have L:=IntWalk.i64_in ((k:Int)+1) (by omega)
  have I:=m.r
  by_cases F:n = -1
  ·have t:=hQ (aB false) (by simp[F])
   clear hQ D
   simp[ak, *,fM,m.idx,rows,aR]
   all_goals exact t
  ·have p : ¬ -1=n:=λh=>F h.symm
   have E:=D (k+1) ((k:Int)+1) q (by omega) (by simp) (λy K=>hQ y (by rw[K];simp[p]))
   clear D hQ
   simp[ak, *,fM,m.idx,rows,aR]
   all_goals exact E
theorem K1(m:UInt8)(k:UInt8)(a_3:UInt32)(q:UInt8)(o:Int)(n:UInt8)(p:UInt32)(s:UInt8)(j:Int)(h:Int)(f:UInt8)(b:UInt32)(i:UInt8)(c:Int)(d:UInt8)(a:UInt32){x:AV}{l:List Int}(t:Sl 1 (rows l) x)(u:l.length<100000):au env 82 [.agg [a8 m,a8 k,bc a_3,a8 q,aI o,a8 n,bc p,a8 s,aI j,aI h,a8 f,bc b,a8 i,aI c,a8 d,bc a,x]]=some (aB (!decide (-1∈l))):=by
 refine ax rfl (by kernel_rfl) (rP _ _ _ λg=>?_)
 have v:=t.r
 simp[ak, *,mL]
 exact IL t u m k a_3 q o n p s j h f b i c d a (by simp) l 0 _ rfl (by omega) rfl (λy e=>by simp[e])
theorem MZ(k:UInt8)(j:UInt8)(a_3:UInt32)(p:UInt8)(n:Int)(m:UInt8)(o:UInt32)(q:UInt8)(i:Int)(f:Int)(e:UInt8)(b:UInt32)(h:UInt8)(c:Int)(d:UInt8)(a:UInt32){x:AV}{l:List Int}(s:Sl 1 (rows l) x)(v:l.length<100000):au env 35 [.agg [a8 k,a8 j,bc a_3,a8 p,aI n,a8 m,bc o,a8 q,aI i,aI f,a8 e,bc b,a8 h,aI c,a8 d,bc a,x]]=some (.agg [a8 k,a8 j,bc a_3,a8 p,aI n,a8 m,bc o,a8 q,aI i,aI f,a8 e,bc b,a8 h,aI c,a8 d,bc a,iT 1 (rows l)]):=by
 refine ax rfl (by kernel_rfl) (sE _ _ _ λg=>?_)
 have u:=s.r
 have w:l.length<=35184372088832/\l.length * 4<=140737488355328:=by omega
 by_cases t:rows l=[]
 ·simp[ak, *,j5,s.kq,iT]
 ·rw[rC 1 t]
  simp[ak, *,j5,s.kq]
theorem zn(D:UInt8)(C:UInt8)(a_3:UInt32)(v:UInt8)(u:Int)(t:UInt8)(E:UInt32)(K:UInt8)(s:Int)(i:Int)(p:UInt8)(n:UInt32)(q:UInt8)(c:Int)(d:UInt8)(a:UInt32)(F:UInt8)(z:UInt8)(w:UInt32)(H:UInt8)(B:Int)(A:UInt8)(I:UInt32)(G:UInt8)(J:Int)(o:Int)(b:UInt8)(e:UInt32)(k:UInt8)(j:Int)(f:UInt8)(h:UInt32){x y:AV}{l m:List Int}(L:Sl 1 (rows l) x)(M:Sl 1 (rows m) y)(R:l.length<1000000000)(X:m.length<1000000000):au env 43 [.agg [a8 D,a8 C,bc a_3,a8 v,aI u,a8 t,bc E,a8 K,aI s,aI i,a8 p,bc n,a8 q,aI c,a8 d,bc a,x],.agg [a8 F,a8 z,bc w,a8 H,aI B,a8 A,bc I,a8 G,aI J,aI o,a8 b,bc e,a8 k,aI j,a8 f,bc h,y]]=some (aB (mB (⟨D,⟨C,a_3,v⟩,u,⟨⟨⟨t,E,K⟩,s⟩,i⟩,⟨⟨p,n,q⟩,c⟩,⟨d,a⟩,l⟩:dY) (⟨F,⟨z,w,H⟩,B,⟨⟨⟨A,I,G⟩,J⟩,o⟩,⟨⟨b,e,k⟩,j⟩,⟨f,h⟩,m⟩:dY))):=by
 refine ax rfl (by kernel_rfl) (sG _ _ _ _ λg=>?_)
 have W:=MX L M (by omega)
 have P:=L.r
 have N:=M.r
 unfold mB
 cases S:decide (D=F) with
 | false=>simp[ak, *,cz,kT,eF]
 | true=>
 cases Q:(decide (C=z)&&decide (a_3=w)&&decide (v=H)) with
 | false=>simp[ak, *,cz,kT,eF]
 | true=>
 cases U:decide (u=B) with
 | false=>simp[ak, *,cz,kT,eF]
 | true=>
 cases T:(decide (t=A)&&decide (E=I)&&decide (K=G)&&decide (s=J)&&decide (i=o)) with
 | false=>simp[ak, *,cz,kT,eF]
 | true=>
 cases O:(decide (p=b)&&decide (n=e)&&decide (q=k)&&decide (c=j)) with
 | false=>simp[ak, *,cz,kT,eF]
 | true=>
 cases V:(decide (d=f)&&decide (a=h)) with
 | false=>simp[ak, *,cz,kT,eF]
 | true=>simp[ak, *,cz,kT,eF]
theorem xq{v:AV}{l:List UInt8}(k:Sl 1 (al l) v)(h:l.length=6):au env 111 [v]=some (.agg [a8 (fx l).lv,bc (fx l).cats,a8 (fx l).num]):=by
 obtain⟨a,b,c,d,e,f,rfl⟩:=EV h
 obtain⟨q,rfl,w⟩:=kz k (by simp[al])
 refine ax rfl (by kernel_rfl) (qY _ _ _ λg=>?_)
 have A:=b.toNat_lt
 have s:=c.toNat_lt
 have m:=d.toNat_lt
 have y:=e.toNat_lt
 have t:=IntWalk.i64_in ((b.toNat:Int)) (by omega)
 have u:=IntWalk.i64_in (256 * (b.toNat:Int)) (by omega)
 have x:=IntWalk.i64_in (256 * (b.toNat:Int)+c.toNat) (by omega)
 have n:=IntWalk.i64_in (256 * (256 * (b.toNat:Int)+c.toNat)) (by omega)
 have z:=IntWalk.i64_in (256 * (256 * (b.toNat:Int)+c.toNat)+d.toNat) (by omega)
 have p:=IntWalk.i64_in (256 * (256 * (256 * (b.toNat:Int)+c.toNat)+d.toNat)) (by omega)
 have o:=IntWalk.i64_in (256 * (256 * (256 * (b.toNat:Int)+c.toNat)+d.toNat)+e.toNat) (by omega)
 have j:val [b,c,d,e]=256 * (256 * (256 * (b.toNat:Int)+c.toNat)+d.toNat)+e.toNat:=by simp[val,we]
 have i:fx [a,b,c,d,e,f]=⟨a,u32 (val [b,c,d,e]),f⟩:=rfl
 rw[i,j]
 simp[ak, *,me]
 refine dI _ _ _ _ _ _ λg=>?_
 simp[ak, *,cV,al]
 refine dI _ _ _ _ _ _ λg=>?_
 simp[ak, *,cV,al]
 refine dI _ _ _ _ _ _ λg=>?_
 simp[ak, *,cV,al]
 refine dI _ _ _ _ _ _ λg=>?_
 simp[ak, *,cV,al]
 refine dI _ _ _ _ _ _ λg=>?_
 simp[ak, *,cV,al]
theorem Nl{d:AV}{l:List UInt8}(m:Sl 1 (al l) d)(o:l.length=13){r:Ref}{c0:aJ}{H:ab}(x:H.get r=some ⟨4,[.agg [a8 0,bc 0,a8 0,aI 0]],false,false⟩){Q:AV->ab->Prop}
 (f : ∀n,n=val (l.drop 6)->dZ env Tryz.f112 0 fh [(4,aI 13),(0,d),(3,aI n),(2,.ptr r 0 0)] H Q) :
 ∀(s:List UInt8)(k:Nat)(i a:Int),l.drop k=s->k<=l.length->i=k->6<=k->0<=a->a<256 ^ (k - 6)->we a s=val (l.drop 6) ->
 dZ env Tryz.f112 0 fh [(4,aI i),(0,d),(3,aI a),(2,.ptr r 0 0)] H Q:=by
 intro s
 induction s with
 | nil=>
  rintro k i a hs hk rfl h6 h0 h1 hV
  obtain rfl:=drop_nil hs hk
  rw[o]
  exact f a hV
 | cons b s h=>
  rintro k i a hs hk rfl h6 h0 h1 hV
  obtain⟨p,w,c,j⟩:=drop_cons hs
  have u:=b.toNat_lt
  have q:(256:Int) ^ (k - 6)<=256 ^ 6:=by
   have:=vT (k:=k - 6) 6 (by omega)
   exact this
  refine mX _ _ _ _ _ _ λg=>?_
  have t:=IntWalk.i64_in (256 * a) (by omega)
  have y:=IntWalk.i64_in (256 * a+b.toNat) (by omega)
  have v:=IntWalk.i64_in ((k:Int)+1) (by omega)
  have lt:(k:Int)<13:=by omega
  have e:=h (k+1) ((k:Int)+1) (256 * a+b.toNat) c (by omega) (by simp) (by omega) (by omega) (by
   rw[show k+1 - 6=(k - 6)+1 by omega,wZ];omega) (by rw[<-hV];rfl)
  clear h f
  simp[ak, *,j4,m.idx]
  all_goals exact e
theorem MY{v:AV}{l:List UInt8}(w:Sl 1 (al l) v)(t:l.length=13):au env 112 [v]=some (.agg [a8 (gM l).h.lv,bc (gM l).h.cats,a8 (gM l).h.num,aI (gM l).n]):=by
 refine ax rfl (by kernel_rfl) (uL _ _ _ λg=>?_)
 simp[ak, *,ot]
 refine Nl w t (c0:=default) (by simp) (λn u=>?_) (l.drop 6) 6 6 0 rfl (by omega) rfl (by omega) (by omega) (by simp) rfl
 refine mX _ _ _ _ _ _ λg=>?_
 have e:gM l=⟨fx l,n⟩:=by rw[u];rfl
 have A:fx (l.take 6)=fx l:=by
  obtain⟨a,b,c,d,e,f,g,i,j,k,m,n,o,rfl⟩:=vg t
  rfl
 rw[e]
 clear u e
 obtain⟨x,rfl,q⟩:=kz w (by simp;omega)
 have s:=λc q=>xq (v := .bl 1 (al (l.take 6)) c) (l:=l.take 6) (.inr ⟨c,rfl,q⟩) (by simp;omega)
 rw[A]at s
 have y:al (l.take 6)=(al l).take 6:=by simp[al]
 rw[y]at s
 have p:(al l).length=13:=by rw[fY,t]
 have z:=s x (by rw[p]at q;rw[lW,p];cases x with | none=>simp | some c=>simp at q ⊢;omega)
 clear s
 generalize fx l=ha at *
 simp[ak, *,j4]
theorem KE(a b c d:UInt8):word a b c d=(if val [a,b,c,d]=4294967295 then -1 else if val [a,b,c,d]<2147483648 then val [a,b,c,d] else val [a,b,c,d] - 4294967296)/\0<=val [a,b,c,d]/\val [a,b,c,d]<4294967296:=by
 have h:=sJ [a,b,c,d]
 simp only[ji,lV]at h
 have e:val [a,b,c,d]<4294967296:=by have:=h.2;simpa using this
 refine⟨?_,h.1,e⟩
 unfold word
 rw[IntKind.wrap_i32]
 split
 ·omega
 ·split<;>omega
theorem Tt(a b c d:UInt8):IntKind.i64.wrap (16777216 * (a.toNat:Int))=16777216 * (a.toNat:Int)/\IntKind.i64.wrap (65536 * (b.toNat:Int))=65536 * (b.toNat:Int) /\
 IntKind.i64.wrap (16777216 * (a.toNat:Int)+65536 * (b.toNat:Int))=16777216 * (a.toNat:Int)+65536 * (b.toNat:Int)/\IntKind.i64.wrap (256 * (c.toNat:Int))=256 * (c.toNat:Int) /\
 IntKind.i64.wrap (16777216 * (a.toNat:Int)+65536 * (b.toNat:Int)+256 * (c.toNat:Int))=16777216 * (a.toNat:Int)+65536 * (b.toNat:Int)+256 * (c.toNat:Int) /\
 16777216 * (a.toNat:Int)+65536 * (b.toNat:Int)+256 * (c.toNat:Int)+(d.toNat:Int)=val [a,b,c,d]/\IntKind.i64.wrap (val [a,b,c,d])=val [a,b,c,d]:=by
 have f:=a.toNat_lt
 have h:=b.toNat_lt
 have g:=c.toNat_lt
 have i:=d.toNat_lt
 have e:16777216 * (a.toNat:Int)+65536 * (b.toNat:Int)+256 * (c.toNat:Int)+(d.toNat:Int)=val [a,b,c,d]:=by simp[val,we];omega
 exact⟨IntWalk.i64_in _ (by omega),IntWalk.i64_in _ (by omega),IntWalk.i64_in _ (by omega),IntWalk.i64_in _ (by omega),IntWalk.i64_in _ (by omega),e,IntWalk.i64_in _ (by omega)⟩
theorem ID{bs:List UInt8}{x0:AV}(C:Sl 1 (al bs) x0)(hl:bs.length<1000000)(h4:bs.length % 4=0){Q:AV->ab->Prop} :
 ∀(m k:Nat)(s:List UInt8)(i:Int)(out:List Int)(K:AV)(H:ab),bs.drop k=s->s.length=4 * m->k<=bs.length->i=k->out.length<=k->Fr H->nx [50,57] 1 (rows out) H K->(out=[]->K=bF) ->
 (∀y f,(words s).all fw=true->nx [50,57] 1 (rows (out++words s)) f y->(out++words s=[]->y=bF)->Q (.tup [y,aI 0]) f)->((words s).all fw=false ->∀f,Q (.tup [bF,aI 8]) f) ->
 dZ env Tryz.f113 0 dD [(5,aI i),(4,K),(0,x0)] H Q:=by
 intro m
 induction m with
 | zero=>
  rintro k s i out K H hs B hk rfl ho hF hO hN hQ hQ2
  obtain rfl:s=[]:=uu.1 (by omega)
  have N:=congrArg List.length hs
  rw[lg,lV]at N
  have e1 : ¬((k:Int)+3<bs.length):=by omega
  have w1:=IntWalk.i64_in ((k:Int)+3) (by omega)
  have e2:(bs.length:Int).tmod 4=0:=by rw[zW (by omega)];omega
  have Zs:=λt xo yo=>mC env.P t xo yo .i64 (bs.length:Int) 4 (by decide)
  rw[e2]at Zs
  have hr:=C.r
  have F:=hQ K H rfl (by simpa [words] using hO) (by simpa [words] using hN)
  refine gy _ _ _ _ _ λg=>?_
  clear hQ hQ2 hO hN
  simp[ak, *,cU]
  all_goals exact F
 | succ m ih=>
  rintro k s i out K H hs B hk rfl ho hF hO hN hQ hQ2
  match s,B with
  | a :: b :: c :: d :: s,B=>
  simp only[ji]at B
  have N:=congrArg List.length hs
  rw[lg]at N
  simp only[ji]at N
  have R:bs.drop (k+4)=s:=by rw[<-lU,hs];rfl
  have hw:words (a :: b :: c :: d :: s)=word a b c d :: words s:=rfl
  rw[hw]at hQ hQ2
  have L : ∀j,(bs.drop k)[j]?=bs[k+j]?:=λj=>wA
  rw[hs]at L
  have ga:bs[k]?=some a:=(L 0).symm
  have gb:bs[k+1]?=some b:=(L 1).symm
  have gc:bs[k+2]?=some c:=(L 2).symm
  have gd:bs[k+3]?=some d:=(L 3).symm
  clear L
  have w1:=IntWalk.i64_in ((k:Int)+1) (by omega)
  have w2:=IntWalk.i64_in ((k:Int)+2) (by omega)
  have w3:=IntWalk.i64_in ((k:Int)+3) (by omega)
  have w4:=IntWalk.i64_in ((k:Int)+4) (by omega)
  have l1:(k:Int)<bs.length/\(k:Int)+1<bs.length/\(k:Int)+2<bs.length/\(k:Int)+3<bs.length:=by omega
  have l2:0<=(k:Int)/\0<=(k:Int)+1/\0<=(k:Int)+2/\0<=(k:Int)+3:=by omega
  have l3:((k:Int)+1).toNat=k+1/\((k:Int)+2).toNat=k+2/\((k:Int)+3).toNat=k+3:=by omega
  have f1:out.length+1<=35184372088832:=by omega
  have f2:(out.length+1) * 4<=140737488355328:=by omega
  have a1:k+4<=bs.length:=by omega
  have a2:(out++[word a b c d]).length<=k+4:=by simp;omega
  have a3:s.length=4 * m:=by omega
  obtain⟨v1,v2,v3,v4,v5,eV,v6⟩:=Tt a b c d
  obtain⟨x,u0,u1⟩:=KE a b c d
  have l1:(k:Int)<bs.length/\(k:Int)+1<bs.length/\(k:Int)+2<bs.length/\(k:Int)+3<bs.length:=by omega
  have l2:0<=(k:Int)/\0<=(k:Int)+1/\0<=(k:Int)+2/\0<=(k:Int)+3:=by omega
  have l3:((k:Int)+1).toNat=k+1/\((k:Int)+2).toNat=k+2/\((k:Int)+3).toNat=k+3:=by omega
  have hr:=C.r
  have S:=λu f=>ih (k+4) s ((k:Int)+4) (out++[word a b c d]) u f R a3 a1 (by simp) a2
  have q : ∀(t g m:Nat)(f:ab),t=50\/t=57->m=out.length+1->f.get ⟨0,t,g,0⟩=some ⟨1,rows out++[aR (word a b c d)],true,false⟩->nx [50,57] 1 (rows (out++[word a b c d])) f (.bD ⟨0,t,g,0⟩ 0 m none):=by
   intro t g m f z B h
   subst B
   have e:rows (out++[word a b c d])=rows out++[aR (word a b c d)]:=by simp[rows]
   rw[e]
   exact .inr ⟨t,g,by simpa using z,by simp,h⟩
  have p:fw (word a b c d)=true ->∀u f,Fr f->nx [50,57] 1 (rows (out++[word a b c d])) f u->dZ env Tryz.f113 0 dD [(5,aI ((k:Int)+4)),(4,u),(0,x0)] f Q:=λA u f Zt W=>S u f Zt W (λe=>by simp at e)
   (λy f h1 h2 h3=>hQ y f (by simp[A,h1]) (by simpa using h2) (λe=>by simp at e)) (λh1 f=>hQ2 (by simp[A,h1]) f)
  have l:fw (word a b c d)=false ->∀f,Q (.tup [bF,aI 8]) f:=λA f=>hQ2 (by simp[A]) f
  clear a1 a2 a3 S hQ hQ2 ih hs R hw N B hl
  generalize words s=ws at *
  by_cases I:val [a,b,c,d]=4294967295
  ·have V:word a b c d = -1:=by rw[x,if_pos I]
   rw[V]at q p l
   have o:=p (by decide)
   clear p l x
   refine gy _ _ _ _ _ λg=>?_
   rcases hO with ⟨rfl,X⟩ | ⟨t,Y,z,rfl,G⟩
   ·have J:out=[]:=by simpa using X
    subst J
    have n:=q 50 (H.gen 0 50) 1
    clear q
    simp[ak, *,cU,C.idx]
    exact o _ _ (by simp(maxDischargeDepth:=12) [ov, *]) (n _ (.inl rfl) rfl (by simp[aR]))
   ·have l6:(H.get ⟨0,t,Y,0⟩).isSome=true:=by rw[G];rfl
    have D:t=50\/t=57:=by simpa using z
    have E:t≠49:=by rintro rfl;simp at z
    have O : ¬49=t:=λe=>E e.symm
    have f4:ql 1 4 out.length true none (some ⟨1,rows out,true,false⟩) (some [.v (.int .i32 (-1))]):=by
     rw[aG];refine⟨rfl,by simp,.inr ⟨?_,rfl⟩⟩;simpa using f2
    have n:=λm f=>q t (H.gen 0 t) m f D
    clear q z
    simp[ak, *,cU,C.idx]
    exact o _ _ (by simp(maxDischargeDepth:=12) [ov, *]) (n _ _ (by simp) (by simp[aR]))
  ·cases T:pC (val [a,b,c,d]) with
   | false=>
    have hq:fw (word a b c d)=false:=by
     rw[x,if_neg I]
     simp only[pC,HJ,Dz,decide_eq_false_iff_not]at T
     simp only[fw,HJ,Dz,decide_eq_false_iff_not]
     split<;>omega
    have F:=l hq H
    have Z:=M7 (val [a,b,c,d])
    rw[T]at Z
    clear p q l x hq hO hN
    refine gy _ _ _ _ _ λg=>?_
    simp[ak, *,cU,C.idx]
    all_goals exact F
   | true=>
    have A:val [a,b,c,d]<2147483648/\fw (val [a,b,c,d])=true:=by
     simp only[pC,jh,aY,decide_eq_true_eq]at T
     simp only[fw,jh,aY,decide_eq_true_eq]
     omega
    have V:word a b c d=val [a,b,c,d]:=by rw[x,if_neg I,if_pos A.1]
    rw[V]at q p l
    have o:=p A.2
    have Z:=M7 (val [a,b,c,d])
    rw[T]at Z
    have U:IntKind.i32.wrap (val [a,b,c,d])=val [a,b,c,d]:=by rw[IntKind.wrap_i32];omega
    have M:=λ(g:cf)(r:Ref)=>na (P:=env.P) (g:=g) (r:=r) (src:=3) (dst:=21) .i32 (k' := .i64) (by kernel_rfl) (by kernel_rfl) (val [a,b,c,d])
    rw[U]at M
    clear p l x A V T U
    generalize val [a,b,c,d]=w at *
    refine gy _ _ _ _ _ λg=>?_
    rcases hO with ⟨rfl,X⟩ | ⟨t,Y,z,rfl,G⟩
    ·have J:out=[]:=by simpa using X
     subst J
     have n:=q 57 (H.gen 0 57) 1
     clear q
     simp[ak, *,cU,C.idx]
     exact o _ _ (by simp(maxDischargeDepth:=12) [ov, *]) (n _ (.inr rfl) rfl (by simp[aR]))
    ·have l6:(H.get ⟨0,t,Y,0⟩).isSome=true:=by rw[G];rfl
     have D:t=50\/t=57:=by simpa using z
     have E:t≠56:=by rintro rfl;simp at z
     have O : ¬56=t:=λe=>E e.symm
     have f4:ql 1 4 out.length true none (some ⟨1,rows out,true,false⟩) (some [.v (.int .i32 w)]):=by
      rw[aG];refine⟨rfl,by simp,.inr ⟨?_,rfl⟩⟩;simpa using f2
     have n:=λm f=>q t (H.gen 0 t) m f D
     clear q z
     simp[ak, *,cU,C.idx]
     exact o _ _ (by simp(maxDischargeDepth:=12) [ov, *]) (n _ _ (by simp) (by simp[aR]))
end
section
attribute [local simp] bn aO aE aQ aP cy ld bp aG aU cZ cY aX bo ar bS fC
attribute [local simp] s9 TM dt
@[simp] theorem PG(n:Int)(a:0<=n):au env 50 [aI n,aI 4]=some (.bl 1 (al (be 4 n)) none):=by
 refine ax rfl (by kernel_rfl) (sv _ _ _ _ λg=>?_)
 have b:IntKind.i64.wrap (-1) = -1:=rfl
 have c:IntKind.i64.wrap 0=0:=rfl
 simp[ak, *,oT]
 refine dv _ _ _ _ _ λg=>?_
 simp[ak, *,cT,dq,cK]
 refine dv _ _ _ _ _ λg=>?_
 simp[ak, *,cT,dq,cK]
 refine dv _ _ _ _ _ λg=>?_
 simp[ak, *,cT,dq,cK]
 refine dv _ _ _ _ _ λg=>?_
 simp[ak, *,cT,dq,cK]
 refine dv _ _ _ _ _ λg=>?_
 simp[ak, *,cT,qP,al]
@[simp] theorem PH(n:Int)(a:0<=n):au env 50 [aI n,aI 3]=some (.bl 1 (al (be 3 n)) none):=by
 refine ax rfl (by kernel_rfl) (sv _ _ _ _ λg=>?_)
 have b:IntKind.i64.wrap (-1) = -1:=rfl
 have c:IntKind.i64.wrap 0=0:=rfl
 simp[ak, *,oT]
 refine dv _ _ _ _ _ λg=>?_
 simp[ak, *,cT,dq,cK]
 refine dv _ _ _ _ _ λg=>?_
 simp[ak, *,cT,dq,cK]
 refine dv _ _ _ _ _ λg=>?_
 simp[ak, *,cT,dq,cK]
 refine dv _ _ _ _ _ λg=>?_
 simp[ak, *,cT,QT,al]
theorem Ix{x5:AV}{Q:AV->ab->Prop}{l:List UInt8}(j:Sl 1 (al l) x5)(n:l.length<=7) : ∀(s:List UInt8)(k:Nat)(i a:Int)(H:ab),l.drop k=s->k<=l.length->i=k->0<=a->a<256 ^ k ->
 (∀y h,y=aI (we a s)->Q y h) ->
 dZ env Tryz.f61 0 lP [(7,aI i),(2,aI a),(5,x5),(6,aI l.length)] H Q:=by
 intro s
 induction s with
 | nil=>
  rintro k i a H hs hk rfl h0 h1 hQ
  obtain rfl:=drop_nil hs hk
  refine su _ _ _ _ _ _ λg=>?_
  simp[ak, *,oS]
  exact hQ _ _ rfl
 | cons b s m=>
  rintro k i a H hs hk rfl h0 h1 hQ
  obtain⟨f,t,c,d⟩:=drop_cons hs
  refine su _ _ _ _ _ _ λg=>?_
  have u:=b.toNat_lt
  have q:=vT (k:=k) 6 (by omega)
  have e:=J5 h0 (by omega) b
  have o:=IntWalk.i64_in (a * 256) (by omega)
  have p:=IntWalk.i64_in ((k:Int)+1) (by omega)
  simp[ak, *,oS,yf,j.idx]
  exact m (k+1) _ _ _ c (by omega) (by simp) (by omega) (by rw[wZ];omega) hQ
@[simp] theorem EW{x:AV}{l:List UInt8}(a:Sl 1 (al l) x)(b:l.length<=7):au env 61 [x]=some (aI (val l)):=by
 refine ax rfl (by kernel_rfl) (Bx _ _ _ λg=>?_)
 have h:=a.len
 simp[ak, *,vC]
 exact Ix a b l 0 _ _ _ rfl (by omega) rfl (by omega) (by simp) (λy c e=>by simp[e,val])
def jK(st nu a of:Int):Bool:=decide (1<=st)&&decide (st<2147483648)&&decide (1<=nu)&&decide (nu<16777216)&&decide (1<=of)&&decide (of<=4)&&decide (0<=a)&&decide (a<of)
@[simp] theorem VN(st nu a of:Int):au env 47 [.agg [aI st,aI nu,aI a,aI of]]=some (aB (jK st nu a of)):=by
 refine ax rfl (by kernel_rfl) (C7 _ _ _ λg=>?_)
 simp[ak, *,wT]
 repeat' ((first | apply td<;>intro h | apply oN<;>intro h | apply oO<;>intro h | apply oL<;>intro h | apply oM<;>intro h)<;>(try simp only[decide_eq_true_eq,decide_eq_false_iff_not,gE,rn,aY,jh]at h)<;>(try simp[ak, *,jK]))
 all_goals (try (simp[jK];omega))
structure Hd where
 st:Int
 nu:Int
 ix:Int
 of:Int
deriving DecidableEq
def Hd.val(h:Hd):AV := .agg [aI h.st,aI h.nu,aI h.ix,aI h.of]
def eS(b:List UInt8):Hd:=⟨Ab.val (b.take 4),Ab.val ((b.drop 4).take 3),(b.getD 7 0).toNat,(b.getD 8 0).toNat⟩
def iA(b:List UInt8):Bool:=decide (b.length=128)&&jK (eS b).st (eS b).nu (eS b).ix (eS b).of
theorem DI{x:AV}{b:List UInt8}(h:Sl 1 (al b) x):au env 33 [x]=some (if iA b then .tup [(eS b).val,aI 0] else .tup [(⟨0,0,0,0⟩:Hd).val,aI 8]):=by
 refine ax rfl (by kernel_rfl) (Bz _ _ _ λg=>?_)
 have m:=h.r
 unfold iA
 by_cases k:b.length=128
 ·have e:(b.length:Int)=128:=by omega
  obtain⟨d,rfl,a⟩:=kz h (by simp;omega)
  rw[fY]at a
  have r4:=λc=>EW (x := .bl 1 (al (b.take 4)) c) (l:=b.take 4)
  have r3:=λc=>EW (x := .bl 1 (al ((b.drop 4).take 3)) c) (l:=(b.drop 4).take 3)
  have r4:=r4 d (by rw[OZ];cases d<;>simp at a ⊢ <;> omega) (by simp;omega)
  have r3:=r3 (d.map (· - 4)) (by rw[OZ];cases d<;>simp at a ⊢ <;> omega) (by simp;omega)
  have i:b.getD 7 0=b[7]'(by omega):=by rw[List.getD_eq_getElem?_getD,cw (by omega)];rfl
  have f:b.getD 8 0=b[8]'(by omega):=by rw[List.getD_eq_getElem?_getD,cw (by omega)];rfl
  unfold Hd.val eS
  rw[i,f]
  clear i f
  have j:(4:Int)<=d.getD b.length:=by omega
  cases n:jK (Ab.val (b.take 4)) (Ab.val ((b.drop 4).take 3)) (b[7]'(by omega)).toNat (b[8]'(by omega)).toNat with
  | false=>simp[ak, *,nU,CS,yJ]
  | true=>simp[ak, *,nU,CS,yJ]
 ·have e : ¬(b.length:Int)=128:=by omega
  simp[ak, *,nU,Hd.val]
theorem Ao{P:Program}{t t':TypeId}(v:pK P t=true)(c:isInt P t'=true)(x:(gN P t).cells.all AV.one=true){H:ab}{r q:Ref}{es:List AV}{fz:Bool}(A:H.get q=some ⟨jf P t,es,true,fz⟩)(n:Nat)(E:(n:Int)<=aX)(B:(es.length+n) * pw P t<=aX) :
 cS P true H r (some t) (some t') (.bD q 0 es.length none) (aI n)=if n=0 then some (.bD q 0 es.length none,H) else some (.bD ⟨q.d,q.t,H.gen q.d q.t,0⟩ 0 (es.length+n) none,(⟨q.d,q.t,H.gen q.d q.t,0⟩,some ⟨jf P t,es++List.replicate n (gN P t),true,fz⟩) :: H.put q none):=by
 unfold pK at v
 obtain⟨e,zz,o,j,p,f,k,G,m,g⟩:=gk v
 have D:gN P t=zz:=by unfold gN;rw[o,dF,f];rfl
 rw[D]at x ⊢
 have i:(P.underlying t').isNone=false:=by
  unfold isInt at c
  cases h:P.underlying t' with
  | none=>rw[h]at c;cases c
  | some d=>rfl
 have s : ¬((P.underlying t').isNone=true\/isInt P t'≠isNum (aI n)):=by rw[i,c];simp[isNum]
 have u : ¬(jf P t≠jf P t\/jf P t=0\/pw P t=0\/zz.cells.length≠jf P t):=by simp[k,m,g]
 have a:kn P H.get e (aI n)=some (jf P t,List.replicate n zz):=by
  show(match ei P e,av P e with | some w,some z=>if 0<=(n:Int)/\(n:Int)<=aX/\w.cells.length=z/\w.cells.all AV.one then some (z,List.replicate (n:Int).toNat w) else none | _,_=>none)=_
  rw[f,j]
  exact if_pos ⟨by omega,E,by simp[k,m,g],x⟩
 have y : ¬(jf P t≠jf P t\/true=false):=by simp
 by_cases b:n=0
 ·subst b
  simp only[cS,dy,dF,o,Option.map_some,bO,if_neg s,j,p,f,a,if_neg u,A,if_neg y,Ez,if_true]
  rfl
 ·have C:List.replicate n zz≠[]:=by
   intro h
   have:=congrArg List.length h
   simp only[zU,lV]at this
   omega
  have l : ¬(jf P t≠jf P t\/jf P t=0\/pw P t=0\/List.replicate n zz=[]\/zz.cells.length≠jf P t):=by simp[k,m,g,b]
  have F:(0=0/\true=true/\jf P t=jf P t/\es.length=es.length/\(es.length+(List.replicate n zz).length) * pw P t<=aX):=⟨rfl,rfl,rfl,rfl,by rw[zU];exact B⟩
  rw[if_neg b]
  simp only[cS,dy,gT,dF,o,Option.map_some,bO,if_neg s,j,p,f,a,if_neg u,if_neg l,if_neg C,A,if_neg y,zU,true_and,if_pos B]
  rfl
def j9(st nu of i:Int)(x:List UInt8):List UInt8:=be 4 st++(be 3 nu++([u8 i,u8 of]++(x++List.replicate (119 - x.length) 0)))
def m9(st nu of:Int):Int->List (List UInt8)->List (List UInt8)
 | _,[]=>[]
 | i,x :: xs=>j9 st nu of i x :: m9 st nu of (i+1) xs
def zt:Nat->List UInt8->List (List UInt8)
 | 0,_=>[]
 | m+1,s=>if s=[] then [] else s.take 119 :: zt m (s.drop 119)
def Dr(b:List UInt8):AV := .bl 1 (al b) none
def ij(l:List (List UInt8)):List AV:=l.map Dr
@[simp] theorem U8(l:List (List UInt8)):(ij l).length=l.length:=by simp[ij]
theorem Jp(l:List (List UInt8))(b:List UInt8):ij l++[AV.bl 1 (al b) none]=ij (l++[b]):=by simp[ij,Dr]
theorem PM(st nu of i:Int)(x:List UInt8)(a:Option Nat)(b:x.length<=a.getD x.length)(c:x.length<=119):au env 49 [.bl 1 [.bl 1 (al (be 4 st)) none,.bl 1 (al (be 3 nu)) none,.bl 1 [a8 (u8 i),a8 (u8 of)] (some 2),.bl 1 (al x) a] (some 4)] =
 some (.fsl 1 (al (be 4 st++(be 3 nu++([u8 i,u8 of]++x)))) none):=by
 have e:iX [(be 4 st,AV.bl 1 (al (be 4 st)) none),(be 3 nu,.bl 1 (al (be 3 nu)) none),([u8 i,u8 of],.bl 1 [a8 (u8 i),a8 (u8 of)] (some 2)),(x,.bl 1 (al x) a)]=be 4 st++(be 3 nu++([u8 i,u8 of]++x)):=by
  simp only[iX,kZ,y8,pQ]
 rw[<-e]
 refine BZ (ps:=[(be 4 st,AV.bl 1 (al (be 4 st)) none),(be 3 nu,.bl 1 (al (be 3 nu)) none),([u8 i,u8 of],.bl 1 [a8 (u8 i),a8 (u8 of)] (some 2)),(x,.bl 1 (al x) a)]) (.inr ⟨some 4,rfl,by simp⟩) ?_ (by simp) (by rw[e];simp;omega) (by rw[e];simp;omega)
 intro p hp
 simp only[eU,uV,or_false]at hp
 rcases hp with rfl | rfl | rfl | rfl
 ·exact Sl.mk _ _
 ·exact Sl.mk _ _
 ·exact .inr ⟨some 2,rfl,by simp⟩
 ·exact Sl.Qp (by simpa using b)
structure C0 (r r6 r10 r5 r4:Ref) (info:AV) (st nu of:Int) (H:ab) (out:List (List UInt8)):Prop where
 fr:Fr H
 mark:H.get r=some (c9 0 info)
 ne:r6≠r/\r10≠r/\r5≠r/\r4≠r/\r10≠r6/\r5≠r6/\r4≠r6
 b10:H.get r10=some ⟨1,[aI of],false,false⟩
 b5:H.get r5=some ⟨1,[aI nu],false,false⟩
 b4:H.get r4=some ⟨1,[aI st],false,false⟩
 box:(H.get r6=some ⟨1,[bF],false,false⟩/\out=[]) \/∃q:Ref,q.d=2/\q.t=56/\q.k=0/\q≠r/\q≠r6/\q≠r10/\q≠r5/\q≠r4/\H.get r6=some ⟨1,[.bD q 0 out.length none],false,false⟩/\H.get q=some ⟨1,ij out,true,false⟩/\0<out.length
theorem P7(st nu of i:Int)(x:List UInt8):be 4 st++(be 3 nu++([u8 i,u8 of]++x))++List.replicate (119 - x.length) 0=j9 st nu of i x:=by
 simp[j9]
theorem Lp{r r6 r10 r5 r4:Ref}{tm:List AV}{H:ab}{st nu of:Int}{out:List (List UInt8)}(Z:0<=st)(h1:0<=nu)(t6:bZ tm 6 = .ptr r6 0 0)(Zt:bZ tm 10 = .ptr r10 0 0)(t5:bZ tm 5 = .ptr r5 0 0)(t4:bZ tm 4 = .ptr r4 0 0)
 (N:C0 r r6 r10 r5 r4 (.lp 0 58 [35] aM aL tm) st nu of H out) (K:out.length<1000000) (x:List UInt8) (W:x.length<=119) (m:Option Nat) (k:x.length<=m.getD x.length) :
 ∃y c,dA env 1 (.yld r) [.bl 1 (al x) m] H=some (y,c)/\(y=aB true/\C0 r r6 r10 r5 r4 (.lp 0 58 [35] aM aL tm) st nu of c (out++[j9 st nu of out.length x])):=by
 refine D0 (fn:=Tryz.f21) (dep:=1) N.mark (by kernel_rfl) rfl rfl (by kernel_rfl) (by kernel_rfl) ?_
 rw[<-yl (s:=bZ (qF tm [35] [.bl 1 (al x) m])) (l:=[(6,.ptr r6 0 0),(10,.ptr r10 0 0),(5,.ptr r5 0 0),(4,.ptr r4 0 0),(35,.bl 1 (al x) m)]) (by
  intro p hp
  simp only[eU,uV,or_false]at hp
  rcases hp with rfl | rfl | rfl | rfl | rfl<;>(show bZ (xj tm 35 _) _=_;rw[oB];simp[*]))]
 refine(wc r _ _ _ _ _ _ _ λg=>?_).h _
 obtain⟨fr,mark,⟨n1,n2,C,v,w,G,u⟩,b10,b5,b4,box⟩:=N
 have m1:=n1.symm
 have m2:=n2.symm
 have m3:=C.symm
 have m4:=v.symm
 have m5:=w.symm
 have m6:=G.symm
 have m7:=u.symm
 have l1:(H.get r).isSome=true:=by rw[mark];rfl
 have Zs:(H.get r10).isSome=true:=by rw[b10];rfl
 have l5:(H.get r5).isSome=true:=by rw[b5];rfl
 have l4:(H.get r4).isSome=true:=by rw[b4];rfl
 have k4:=PG st Z
 have k3:=PH nu h1
 have j:=PM st nu of out.length x m k W
 have T:=P7 st nu of out.length x
 have i:(be 4 st++(be 3 nu++([u8 (out.length:Int),u8 of]++x))).length=9+x.length:=by simp;omega
 generalize be 4 st++(be 3 nu++([u8 (out.length:Int),u8 of]++x))=B at *
 have M:IntKind.i64.wrap (128 - (9+(x.length:Int)))=((119 - x.length:Nat):Int):=by rw[IntWalk.i64_in _ (by omega)];omega
 have f:=Ao (P:=env.P) (t:=27) (t':=3) (by kernel_rfl) (by kernel_rfl) (by kernel_rfl) (H:=({ d:=2,t:=48,g:=H.gen 2 48},some { esz:=1,es:=al B,arr:=true,fN:=false}) :: H.put r (some (c9 1 (AV.lp 0 58 [35] aM aL tm)))) (r:=⟨2,54,H.gen 2 54,0⟩) (q:=⟨2,48,H.gen 2 48,0⟩) (es:=al B) (fz:=false) (by simp) (119 - x.length) (by simp[aX];omega) (by rw[show pw env.P 27=1 from by kernel_rfl];simp[aX];omega)
 rw[fY,i,show jf env.P 27=1 from by kernel_rfl,show gN env.P 27=a8 0 from by kernel_rfl]at f
 have a:al B++List.replicate (119 - x.length) (a8 0)=al (j9 st nu of out.length x):=by rw[<-T];simp[al]
 clear T k
 rcases box with ⟨z,rfl⟩ | ⟨q,Q,L,R,p1,X,Y,U,V,z,hq,S⟩
 ·have l6:(H.get r6).isSome=true:=by rw[z];rfl
  rw[show u8 (([]:List (List UInt8)).length:Int)=0 from rfl]at j
  have O:ij ([]++[j9 st nu of ((([]:List (List UInt8)).length:Nat):Int) x])=[AV.bl 1 (al (j9 st nu of ((([]:List (List UInt8)).length:Nat):Int) x)) none]:=rfl
  have b : ∀c:ab,Fr c->c.get r=some (c9 0 (AV.lp 0 58 [35] aM aL tm))->c.get r10=some ⟨1,[aI of],false,false⟩->c.get r5=some ⟨1,[aI nu],false,false⟩->c.get r4=some ⟨1,[aI st],false,false⟩ ->
   c.get r6=some ⟨1,[.bD ⟨2,56,H.gen 2 56,0⟩ 0 1 none],false,false⟩->c.get ⟨2,56,H.gen 2 56,0⟩=some ⟨1,[AV.bl 1 (al (j9 st nu of ((([]:List (List UInt8)).length:Nat):Int) x)) none],true,false⟩ ->
   C0 r r6 r10 r5 r4 (AV.lp 0 58 [35] aM aL tm) st nu of c ([]++[j9 st nu of ((([]:List (List UInt8)).length:Nat):Int) x]):=λc J D n I A E F=>
   ⟨J,D,⟨n1,n2,C,v,w,G,u⟩,n,I,A,.inr ⟨⟨2,56,H.gen 2 56,0⟩,rfl,rfl,rfl,by simp(maxDischargeDepth:=12) [ov, *],by simp(maxDischargeDepth:=12) [ov, *],by simp(maxDischargeDepth:=12) [ov, *],by simp(maxDischargeDepth:=12) [ov, *],by simp(maxDischargeDepth:=12) [ov, *],E,by rw[O];exact F,by simp⟩⟩
  clear O
  by_cases e:x.length=119
  ·rw[if_pos (by omega),e,show 9+119=128 from rfl,show(((119 - 119:Nat)):Int)=0 from rfl]at f
   rw[e]at i M
   rw[e,uY,Ez,pQ]at a
   rw[<-a]at b
   clear a
   simp[ak, *,im,nL,ab.aj]
   refine⟨_,rfl,b _ ?_ ?_ ?_ ?_ ?_ ?_ ?_⟩<;>simp(maxDischargeDepth:=12) [ov, *]
  ·rw[if_neg (by omega),a,show 9+x.length+(119 - x.length)=128 by omega]at f
   have o:(al (j9 st nu of ((([]:List (List UInt8)).length:Nat):Int) x)).length=128:=by rw[<-a];simp;omega
   clear a
   generalize al (j9 st nu of ((([]:List (List UInt8)).length:Nat):Int) x)=BB at *
   simp[ak, *,im,nL,ab.aj]
   refine⟨_,rfl,b _ ?_ ?_ ?_ ?_ ?_ ?_ ?_⟩<;>simp(maxDischargeDepth:=12) [ov, *]
 ·have l6:(H.get r6).isSome=true:=by rw[z];rfl
  have l7:(H.get q).isSome=true:=by rw[hq];rfl
  have s1:=p1.symm
  have s2:=X.symm
  have s3:=Y.symm
  have s4:=U.symm
  have s5:=V.symm
  obtain⟨qd,qt,qg,qk⟩:=q
  simp only at Q L R
  subst Q L R
  have f1:out.length+1<=17592186044416:=by omega
  have f2:(out.length+1) * 24<=140737488355328:=by omega
  have b : ∀c:ab,Fr c->c.get r=some (c9 0 (AV.lp 0 58 [35] aM aL tm))->c.get r10=some ⟨1,[aI of],false,false⟩->c.get r5=some ⟨1,[aI nu],false,false⟩->c.get r4=some ⟨1,[aI st],false,false⟩ ->
   c.get r6=some ⟨1,[.bD ⟨2,56,H.gen 2 56,0⟩ 0 (out.length+1) none],false,false⟩->c.get ⟨2,56,H.gen 2 56,0⟩=some ⟨1,ij out++[AV.bl 1 (al (j9 st nu of out.length x)) none],true,false⟩ ->
   C0 r r6 r10 r5 r4 (AV.lp 0 58 [35] aM aL tm) st nu of c (out++[j9 st nu of out.length x]):=λc J D n I A E F=>
   ⟨J,D,⟨n1,n2,C,v,w,G,u⟩,n,I,A,.inr ⟨⟨2,56,H.gen 2 56,0⟩,rfl,rfl,rfl,by simp(maxDischargeDepth:=12) [ov, *],by simp(maxDischargeDepth:=12) [ov, *],by simp(maxDischargeDepth:=12) [ov, *],by simp(maxDischargeDepth:=12) [ov, *],by simp(maxDischargeDepth:=12) [ov, *],by rw[E];simp,by rw[F,Jp],by simp⟩⟩
  by_cases e:x.length=119
  ·rw[if_pos (by omega),e,show 9+119=128 from rfl,show(((119 - 119:Nat)):Int)=0 from rfl]at f
   rw[e]at i M
   rw[e,uY,Ez,pQ]at a
   rw[<-a]at b
   clear a
   simp[ak, *,im,nL,ab.aj]
   refine⟨_,rfl,b _ ?_ ?_ ?_ ?_ ?_ ?_ ?_⟩<;>simp(maxDischargeDepth:=12) [ov, *]
  ·rw[if_neg (by omega),a,show 9+x.length+(119 - x.length)=128 by omega]at f
   have o:(al (j9 st nu of out.length x)).length=128:=by rw[<-a];simp;omega
   clear a
   generalize al (j9 st nu of out.length x)=BB at *
   simp[ak, *,im,nL,ab.aj]
   refine⟨_,rfl,b _ ?_ ?_ ?_ ?_ ?_ ?_ ?_⟩<;>simp(maxDischargeDepth:=12) [ov, *]
end
section
attribute [local simp] bn aO aE aQ aP cy ld bp aG aU cZ cY aX bo ar bS fC
@[simp] theorem X5(m:Nat):zt m []=[]:=by cases m<;>rfl
theorem GD{r r6 r10 r5 r4:Ref}{tm:List AV}{st nu of:Int}(I:0<=st)(P:0<=nu)(O:bZ tm 6 = .ptr r6 0 0)(v:bZ tm 10 = .ptr r10 0 0)(K:bZ tm 5 = .ptr r5 0 0)(G:bZ tm 4 = .ptr r4 0 0)
 {bs:List UInt8} {x:AV} (A:Sl 1 (al bs) x) (V:bs.length<100000) {Q:AV->ab->Prop} :
 ∀(m k:Nat)(s:List UInt8)(i:Int)(out:List (List UInt8)) (H:ab),bs.drop k=s->s.length<=119 * m->k<200000->i=k->out.length<=k ->
 C0 r r6 r10 r5 r4 (.lp 0 58 [35] aM aL tm) st nu of H out ->
 (∀y l,C0 r r6 r10 r5 r4 (.lp 0 58 [35] aM aL tm) st nu of l (out++m9 st nu of out.length (zt m s))->Q y l) ->
 dZ env Tryz.f92 (0+1) bU [(2,.iptr 1 [aI 119] 0 0),(4,aI i),(1,.iptr 1 [x] 0 0),(0,.yld r)] H Q:=by
 intro m
 have nil : ∀(m k:Nat)(out:List (List UInt8)) (H:ab),bs.drop k=[] ->
  (∀y l,C0 r r6 r10 r5 r4 (.lp 0 58 [35] aM aL tm) st nu of l (out++m9 st nu of out.length (zt m []))->Q y l)->C0 r r6 r10 r5 r4 (.lp 0 58 [35] aM aL tm) st nu of H out ->
  dZ env Tryz.f92 (0+1) bU [(2,.iptr 1 [aI 119] 0 0),(4,aI k),(1,.iptr 1 [x] 0 0),(0,.yld r)] H Q:=by
  intro m k out H d c j
  have q:=congrArg List.length d
  rw[lg,lV]at q
  have N : ¬(k:Int)<bs.length:=by omega
  have z:=A.r
  refine cF _ _ _ _ _ _ _ λg=>?_
  simp[ak, *,bX]
  exact c _ _ (by simpa [m9] using j)
 induction m with
 | zero=>
  rintro k s i out H d hm hk rfl ho j c
  obtain rfl:s=[]:=uu.1 (by omega)
  exact nil 0 k out H d c j
 | succ m C=>
  rintro k s i out H d hm hk rfl ho j c
  by_cases f:s=[]
  ·subst f;exact nil (m+1) k out H d c j
  have q:=congrArg List.length d
  rw[lg]at q
  have D:0<s.length:=xO.2 f
  have w:0<(al bs).length:=by simp;omega
  obtain⟨E,rfl,n⟩:=kz A w
  rw[fY]at n
  have u:bs.drop (k+119)=s.drop 119:=by rw[<-lU,d]
  have Y:(k:Int)<bs.length:=by omega
  have o:zt (m+1) s=s.take 119 :: zt m (s.drop 119):=by rw[zt,if_neg f]
  rw[o]at c
  clear nil o
  have M:(al bs).drop k=al s:=by rw[yJ,d]
  have X:=IntWalk.i64_in ((k:Int)+119) (by omega)
  obtain⟨y,l,B,rfl,p⟩:=Lp I P O v K G j (by omega) (s.take 119) (by simp;omega) (some (min 119 s.length)) (by simp)
  have e : ∀(y:AV)(b:ab),C0 r r6 r10 r5 r4 (.lp 0 58 [35] aM aL tm) st nu of b ((out++[j9 st nu of out.length (s.take 119)])++m9 st nu of (out++[j9 st nu of out.length (s.take 119)]).length (zt m (s.drop 119)))->Q y b:=λy b h=>c y b (by
   rw[pS,gG]at h
   simpa [m9] using h)
  have J:=C (k+119) (s.drop 119) ((k:Int)+119) (out++[j9 st nu of out.length (s.take 119)]) l u (by rw[lg];omega) (by omega) (by simp) (by simp;omega) p e
  clear C c e j p
  by_cases F:s.length<119
  ·have a:min 119 s.length=s.length:=by omega
   have t:s.take 119=s:=fC (by omega)
   rw[a,t]at B
   have c0:k<=bs.length:=by omega
   have W:(s.length:Int)<119:=by omega
   have T:IntKind.i64.wrap ((k:Int)+(s.length:Int))=bs.length:=by rw[IntWalk.i64_in _ (by omega)];omega
   have U:(k:Int)<=bs.length:=by omega
   have L:(bs.length:Int)<=E.getD bs.length:=by omega
   refine cF _ _ _ _ _ _ _ λg=>?_
   clear n
   simp[ak, *,bX,vx]
  ·have a:min 119 s.length=119:=by omega
   rw[a]at B
   have c0:k<=bs.length:=by omega
   have L : ¬(s.length:Int)<119:=by omega
   have c4:(k:Int)+119<=E.getD bs.length:=by omega
   have R:(k:Int)+119<=bs.length:=by omega
   have c6:((k:Int)+119).toNat - k=119:=by omega
   have S:List.take 119 (al s)=al (s.take 119):=CS _ _
   have Z:(k:Int)<=k+119:=by omega
   refine cF _ _ _ _ _ _ _ λg=>?_
   clear n
   simp[ak, *,bX,vx]
theorem IM{r r6 r10 r5 r4:Ref}{tm:List AV}{st nu of:Int}(k:0<=st)(l:0<=nu)(j:bZ tm 6 = .ptr r6 0 0)(b:bZ tm 10 = .ptr r10 0 0)(e:bZ tm 5 = .ptr r5 0 0)(i:bZ tm 4 = .ptr r4 0 0)
 {bs:List UInt8} {x:AV} (d:Sl 1 (al bs) x) (f:bs.length<100000) {m:Nat} (n:bs.length<=119 * m) {H:ab}
 (o:C0 r r6 r10 r5 r4 (.lp 0 58 [35] aM aL tm) st nu of H []) :
 ∃y a,dA env 0 (.fn 92) [.yld r,.iptr 1 [x] 0 0,.iptr 1 [aI 119] 0 0] H=some (y,a)/\C0 r r6 r10 r5 r4 (.lp 0 58 [35] aM aL tm) st nu of a (m9 st nu of 0 (zt m bs)):=by
 refine yw (fn:=Tryz.f92) (c:=jY) (by kernel_rfl) (by kernel_rfl) (by kernel_rfl) (by kernel_rfl) (by kernel_rfl) ?_
 refine jO _ _ _ _ _ _ λg=>?_
 simp[ak, *,gw]
 exact GD k l j b e i d f m 0 bs _ [] H rfl n (by omega) rfl (by simp) o (λy a h=>by simpa using h)
theorem Sy:ib = .code (.rangeFunc (.tmp 34) #[35] aM aL) :: pV:=by kernel_rfl
theorem Iv{bs:List UInt8}{x:AV}(a:Sl 1 (al bs) x):au env 48 [x,aI 119]=some (.fn (.func 92) [] [.iptr 1 [x] 0 0,.iptr 1 [aI 119] 0 0]):=by
 refine ax rfl (by kernel_rfl) (kL _ _ _ _ λg=>?_)
 have b:=a.r
 simp[ak, *,gZ]
def eQ.val(r:eQ)(x:AV):AV := .agg [a8 r.kind,aI r.user,a8 r.op.kind,a8 r.op.h.lv,bc r.op.h.cats,a8 r.op.h.num,aI r.op.serial,a8 r.op.s.f.h.lv,bc r.op.s.f.h.cats,a8 r.op.s.f.h.num,aI r.op.s.f.n,aI r.op.s.many,
 a8 r.op.a.h.lv,bc r.op.a.h.cats,a8 r.op.a.h.num,aI r.op.a.n,a8 r.op.to.lv,bc r.op.to.cats,x,aI r.code,aI r.gu,a8 r.gv,bc r.gc,aB r.gok]
def bB(r:eQ)(st nu:Int):List (List UInt8):=m9 st nu (jQ r) 0 (zt 3 (jL r))
def uC(r:eQ)(st nu:Int):AV:=if b9 r then (if jK st nu 0 (jQ r) then .tup [.bl 1 (ij (bB r st nu)) none,aI 0] else .tup [bF,aI 2]) else .tup [bF,aI 8]
theorem tJ{r:eQ}(h:b9 r=true):(jL r).length<=119 * 3/\8<=(jL r).length:=by
 rcases Cc h with ⟨_,e⟩ | ⟨_,e,a⟩ | ⟨_,e⟩
 ·omega
 ·have:=qE a;omega
 ·omega
theorem Nr{st nu of i:Int}{l:List (List UInt8)}(h:l≠[]):m9 st nu of i l≠[]:=by
 cases l with
 | nil=>exact absurd rfl h
 | cons a l=>simp[m9]
theorem CU{r:eQ}(h:b9 r=true)(st nu:Int):bB r st nu≠[]:=by
 refine Nr ?_
 have:=(tJ h).2
 rw[zt,if_neg (by intro e;rw[e]at this;simp at this)]
 simp
theorem Ge(r:eQ){x:AV}(Q:Sl 1 (rows r.op.l) x)(U:r.op.l.length<2000000)(st nu:Int):au env 21 [r.val x,aI st,aI nu]=some (uC r st nu):=by
 refine ax rfl (by kernel_rfl) (C8 _ _ _ _ _ λg=>?_)
 obtain⟨k,u,⟨C,⟨B,a_3,A⟩,t,⟨⟨⟨n,D,E⟩,m⟩,e⟩,⟨⟨i,f,j⟩,b⟩,⟨d,a⟩,l⟩,c,G,v,w,o⟩:=r
 simp only at Q U
 have W:=xn k u C B a_3 A t n D E m e i f j b d a c G v w o Q U
 have R:=BW k u C B a_3 A t n D E m e i f j b d a c G v w o Q U
 have hr:=Q.r
 unfold eQ.val uC
 simp only
 have I := @tJ ⟨k,u,(⟨C,⟨B,a_3,A⟩,t,⟨⟨⟨n,D,E⟩,m⟩,e⟩,⟨⟨i,f,j⟩,b⟩,⟨d,a⟩,l⟩:dY),c,G,v,w,o⟩
 have F := @CU ⟨k,u,(⟨C,⟨B,a_3,A⟩,t,⟨⟨⟨n,D,E⟩,m⟩,e⟩,⟨⟨i,f,j⟩,b⟩,⟨d,a⟩,l⟩:dY),c,G,v,w,o⟩
 have T := @JZ ⟨k,u,(⟨C,⟨B,a_3,A⟩,t,⟨⟨⟨n,D,E⟩,m⟩,e⟩,⟨⟨i,f,j⟩,b⟩,⟨d,a⟩,l⟩:dY),c,G,v,w,o⟩
 have J:bB ⟨k,u,(⟨C,⟨B,a_3,A⟩,t,⟨⟨⟨n,D,E⟩,m⟩,e⟩,⟨⟨i,f,j⟩,b⟩,⟨d,a⟩,l⟩:dY),c,G,v,w,o⟩ st nu=m9 st nu (jQ ⟨k,u,(⟨C,⟨B,a_3,A⟩,t,⟨⟨⟨n,D,E⟩,m⟩,e⟩,⟨⟨i,f,j⟩,b⟩,⟨d,a⟩,l⟩:dY),c,G,v,w,o⟩) 0 (zt 3 (jL ⟨k,u,(⟨C,⟨B,a_3,A⟩,t,⟨⟨⟨n,D,E⟩,m⟩,e⟩,⟨⟨i,f,j⟩,b⟩,⟨d,a⟩,l⟩:dY),c,G,v,w,o⟩)):=rfl
 cases K:b9 ⟨k,u,(⟨C,⟨B,a_3,A⟩,t,⟨⟨⟨n,D,E⟩,m⟩,e⟩,⟨⟨i,f,j⟩,b⟩,⟨d,a⟩,l⟩:dY),c,G,v,w,o⟩ with
 | false=>
  rw[K]at W
  generalize M:wg ⟨k,u,(⟨C,⟨B,a_3,A⟩,t,⟨⟨⟨n,D,E⟩,m⟩,e⟩,⟨⟨i,f,j⟩,b⟩,⟨d,a⟩,l⟩:dY),c,G,v,w,o⟩=z at *
  have V:z = .bl 1 [a8 k] (some 1) \/∃es,z = .bl 1 es none:=by
   rw[<-M];unfold wg
   split
   ·exact .inr ⟨_,rfl⟩
   ·split
    ·exact .inr ⟨_,rfl⟩
    ·split
     ·split
      ·exact .inr ⟨_,rfl⟩
      ·exact .inl rfl
     ·exact .inl rfl
  clear M T I F J R
  rcases V with rfl | ⟨es,rfl⟩<;>simp[ak, *,o4]
 | true=>
  rw[T K,K]at W
  rw[K,if_pos rfl]at R
  have I:=I K
  have F:=F K st nu
  rw[J]at F ⊢
  clear T J
  generalize (jQ ⟨k,u,(⟨C,⟨B,a_3,A⟩,t,⟨⟨⟨n,D,E⟩,m⟩,e⟩,⟨⟨i,f,j⟩,b⟩,⟨d,a⟩,l⟩:dY),c,G,v,w,o⟩:Int)=N at *
  generalize jL ⟨k,u,(⟨C,⟨B,a_3,A⟩,t,⟨⟨⟨n,D,E⟩,m⟩,e⟩,⟨⟨i,f,j⟩,b⟩,⟨d,a⟩,l⟩:dY),c,G,v,w,o⟩=bs at *
  clear K
  cases hh:jK st nu 0 N with
  | false=>
   clear F I
   simp[ak, *,o4]
  | true=>
   have V:=Iv (bs:=bs) (x := .bl 1 (al bs) none) (Sl.mk _ _)
   have h0:0<=st/\0<=nu:=by simp[jK]at hh;omega
   simp[ak, *,o4]
   rw[Sy]
   refine⟨λg'=>CF (gi:=92) (first:=[]) (captured:=[.iptr 1 [.bl 1 (al bs) none] 0 0,.iptr 1 [aI 119] 0 0]) rfl ?_⟩
   intro tm P
   have t6:bZ tm 6 = .ptr ⟨0,6,0,0⟩ 0 0:=(P 6).trans rfl
   have O:bZ tm 10 = .ptr ⟨0,10,0,0⟩ 0 0:=(P 10).trans rfl
   have t5:bZ tm 5 = .ptr ⟨0,5,0,0⟩ 0 0:=(P 5).trans rfl
   have Z:bZ tm 4 = .ptr ⟨0,4,0,0⟩ 0 0:=(P 4).trans rfl
   rw[show Tryz.f21.ntmps=58 from by kernel_rfl]
   generalize L:[AV.agg [a8 k,aI u,a8 C,a8 B,bc a_3,a8 A,aI t,a8 n,bc D,a8 E,aI m,aI e,a8 i,bc f,a8 j,aI b,a8 d,bc a,x,aI c,aI G,a8 v,bc w,aB o]]=cell
   obtain⟨y,H',X,hm⟩:=IM (r:=⟨0,58,0,0⟩) (r6:=⟨0,6,0,0⟩) (r10:=⟨0,10,0,0⟩) (r5:=⟨0,5,0,0⟩) (r4:=⟨0,4,0,0⟩) (tm:=tm) (of:=N) h0.1 h0.2 t6 O t5 Z (bs:=bs) (x := .bl 1 (al bs) none) (Sl.mk _ _) (by omega) I.1
    (H:=(⟨0,58,0,0⟩,some (c9 0 (.lp 0 58 [35] aM aL tm))) :: [(⟨0,10,0,0⟩,some ⟨1,[aI N],false,false⟩),(⟨0,6,0,0⟩,some ⟨1,[bF],false,false⟩),(⟨0,5,0,0⟩,some ⟨1,[aI nu],false,false⟩),(⟨0,4,0,0⟩,some ⟨1,[aI st],false,false⟩),(⟨0,3,0,0⟩,some ⟨24,cell,false,false⟩)])
    ⟨by simp(maxDischargeDepth:=12) [R9, *],by simp,by simp,by simp,by simp,by simp,.inl ⟨by simp,rfl⟩⟩
   refine⟨y,H',0,_,by simpa using X,by simp only[ab.CI,ab.Ki];rw[nL];exact(congrArg Wd hm.mark).trans (vo _ _),.inl ⟨rfl,?_⟩⟩
   have Y:=yl (s:=HB g' [(34,AV.fn (.func 92) [] [.iptr 1 [.bl 1 (al bs) none] 0 0,.iptr 1 [aI 119] 0 0]),(6,AV.ptr ⟨0,6,0,0⟩ 0 0),(10,AV.ptr ⟨0,10,0,0⟩ 0 0),(5,AV.ptr ⟨0,5,0,0⟩ 0 0),(4,AV.ptr ⟨0,4,0,0⟩ 0 0)]) (l:=[(6,AV.ptr ⟨0,6,0,0⟩ 0 0)]) (by
    intro p hp
    simp only[eU,uV,or_false]at hp
    subst hp
    rfl)
   rw[<-Y]
   refine(vf _ _ _ λg=>?_).h _
   obtain⟨fr,mark,⟨n1,_⟩,b10,b5,b4,S⟩:=hm
   clear Y X P t6 O t5 Z R W V I L b10 b5 b4
   generalize m9 st nu N 0 (zt 3 bs)=ws at *
   rcases S with ⟨hb,rfl⟩ | ⟨q,q1,q2,q3,p1,p2,p3,p4,p5,hb,hq,Zs⟩
   ·exact absurd rfl F
   ·have s1:=p1.symm
    have s2:=p2.symm
    simp[ak, *,pz,ab.aj]
theorem PT{bs:List UInt8}{x:AV}(o:Sl 1 (al bs) x){m:Nat}(s:bs.length=4 * m)(n:m<=64) :
 au env 113 [x]=some (if (words bs).all fw then .tup [mj (words bs),aI 0] else .tup [bF,aI 8]):=by
 refine ax rfl (by kernel_rfl) (tD _ _ _ λg=>?_)
 have p:=o.r
 have w : ¬((256:Int)<4 * m):=by omega
 obtain⟨b,a⟩ : ∃b,b=(if (words bs).all fw then AV.tup [mj (words bs),aI 0] else AV.tup [bF,aI 8]):=⟨_,rfl⟩
 rw[<-a]
 have d:=λH Q=>ID o (by omega) (by omega) (H:=H) (Q:=Q) m 0 bs 0 [] bF rfl s (by omega) rfl (by simp)
 have i : ∀y h,(words bs).all fw=true->nx [50,57] 1 (rows ([]++words bs)) h y->([]++words bs=[]->y=bF)->view h.get 8 (.tup [y,aI 0])=some b:=by
  intro y h j q c
  rw[pR]at q c
  rw[a,if_pos j]
  rcases q with ⟨rfl,k⟩ | ⟨t,v,u,rfl,p⟩
  ·have:words bs=[]:=by simpa using k
   rw[this];rfl
  ·have l:words bs≠[]:=λe=>by cases c e
   have k:mj (words bs) = .bl 1 (rows (words bs)) none:=by unfold mj;rw[if_neg l]
   rw[k]
   generalize words bs=ws at *
   simp[p]
 have f:(words bs).all fw=false ->∀h:ab,view h.get 8 (.tup [bF,aI 8])=some b:=by
  intro j h
  rw[a,if_neg (by rw[j];decide)]
  simp
 clear a
 simp[ak, *,nX]
 exact d _ _ Fr.nil (.inl ⟨rfl,rfl⟩) (λ_=>rfl) i f
theorem Pv(a b c:UInt8):IntKind.i64.wrap (65536 * (a.toNat:Int))=65536 * (a.toNat:Int)/\IntKind.i64.wrap (256 * (b.toNat:Int))=256 * (b.toNat:Int) /\
 IntKind.i64.wrap (65536 * (a.toNat:Int)+256 * (b.toNat:Int))=65536 * (a.toNat:Int)+256 * (b.toNat:Int) /\
 65536 * (a.toNat:Int)+256 * (b.toNat:Int)+(c.toNat:Int)=val [a,b,c]/\IntKind.i64.wrap (val [a,b,c])=val [a,b,c]:=by
 have e:=a.toNat_lt
 have g:=b.toNat_lt
 have f:=c.toNat_lt
 have d:65536 * (a.toNat:Int)+256 * (b.toNat:Int)+(c.toNat:Int)=val [a,b,c]:=by simp[val,we];omega
 exact⟨IntWalk.i64_in _ (by omega),IntWalk.i64_in _ (by omega),IntWalk.i64_in _ (by omega),d,IntWalk.i64_in _ (by omega)⟩
theorem MO{k m:UInt8}(h:z5 k (m.toNat:Int)≠0):z5 k (m.toNat:Int)=(iR k m:Int)/\1<=m.toNat/\m.toNat<=64/\(k=1\/k=2\/k=3):=by
 unfold z5 at h ⊢
 unfold iR
 split at h
 ·exact absurd rfl h
 ·rename_i c
  rw[if_neg c]
  split at h
  ·exact absurd rfl h
  ·rename_i d
   rw[if_neg d]
   split at h
   ·rename_i k1
    rw[if_pos k1,if_pos k1]
    exact⟨by omega,by omega,by omega,.inl k1⟩
   ·rename_i k1
    rw[if_neg k1,if_neg k1]
    split at h
    ·rename_i a
     rw[if_pos a,if_neg (by rw[a];decide)]
     exact⟨rfl,by omega,by omega,.inr (.inl a)⟩
    ·rename_i a
     rw[if_neg a]
     split at h
     ·rename_i b
      rw[if_pos b,if_pos b]
      exact⟨rfl,by omega,by omega,.inr (.inr b)⟩
     ·exact absurd rfl h
theorem MN{k m:UInt8}(b:1<=m.toNat)(c:m.toNat<=64)(a:k=1\/k=2\/k=3):z5 k (m.toNat:Int)≠0:=by
 unfold z5
 rw[if_neg (by omega),if_neg (by omega)]
 rcases a with rfl | rfl | rfl
 ·rw[if_pos rfl];omega
 ·rw[if_neg (by decide),if_pos rfl];omega
 ·rw[if_neg (by decide),if_neg (by decide),if_pos rfl];omega
def nO(l:List UInt8):AV:=if kp l then .tup [.agg (wh (kV l)++[mj (kV l).l]),aI (m0 l),aI 0] else lT
theorem PQ{l:List UInt8}{x:AV}(hx:Sl 1 (al l) x)(hl:l.length<1000000):au env 85 [x]=some (nO l):=by
 refine ax rfl (by kernel_rfl) (tz _ _ _ λg=>?_)
 have hr:=hx.r
 by_cases ZU:(l.length:Int)<24
 ·have i:nO l=lT:=by
   unfold nO;rw[if_neg];intro h;simp only[kp,aY,decide_eq_true_eq]at h;omega
  unfold lT at i
  simp[ak, *,bz]
 ·obtain⟨X,rfl,hc⟩:=kz hx (by simp;omega)
  have T:24<=l.length:=by omega
  obtain⟨k,hh,ss,ff,m,rest,L,h6,h3,R⟩:=JM T
  obtain⟨A,e2⟩:=Ce k hh ss ff m rest h6 h3 R
  rw[<-L]at A e2
  obtain⟨s1,s2,s3,rfl⟩ : ∃a b c,ss=[a,b,c]:=by
   match ss,h3 with
   | [a,b,c],_=>exact⟨a,b,c,rfl⟩
  have ZH:l.length=24+rest.length:=by rw[L];simp;omega
  have ZJ:rest.length=l.length - 24:=by omega
  clear ZH
  have d1:l.drop 1=hh++([s1,s2,s3]++(ff++(m :: rest))):=by rw[L];rfl
  have d7:l.drop 7=[s1,s2,s3]++(ff++(m :: rest)):=by
   have:l.drop 7=(l.drop 1).drop 6:=by rw[lU]
   rw[this,d1];exact xL h6
  have Q:l.drop 10=ff++(m :: rest):=by
   have:l.drop 10=(l.drop 7).drop 3:=by rw[lU]
   rw[this,d7];rfl
  have O:l.drop 23=m :: rest:=by
   have:l.drop 23=(l.drop 10).drop 13:=by rw[lU]
   rw[this,Q];exact xL R
  have N:l.drop 24=rest:=by
   have:l.drop 24=(l.drop 23).drop 1:=by rw[lU]
   rw[this,O];rfl
  have gd : ∀a j,(l.drop a)[j]?=l[a+j]?:=λa j=>wA
  have g0:l[0]?=some k:=by rw[L];rfl
  have g7:l[7]?=some s1:=by rw[<-gd 7 0,d7];rfl
  have g8:l[8]?=some s2:=by rw[<-gd 7 1,d7];rfl
  have g9:l[9]?=some s3:=by rw[<-gd 7 2,d7];rfl
  have ZP:l[23]?=some m:=by rw[<-gd 23 0,O];rfl
  have z : ∀a,(al l).drop a=al (l.drop a):=λa=>by simp[al]
  have w : ∀a (q:List UInt8),(al q).take a=al (q.take a):=λa q=>by simp[al]
  have t1:List.take 6 (List.drop 1 (al l))=al hh:=by rw[z,w,d1,uj h6]
  rw[List.drop_one]at t1
  have t2:List.take 13 (List.drop 10 (al l))=al ff:=by rw[z,w,Q,uj R]
  have t3:List.take 13 (List.drop 24 (al l))=al (rest.take 13):=by rw[z,w,N]
  have t4 : ∀n,List.take n (List.drop 37 (al l))=al ((rest.drop 13).take n):=λn=>by
   have:l.drop 37=(l.drop 24).drop 13:=by rw[lU]
   rw[z,w,this,N]
  have t5:List.take 5 (List.drop 24 (al l))=al (rest.take 5):=by rw[z,w,N]
  have hH:=λc hc=>xq (v := .bl 1 (al hh) c) (l:=hh) (.inr ⟨c,rfl,hc⟩) h6
  have hI:=λc hc=>MY (v := .bl 1 (al ff) c) (l:=ff) (.inr ⟨c,rfl,hc⟩) R
  have hS:=M4 k (m.toNat:Int)
  have qm:=m.toNat_lt
  have wm:=IntWalk.i64_in (m.toNat:Int) (by omega)
  obtain⟨v1,v2,v3,eV,v4⟩:=Pv s1 s2 s3
  have u : ∀a n,a+n<=(al l).length->n<=(X.map (· - a)).getD n:=by
   intro a n h
   cases X with
   | none=>simp
   | some c=>simp at hc ⊢;simp at h;omega
  have Z:(al l).length=l.length:=by simp
  have p0:0<l.length:=by omega
  have ZO : ∀h:0<l.length,l[0]'h=k:=λh=>by have:=g0;rw[cw h]at this;exact Ep this
  have l0:(0:Int)<l.length/\(7:Int)<l.length/\(8:Int)<l.length/\(9:Int)<l.length/\(23:Int)<l.length/\(7:Int)<=l.length/\(23:Int)<=l.length:=by omega
  have B:(kV l).kind=k:=by rw[A];rfl
  have C:(kV l).s.many=m.toNat:=by rw[A];rfl
  by_cases hz:z5 k (m.toNat:Int)=0
  ·have i:nO l=lT:=by
    unfold nO;rw[if_neg];intro h
    simp only[kp,aY,decide_eq_true_eq]at h
    have hp:=oI h.2.2
    rw[B,C]at hp
    refine MN (k:=k) (m:=m) (by omega) (by omega) ?_ hz
    rcases hp.2.2.2.2.2 with ⟨h,_⟩ | ⟨h,_⟩ | ⟨h,_⟩
    ·exact .inl h
    ·exact .inr (.inl h)
    ·exact .inr (.inr h)
   rw[hz]at hS
   unfold lT at i
   clear hH hI t1 t2 t3 t4 t5 d1 d7 Q O N A e2 L gd z w u B C hz
   simp[ak, *,bz]
  ·obtain⟨z1,z2,z3,z4⟩:=MO hz
   have ZB : ¬(iR k m=0):=λe=>hz (by rw[z1,e];rfl)
   rw[z1]at hS
   by_cases ZE:l.length<iR k m
   ·have i:nO l=lT:=by
     unfold nO;rw[if_neg];intro h
     simp only[kp,aY,decide_eq_true_eq]at h
     rw[e2]at h
     omega
    have M:(l.length:Int)<(iR k m:Int):=by omega
    unfold lT at i
    clear hH hI t1 t2 t3 t4 t5 d1 d7 Q O N A e2 L gd z w u B C hz z1
    simp[ak, *,bz]
   ·have M : ¬(l.length:Int)<(iR k m:Int):=by omega
    have i:nO l=if nB (kV l) then .tup [.agg (wh (kV l)++[mj (kV l).l]),aI (iR k m:Nat),aI 0] else lT:=by
     unfold nO kp
     rw[e2]
     have h1:decide (24<=l.length)=true:=by simpa using T
     have h2:decide (iR k m<=l.length)=true:=by simp only[decide_eq_true_eq];omega
     rw[h1,h2,hU,hU]
    have o:nB (kV l)=true->dL (kV l)=l.take (iR k m):=λp=>by
     have hg:kp l=true:=by
      simp only[kp,aY,decide_eq_true_eq]
      rw[e2];exact⟨T,by omega,p⟩
     have:=(LW hg).1
     rw[e2]at this;exact this
    have Zu:(iR k m:Int)<=l.length:=by omega
    have ZF:=λ(g:cf)(r:Ref)=>Sl.conv (P:=env.P) (src:=27) (dst:=9) (l:=l.take (iR k m)) (x := .bl 1 (List.take (iR k m) (al l)) X) (by
     rw[w]
     refine .inr ⟨X,rfl,?_⟩
     rw[fY,lW]
     cases X with
     | none=>simp
     | some c=>simp at hc ⊢;omega) (by kernel_rfl) (by kernel_rfl) g r
    have ZL:=hH (X.map (· - 1)) (by rw[fY,h6];exact u 1 6 (by rw[Z];omega))
    have ZM:=hI (X.map (· - 10)) (by rw[fY,R];exact u 10 13 (by rw[Z];omega))
    clear hH hI d1 d7 Q O N e2 L gd z w B C hz z1
    obtain⟨⟨D,F,H⟩,Zx⟩ : ∃h:KC,fx hh=h:=⟨_,rfl⟩
    obtain⟨⟨⟨I,K,G⟩,J⟩,ZD⟩ : ∃f:uO,gM ff=f:=⟨_,rfl⟩
    rw[Zx]at ZL
    rw[ZD]at ZM
    unfold wN at A
    rw[Zx,ZD]at A
    generalize val [s1,s2,s3]=sr at *
    rcases z4 with rfl | rfl | rfl
    ·rw[if_pos rfl,if_neg (by decide),if_pos rfl]at A
     have U:iR 1 m=37+4 * m.toNat:=rfl
     have Zs:(rest.take 13).length=13:=by rw[lW];omega
     have W:((rest.drop 13).take (4 * m.toNat)).length=4 * m.toNat:=by rw[lW,lg];omega
     have ZT:List.take (iR 1 m - 37) (List.drop 37 (al l))=al ((rest.drop 13).take (4 * m.toNat)):=by rw[t4,U];congr 2;omega
     have ZK:=MY (v := .bl 1 (al (rest.take 13)) (X.map (· - 24))) (l:=rest.take 13) (.inr ⟨_,rfl,by rw[fY,Zs];exact u 24 13 (by rw[Z];omega)⟩) Zs
     have Zy:=PT (bs:=(rest.drop 13).take (4 * m.toNat)) (x := .bl 1 (al ((rest.drop 13).take (4 * m.toNat))) (X.map (· - 37))) (.inr ⟨_,rfl,by rw[fY,W];exact u 37 (4 * m.toNat) (by rw[Z];omega)⟩) W z3
     have ZV:=(qf m.toNat _ W).2
     have S1:(37:Int)<=(iR 1 m:Int)/\37<=iR 1 m:=by rw[U];omega
     have S2:(37:Int)<=l.length:=by omega
     obtain⟨⟨⟨ZA,Zz,a_3⟩,Zw⟩,ZC⟩ : ∃f:uO,gM (rest.take 13)=f:=⟨_,rfl⟩
     rw[ZC]at ZK A
     clear u t4 t5 W Zs ZC U
     generalize iR 1 m=S at *
     generalize words ((rest.drop 13).take (4 * m.toNat))=ws at *
     generalize (rest.drop 13).take (4 * m.toNat)=rb at *
     generalize rest.take 13=ra at *
     cases E:ws.all fw with
     | false=>
      have p:nB (kV l)=false:=Fb (by
       rw[A]
       have:Cb ws=false:=by simp[Cb,E]
       simp[yp,Dn,this])
      rw[p]at i
      simp only[lT,gH,if_false]at i
      rw[E,if_neg (by decide)]at Zy
      clear A o p E
      simp[ak, *,bz]
     | true=>
      rw[E,if_pos rfl]at Zy
      have Zt : ∀a∈ws, -2147483648<=a/\a<=2147483647:=by
       intro a ha
       have:=da.1 E a ha
       simp only[fw,jh,aY,decide_eq_true_eq]at this
       omega
      have hM:=AG 1 D F H sr I K G J m.toNat ZA Zz a_3 Zw 0 0 (oW ws) (by omega) Zt
      have hg:=(oW ws).r
      cases p:nB (kV l) with
      | false=>
       rw[p]at i
       simp only[lT,gH,if_false]at i
       rw[A]at p
       rw[p]at hM
       clear A o E Zt
       simp[ak, *,bz]
      | true=>
       rw[p]at i
       have y:=o p
       rw[A]at p y i
       simp only[wh,if_true]at i
       have hB:=vM 1 D F H sr I K G J m.toNat ZA Zz a_3 Zw 0 0 (oW ws) (by omega) p
       rw[p]at hM
       rw[y]at hB
       clear A o y E Zt
       simp[ak, *,bz]
    ·rw[if_neg (by decide),if_neg (by decide),if_neg (by decide)]at A
     have V:iR 2 m=24:=rfl
     have ZN:(24:Int)<=l.length:=by omega
     rw[V]at hS M ZE i o ZF Zu ZB
     have hM:=AG 2 D F H sr I K G J m.toNat 0 0 0 0 0 0 (l:=[]) (x:=bF) (.inl ⟨rfl,rfl⟩) (by simp) (by simp)
     cases p:nB (kV l) with
     | false=>
      rw[p]at i
      simp only[lT,gH,if_false]at i
      rw[A]at p
      unfold ke at p
      rw[p]at hM
      clear A o u t3 t4 t5
      simp[ak, *,bz]
     | true=>
      rw[p]at i
      have y:=o p
      rw[A]at p y i
      simp only[wh,ke,show mj []=bF from rfl,if_true]at i
      unfold ke at p y
      have hB:=vM 2 D F H sr I K G J m.toNat 0 0 0 0 0 0 (l:=[]) (x:=bF) (.inl ⟨rfl,rfl⟩) (by simp) p
      rw[p]at hM
      rw[y]at hB
      clear A o y u t3 t4 t5
      simp[ak, *,bz]
    ·rw[if_neg (by decide),if_pos rfl,if_neg (by decide)]at A
     have V:iR 3 m=29:=rfl
     rw[V]at hS M ZE i o ZF Zu ZB
     obtain⟨c1,c2,c3,c4,c5,ZI,Zv⟩ : ∃a b c d e t,rest=a :: b :: c :: d :: e :: t:=by
      match rest,(show 5<=rest.length by omega) with
      | a :: b :: c :: d :: e :: t,_=>exact⟨a,b,c,d,e,t,rfl⟩
     rw[Zv]at A t5
     have Y:kV l=⟨3,⟨D,F,H⟩,sr,⟨⟨⟨I,K,G⟩,J⟩,(m.toNat:Int)⟩,ke,⟨c1,u32 (val [c2,c3,c4,c5])⟩,[]⟩:=A
     have ZQ:List.take 5 (List.drop 24 (al l))=[a8 c1,a8 c2,a8 c3,a8 c4,a8 c5]:=t5
     have ZR:(29:Int)<=l.length:=Zu
     have ZS : ¬(l.length:Int)<29:=M
     have hT:=xq (v := .bl 1 [a8 c1,a8 c2,a8 c3,a8 c4,a8 c5,a8 0] none) (l:=[c1,c2,c3,c4,c5,0]) (Sl.mk _ _) rfl
     have ZG:fx [c1,c2,c3,c4,c5,0]=⟨c1,u32 (val [c2,c3,c4,c5]),0⟩:=rfl
     rw[ZG]at hT
     generalize u32 (val [c2,c3,c4,c5])=cc at *
     have hM:=AG 3 D F H sr I K G J m.toNat 0 0 0 0 c1 cc (l:=[]) (x:=bF) (.inl ⟨rfl,rfl⟩) (by simp) (by simp)
     clear A t5 ZG Zv
     cases p:nB (kV l) with
     | false=>
      rw[p]at i
      simp only[lT,gH,if_false]at i
      rw[Y]at p
      unfold ke at p
      rw[p]at hM
      clear Y o u t3 t4
      simp[ak, *,bz]
     | true=>
      rw[p]at i
      have y:=o p
      rw[Y]at p y i
      simp only[wh,ke,show mj []=bF from rfl,if_true]at i
      unfold ke at p y
      have hB:=vM 3 D F H sr I K G J m.toNat 0 0 0 0 c1 cc (l:=[]) (x:=bF) (.inl ⟨rfl,rfl⟩) (by simp) p
      rw[p]at hM
      rw[y]at hB
      clear Y o y u t3 t4
      simp[ak, *,bz]
def bV(l:List (List UInt8 × AV)):List AV:=l.map (·.2)
def okB(l:List (List UInt8 × AV)):Prop :=∀p∈l,Sl 1 (al p.1) p.2
def eB(l:List (List UInt8 × AV)):List (List UInt8):=l.map (·.1)
@[simp] theorem Zc(l:List (List UInt8 × AV)):(bV l).length=l.length:=by simp[bV]
@[simp] theorem YB(l:List (List UInt8 × AV)):(eB l).length=l.length:=by simp[eB]
theorem Oo{x y:AV}{l m:List (List UInt8 × AV)}(A:Sl 1 (bV l) x)(B:Sl 1 (bV m) y)(I:okB l)(E:okB m)(f:l.length=m.length)(w:l.length<1000000){Q:AV->ab->Prop}{H:ab} :
 ∀(s:List (List UInt8 × AV)) (k:Nat) (i:Int),l.drop k=s->k<=l.length->i=k->eB (l.take k)=eB (m.take k)->(Q (aB (decide (eB l=eB m))) H) ->
 dZ env Tryz.f56 0 bh [(17,aI i),(2,.fn (.func 57) [] []),(1,y),(15,x),(16,aI l.length)] H Q:=by
 intro s
 induction s with
 | nil=>
  rintro k i hs hk rfl he hQ
  obtain rfl:=drop_nil hs hk
  rw[wz,f,wz]at he
  rw[he]at hQ
  refine bY _ _ _ _ _ _ _ λg=>?_
  simp[ak, *,bk]
  all_goals simpa using hQ
 | cons p s v=>
  rintro k i hs hk rfl he hQ
  obtain⟨J,G,u,c⟩:=drop_cons hs
  have o:k<m.length:=by omega
  have n:=I p (G ▸ gD _)
  have j:=E (m[k]) (gD _)
  have C:=Gi n j
  have M:=IntWalk.i64_in ((k:Int)+1) (by omega)
  have b:m[k]?=some m[k]:=cw o
  generalize D:m[k]=q at *
  have K:=n.r
  have L:=j.r
  by_cases a:p.1=q.1
  ·have d:eB (l.take (k+1))=eB (m.take (k+1)):=by
    unfold eB at he ⊢
    rw[y9,y9,c,b,xd,xd,he]
    simp[a]
   have t:=v (k+1) ((k:Int)+1) u (by omega) (by simp) d hQ
   clear v hQ he d
   have F:decide (p.1=q.1)=true:=decide_eq_true a
   rw[F]at C
   refine bY _ _ _ _ _ _ _ λg=>?_
   clear a
   rw[f]at t
   simp[ak, *,bk,A.idx,B.idx,bV]
  ·have h : ¬eB l=eB m:=by
    intro e
    have:=congrArg (λz=>z[k]?) e
    simp only[eB,kJ,c,b,Option.map_some,dc]at this
    exact a this
   rw[decide_eq_false h]at hQ
   rw[decide_eq_false a]at C
   clear v a h
   refine bY _ _ _ _ _ _ _ λg=>?_
   simp[ak, *,bk,A.idx,B.idx,bV]
theorem VT{x y:AV}{l m:List (List UInt8 × AV)}(i:Sl 1 (bV l) x)(j:Sl 1 (bV m) y)(f:okB l)(k:okB m)(b:l.length<1000000) :
 au env 56 [x,y,.fn (.func 57) [] []]=some (aB (decide (eB l=eB m))):=by
 refine ax rfl (by kernel_rfl) (iv _ _ _ _ _ λg=>?_)
 have n:=i.r
 have o:=j.r
 by_cases a:l.length=m.length
 ·have h:=Oo i j f k a b (Q:=λv H=>kE env 56 v H (aB (decide (eB l=eB m)))) (H:=[]) l 0 0 rfl (by omega) rfl (by simp) (by simp)
  have d:(l.length:Int)=m.length:=by omega
  clear f k
  simp[ak, *,cg]
  all_goals (first | exact h | simpa [a] using h)
 ·have d : ¬(l.length:Int)=m.length:=by omega
  have c : ¬eB l=eB m:=by intro e;exact a (by simpa using congrArg List.length e)
  rw[decide_eq_false c]
  clear c a
  simp[ak, *,cg]
def mm(b:List UInt8):eQ:=if decide (b.getD 1 0<=1)&&n9 (b.getD 0 0).toNat (b.getD 2 0) (u32 (val ((b.drop 3).take 4))) (decide (b.getD 1 0=1)) then ⟨0,0,ef,0,(b.getD 0 0).toNat,b.getD 2 0,u32 (val ((b.drop 3).take 4)),decide (b.getD 1 0=1)⟩ else ⟨0,0,ef,0,0,0,0,false⟩
theorem PX{c:Option Nat}{b0 b1 b2 b3 b4 b5 b6:UInt8}(k:7<=c.getD 7) : ∃e,au env 102 [.bl 1 [a8 b0,a8 b1,a8 b2,a8 b3,a8 b4,a8 b5,a8 b6] c] =
 some (.tup [.agg [aI (mm [b0,b1,b2,b3,b4,b5,b6]).gu,a8 (mm [b0,b1,b2,b3,b4,b5,b6]).gv,bc (mm [b0,b1,b2,b3,b4,b5,b6]).gc,aB (mm [b0,b1,b2,b3,b4,b5,b6]).gok],aI e]):=by
 have i:mm [b0,b1,b2,b3,b4,b5,b6]=if decide (b1<=1)&&n9 b0.toNat b2 (u32 (val [b3,b4,b5,b6])) (decide (b1=1)) then ⟨0,0,ef,0,b0.toNat,b2,u32 (val [b3,b4,b5,b6]),decide (b1=1)⟩ else ⟨0,0,ef,0,0,0,0,false⟩:=rfl
 rw[i]
 clear i
 have l:(7:Int)<=c.getD 7:=by omega
 have j:=z7 (c:=none) (a:=b2) (n:=0) (b1:=b3) (b2:=b4) (b3:=b5) (b4:=b6) (by simp)
 generalize u32 (val [b3,b4,b5,b6])=cats at *
 by_cases d:b1<=1
 ·by_cases h:n9 b0.toNat b2 cats (decide (b1=1))=true
  ·refine⟨0,?_⟩
   refine ax rfl (by kernel_rfl) (tu _ _ _ λg=>?_)
   have f:ej ⟨b2,cats,0⟩=true:=by simp[n9,rZ]at h;simp[ej,h.2.1]
   have b : ¬1<b1:=UInt8.not_lt.2 d
   simp[ak, *,qn,bad]
  ·refine⟨8,?_⟩
   refine ax rfl (by kernel_rfl) (tu _ _ _ λg=>?_)
   have b : ¬1<b1:=UInt8.not_lt.2 d
   simp only[Bool.not_eq_true]at h
   cases f:ej ⟨b2,cats,0⟩<;>simp[ak, *,qn,bad]
 ·refine⟨8,?_⟩
  refine ax rfl (by kernel_rfl) (tu _ _ _ λg=>?_)
  have b:1<b1:=UInt8.not_le.1 d
  simp[ak, *,qn]
def IQ(b:List UInt8):dY:=if kp b then kV b else ef
def bf(b:List UInt8):eQ:=if b.getD 0 0=1 then ⟨1,(b.getD 7 0).toNat, { ef with h:=zD ((b.drop 1).take 6)},0,0,0,0,false⟩
 else if b.getD 0 0=2 then ⟨2,0,IQ (b.drop 3),val ((b.drop 1).take 2),0,0,0,false⟩
 else if b.getD 0 0=3 then { mm ((b.drop 1).take 7)with kind:=3}
 else ⟨b.getD 0 0,0,ef,0,0,0,0,false⟩
theorem vu(b:List UInt8):(mm b).user=0/\(mm b).op=ef/\(mm b).code=0:=by
 unfold mm;split<;>exact⟨rfl,rfl,rfl⟩
theorem yb:mj []=bF:=rfl
def fy(l:List (List UInt8)):List UInt8:=l.flatMap (·.drop 9)
def pP:eQ:=⟨0,0,ef,0,0,0,0,false⟩
def uN:AV := .tup [pP.val bF,(⟨0,0,0,0⟩:Hd).val,aI 8]
def pW(l:List (List UInt8))(h:Hd)(b:List UInt8):Bool:=decide (8<=b.length)&&(b9 (bf b)&&jK h.st h.nu 0 (jQ (bf b))&&decide (bB (bf b) h.st h.nu=l))
def I5(l:List (List UInt8)):Option (eQ × Hd):=if iA (l.headD [])&&pW l (eS (l.headD [])) (fy l) then some (bf (fy l),eS (l.headD [])) else none
def D8(l:List (List UInt8)):AV:=match I5 l with
 | some (r,h) => .tup [r.val (mj r.op.l),h.val,aI 0]
 | none=>uN
theorem Qn(b:List UInt8):(IQ b).l.length<=64:=by
 unfold IQ
 split
 ·rename_i h
  unfold kp at h
  simp only[aY,decide_eq_true_eq]at h
  have hp:=oI h.2.2
  rcases hp.2.2.2.2.2 with ⟨_,_,_,e,_⟩ | ⟨_,_,_,e⟩ | ⟨_,_,e,_⟩
  ·have:=hp.2.2.2.2.1;omega
  ·rw[e];simp
  ·rw[e];simp
 ·exact ui _
theorem tM(b:List UInt8):(bf b).op.l.length<=64:=by
 unfold bf
 split
 ·exact ui _
 ·split
  ·exact Qn _
  ·split
   ·show(mm _).op.l.length<=64
    rw[(vu _).2.1];exact ui _
   ·exact ui _
theorem Fz(l:List (List UInt8)):okB (l.map λb=>(b,Dr b)):=λp hp=>by
 obtain⟨b,_,rfl⟩:=kf.1 hp
 exact Sl.mk _ _
theorem FA(l:List (List UInt8)):bV (l.map λb=>(b,Dr b))=ij l:=by simp[bV,ij]
theorem Hp(l:List (List UInt8)):eB (l.map λb=>(b,Dr b))=l:=by
 unfold eB
 rw[List.map_map]
 exact List.map_id' _
theorem vQ(st nu of:Int) : ∀(l:List (List UInt8)) (i:Int),(m9 st nu of i l).length=l.length
 | [],_=>rfl
 | _ :: l,i=>by simp only[m9,ji,vQ st nu of l (i+1)]
theorem E6 : ∀(m:Nat)(s:List UInt8),(zt m s).length<=m
 | 0,_=>aW _
 | m+1,s=>by
  rw[zt]
  split
  ·simp
  ·have:=E6 m (s.drop 119);simp only[ji];omega
end
section
theorem xm(a:eQ):l8 a a=true:=by simp[l8,mB]
theorem Kh{b:Type}(p:List b)(a d:b)(t:List b){n:Nat}(h:p.length=n):(p++a :: t).getD n d=a:=by subst h;simp[List.getD]
theorem Gs{st nu of i:Int}{x:List UInt8}(h:x.length<=119):(j9 st nu of i x).length=128:=by simp[j9];omega
theorem oK{st nu a of:Int}:jK st nu a of=true↔1<=st/\st<2147483648/\1<=nu/\nu<16777216/\1<=of/\of<=4/\0<=a/\a<of:=by
 simp only[jK,aY,decide_eq_true_eq,and_assoc]
theorem QC{st nu of i:Int}{x:List UInt8}(d:x.length<=119)(c:jK st nu i of=true):eS (j9 st nu of i x)=⟨st,nu,i,of⟩/\iA (j9 st nu of i x)=true:=by
 obtain⟨q,f,o,l,k,s,m,p⟩:=oK.1 c
 have e:eS (j9 st nu of i x)=⟨st,nu,i,of⟩:=by
  have g:(j9 st nu of i x).take 4=be 4 st:=uj (zO 4 st)
  have a:((j9 st nu of i x).drop 4).take 3=be 3 nu:=by
   rw[show(j9 st nu of i x).drop 4=be 3 nu++([u8 i,u8 of]++(x++List.replicate (119 - x.length) 0)) from xL (zO 4 st)]
   exact uj (zO 3 nu)
  have b:(j9 st nu of i x).getD 7 0=u8 i:=by
   have:=Kh (be 4 st++be 3 nu) (u8 i) 0 (u8 of :: (x++List.replicate (119 - x.length) 0)) (n:=7) (by simp)
   rw[<-this];simp[j9]
  have j:(j9 st nu of i x).getD 8 0=u8 of:=by
   have:=Kh (be 4 st++(be 3 nu++[u8 i])) (u8 of) 0 (x++List.replicate (119 - x.length) 0) (n:=8) (by simp)
   rw[<-this];simp[j9]
  unfold eS
  rw[g,a,b,j,xg (by omega) (by omega),xg (by omega) (by omega),xh,xh]
  congr 1<;>omega
 refine⟨e,?_⟩
 unfold iA
 rw[e,Gs d]
 simpa using c
theorem zp(st nu of:Int) : ∀(l:List (List UInt8)) (i:Int) (k:Nat),(m9 st nu of i l)[k]?=(l[k]?).map (j9 st nu of (i+k))
 | [],_,_=>rfl
 | x :: l,i,0=>by simp[m9]
 | x :: l,i,k+1=>by
  rw[m9,HN,HN,zp st nu of l (i+1) k]
  congr 2
  omega
theorem DR : ∀(m:Nat)(s:List UInt8),∀x∈zt m s,x.length<=119
 | 0,_,x,h=>by cases h
 | m+1,s,x,h=>by
  rw[zt]at h
  split at h
  ·cases h
  ·rcases eU.1 h with rfl | h
   ·simp;omega
   ·exact DR m _ x h
theorem Cm : ∀(m:Nat)(s:List UInt8),s.length<=119 * m->(zt m s).length=(s.length+118) / 119
 | 0,s,h=>by rw[show s.length=0 by omega];rfl
 | m+1,s,h=>by
  rw[zt]
  split
  ·rename_i e;rw[e];rfl
  ·rename_i e
   have hp:0<s.length:=xO.2 e
   rw[ji,Cm m (s.drop 119) (by rw[lg];omega),lg]
   omega
theorem Hm(st nu of:Int) : ∀(m:Nat)(s:List UInt8)(i:Int),s.length<=119 * m ->∃z,fy (m9 st nu of i (zt m s))=s++List.replicate z 0
 | 0,s,i,h=>⟨0,by rw[show s=[] from uu.1 (by omega)];rfl⟩
 | m+1,s,i,h=>by
  rw[zt]
  split
  ·rename_i e;exact⟨0,by rw[e];rfl⟩
  ·rename_i e
   obtain⟨z,b⟩:=Hm st nu of m (s.drop 119) (i+1) (by rw[lg];omega)
   have d:(j9 st nu of i (s.take 119)).drop 9=s.take 119++List.replicate (119 - (s.take 119).length) 0:=by
    have:j9 st nu of i (s.take 119)=(be 4 st++(be 3 nu++[u8 i,u8 of]))++(s.take 119++List.replicate (119 - (s.take 119).length) 0):=by simp[j9]
    rw[this]
    exact xL (by simp)
   have g:fy (m9 st nu of i (s.take 119 :: zt m (s.drop 119)))=(s.take 119++List.replicate (119 - (s.take 119).length) 0)++(s.drop 119++List.replicate z 0):=by
    rw[<-b,<-d]
    simp[fy,m9]
   rw[g]
   by_cases a:s.length<=119
   ·refine⟨119 - s.length+z,?_⟩
    rw[fC a,Bj a,pR,pS,Mm]
   ·refine⟨z,?_⟩
    rw[lW,show 119 - min 119 s.length=0 by omega,Ez,pQ,<-pS,xQ]
theorem rK{r:eQ}(h:b9 r=true)(st nu:Int):(bB r st nu).length=jQ r:=by
 unfold bB
 rw[vQ,Cm 3 _ (tJ h).1]
 rfl
theorem Fy{r:eQ}{st nu:Int}(c:jK st nu 0 (jQ r)=true){i:Nat}{b:List UInt8}(a:(bB r st nu)[i]?=some b)(hi:i<jQ r):eS b=⟨st,nu,i,jQ r⟩/\iA b=true/\b.length=128:=by
 unfold bB at a
 rw[zp,aZ]at a
 obtain⟨x,k,rfl⟩:=a
 have d:=DR 3 _ x (eY k)
 obtain⟨l,f,j,g,e,m,o,n⟩:=oK.1 c
 have:=QC (st:=st) (nu:=nu) (of:=jQ r) (i:=0+(i:Int)) d (oK.2 ⟨l,f,j,g,e,m,by omega,by omega⟩)
 rw[show(0:Int)+i=i by omega]at this
 rw[show(0:Int)+i=i by omega]
 exact⟨this.1,this.2,Gs d⟩
section
variable{r:eQ}{st nu:Int}(h:b9 r=true)(c:jK st nu 0 (jQ r)=true)(f:2<=jQ r)
include h c f
end
theorem OK{B:List (List UInt8)}(h:B≠[]):ij B≠[]:=by simpa [ij] using h
theorem LX{r:eQ}{st nu:Int}(d:b9 r=true)(c:jK st nu 0 (jQ r)=true) : ∀b∈bB r st nu,b.length=128:=by
 intro b a
 obtain⟨i,hi⟩:=List.mem_iff_getElem?.1 a
 have:=(dE.1 hi).1
 rw[rK d]at this
 exact(Fy c hi this).2.2
end
section
attribute [local simp] bn aO aE aQ aP cy ld bp aG aU cZ cY aX bo ar bS fC
@[simp] theorem Uf(v:UInt8)(c:UInt32)(ok:Bool):au env 124 [.agg [a8 v,bc c,aB ok]]=some (aB (rZ v c ok)):=by
 refine ax rfl (by kernel_rfl) (p9 _ _ _ λg=>?_)
 by_cases h:v<=15
 ·cases ok
  ·by_cases a:v=0
   ·by_cases b:c=0<;>simp[ak, *,dT,rZ,h,a,b,kT,eF]
   ·simp[ak, *,dT,rZ,h,a,kT,eF]
  ·simp[ak, *,dT,rZ,h]
 ·simp[ak, *,dT,rZ,h]
@[simp] theorem JV(a:Int)(v:UInt8)(c:UInt32)(ok:Bool):au env 97 [.agg [aI a,a8 v,bc c,aB ok]]=some (aB (n9 a v c ok)):=by
 refine ax rfl (by kernel_rfl) (tA _ _ _ λg=>?_)
 by_cases h:0<=a
 ·by_cases b:a<8<;>simp[ak, *,kG,n9,h,b]
 ·simp[ak, *,kG,n9,h]
theorem K2(a:Int)(v:UInt8)(c:UInt32)(ok:Bool):au env 125 [.agg [aI a,a8 v,bc c,aB ok]]=some (.bl 1 (al (iC a v c ok)) none):=by
 refine ax rfl (by kernel_rfl) (rR _ _ _ λg=>?_)
 have d:=DL v c 0
 have b:al (bJ ⟨v,c,0⟩)=a8 v :: (al (be 4 c.toNat)++[a8 0]):=by simp[bJ,al]
 have e:(al (be 4 c.toNat)).length=4:=by simp
 rw[b]at d
 cases ok
 ·simp[ak, *,jF,iC]
  rfl
 ·simp[ak, *,jF,iC]
  rfl
theorem IC{l:List UInt8}{x:AV}(d:Sl 1 (al l) x)(w:l.length<=7){Q:AV->ab->Prop}{H:ab} : ∀(s:List UInt8)(k:Nat)(a:Int),l.drop k=s->k<=l.length->0<=a->a<256 ^ k->(∀y,y=aI (we a s)->Q y H) ->
 dZ env Tryz.f131 0 fm [(4,aI k),(0,x),(3,aI a)] H Q:=by
 intro s
 induction s with
 | nil=>
  intro k a e h n o b
  obtain rfl:=drop_nil e h
  refine k6 _ _ _ _ _ λg=>?_
  simp[ak, *,iG,d.r]
  exact b _ rfl
 | cons p s i=>
  intro k a e h n o b
  obtain⟨m,v,c,j⟩:=drop_cons e
  have hp:=p.toNat_lt
  have q:=vT (k:=k) 6 (by omega)
  have t:=IntWalk.i64_in (256 * a) (by omega)
  have z:=IntWalk.i64_in (256 * a+p.toNat) (by omega)
  have u:=IntWalk.i64_in ((k:Int)+1) (by omega)
  have f:=i (k+1) (256 * a+p.toNat) c (by omega) (by omega) (by rw[wZ];omega) b
  rw[show((k+1:Nat):Int)=(k:Int)+1 from by omega]at f
  clear i b
  refine k6 _ _ _ _ _ λg=>?_
  simp[ak, *,iG,d.r,d.idx]
  done
theorem PS{l:List UInt8}{x:AV}(a:Sl 1 (al l) x)(b:l.length<=7):au env 131 [x]=some (aI (val l)):=by
 refine ax rfl (by kernel_rfl) (qZ _ _ _ λg=>?_)
 unfold mf
 exact IC a b l 0 0 rfl (by omega) (by omega) (by decide) (λy e=>by rw[e];simp[val])
theorem M5{l:List UInt8}{x:AV}(n:Sl 1 (al l) x)(k:l.length=6):au env 103 [x]=some (if ej (fx l) then .tup [.agg [a8 (fx l).lv,bc (fx l).cats,a8 (fx l).num],aI 0] else .tup [.agg [a8 0,bc 0,a8 0],aI 8]):=by
 obtain⟨a,b,c,d,e,f,rfl⟩:=EV k
 obtain⟨h,rfl,o⟩:=kz n (by simp[al])
 refine ax rfl (by kernel_rfl) (pB _ _ _ λg=>?_)
 have m:fx [a,b,c,d,e,f]=⟨a,u32 (val [b,c,d,e]),f⟩:=rfl
 have p:=PS (l:=[b,c,d,e]) (x := .bl 1 [a8 b,a8 c,a8 d,a8 e] (h.map (· - 1))) (.inr ⟨_,rfl,by cases h with | none=>simp[al] | some c=>simp[al]at o ⊢;omega⟩) (by simp)
 have i:=xZ a (u32 (val [b,c,d,e])) f
 rw[m]
 generalize val [b,c,d,e]=V at *
 cases j:ej ⟨a,u32 V,f⟩
 ·rw[j]at i
  simp[ak, *,hJ,al]
  done
 ·rw[j]at i
  simp[ak, *,hJ,al]
  done
def Zn(b:List UInt8):Bool:=decide (b.getD 1 0<=1)&&n9 (b.getD 0 0).toNat (b.getD 2 0) (u32 (val ((b.drop 3).take 4))) (decide (b.getD 1 0=1))
theorem PR{c:Option Nat}{b0 b1 b2 b3 b4 b5 b6:UInt8}(m:7<=c.getD 7):au env 104 [.bl 1 [a8 b0,a8 b1,a8 b2,a8 b3,a8 b4,a8 b5,a8 b6] c] =
 some (if decide (b1<=1)&&n9 b0.toNat b2 (u32 (val [b3,b4,b5,b6])) (decide (b1=1)) then .tup [.agg [aI b0.toNat,a8 b2,bc (u32 (val [b3,b4,b5,b6])),aB (decide (b1=1))],aI 0] else .tup [.agg [aI 0,a8 0,bc 0,aB false],aI 8]):=by
 refine ax rfl (by kernel_rfl) (tB _ _ _ λg=>?_)
 have s:=b3.toNat_lt
 have k:=b4.toNat_lt
 have f:=b5.toNat_lt
 have o:=b6.toNat_lt
 have j:=IntWalk.i64_in ((b3.toNat:Int)) (by omega)
 have l:=IntWalk.i64_in (256 * (b3.toNat:Int)) (by omega)
 have n:=IntWalk.i64_in (256 * (b3.toNat:Int)+b4.toNat) (by omega)
 have h:=IntWalk.i64_in (256 * (256 * (b3.toNat:Int)+b4.toNat)) (by omega)
 have p:=IntWalk.i64_in (256 * (256 * (b3.toNat:Int)+b4.toNat)+b5.toNat) (by omega)
 have i:=IntWalk.i64_in (256 * (256 * (256 * (b3.toNat:Int)+b4.toNat)+b5.toNat)) (by omega)
 have q:=IntWalk.i64_in (256 * (256 * (256 * (b3.toNat:Int)+b4.toNat)+b5.toNat)+b6.toNat) (by omega)
 have e:val [b3,b4,b5,b6]=256 * (256 * (256 * (b3.toNat:Int)+b4.toNat)+b5.toNat)+b6.toNat:=by simp[val,we]
 by_cases a:b1<=1
 ·have b : ¬1<b1:=by rw[UInt8.not_lt];exact a
  have d:=JV b0.toNat b2 (u32 (val [b3,b4,b5,b6])) (decide (b1=1))
  rw[e]at d ⊢
  simp only[a,decide_true,hU]
  cases hm:n9 b0.toNat b2 (u32 (256 * (256 * (256 * (b3.toNat:Int)+b4.toNat)+b5.toNat)+b6.toNat)) (decide (b1=1))
  ·rw[hm]at d
   simp[ak, *,iF]
   refine bu _ _ _ _ _ _ λg=>?_
   simp[ak, *,bg]
   refine bu _ _ _ _ _ _ λg=>?_
   simp[ak, *,bg]
   refine bu _ _ _ _ _ _ λg=>?_
   simp[ak, *,bg]
   refine bu _ _ _ _ _ _ λg=>?_
   simp[ak, *,bg]
   refine bu _ _ _ _ _ _ λg=>?_
   simp[ak, *,bg]
  ·rw[hm]at d
   simp[ak, *,iF]
   refine bu _ _ _ _ _ _ λg=>?_
   simp[ak, *,bg]
   refine bu _ _ _ _ _ _ λg=>?_
   simp[ak, *,bg]
   refine bu _ _ _ _ _ _ λg=>?_
   simp[ak, *,bg]
   refine bu _ _ _ _ _ _ λg=>?_
   simp[ak, *,bg]
   refine bu _ _ _ _ _ _ λg=>?_
   simp[ak, *,bg]
 ·have b:1<b1:=by rw[<-UInt8.not_le];exact a
  simp[ak, *,iF,a]
  done
end
end Go.Proofs.YtehkjjcdkbcebaaGreat
