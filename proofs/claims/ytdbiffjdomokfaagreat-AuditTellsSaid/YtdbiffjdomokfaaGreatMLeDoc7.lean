/-
  Operations: whether they may be. No statement of a seat is proved here.
-/
import Derived.Test.YtdbiffjdomokfaaGreatMCatFns
set_option linter.unusedVariables false
set_option linter.unusedSimpArgs false
set_option linter.unusedSectionVars false
set_option linter.unnecessarySimpa false
set_option maxRecDepth 1000000
namespace Go.Proofs.YtdbiffjdomokfaaGreat
open Go.Ab
attribute [local simp] aU aK aG aW aV cz lT ba aO aQ cg cf bI bc ay bE gw
def Kb:AV := .agg [.v .nilFunc,.v .nilFunc,.fn (.func 148) [] [.iptr 1 [.fn (.func 147) [] []] 0 0],.fn (.func 149) [] [],
 .fn (.func 150) [] [.iptr 1 [.fn (.func 147) [] []] 0 0,.iptr 1 [.fn (.func 146) [] []] 0 0],.fn (.func 151) [] [],.fn (.func 152) [] [.iptr 1 [.fn (.func 146) [] []] 0 0],.fn (.func 153) [] []]
theorem We:aF env 132 []=some Kb:=Ey (n:=2000) (by kernel_rfl)
@[simp] theorem Wr:aF env 91 []=some (.agg [a8 0,aw 0]):=by
 refine aH rfl (by kernel_rfl) (z7 _ _ λg=>?_)
 simp[af,ah,ad,ae,aa, *,vl]
section
variable(a_1:UInt8)(a_2:UInt8)(a_3:UInt32)(a_4:UInt8)(a_5:Int)(a_6:UInt8)(a_7:UInt32)(a_8:UInt8)(a_9:Int)(a_10:Int)(a_11:UInt8)(a_12:UInt32)(a_13:UInt8)(a_14:Int)(a_15:UInt8)(a_16:UInt32){x:AV}{l:List Int}(hx:Sl 1 (rows l) x)(hl:l.length<2000000)
include hx hl
theorem S8:aF env 146 [.agg [a8 a_1,a8 a_2,aw a_3,a8 a_4,aI a_5,a8 a_6,aw a_7,a8 a_8,aI a_9,aI a_10,a8 a_11,aw a_12,a8 a_13,aI a_14,a8 a_15,aw a_16,x]]=some (aB (yj (⟨a_1,⟨a_2,a_3,a_4⟩,a_5,⟨⟨⟨a_6,a_7,a_8⟩,a_9⟩,a_10⟩,⟨⟨a_11,a_12,a_13⟩,a_14⟩,⟨a_15,a_16⟩,l⟩:aN))):=by
 refine aH rfl (by kernel_rfl) (HH _ _ _ λg=>?_)
 unfold yj
 cases a:fY (⟨⟨a_11,a_12,a_13⟩,a_14⟩:bR) with
 | true=>
  unfold fY at a
  simp[af,ah,ad,ae,aa, *,xa,hx.r,gk,ca]
 | false=>
  unfold fY at a
  simp[af,ah,ad,ae,aa, *,xa,hx.r,gk,ca]
theorem PC:aF env 147 [.agg [a8 a_1,a8 a_2,aw a_3,a8 a_4,aI a_5,a8 a_6,aw a_7,a8 a_8,aI a_9,aI a_10,a8 a_11,aw a_12,a8 a_13,aI a_14,a8 a_15,aw a_16,x]]=some (aB (vN (⟨a_15,a_16⟩:ib))):=by
 refine aH rfl (by kernel_rfl) (HG _ _ _ λg=>?_)
 simp[af,ah,ad,ae,aa, *,BF,hx.r,gk,ca,vN]
theorem S7:aF env 150 [.agg [a8 a_1,a8 a_2,aw a_3,a8 a_4,aI a_5,a8 a_6,aw a_7,a8 a_8,aI a_9,aI a_10,a8 a_11,aw a_12,a8 a_13,aI a_14,a8 a_15,aw a_16,x],.iptr 1 [.fn (.func 147) [] []] 0 0,.iptr 1 [.fn (.func 146) [] []] 0 0]=some (aB (MU (⟨a_1,⟨a_2,a_3,a_4⟩,a_5,⟨⟨⟨a_6,a_7,a_8⟩,a_9⟩,a_10⟩,⟨⟨a_11,a_12,a_13⟩,a_14⟩,⟨a_15,a_16⟩,l⟩:aN))):=by
 refine aH rfl (by kernel_rfl) (HE _ _ _ _ _ λg=>?_)
 have b:=S8 a_1 a_2 a_3 a_4 a_5 a_6 a_7 a_8 a_9 a_10 a_11 a_12 a_13 a_14 a_15 a_16 hx hl
 have c:=PC a_1 a_2 a_3 a_4 a_5 a_6 a_7 a_8 a_9 a_10 a_11 a_12 a_13 a_14 a_15 a_16 hx hl
 unfold MU
 cases a:vN (⟨a_15,a_16⟩:ib)<;>simp[af,ah,ad,ae,aa, *,BE,hx.r]
theorem Wd:aF env 152 [.agg [a8 a_1,a8 a_2,aw a_3,a8 a_4,aI a_5,a8 a_6,aw a_7,a8 a_8,aI a_9,aI a_10,a8 a_11,aw a_12,a8 a_13,aI a_14,a8 a_15,aw a_16,x],.iptr 1 [.fn (.func 146) [] []] 0 0]=some (aB (J7 (⟨a_1,⟨a_2,a_3,a_4⟩,a_5,⟨⟨⟨a_6,a_7,a_8⟩,a_9⟩,a_10⟩,⟨⟨a_11,a_12,a_13⟩,a_14⟩,⟨a_15,a_16⟩,l⟩:aN))):=by
 refine aH rfl (by kernel_rfl) (HD _ _ _ _ λg=>?_)
 have a:=S8 a_1 a_2 a_3 a_4 a_5 a_6 a_7 a_8 a_9 a_10 a_11 a_12 a_13 a_14 a_15 a_16 hx hl
 unfold J7
 cases b:yj (⟨a_1,⟨a_2,a_3,a_4⟩,a_5,⟨⟨⟨a_6,a_7,a_8⟩,a_9⟩,a_10⟩,⟨⟨a_11,a_12,a_13⟩,a_14⟩,⟨a_15,a_16⟩,l⟩:aN)<;>simp[af,ah,ad,ae,aa, *,BD,hx.r]
theorem S3:aF env 148 [.agg [a8 a_1,a8 a_2,aw a_3,a8 a_4,aI a_5,a8 a_6,aw a_7,a8 a_8,aI a_9,aI a_10,a8 a_11,aw a_12,a8 a_13,aI a_14,a8 a_15,aw a_16,x],.iptr 1 [.fn (.func 147) [] []] 0 0]=some (aB (GR (⟨a_1,⟨a_2,a_3,a_4⟩,a_5,⟨⟨⟨a_6,a_7,a_8⟩,a_9⟩,a_10⟩,⟨⟨a_11,a_12,a_13⟩,a_14⟩,⟨a_15,a_16⟩,l⟩:aN))):=by
 refine aH rfl (by kernel_rfl) (HF _ _ _ _ λg=>?_)
 have i:=PC a_1 a_2 a_3 a_4 a_5 a_6 a_7 a_8 a_9 a_10 a_11 a_12 a_13 a_14 a_15 a_16 hx hl
 have h:=DJ hx (by omega)
 have j:=AU l
 unfold GR
 cases e:vN (⟨a_15,a_16⟩:ib) with
 | false=>
  cases a:fY (⟨⟨a_11,a_12,a_13⟩,a_14⟩:bR) with
  | false=>
   unfold fY at a
   simp[af,ah,ad,ae,aa, *,jd,hx.r,gk,ca]
  | true=>
   unfold fY at a
   simp[af,ah,ad,ae,aa, *,jd,hx.r,gk,ca]
 | true=>
  have key : ∀b:Bool,(fY (⟨⟨a_11,a_12,a_13⟩,a_14⟩:bR)||DZ (⟨⟨a_11,a_12,a_13⟩,a_14⟩:bR))=b->True:=λ_ _=>trivial
  cases d:Cy ⟨a_6,a_7,a_8⟩ ⟨a_2,a_3,a_4⟩ with
  | false=>
   unfold Cy at d
   cases a:fY (⟨⟨a_11,a_12,a_13⟩,a_14⟩:bR) with
   | false=>
    unfold fY at a
    cases c:DZ (⟨⟨a_11,a_12,a_13⟩,a_14⟩:bR)<;>simp[af,ah,ad,ae,aa, *,jd,hx.r,gk,ca]
   | true=>
    unfold fY at a
    simp[af,ah,ad,ae,aa, *,jd,hx.r,gk,ca]
  | true=>
   unfold Cy at d
   by_cases f:(l.length:Int)=a_10
   ·cases a:fY (⟨⟨a_11,a_12,a_13⟩,a_14⟩:bR) with
    | false=>
     unfold fY at a
     cases c:DZ (⟨⟨a_11,a_12,a_13⟩,a_14⟩:bR)<;>simp[af,ah,ad,ae,aa, *,jd,hx.r,gk,ca]
    | true=>
     unfold fY at a
     simp[af,ah,ad,ae,aa, *,jd,hx.r,gk,ca]
   ·cases a:fY (⟨⟨a_11,a_12,a_13⟩,a_14⟩:bR) with
    | false=>
     unfold fY at a
     cases c:DZ (⟨⟨a_11,a_12,a_13⟩,a_14⟩:bR)<;>simp[af,ah,ad,ae,aa, *,jd,hx.r,gk,ca]
    | true=>
     unfold fY at a
     simp[af,ah,ad,ae,aa, *,jd,hx.r,gk,ca]
theorem oD:aF env 115 [.agg [a8 a_1,a8 a_2,aw a_3,a8 a_4,aI a_5,a8 a_6,aw a_7,a8 a_8,aI a_9,aI a_10,a8 a_11,aw a_12,a8 a_13,aI a_14,a8 a_15,aw a_16,x]]=some (aI (bad (mK (⟨a_1,⟨a_2,a_3,a_4⟩,a_5,⟨⟨⟨a_6,a_7,a_8⟩,a_9⟩,a_10⟩,⟨⟨a_11,a_12,a_13⟩,a_14⟩,⟨a_15,a_16⟩,l⟩:aN)))):=by
 refine aH rfl (by kernel_rfl) (K7 _ _ _ λg=>?_)
 have p:=S3 a_1 a_2 a_3 a_4 a_5 a_6 a_7 a_8 a_9 a_10 a_11 a_12 a_13 a_14 a_15 a_16 hx hl
 have q:=S7 a_1 a_2 a_3 a_4 a_5 a_6 a_7 a_8 a_9 a_10 a_11 a_12 a_13 a_14 a_15 a_16 hx hl
 have o:=Wd a_1 a_2 a_3 a_4 a_5 a_6 a_7 a_8 a_9 a_10 a_11 a_12 a_13 a_14 a_15 a_16 hx hl
 have t:=We
 unfold mK BO
 by_cases d:a_1=0
 ·subst d
  simp[af,ah,ad,ae,aa, *,kp,hx.r]
 by_cases a:4<=a_1
 ·have n1 : ¬a_1=1:=by rintro rfl;exact absurd a (by decide)
  have n2 : ¬a_1=2:=by rintro rfl;exact absurd a (by decide)
  have v : ¬a_1=3:=by rintro rfl;exact absurd a (by decide)
  simp[af,ah,ad,ae,aa, *,kp,hx.r]
 cases u:me ⟨a_2,a_3,a_4⟩ with
 | false=>simp[af,ah,ad,ae,aa, *,kp,hx.r]
 | true=>
 rcases Dr a_5 1 with b | k
 ·have k : ¬1<=a_5:=by omega
  simp[af,ah,ad,ae,aa, *,kp,hx.r]
 have b : ¬a_5<1:=by omega
 rcases Dr a_5 16777216 with i | c
 rotate_left
 ·have i : ¬a_5<16777216:=by omega
  simp[af,ah,ad,ae,aa, *,kp,hx.r]
 have c : ¬16777216<=a_5:=by omega
 cases m:eN ⟨⟨⟨a_6,a_7,a_8⟩,a_9⟩,a_10⟩ with
 | false=>simp[af,ah,ad,ae,aa, *,kp,hx.r]
 | true=>
 have j:a_1=1\/a_1=2\/a_1=3:=by
  have e:a_1.toNat<4:=by have:=UInt8.not_le.1 a;exact this
  have n:a_1.toNat≠0:=λh=>d (Be.1 h)
  rcases(show a_1.toNat=1\/a_1.toNat=2\/a_1.toNat=3 by omega)with h | h | h
  ·exact .inl (Be.1 h)
  ·exact .inr (.inl (Be.1 h))
  ·exact .inr (.inr (Be.1 h))
 rcases j with rfl | rfl | rfl
 ·cases f:GR (⟨1,⟨a_2,a_3,a_4⟩,a_5,⟨⟨⟨a_6,a_7,a_8⟩,a_9⟩,a_10⟩,⟨⟨a_11,a_12,a_13⟩,a_14⟩,⟨a_15,a_16⟩,l⟩:aN)<;>simp[af,ah,ad,ae,aa, *,kp,hx.r,Kb,DM,GF]
 ·cases f:MU (⟨2,⟨a_2,a_3,a_4⟩,a_5,⟨⟨⟨a_6,a_7,a_8⟩,a_9⟩,a_10⟩,⟨⟨a_11,a_12,a_13⟩,a_14⟩,⟨a_15,a_16⟩,l⟩:aN)<;>simp[af,ah,ad,ae,aa, *,kp,hx.r,Kb,DM,GF]
 ·cases f:J7 (⟨3,⟨a_2,a_3,a_4⟩,a_5,⟨⟨⟨a_6,a_7,a_8⟩,a_9⟩,a_10⟩,⟨⟨a_11,a_12,a_13⟩,a_14⟩,⟨a_15,a_16⟩,l⟩:aN)<;>simp[af,ah,ad,ae,aa, *,kp,hx.r,Kb,DM,GF]
end
end Go.Proofs.YtdbiffjdomokfaaGreat
namespace Go.Proofs.YtdbiffjdomokfaaGreat
open Go.Ab
attribute [local simp] aU aK aG aW aV cz lT ba aO aQ cg cf bI bc ay bE gw
@[simp] theorem RS(l:List Int)(n:Nat):(rows l).all (flat (n+1))=true:=by
 simp[rows,fZ,aR]
theorem N9(i:UInt8)(e:UInt32)(k:UInt8)(j:Int)(f:Int)(b:UInt8)(c:UInt32)(d:UInt8)(a:Int){x:AV}{l:List Int}(m:Sl 1 (rows l) x)(t:l.length<1000000):aF env 165 [.agg [a8 i,aw e,a8 k,aI j,aI f,a8 b,aw c,a8 d,aI a,x]]=some (aI (bad (xP (⟨⟨⟨⟨i,e,k⟩,j⟩,f⟩,⟨⟨b,c,d⟩,a⟩,l⟩:Rn)))):=by
 refine aH rfl (by kernel_rfl) (JL _ _ _ λg=>?_)
 have p:=DJ m (by omega)
 have q:=AU l
 have n:((⟨⟨b,c,d⟩,a⟩:bR)=qI)=((decide (b=0)&&decide (c=0)&&decide (d=0)&&decide (a=0))=true):=by simp[qI,and_assoc]
 unfold xP
 simp only[n]
 cases o:(decide (b=0)&&decide (c=0)&&decide (d=0)&&decide (a=0)) with
 | true=>
  simp[af,ah,ad,ae,aa, *,zg,m.r,gk,ca]
  repeat' ((first | refine gU (λh=>?_) (λh=>?_) | refine fM (λh=>?_) (λh=>?_) | refine fN (λh=>?_) (λh=>?_) | refine fK (λh=>?_) (λh=>?_) | refine fL (λh=>?_) (λh=>?_))<;>(try simp only[decide_eq_true_eq,decide_eq_false_iff_not,dQ,ke,aZ,ff]at h)<;>(try simp[af,ah,ad,ae,aa, *,m.r]))
 | false=>
  simp[af,ah,ad,ae,aa, *,zg,m.r,gk,ca]
  repeat' ((first | refine gU (λh=>?_) (λh=>?_) | refine fM (λh=>?_) (λh=>?_) | refine fN (λh=>?_) (λh=>?_) | refine fK (λh=>?_) (λh=>?_) | refine fL (λh=>?_) (λh=>?_))<;>(try simp only[decide_eq_true_eq,decide_eq_false_iff_not,dQ,ke,aZ,ff]at h)<;>(try simp[af,ah,ad,ae,aa, *,m.r]))
theorem TD{r:Rn}(h:xP r=true):eN r.s=true/\(r.l.length:Int)=r.s.many:=by
 simp[xP]at h;exact⟨h.1,h.2.2.1⟩
def Hy(o:aN):Int:=if mK o then (if o.kind=1/\xP ⟨o.s,o.a,o.l⟩=true then 0 else 2) else 8
theorem Wh(q:UInt8)(t:UInt8)(w:UInt32)(v:UInt8)(u:Int)(n:UInt8)(o:UInt32)(p:UInt8)(m:Int)(i:Int)(d:UInt8)(b:UInt32)(f:UInt8)(a:Int)(k:UInt8)(j:UInt32){x:AV}{l:List Int}(B:Sl 1 (rows l) x)(O:l.length<1000000):aF env 155 [.agg [a8 q,a8 t,aw w,a8 v,aI u,a8 n,aw o,a8 p,aI m,aI i,a8 d,aw b,a8 f,aI a,a8 k,aw j,x]] =
 some (if Hy (⟨q,⟨t,w,v⟩,u,⟨⟨⟨n,o,p⟩,m⟩,i⟩,⟨⟨d,b,f⟩,a⟩,⟨k,j⟩,l⟩:aN)=0 then .tup [.agg [a8 n,aw o,a8 p,aI m,aI i,a8 d,aw b,a8 f,aI a,.cG 1 (rows l) none],aI 0]
  else .tup [.agg [a8 0,aw 0,a8 0,aI 0,aI 0,a8 0,aw 0,a8 0,aI 0,bZ],aI (Hy (⟨q,⟨t,w,v⟩,u,⟨⟨⟨n,o,p⟩,m⟩,i⟩,⟨⟨d,b,f⟩,a⟩,⟨k,j⟩,l⟩:aN))]):=by
 have L:=oD q t w v u n o p m i d b f a k j B (by omega)
 have H:=IC B (by omega) (by omega)
 cases E:mK (⟨q,⟨t,w,v⟩,u,⟨⟨⟨n,o,p⟩,m⟩,i⟩,⟨⟨d,b,f⟩,a⟩,⟨k,j⟩,l⟩:aN) with
 | false=>
  have e:Hy (⟨q,⟨t,w,v⟩,u,⟨⟨⟨n,o,p⟩,m⟩,i⟩,⟨⟨d,b,f⟩,a⟩,⟨k,j⟩,l⟩:aN)=8:=by simp[Hy,E]
  refine aH rfl (by kernel_rfl) (uj _ _ _ λg=>?_)
  simp[af,ah,ad,ae,aa, *,oL,B.r]
 | true=>
  have A:=λ{y:AV} (M:Sl 1 (rows l) y)=>N9 n o p m i d b f a M O
  by_cases F:l=[]
  ·have e:Hy (⟨q,⟨t,w,v⟩,u,⟨⟨⟨n,o,p⟩,m⟩,i⟩,⟨⟨d,b,f⟩,a⟩,⟨k,j⟩,l⟩:aN)=2:=by
    simp only[Hy,E,if_true]
    rw[if_neg]
    rintro⟨_,h⟩
    have z:=TD h
    simp only at z
    have G:=gp z.1
    simp only at G
    rw[F]at z
    simp at z
    omega
   have P:xP ⟨⟨⟨⟨n,o,p⟩,m⟩,i⟩,⟨⟨d,b,f⟩,a⟩,l⟩=false:=by
    cases A:xP ⟨⟨⟨⟨n,o,p⟩,m⟩,i⟩,⟨⟨d,b,f⟩,a⟩,l⟩ with
    | false=>rfl
    | true=>
     have z:=TD A
     simp only at z
     have G:=gp z.1
     simp only at G
     rw[F]at z
     simp at z
     omega
   subst F
   have K:rows ([]:List Int)=[]:=rfl
   rcases B.PX with ⟨rfl,_⟩ | ⟨c,rfl⟩
   ·have C:=A (y:=bZ) (.inl ⟨rfl,rfl⟩)
    clear A
    refine aH rfl (by kernel_rfl) (uj _ _ _ λg=>?_)
    by_cases D:q=1
    ·subst D
     simp[af,ah,ad,ae,aa, *,oL]
    ·simp[af,ah,ad,ae,aa, *,oL]
   ·have C:=A (y := .cG 1 (rows []) (some 0)) (.inr ⟨some 0,rfl,by simp[rows]⟩)
    have J:aF env 95 [.cG 1 [] c]=some (.fsl 1 [] (some 0)):=H
    clear A H
    rw[K]at L C ⊢
    refine aH rfl (by kernel_rfl) (uj _ _ _ λg=>?_)
    by_cases D:q=1
    ·subst D
     simp[af,ah,ad,ae,aa, *,oL]
    ·simp[af,ah,ad,ae,aa, *,oL]
  ·have z:rows l≠[]:=by simpa using F
   obtain⟨c,rfl,Q⟩:=B.W6 z
   rw[sL 1 c z]at H
   have C:=A (Sl.mk 1 (rows l))
   clear A
   have N:=RS l
   by_cases D:q=1
   ·subst D
    cases I:xP ⟨⟨⟨⟨n,o,p⟩,m⟩,i⟩,⟨⟨d,b,f⟩,a⟩,l⟩ with
    | false=>
     have e:Hy ⟨1,⟨t,w,v⟩,u,⟨⟨⟨n,o,p⟩,m⟩,i⟩,⟨⟨d,b,f⟩,a⟩,⟨k,j⟩,l⟩=2:=by simp[Hy,E,I]
     refine aH rfl (by kernel_rfl) (uj _ _ _ λg=>?_)
     simp[af,ah,ad,ae,aa, *,oL,B.r]
    | true=>
     have e:Hy ⟨1,⟨t,w,v⟩,u,⟨⟨⟨n,o,p⟩,m⟩,i⟩,⟨⟨d,b,f⟩,a⟩,⟨k,j⟩,l⟩=0:=by simp[Hy,E,I]
     refine aH rfl (by kernel_rfl) (uj _ _ _ λg=>?_)
     simp[af,ah,ad,ae,aa, *,oL,B.r]
   ·have e:Hy (⟨q,⟨t,w,v⟩,u,⟨⟨⟨n,o,p⟩,m⟩,i⟩,⟨⟨d,b,f⟩,a⟩,⟨k,j⟩,l⟩:aN)=2:=by simp[Hy,E,D]
    refine aH rfl (by kernel_rfl) (uj _ _ _ λg=>?_)
    simp[af,ah,ad,ae,aa, *,oL,B.r]
end Go.Proofs.YtdbiffjdomokfaaGreat
namespace Go.Proofs.YtdbiffjdomokfaaGreat
open Go.Ab
attribute [local simp] aU aK aG aW aV cz lT ba aO aQ cg cf bI bc ay bE gw
def GV(t:Int):List Int->Nat->Int
 | [],_ => -1
 | a :: l,k=>if t=a then k else GV t l (k+1)
theorem UO(t:Int)(l:List Int) : ∀k:Nat,(0<=GV t l k↔t∈l):=by
 induction l with
 | nil=>intro k;simp[GV]
 | cons a l b=>
  intro k
  unfold GV
  by_cases h:t=a
  ·simp[h]
  ·rw[if_neg h,b];simp[h]
theorem Mn{x0:AV}{Q:AV->ai->Prop}{l:List Int}(hx:Sl 1 (rows l) x0)(hl:l.length<4611686018427387904){t:Int}{H:ai} :
 ∀(s:List Int)(k:Nat)(i:Int),l.drop k=s->k<=l.length->i=k->(∀y,y=aI (GV t s k)->Q y H) ->
 bB env Tryz.f140 0 eF [(8,aI i),(0,x0),(1,aR t),(7,aI l.length)] H Q:=by
 intro s
 induction s with
 | nil=>
  rintro k i hs hk rfl hQ
  obtain rfl:=drop_nil hs hk
  refine kY _ _ _ _ _ _ λg=>?_
  simp[af,ah,ad,ae,aa, *,eJ]
  all_goals exact hQ _ rfl
 | cons a s d=>
  rintro k i hs hk rfl hQ
  obtain⟨h,n,b,j⟩:=drop_cons hs
  refine kY _ _ _ _ _ _ λg=>?_
  have o:=IntWalk.i64_in ((k:Int)+1) (by omega)
  by_cases f:t=a
  ·have e:GV t (a :: s) k=k:=by unfold GV;rw[if_pos f]
   simp[af,ah,ad,ae,aa, *,eJ,hx.idx,rows,aR]
   all_goals exact hQ _ (by simp[e])
  ·have e:GV t (a :: s) k=GV t s (k+1):=by rw[GV,if_neg f]
   have c:=d (k+1) ((k:Int)+1) b (by omega) (by simp) (λy m=>hQ y (by rw[m,e]))
   clear d hQ e
   simp[af,ah,ad,ae,aa, *,eJ,hx.idx,rows,aR]
   exact c
section
variable{x:AV}{l:List Int}(hx:Sl 1 (rows l) x)(hl:l.length<4611686018427387904)
include hx hl
theorem Tw(t:Int):aF env 140 [x,aR t]=some (aI (GV t l 0)):=by
 refine aH rfl (by kernel_rfl) (sE _ _ _ _ λg=>?_)
 have h:=hx.len
 simp[af,ah,ad,ae,aa, *,mh]
 exact Mn hx hl l 0 _ rfl (by omega) rfl (λy e=>by simp[e])
theorem Ly(t:Int):aF env 122 [x,aR t]=some (aB (decide (t∈l))):=by
 refine aH rfl (by kernel_rfl) (qx _ _ _ _ λg=>?_)
 have h:=Tw hx hl t
 have a:=hx.r
 have e:=UO t l 0
 simp[af,ah,ad,ae,aa, *,kP]
end
theorem Q2(o:UInt8)(m:UInt8)(t:UInt32)(q:UInt8)(n:Int)(k:UInt8)(p:UInt32)(u:UInt8)(j:Int)(f:Int)(d:UInt8)(b:UInt32)(e:UInt8)(a:Int)(i:UInt8)(c:UInt32){x:AV}{l:List Int}(hx:Sl 1 (rows l) x)(hl:l.length<4611686018427387904):aF env 100 [.agg [a8 o,a8 m,aw t,a8 q,aI n,a8 k,aw p,a8 u,aI j,aI f,a8 d,aw b,a8 e,aI a,a8 i,aw c,x]]=some (aB (!decide (-1∈l))):=by
 refine aH rfl (by kernel_rfl) (K6 _ _ _ λg=>?_)
 have h:=Ly hx hl (-1)
 have v:=hx.r
 unfold aR at h
 simp[af,ah,ad,ae,aa, *,EL]
def nZ(a b:aN):Bool:=decide (a.kind=b.kind)&&((decide (a.h.lv=b.h.lv)&&decide (a.h.cats=b.h.cats)&&decide (a.h.num=b.h.num))&&(decide (a.serial=b.serial) &&
 ((decide (a.s.f.h.lv=b.s.f.h.lv)&&decide (a.s.f.h.cats=b.s.f.h.cats)&&decide (a.s.f.h.num=b.s.f.h.num)&&decide (a.s.f.n=b.s.f.n)&&decide (a.s.many=b.s.many)) &&
 ((decide (a.a.h.lv=b.a.h.lv)&&decide (a.a.h.cats=b.a.h.cats)&&decide (a.a.h.num=b.a.h.num)&&decide (a.a.n=b.a.n))&&((decide (a.to.lv=b.to.lv)&&decide (a.to.cats=b.to.cats))&&decide (a.l=b.l))))))
theorem To(w:UInt8)(v:UInt8)(K:UInt32)(J:UInt8)(F:Int)(t:UInt8)(I:UInt32)(B:UInt8)(C:Int)(p:Int)(k:UInt8)(f:UInt32)(o:UInt8)(b:Int)(q:UInt8)(j:UInt32)(E:UInt8)(u:UInt8)(G:UInt32)(L:UInt8)(D:Int)(z:UInt8)(M:UInt32)(H:UInt8)(A:Int)(h:Int)(a:UInt8)(i:UInt32)(d:UInt8)(n:Int)(e:UInt8)(c:UInt32){x y:AV}{l m:List Int}(hx:Sl 1 (rows l) x)(N:Sl 1 (rows m) y)(hl:l.length<1000000000):aF env 123 [.agg [a8 w,a8 v,aw K,a8 J,aI F,a8 t,aw I,a8 B,aI C,aI p,a8 k,aw f,a8 o,aI b,a8 q,aw j,x],.agg [a8 E,a8 u,aw G,a8 L,aI D,a8 z,aw M,a8 H,aI A,aI h,a8 a,aw i,a8 d,aI n,a8 e,aw c,y]]=some (aB (nZ (⟨w,⟨v,K,J⟩,F,⟨⟨⟨t,I,B⟩,C⟩,p⟩,⟨⟨k,f,o⟩,b⟩,⟨q,j⟩,l⟩:aN) (⟨E,⟨u,G,L⟩,D,⟨⟨⟨z,M,H⟩,A⟩,h⟩,⟨⟨a,i,d⟩,n⟩,⟨e,c⟩,m⟩:aN))):=by
 refine aH rfl (by kernel_rfl) (NU _ _ _ _ λg=>?_)
 have W:=QS hx N (by omega)
 have P:=hx.r
 have O:=N.r
 unfold nZ
 cases U:decide (w=E) with
 | false=>simp[af,ah,ad,ae,aa, *,oy,gk,ca]
 | true=>
 cases T:(decide (v=u)&&decide (K=G)&&decide (J=L)) with
 | false=>simp[af,ah,ad,ae,aa, *,oy,gk,ca]
 | true=>
 cases S:decide (F=D) with
 | false=>simp[af,ah,ad,ae,aa, *,oy,gk,ca]
 | true=>
 cases V:(decide (t=z)&&decide (I=M)&&decide (B=H)&&decide (C=A)&&decide (p=h)) with
 | false=>simp[af,ah,ad,ae,aa, *,oy,gk,ca]
 | true=>
 cases R:(decide (k=a)&&decide (f=i)&&decide (o=d)&&decide (b=n)) with
 | false=>simp[af,ah,ad,ae,aa, *,oy,gk,ca]
 | true=>
 cases Q:(decide (q=e)&&decide (j=c)) with
 | false=>simp[af,ah,ad,ae,aa, *,oy,gk,ca]
 | true=>simp[af,ah,ad,ae,aa, *,oy,gk,ca]
end Go.Proofs.YtdbiffjdomokfaaGreat
namespace Go.Proofs.YtdbiffjdomokfaaGreat
open Go.Ab
attribute [local simp] aU aK aG aW aV cz lT ba aO aQ cg cf bI bc ay bE gw
@[simp] theorem IG(a:UInt8)(b:UInt32)(c:UInt8)(d:UInt32):aF env 20 [.agg [a8 a,aw b],.agg [a8 c,aw d]]=some (aB (nK ⟨a,b⟩ ⟨c,d⟩)):=by
 refine aH rfl (by kernel_rfl) (Cl _ _ _ _ λg=>?_)
 simp[af,ah,ad,ae,aa, *,zi]
 repeat' ((first | refine gU (λh=>?_) (λh=>?_) | refine fM (λh=>?_) (λh=>?_) | refine fN (λh=>?_) (λh=>?_) | refine fK (λh=>?_) (λh=>?_) | refine fL (λh=>?_) (λh=>?_))<;>(try simp only[decide_eq_true_eq,decide_eq_false_iff_not,dQ,ke,aZ,ff]at h)<;>(try simp[af,ah,ad,ae,aa, *,nK]))
theorem adX(f:UInt8)(c:UInt32)(h:UInt8)(b:Int)(d:Int)(i:UInt8)(j:UInt32)(k:UInt8)(a:Int)(C : -4611686018427387904<a)(B:a<4611686018427387904):aF env 176 [.agg [a8 f,aw c,a8 h,aI b,aI d],.agg [a8 i,aw j,a8 k,aI a]]=some (if hasB (⟨⟨⟨f,c,h⟩,b⟩,d⟩:vu) (⟨⟨i,j,k⟩,a⟩:bR) then .tup [aI (a - b),aB true] else .tup [aI 0,aB false]):=by
 refine aH rfl (by kernel_rfl) (NW _ _ _ _ λg=>?_)
 cases m:eN (⟨⟨⟨f,c,h⟩,b⟩,d⟩:vu) with
 | false=>
  have e:hasB (⟨⟨⟨f,c,h⟩,b⟩,d⟩:vu) (⟨⟨i,j,k⟩,a⟩:bR)=false:=by simp[hasB,m]
  simp[af,ah,ad,ae,aa, *,sP]
 | true=>
  have t:=gp m
  simp only at t
  have A:=IntWalk.i64_in (a - b) (by omega)
  have z:=IntWalk.i64_in (b+(a - b)) (by omega)
  have y:b+(a - b)=a:=by omega
  have D:=IntWalk.i64_in a (by omega)
  rcases Dr (a - b) 0 with w | w
  ·have e:hasB (⟨⟨⟨f,c,h⟩,b⟩,d⟩:vu) (⟨⟨i,j,k⟩,a⟩:bR)=false:=by
    have : ¬b<=a:=by omega
    simp[hasB,this]
   simp[af,ah,ad,ae,aa, *,sP]
  ·have o : ¬a - b<0:=by omega
   rcases Dr (a - b) d with v | v
   rotate_left
   ·have e:hasB (⟨⟨⟨f,c,h⟩,b⟩,d⟩:vu) (⟨⟨i,j,k⟩,a⟩:bR)=false:=by
     have : ¬a<b+d:=by omega
     simp[hasB,this]
    simp[af,ah,ad,ae,aa, *,sP]
   ·have u : ¬d<=a - b:=by omega
    have q:b<=a:=by omega
    have p:a<b+d:=by omega
    have n:decide ((⟨f,c,h⟩:vI)=⟨i,j,k⟩)=(decide (i=f)&&decide (j=c)&&decide (k=h)):=by
     simp[zr,eq_comm]
    have e:hasB (⟨⟨⟨f,c,h⟩,b⟩,d⟩:vu) (⟨⟨i,j,k⟩,a⟩:bR)=(decide (i=f)&&decide (j=c)&&decide (k=h)):=by
     rw[<-n];simp only[hasB,m,q,p,decide_true,zY,nu]
    rw[e]
    clear e n
    cases E:(decide (i=f)&&decide (j=c)&&decide (k=h)) with
    | false=>simp[af,ah,ad,ae,aa, *,sP,gk,ca]
    | true=>simp[af,ah,ad,ae,aa, *,sP,gk,ca]
def u5(t:ib):List ib->Nat->Int
 | [],_ => -1
 | a :: l,k=>if t=a then k else u5 t l (k+1)
theorem OS(t:ib)(l:List ib) : ∀k:Nat,(0<=u5 t l k↔t∈l):=by
 induction l with
 | nil=>intro k;simp[u5]
 | cons a l b=>
  intro k
  unfold u5
  by_cases h:t=a
  ·simp[h]
  ·rw[if_neg h,b];simp[h]
theorem Mo{x0:AV}{Q:AV->ai->Prop}{l:List ib}(hx:Sl 2 (jU l) x0)(hl:l.length<4611686018427387904){a:UInt8}{b:UInt32}{r3:Ref}{H:ai}(p:H.get r3=some ⟨2,[.agg [a8 a,aw b]],false,false⟩) :
 ∀(s:List ib)(k:Nat)(i:Int),l.drop k=s->k<=l.length->i=k->(∀y,y=aI (u5 ⟨a,b⟩ s k)->Q y H) ->
 bB env Tryz.f173 0 bp [(8,aI i),(0,x0),(3,.ptr r3 0 0),(7,aI l.length)] H Q:=by
 intro s
 induction s with
 | nil=>
  rintro k i hs hk rfl hQ
  obtain rfl:=drop_nil hs hk
  refine dk _ _ _ _ _ _ λg=>?_
  simp[af,ah,ad,ae,aa, *,bt]
  all_goals exact hQ _ rfl
 | cons t s j=>
  rintro k i hs hk rfl hQ
  obtain⟨t1,t2⟩:=t
  obtain⟨h,o,d,m⟩:=drop_cons hs
  refine dk _ _ _ _ _ _ λg=>?_
  have q:=IntWalk.i64_in ((k:Int)+1) (by omega)
  have c:((⟨a,b⟩:ib)=⟨t1,t2⟩)=((decide (a=t1)&&decide (b=t2))=true):=by simp
  cases f:(decide (a=t1)&&decide (b=t2)) with
  | true=>
   rw[f]at c
   have e:u5 ⟨a,b⟩ (⟨t1,t2⟩ :: s) k=k:=by unfold u5;rw[if_pos (by rw[c])]
   clear c
   simp[af,ah,ad,ae,aa, *,bt,hx.idx,jU,gk,ca]
   all_goals exact hQ _ (by simp[e])
  | false=>
   rw[f]at c
   have e:u5 ⟨a,b⟩ (⟨t1,t2⟩ :: s) k=u5 ⟨a,b⟩ s (k+1):=by
    rw[u5,if_neg (by rw[c];simp)]
   clear c
   simp[af,ah,ad,ae,aa, *,bt,hx.idx,jU,gk,ca]
   exact j (k+1) _ d (by omega) (by simp) (λy n=>hQ y (by rw[n,e]))
section
variable{x:AV}{l:List ib}(hx:Sl 2 (jU l) x)(hl:l.length<4611686018427387904)
include hx hl
theorem Tx(a:UInt8)(b:UInt32):aF env 173 [x,.agg [a8 a,aw b]]=some (aI (u5 ⟨a,b⟩ l 0)):=by
 refine aH rfl (by kernel_rfl) (im _ _ _ _ λg=>?_)
 have h:=hx.len
 simp[af,ah,ad,ae,aa, *,dF]
 exact Mo hx hl (a:=a) (b:=b) (by simp) l 0 _ rfl (by omega) rfl (λy e=>by simp[e])
theorem Af(a:UInt8)(b:UInt32):aF env 171 [x,.agg [a8 a,aw b]]=some (aB (decide (⟨a,b⟩∈l))):=by
 refine aH rfl (by kernel_rfl) (gB _ _ _ _ λg=>?_)
 have h:=Tx hx hl a b
 have e:=OS ⟨a,b⟩ l 0
 simp[af,ah,ad,ae,aa, *,dc,hx.r]
end
structure Ib (r r7 q:Ref) (c:Option Nat) (info:AV) (H:ai) (out:List ib):Prop where
 fr:Fr H
 mark:H.get r=some (kz 0 info)
 box:H.get r7=some ⟨1,[.cC q 0 out.length c],false,false⟩
 row:H.get q=some ⟨2,jU out,true,false⟩
 cap:(c=none/\q.d=2/\q.t=25/\2<=out.length)\/(c=some out.length/\out.length=1)
 n1:r7≠r
 n2:q≠r
 n3:q≠r7
theorem OL{r r7 q:Ref}{c:Option Nat}{tm:List AV}{H:ai}{out:List ib}{ps:List Tmp}(k:ps=[17])(j:cY tm 7 = .ptr r7 0 0)(n:Ib r r7 q c (.lp 0 27 ps dK dJ tm) H out)(u:out.length<1000000)(a:UInt8)(b:UInt32) :
 ∃y H',cE env 1 (.yld r) [.agg [a8 a,aw b]] H=some (y,H')/\(y=aB true /\∃w B,Ib r r7 w B (.lp 0 27 ps dK dJ tm) H' (rW out ⟨a,b⟩)):=by
 subst k
 refine RG (fn:=Tryz.f172) (dep:=1) n.mark (by kernel_rfl) rfl rfl (by kernel_rfl) (by kernel_rfl) ?_
 rw[<-L2 (s:=cY (wU tm [17] [.agg [a8 a,aw b]])) (l:=[(7,.ptr r7 0 0),(17,.agg [a8 a,aw b])]) (by
  intro p hp
  simp only[nw,Du,or_false]at hp
  rcases hp with rfl | rfl
  ·show cY (yN tm 17 _) 7=_
   rw[oC]
   simpa using j
  ·show cY (yN tm 17 _) 17=_
   rw[oC]
   simp)]
 refine(A8 r _ _ _ _ λg=>?_).h _
 obtain⟨fr,mark,box,row,cap,n1,n2,n3⟩:=n
 have C:=n1.symm
 have v:=n2.symm
 have A:=n3.symm
 have G:(H.get r).isSome=true:=by rw[mark];rfl
 have I:(H.get r7).isSome=true:=by rw[box];rfl
 have J:(H.get q).isSome=true:=by rw[row];rfl
 have D:out.length+1<=17592186044416:=by omega
 have E:(out.length+1) * 8<=140737488355328:=by omega
 have d:(⟨a,b⟩:ib) ∉ out->rW out ⟨a,b⟩=out++[⟨a,b⟩]:=λh=>by unfold rW;rw[if_neg h]
 rcases cap with ⟨rfl,o,t,m⟩ | ⟨rfl,i⟩
 ·obtain⟨K,L,F,M⟩:=q
  simp only at o t
  subst o t
  have z:=Af (x := .cG 2 (jU out) none) (Sl.mk _ _) (by omega) a b
  by_cases f:(⟨a,b⟩:ib)∈out
  ·have e:rW out ⟨a,b⟩=out:=by unfold rW;rw[if_pos f]
   simp[af,ah,ad,ae,aa, *,jQ,we,ai.get_put]
   refine⟨_,rfl,_,none,⟨by simp(maxDischargeDepth:=12) [ai.get_put,an,aj,Fr.nil,au,af,ah,ad,ae,ao,ak,aa, *],by simp(maxDischargeDepth:=12) [ai.get_put,an,aj,Fr.nil,au,af,ah,ad,ae,ao,ak,aa, *],by simp(maxDischargeDepth:=12) [ai.get_put,an,aj,Fr.nil,au,af,ah,ad,ae,ao,ak,aa, *],by simp(maxDischargeDepth:=12) [ai.get_put,an,aj,Fr.nil,au,af,ah,ad,ae,ao,ak,aa, *],.inl ⟨rfl,rfl,rfl,by first | exact m | (rw[e];exact m)⟩,n1,n2,n3⟩⟩
  ·replace d:=d f
   simp[af,ah,ad,ae,aa, *,jQ,we,ai.get_put]
   refine⟨_,rfl,⟨2,25,H.gen 2 25,0⟩,none,⟨by simp(maxDischargeDepth:=12) [ai.get_put,an,aj,Fr.nil,au,af,ah,ad,ae,ao,ak,aa, *],by simp(maxDischargeDepth:=12) [ai.get_put,an,aj,Fr.nil,au,af,ah,ad,ae,ao,ak,aa, *],by simp(maxDischargeDepth:=12) [ai.get_put,an,aj,Fr.nil,au,af,ah,ad,ae,ao,ak,aa, *],?_,.inl ⟨rfl,rfl,rfl,by simp[d];omega⟩,by simp(maxDischargeDepth:=12) [ai.get_put,an,aj,Fr.nil,au,af,ah,ad,ae,ao,ak,aa, *],by simp(maxDischargeDepth:=12) [ai.get_put,an,aj,Fr.nil,au,af,ah,ad,ae,ao,ak,aa, *],by simp(maxDischargeDepth:=12) [ai.get_put,an,aj,Fr.nil,au,af,ah,ad,ae,ao,ak,aa, *]⟩⟩
   simp[ai.get_put,jU,d]
 ·have m:out.length<=1/\1<=out.length:=by omega
  clear i
  have z:=Af (x := .cG 2 (jU out) (some out.length)) (.inr ⟨_,rfl,by simp⟩) (by omega) a b
  by_cases f:(⟨a,b⟩:ib)∈out
  ·have e:rW out ⟨a,b⟩=out:=by unfold rW;rw[if_pos f]
   simp[af,ah,ad,ae,aa, *,jQ,we,ai.get_put]
   refine⟨_,rfl,_,some out.length,⟨by simp(maxDischargeDepth:=12) [ai.get_put,an,aj,Fr.nil,au,af,ah,ad,ae,ao,ak,aa, *],by simp(maxDischargeDepth:=12) [ai.get_put,an,aj,Fr.nil,au,af,ah,ad,ae,ao,ak,aa, *],by simp(maxDischargeDepth:=12) [ai.get_put,an,aj,Fr.nil,au,af,ah,ad,ae,ao,ak,aa, *],by simp(maxDischargeDepth:=12) [ai.get_put,an,aj,Fr.nil,au,af,ah,ad,ae,ao,ak,aa, *],.inr ⟨by first | rfl | rw[e],by first | omega | (rw[e];omega)⟩,n1,n2,n3⟩⟩
  ·replace d:=d f
   simp[af,ah,ad,ae,aa, *,jQ,we,ai.get_put]
   refine⟨_,rfl,⟨2,25,H.gen 2 25,0⟩,none,⟨by simp(maxDischargeDepth:=12) [ai.get_put,an,aj,Fr.nil,au,af,ah,ad,ae,ao,ak,aa, *],by simp(maxDischargeDepth:=12) [ai.get_put,an,aj,Fr.nil,au,af,ah,ad,ae,ao,ak,aa, *],by simp(maxDischargeDepth:=12) [ai.get_put,an,aj,Fr.nil,au,af,ah,ad,ae,ao,ak,aa, *],?_,.inl ⟨rfl,rfl,rfl,by simp[d];omega⟩,by simp(maxDischargeDepth:=12) [ai.get_put,an,aj,Fr.nil,au,af,ah,ad,ae,ao,ak,aa, *],by simp(maxDischargeDepth:=12) [ai.get_put,an,aj,Fr.nil,au,af,ah,ad,ae,ao,ak,aa, *],by simp(maxDischargeDepth:=12) [ai.get_put,an,aj,Fr.nil,au,af,ah,ad,ae,ao,ak,aa, *]⟩⟩
   simp[ai.get_put,jU,d]
theorem Ib.cons{r r7 q:Ref}{c:Option Nat}{a:AV}{H:ai}{out:List ib}(h:Ib r r7 q c a H out)(d t:Nat)(b:Option bA):Ib r r7 q c a ((⟨d,t,H.gen d t,0⟩,b) :: H) out:=by
 obtain⟨fr,mark,box,row,cap,n1,n2,n3⟩:=h
 have e:(H.get r).isSome=true:=by rw[mark];rfl
 have f:(H.get r7).isSome=true:=by rw[box];rfl
 have g:(H.get q).isSome=true:=by rw[row];rfl
 exact⟨by simp(maxDischargeDepth:=12) [ai.get_put,an,aj,Fr.nil,au,af,ah,ad,ae,ao,ak,aa, *],by simp(maxDischargeDepth:=12) [ai.get_put,an,aj,Fr.nil,au,af,ah,ad,ae,ao,ak,aa, *],by simp(maxDischargeDepth:=12) [ai.get_put,an,aj,Fr.nil,au,af,ah,ad,ae,ao,ak,aa, *],by simp(maxDischargeDepth:=12) [ai.get_put,an,aj,Fr.nil,au,af,ah,ad,ae,ao,ak,aa, *],cap,n1,n2,n3⟩
theorem LI{r r7:Ref}{tm:List AV}(W:cY tm 7 = .ptr r7 0 0){l:List (aN × AV)}{Z:AV}(hx:Sl 17 (cD l) Z)(R : ∀p∈l,HT p)(hl:l.length<100000)(h:UInt8)(f:UInt32)(j:UInt8)(e:Int)(V : -4611686018427387904<e)(Y:e<4611686018427387904)(v1:UInt8)(v2:UInt32){Q:AV->ai->Prop} :
 ∀(s:List (aN × AV)) (k:Nat) (i:Int) (out:List ib) (q:Ref) (c:Option Nat) (H:ai),l.drop k=s->k<=l.length->i=k->out.length<=k+1 ->
 Ib r r7 q c (.lp 0 27 [17] dK dJ tm) H out ->
 (∀y J G H',Ib r r7 J G (.lp 0 27 [17] dK dJ tm) H' (uZ out (opsOf s) (⟨⟨h,f,j⟩,e⟩:bR) ⟨v1,v2⟩)->Q y H') ->
 bB env Tryz.f175 (0+1) lV [(11,aI i),(0,.yld r),(3,.iptr 2 [.agg [a8 v1,aw v2]] 0 0),(2,.iptr 4 [.agg [a8 h,aw f,a8 j,aI e]] 0 0),(9,Z),(10,aI l.length)] H Q:=by
 intro s
 induction s with
 | nil=>
  rintro k i out q c H hs hk rfl ho hI hQ
  obtain rfl:=drop_nil hs hk
  refine tO _ _ _ _ _ _ _ _ _ λg=>?_
  simp[af,ah,ad,ae,aa, *,ia]
  exact hQ _ _ _ _ hI
 | cons p s T=>
  rintro k i out q c H hs hk rfl ho hI hQ
  obtain⟨hlt,hg,K,hg'⟩:=drop_cons hs
  have hp:=R p (by rw[<-hg];exact lM _)
  obtain⟨⟨F,⟨B,C,E⟩,D,⟨⟨⟨u,z,v⟩,w⟩,b⟩,⟨⟨o,n,t⟩,m⟩,⟨d,a⟩,O⟩,x⟩:=p
  obtain⟨I,U⟩:=hp
  simp only at I U
  refine tO _ _ _ _ _ _ _ _ _ λg=>?_
  have e3:=IntWalk.i64_in ((k:Int)+1) (by omega)
  have hh:=adX u z v w b h f j e V Y
  have L:=hI.cons 1 6 (some ⟨17,[.agg [a8 F,a8 B,aw C,a8 E,aI D,a8 u,aw z,a8 v,aI w,aI b,a8 o,aw n,a8 t,aI m,a8 d,aw a,x]],false,false⟩)
  have A:uZ out (opsOf (((⟨F,⟨B,C,E⟩,D,⟨⟨⟨u,z,v⟩,w⟩,b⟩,⟨⟨o,n,t⟩,m⟩,⟨d,a⟩,O⟩:aN),x) :: s)) (⟨⟨h,f,j⟩,e⟩:bR) ⟨v1,v2⟩=uZ (if jT (⟨F,⟨B,C,E⟩,D,⟨⟨⟨u,z,v⟩,w⟩,b⟩,⟨⟨o,n,t⟩,m⟩,⟨d,a⟩,O⟩:aN) (⟨⟨h,f,j⟩,e⟩:bR) ⟨v1,v2⟩ then rW out ⟨d,a⟩ else out) (opsOf s) (⟨⟨h,f,j⟩,e⟩:bR) ⟨v1,v2⟩:=rfl
  have hfr:=hI.fr
  by_cases P:F=3
  rotate_left
  ·have M:jT (⟨F,⟨B,C,E⟩,D,⟨⟨⟨u,z,v⟩,w⟩,b⟩,⟨⟨o,n,t⟩,m⟩,⟨d,a⟩,O⟩:aN) (⟨⟨h,f,j⟩,e⟩:bR) ⟨v1,v2⟩=false:=by simp[jT,P]
   rw[M,if_neg (by decide)]at A
   cases S:hasB ⟨⟨⟨u,z,v⟩,w⟩,b⟩ (⟨⟨h,f,j⟩,e⟩:bR)<;>simp[af,ah,ad,ae,aa, *,ia,hx.idx,cD,y6,I.r]
   all_goals exact T (k+1) _ out q c _ K (by omega) (by simp) (by omega) L (λy J G H' N=>hQ y J G H' (by rw[A];exact N))
  ·subst P
   cases S:hasB ⟨⟨⟨u,z,v⟩,w⟩,b⟩ (⟨⟨h,f,j⟩,e⟩:bR) with
   | false=>
    have M:jT (⟨3,⟨B,C,E⟩,D,⟨⟨⟨u,z,v⟩,w⟩,b⟩,⟨⟨o,n,t⟩,m⟩,⟨d,a⟩,O⟩:aN) (⟨⟨h,f,j⟩,e⟩:bR) ⟨v1,v2⟩=false:=by simp[jT,S]
    rw[M,if_neg (by decide)]at A
    simp[af,ah,ad,ae,aa, *,ia,hx.idx,cD,y6,I.r]
    exact T (k+1) _ out q c _ K (by omega) (by simp) (by omega) L (λy J G H' N=>hQ y J G H' (by rw[A];exact N))
   | true=>
    cases hq:nK ⟨B,C⟩ ⟨v1,v2⟩ with
    | false=>
     have M:jT (⟨3,⟨B,C,E⟩,D,⟨⟨⟨u,z,v⟩,w⟩,b⟩,⟨⟨o,n,t⟩,m⟩,⟨d,a⟩,O⟩:aN) (⟨⟨h,f,j⟩,e⟩:bR) ⟨v1,v2⟩=false:=by simp[jT,S,KC,hq]
     rw[M,if_neg (by decide)]at A
     simp[af,ah,ad,ae,aa, *,ia,hx.idx,cD,y6,I.r]
     exact T (k+1) _ out q c _ K (by omega) (by simp) (by omega) L (λy J G H' N=>hQ y J G H' (by rw[A];exact N))
    | true=>
     have M:jT (⟨3,⟨B,C,E⟩,D,⟨⟨⟨u,z,v⟩,w⟩,b⟩,⟨⟨o,n,t⟩,m⟩,⟨d,a⟩,O⟩:aN) (⟨⟨h,f,j⟩,e⟩:bR) ⟨v1,v2⟩=true:=by simp[jT,S,KC,hq]
     rw[M,if_pos rfl]at A
     obtain⟨y,H',hy,rfl,J,G,X⟩:=OL rfl W L (by omega) d a
     simp[af,ah,ad,ae,aa, *,ia,hx.idx,cD,y6,I.r,M4]
     exact T (k+1) _ _ J G _ K (by omega) (by simp) (by have:=Nh out ⟨d,a⟩;omega) X (λy J G H' N=>hQ y J G H' (by rw[A];exact N))
theorem Oo{r r7 q:Ref}{c:Option Nat}{tm:List AV}{H:ai}{out:List ib}(i:cY tm 7 = .ptr r7 0 0){l:List (aN × AV)}{x:AV}(hx:Sl 17 (cD l) x)(f : ∀p∈l,HT p)(hl:l.length<100000)(b:UInt8)(d:UInt32)(e:UInt8)(a:Int)(h : -4611686018427387904<a)(j:a<4611686018427387904)(v1:UInt8)(v2:UInt32)
 (t:out.length<=1) (n:Ib r r7 q c (.lp 0 27 [17] dK dJ tm) H out) :
 ∃y H',cE env 0 (.fn 175) [.yld r,.iptr 1 [x] 0 0,.iptr 4 [.agg [a8 b,aw d,a8 e,aI a]] 0 0,.iptr 2 [.agg [a8 v1,aw v2]] 0 0] H=some (y,H') /\∃k m,Ib r r7 k m (.lp 0 27 [17] dK dJ tm) H' (uZ out (opsOf l) (⟨⟨b,d,e⟩,a⟩:bR) ⟨v1,v2⟩):=by
 refine pv (fn:=Tryz.f175) (c:=Dd) (by kernel_rfl) (by kernel_rfl) (by kernel_rfl) (by kernel_rfl) (by kernel_rfl) ?_
 refine Cn _ _ _ _ _ _ _ λg=>?_
 simp[af,ah,ad,ae,aa, *,wG,hx.r]
 exact LI i hx f hl b d e a h j v1 v2 l 0 _ out q c H rfl (by omega) rfl (by omega) n (λy k m H' o=>⟨k,m,o⟩)
theorem Wx:jJ = .code (.rangeFunc (.tmp 16) #[17] dK dJ) :: tP:=by kernel_rfl
def Hg(out:List ib):Option Nat:=if out.length=1 then some 1 else none
theorem QM{l:List (aN × AV)}{x:AV}(hx:Sl 17 (cD l) x)(a:UInt8)(b:UInt32)(d:UInt8)(c:Int)(v1:UInt8)(v2:UInt32):aF env 174 [x,.agg [a8 a,aw b,a8 d,aI c],.agg [a8 v1,aw v2]]=some (.fn (.func 175) [] [.iptr 1 [x] 0 0,.iptr 4 [.agg [a8 a,aw b,a8 d,aI c]] 0 0,.iptr 2 [.agg [a8 v1,aw v2]] 0 0]):=by
 refine aH rfl (by kernel_rfl) (ET _ _ _ _ _ λg=>?_)
 simp[af,ah,ad,ae,aa, *,zL,hx.r]
theorem Zk{l:List (aN × AV)}{x:AV}(hx:Sl 17 (cD l) x)(i : ∀p∈l,HT p)(hl:l.length<100000)(a:UInt8)(b:UInt32)(e:UInt8)(d:Int)(k : -4611686018427387904<d)(n:d<4611686018427387904)(v1:UInt8)(v2:UInt32) :
 aF env 172 [x,.agg [a8 a,aw b,a8 e,aI d],.agg [a8 v1,aw v2]]=some (.cG 2 (jU (ph (opsOf l) (⟨⟨a,b,e⟩,d⟩:bR) ⟨v1,v2⟩)) (Hg (ph (opsOf l) (⟨⟨a,b,e⟩,d⟩:bR) ⟨v1,v2⟩))):=by
 refine aH rfl (by kernel_rfl) (HI _ _ _ _ _ λg=>?_)
 have E:=QM hx a b e d v1 v2
 have j : ∀ {r r7 q c f H out},Ib r r7 q c f H out->c=Hg out:=by
  intro r r7 q c f H out h
  rcases h.cap with ⟨o,_,_,t⟩ | ⟨o,t⟩
  ·rw[o,Hg,if_neg (by omega)]
  ·rw[o,Hg,if_pos t,t]
 simp[af,ah,ad,ae,aa, *,BG,hx.r]
 rw[Wx]
 refine⟨λz=>OZ (gi:=175) (first:=[]) (captured:=[.iptr 1 [x] 0 0,.iptr 4 [.agg [a8 a,aw b,a8 e,aI d]] 0 0,.iptr 2 [.agg [a8 v1,aw v2]] 0 0]) rfl ?_⟩
 intro tm A
 have C:cY tm 7 = .ptr ⟨0,7,0,0⟩ 0 0:=(A 7).trans rfl
 rw[show Tryz.f172.ntmps=27 from by kernel_rfl]
 obtain⟨y,H',D,F,G,hm⟩:=Oo (r:=⟨0,27,0,0⟩) (r7:=⟨0,7,0,0⟩) (q:=⟨0,12,0,0⟩) (c:=some 1) (tm:=tm) (out:=[⟨a,b⟩])
  (H:=(⟨0,27,0,0⟩,some (kz 0 (.lp 0 27 [17] dK dJ tm))) :: [(⟨0,7,0,0⟩,some ⟨1,[.cC ⟨0,12,0,0⟩ 0 1 (some 1)],false,false⟩),(⟨0,12,0,0⟩,some ⟨2,[.agg [a8 a,aw b]],true,false⟩),(⟨0,5,0,0⟩,some ⟨2,[.agg [a8 v1,aw v2]],false,false⟩),(⟨0,4,0,0⟩,some ⟨4,[.agg [a8 a,aw b,a8 e,aI d]],false,false⟩)])
  C hx i hl a b e d k n v1 v2 (by simp) ⟨by simp(maxDischargeDepth:=12) [an,aj,Fr.nil,au,af,ah,ad,ae,ao,ak,aa, *],by simp,by simp,by simp[jU],.inr ⟨rfl,rfl⟩,by decide,by decide,by decide⟩
 refine⟨y,H',0,_,by simpa using D,by simp only[ai.Mz,ai.Xd];rw[we];exact(congrArg lpO hm.mark).trans (CV _ _),.inl ⟨rfl,?_⟩⟩
 have w:=L2 (s:=L3 z [(16,AV.fn (.func 175) [] [.iptr 1 [x] 0 0,.iptr 4 [.agg [a8 a,aw b,a8 e,aI d]] 0 0,.iptr 2 [.agg [a8 v1,aw v2]] 0 0]),(7,AV.ptr ⟨0,7,0,0⟩ 0 0)]) (l:=[(7,AV.ptr ⟨0,7,0,0⟩ 0 0)]) (by
  intro p hp
  simp only[nw,Du,or_false]at hp
  subst hp
  rfl)
 rw[<-w]
 refine(Ac _ _ _ λg=>?_).h _
 have n1:(⟨0,7,0,0⟩:Ref)≠⟨0,27,0,0⟩:=hm.n1
 have n2:=hm.n2
 have v:=hm.box
 have u:=hm.row
 have B:=j hm
 subst B
 have m:(uZ [⟨a,b⟩] (opsOf l) (⟨⟨a,b,e⟩,d⟩:bR) ⟨v1,v2⟩)=ph (opsOf l) (⟨⟨a,b,e⟩,d⟩:bR) ⟨v1,v2⟩:=rfl
 rw[m]at v u
 simp[af,ah,ad,ae,aa, *,tx,ai.get_put]
end Go.Proofs.YtdbiffjdomokfaaGreat
namespace Go.Proofs.YtdbiffjdomokfaaGreat
open Go.Ab
attribute [local simp] aU aK aG aW aV cz lT ba aO aQ cg cf bI bc ay bE gw
theorem Qm(out:List ib):Sl 2 (jU out) (.cG 2 (jU out) (Hg out)):=by
 refine .inr ⟨_,rfl,?_⟩
 unfold Hg
 split
 ·rename_i h;simp[h]
 ·simp
def pw(l:List aN)(o:aN):Nat->Nat->Bool
 | 0,_=>true
 | n+1,k=>decide (KC o∈ph l ⟨o.s.f.h,o.s.f.n+(k:Int)⟩ (KC o))&&pw l o n (k+1)
theorem I0(l:List aN)(i:bR)(v:ib):(ph l i v).length<=1+l.length:=RD l i v [No i]
theorem RU{l:List (aN × AV)}{x0:AV}(hx:Sl 17 (cD l) x0)(hall : ∀p∈l,HT p)(hl:l.length<100000)(w:UInt8)(b:UInt8)(c:UInt32)(A:UInt8)(z:Int)(d:UInt8)(j:UInt32)(f:UInt8)(h:Int)(a:Int)(t:UInt8)(o:UInt32)(u:UInt8)(m:Int)(v:UInt8)(q:UInt32){C:List Int}{x:AV}(B:Sl 1 (rows C) x)(E:eN ⟨⟨⟨d,j,f⟩,h⟩,a⟩=true){Q:AV->ai->Prop}{r3:Ref} :
 ∀(n k:Nat)(i:Int)(right:Bool)(H:ai),(k:Int)+n=a->i=k->Fr H->H.get r3=some ⟨17,[.agg [a8 w,a8 b,aw c,a8 A,aI z,a8 d,aw j,a8 f,aI h,aI a,a8 t,aw o,a8 u,aI m,a8 v,aw q,x]],false,false⟩->(k=0\/right=true) ->
 (∀y H',y=aB (right&&pw (opsOf l) (⟨w,⟨b,c,A⟩,z,⟨⟨⟨d,j,f⟩,h⟩,a⟩,⟨⟨t,o,u⟩,m⟩,⟨v,q⟩,C⟩:aN) n k)->Q y H') ->
 bB env Tryz.f169 0 pL [(21,aI i),(3,.ptr r3 0 0),(0,x0),(5,aB right),(20,aI a)] H Q:=by
 have F:=gp E
 simp only at F
 intro n
 induction n with
 | zero=>
  rintro k i right H hk rfl hF hB hr hQ
  refine zA _ _ _ _ _ _ _ λg=>?_
  have D : ¬(k:Int)<a:=by omega
  simp[af,ah,ad,ae,aa, *,m6]
  all_goals exact hQ _ _ (by simp[pw])
 | succ n K=>
  rintro k i right H hk rfl hF hB hr hQ
  refine zA _ _ _ _ _ _ _ λg=>?_
  have D:(k:Int)<a:=by omega
  have O:=IntWalk.i64_in ((k:Int)+1) (by omega)
  have N:VL ⟨⟨⟨d,j,f⟩,h⟩,a⟩ (k:Int)=0:=by
   unfold VL
   rw[if_pos E,if_neg]
   simp only
   omega
  have L:=Zk hx hall hl d j f (h+k) (by omega) (by omega) b c
  have J:=I0 (opsOf l) ⟨⟨d,j,f⟩,h+k⟩ ⟨b,c⟩
  have M:=Af (Qm (ph (opsOf l) ⟨⟨d,j,f⟩,h+k⟩ ⟨b,c⟩)) (by rw[show(opsOf l).length=l.length from p7 _]at J;omega) b c
  have G:pw (opsOf l) (⟨w,⟨b,c,A⟩,z,⟨⟨⟨d,j,f⟩,h⟩,a⟩,⟨⟨t,o,u⟩,m⟩,⟨v,q⟩,C⟩:aN) (n+1) k=(decide ((⟨b,c⟩:ib)∈ph (opsOf l) ⟨⟨d,j,f⟩,h+k⟩ ⟨b,c⟩)&&pw (opsOf l) (⟨w,⟨b,c,A⟩,z,⟨⟨⟨d,j,f⟩,h⟩,a⟩,⟨⟨t,o,u⟩,m⟩,⟨v,q⟩,C⟩:aN) n (k+1)):=rfl
  rw[G]at hQ
  clear G F
  cases right with
  | false=>
   simp[af,ah,ad,ae,aa, *,m6,hx.r,B.r]
   all_goals exact hQ _ _ (by simp)
  | true=>
   by_cases I:(⟨b,c⟩:ib)∈ph (opsOf l) ⟨⟨d,j,f⟩,h+k⟩ ⟨b,c⟩
   ·simp[af,ah,ad,ae,aa, *,m6,hx.r,B.r]
    exact K (k+1) _ true _ (by omega) (by simp) (by simp(maxDischargeDepth:=12) [an,aj,Fr.nil,au,af,ah,ad,ae,ao,ak,aa, *]) (by simp(maxDischargeDepth:=12) [an,aj,Fr.nil,au,af,ah,ad,ae,ao,ak,aa, *]) (.inr rfl) (λy H' e=>hQ y H' (by rw[e];simp[I]))
   ·simp[af,ah,ad,ae,aa, *,m6,hx.r,B.r]
    all_goals exact hQ _ _ (by simp[I])
theorem MC(l:List aN)(o:aN)(a:o.kind=3):kD l o=(nK (KC o) o.to&&pw l o o.s.many.toNat 0):=by
 unfold kD
 rw[if_pos a]
 congr 1
 have key : ∀n k,pw l o n k=(List.range n).all (λj=>decide (KC o∈ph l ⟨o.s.f.h,o.s.f.n+((k+j:Nat):Int)⟩ (KC o))):=by
  intro n
  induction n with
  | zero=>intro k;rfl
  | succ n b=>
   intro k
   rw[pw,b,NK,zq,List.all_map]
   congr 1
   congr 1
   funext j
   simp only[Function.comp,NC]
   rw[show k+1+j=k+(j+1) by omega]
 rw[key]
 simp
theorem S5{l:List (aN × AV)}{x0:AV}(hx:Sl 17 (cD l) x0)(hall : ∀p∈l,HT p)(hl:l.length<100000)(t:UInt8)(o:UInt8)(v:UInt32)(u:UInt8)(q:Int)(k:UInt8)(m:UInt32)(n:UInt8)(j:Int)(a:Int)(f:UInt8)(c:UInt32)(h:UInt8)(b:Int)(i:UInt8)(d:UInt32){z:List Int}{x:AV}(w:Sl 1 (rows z) x)(A:eN ⟨⟨⟨k,m,n⟩,j⟩,a⟩=true) :
 aF env 169 [x0,.agg [a8 t,a8 o,aw v,a8 u,aI q,a8 k,aw m,a8 n,aI j,aI a,a8 f,aw c,a8 h,aI b,a8 i,aw d,x]]=some (aB (kD (opsOf l) (⟨t,⟨o,v,u⟩,q,⟨⟨⟨k,m,n⟩,j⟩,a⟩,⟨⟨f,c,h⟩,b⟩,⟨i,d⟩,z⟩:aN))):=by
 refine aH rfl (by kernel_rfl) (HJ _ _ _ _ λg=>?_)
 by_cases B:t=3
 ·subst B
  rw[MC _ _ rfl]
  have C:=gp A
  simp only at C
  simp[af,ah,ad,ae,aa, *,xc,hx.r,w.r]
  exact RU hx hall hl 3 o v u q k m n j a f c h b i d w A a.toNat 0 _ _ _ (by omega) rfl (by simp(maxDischargeDepth:=12) [an,aj,Fr.nil,au,af,ah,ad,ae,ao,ak,aa, *]) (by simp) (.inl rfl) (λy H' e=>by rw[e];simp[KC])
 ·have e:kD (opsOf l) (⟨t,⟨o,v,u⟩,q,⟨⟨⟨k,m,n⟩,j⟩,a⟩,⟨⟨f,c,h⟩,b⟩,⟨i,d⟩,z⟩:aN)=true:=by unfold kD;rw[if_neg B]
  simp[af,ah,ad,ae,aa, *,xc,w.r]
theorem Oi(s t:List aN) : ∀l,lu l (s++t)=(lu l s&&lu (l++s) t):=by
 induction s with
 | nil=>intro l;simp[lu]
 | cons o s a=>
  intro l
  show(mK o&&kD l o&&lu (l++[o]) (s++t))=(mK o&&kD l o&&lu (l++[o]) s&&lu (l++o :: s) t)
  rw[a,B8,List.singleton_append]
  simp only[zr]
theorem k7{o:aN}(h:mK o=true):eN o.s=true:=by
 simp only[mK,aZ]at h
 exact h.2.2.2.1
theorem O8{l:List (aN × AV)}{x0:AV}(hx:Sl 17 (cD l) x0)(hall : ∀p∈l,HT p)(hl:l.length<100000){Q:AV->ai->Prop} :
 ∀(s:List (aN × AV)) (k:Nat) (i:Int) (H:ai),l.drop k=s->k<=l.length->i=k->Fr H ->
 (∀y H',y=aI (bad (lu (opsOf (l.take k)) (opsOf s)))->Q y H') ->
 bB env Tryz.f168 0 oE [(10,aI i),(0,x0),(8,x0),(9,aI l.length)] H Q:=by
 intro s
 induction s with
 | nil=>
  rintro k i H hs hk rfl hF hQ
  obtain rfl:=drop_nil hs hk
  refine xv _ _ _ _ _ _ λg=>?_
  simp[af,ah,ad,ae,aa, *,mq]
  all_goals exact hQ _ _ rfl
 | cons p s W=>
  rintro k i H hs hk rfl hF hQ
  obtain⟨F,R,O,N⟩:=drop_cons hs
  have hp:=hall p (by rw[<-R];exact lM _)
  obtain⟨⟨q,⟨o,A,z⟩,v,⟨⟨⟨n,w,t⟩,u⟩,j⟩,⟨⟨f,b,h⟩,a⟩,⟨m,d⟩,C⟩,x⟩:=p
  obtain⟨B,D⟩:=hp
  simp only at B D
  refine xv _ _ _ _ _ _ λg=>?_
  have e3:=IntWalk.i64_in ((k:Int)+1) (by omega)
  have hc:=oD q o A z v n w t u j f b h a m d B D
  have U:Sl 17 (cD (l.take k)) (.cG 17 (cD (l.take k)) none):=Sl.mk _ _
  obtain⟨c,rfl,E⟩:=hx.W6 (by intro e;have:=congrArg List.length e;simp at this;subst this;simp at F)
  have G:l.take (k+1)=l.take k++[((⟨q,⟨o,A,z⟩,v,⟨⟨⟨n,w,t⟩,u⟩,j⟩,⟨⟨f,b,h⟩,a⟩,⟨m,d⟩,C⟩:aN),x)]:=by rw[List.take_succ_eq_append_getElem F,R]
  have P:lu (opsOf (l.take k)) (opsOf (((⟨q,⟨o,A,z⟩,v,⟨⟨⟨n,w,t⟩,u⟩,j⟩,⟨⟨f,b,h⟩,a⟩,⟨m,d⟩,C⟩:aN),x) :: s))=(mK (⟨q,⟨o,A,z⟩,v,⟨⟨⟨n,w,t⟩,u⟩,j⟩,⟨⟨f,b,h⟩,a⟩,⟨m,d⟩,C⟩:aN)&&kD (opsOf (l.take k)) (⟨q,⟨o,A,z⟩,v,⟨⟨⟨n,w,t⟩,u⟩,j⟩,⟨⟨f,b,h⟩,a⟩,⟨m,d⟩,C⟩:aN)&&lu (opsOf (l.take (k+1))) (opsOf s)):=by
   rw[G]
   show(_&&lu (opsOf (l.take k)++[_]) (opsOf s))=_
   simp only[opsOf,Fj,p6,Jo]
  rw[P]at hQ
  have I:(l.take k).length<100000:=by rw[sX];omega
  have V:(cD l).take k=cD (l.take k):=by simp[cD,Jp]
  have k1:(k:Int)<=l.length:=by omega
  have Z:(0:Int)<=k:=by omega
  have T:bW (cD l) k 0 17 true=some (.agg [a8 q,a8 o,aw A,a8 z,aI v,a8 n,aw w,a8 t,aI u,aI j,a8 f,aw b,a8 h,aI a,a8 m,aw d,x]):=by simp[cD,y6,N]
  clear P G
  cases K:mK (⟨q,⟨o,A,z⟩,v,⟨⟨⟨n,w,t⟩,u⟩,j⟩,⟨⟨f,b,h⟩,a⟩,⟨m,d⟩,C⟩:aN) with
  | false=>
   simp[af,ah,ad,ae,aa, *,mq,hx.r,hx.idx,B.r]
   all_goals exact hQ _ _ (by simp[K,bad])
  | true=>
   have X:k<=c.getD k:=by
    cases c with
    | none=>exact bD _
    | some c=>simp only[fQ,jy]at E ⊢;omega
   have Y : ∀J:Option Nat,k<=J.getD k->aF env 169 [.cG 17 (cD (l.take k)) J,.agg [a8 q,a8 o,aw A,a8 z,aI v,a8 n,aw w,a8 t,aI u,aI j,a8 f,aw b,a8 h,aI a,a8 m,aw d,x]]=some (aB (kD (opsOf (l.take k)) (⟨q,⟨o,A,z⟩,v,⟨⟨⟨n,w,t⟩,u⟩,j⟩,⟨⟨f,b,h⟩,a⟩,⟨m,d⟩,C⟩:aN))):=by
    intro J M
    have L:(cD (l.take k)).length=k:=by rw[jy,sX];omega
    exact S5 (.inr ⟨J,rfl,by rw[L];exact M⟩) (λp hp=>hall p (zw hp)) I q o A z v n w t u j f b h a m d B (k7 K)
   cases S:kD (opsOf (l.take k)) (⟨q,⟨o,A,z⟩,v,⟨⟨⟨n,w,t⟩,u⟩,j⟩,⟨⟨f,b,h⟩,a⟩,⟨m,d⟩,C⟩:aN) with
   | false=>
    simp[af,ah,ad,ae,aa, *,mq,hx.r,hx.idx,B.r]
    all_goals exact hQ _ _ (by simp[K,S,bad])
   | true=>
    simp[af,ah,ad,ae,aa, *,mq,hx.r,hx.idx,B.r]
    exact W (k+1) _ _ O (by omega) (by simp) (by simp(maxDischargeDepth:=12) [an,aj,Fr.nil,au,af,ah,ad,ae,ao,ak,aa, *]) (λy H' e=>hQ y H' (by rw[e];simp[K,S]))
section
variable{l:List (aN × AV)}{x0:AV}(hx:Sl 17 (cD l) x0)(hall : ∀p∈l,HT p)(hl:l.length<100000)
include hx hall hl
theorem Q7:aF env 168 [x0]=some (aI (pU (opsOf l))):=by
 refine aH rfl (by kernel_rfl) (F5 _ _ _ λg=>?_)
 have d:=hx.len
 have a:(opsOf l).length=l.length:=p7 _
 by_cases h:2048<l.length
 ·have b:(2048:Int)<l.length:=by omega
  have e:pU (opsOf l)=4:=by unfold pU;rw[if_pos (by rw[a];exact h)]
  simp[af,ah,ad,ae,aa, *,vt,hx.r]
 ·have b : ¬(2048:Int)<l.length:=by omega
  have e:pU (opsOf l)=bad (lu [] (opsOf l)):=by unfold pU bad;rw[if_neg (by rw[a];exact h)]
  simp[af,ah,ad,ae,aa, *,vt,hx.r]
  exact O8 hx hall hl l 0 _ _ rfl (by omega) rfl Fr.nil (λy H' c=>by rw[c];simp[opsOf])
theorem TC(o:UInt8)(m:UInt8)(u:UInt32)(t:UInt8)(n:Int)(k:UInt8)(q:UInt32)(v:UInt8)(j:Int)(f:Int)(d:UInt8)(b:UInt32)(e:UInt8)(a:Int)(i:UInt8)(c:UInt32){y:List Int}{x:AV}(w:Sl 1 (rows y) x)(z:y.length<2000000):aF env 159 [x0,.agg [a8 o,a8 m,aw u,a8 t,aI n,a8 k,aw q,a8 v,aI j,aI f,a8 d,aw b,a8 e,aI a,a8 i,aw c,x]] =
 some (if pU (opsOf l)=0 then (if mK (⟨o,⟨m,u,t⟩,n,⟨⟨⟨k,q,v⟩,j⟩,f⟩,⟨⟨d,b,e⟩,a⟩,⟨i,c⟩,y⟩:aN) then .tup [aB (kD (opsOf l) (⟨o,⟨m,u,t⟩,n,⟨⟨⟨k,q,v⟩,j⟩,f⟩,⟨⟨d,b,e⟩,a⟩,⟨i,c⟩,y⟩:aN)),aI 0] else .tup [aB false,aI 8]) else .tup [aB false,aI (pU (opsOf l))]):=by
 refine aH rfl (by kernel_rfl) (HK _ _ _ _ λg=>?_)
 have B:=Q7 hx hall hl
 have C:=oD o m u t n k q v j f d b e a i c w z
 by_cases h:pU (opsOf l)=0
 ·rw[if_pos h]
  cases A:mK (⟨o,⟨m,u,t⟩,n,⟨⟨⟨k,q,v⟩,j⟩,f⟩,⟨⟨d,b,e⟩,a⟩,⟨i,c⟩,y⟩:aN) with
  | false=>simp[af,ah,ad,ae,aa, *,sU,hx.r,w.r]
  | true=>
   have D:=S5 hx hall hl o m u t n k q v j f d b e a i c w (k7 A)
   simp[af,ah,ad,ae,aa, *,sU,hx.r,w.r]
 ·rw[if_neg h]
  simp[af,ah,ad,ae,aa, *,sU,hx.r,w.r]
end
end Go.Proofs.YtdbiffjdomokfaaGreat
namespace Go.Proofs.YtdbiffjdomokfaaGreat
open Go.Ab
attribute [local simp] aU aK aG aW aV cz lT ba aO aQ cg cf bI bc ay bE gw
def bsO(z:Nat)(a:AV)(H:ai)(r:Ref)(n:Nat)(b:List (Nat × AV))(refs:List Ref):dv:=match iL (List.replicate n a) b with
 | some es=>some (.cC r 0 n (some n),(r,some ⟨z,es,true,false⟩) :: cH H refs)
 | none=>none
theorem R5{P:Program}{a:Bool}{t:TypeId}(o:pT P t=true)(H:ai)(d f h:Nat)(n:Nat)(ps:List (Nat × AV))(g:n * nL P t<=16777216)(z:(fG H.get ps).isSome=true)
 (m:((fG H.get ps).getD []).all (λp=>p.2.cells.length == nL P t&&p.2.cells.all AV.one)=true) (b:(iL (List.replicate n (jE P t)) ((fG H.get ps).getD [])).isSome=true) (i:jX H.get (bY H.get (ps.map (·.2)))=false) :
 oS P a true H ⟨d,f,h,0⟩ t n (some ps)=bsO (nL P t) (jE P t) H ⟨d,f,h,0⟩ n ((fG H.get ps).getD []) (bY H.get (ps.map (·.2))):=by
 obtain⟨ws,hw⟩:=gH.1 z
 rw[hw,fQ]at m b ⊢
 obtain⟨es,b⟩:=gH.1 b
 unfold pT at o
 obtain⟨e,u,k,v,B,l,y,x,q,A⟩:=lb o
 have c:jE P t=u:=by unfold jE;rw[k,fy,l];rfl
 rw[c]at b ⊢
 have j:mkSlice P H.get t n ps=some ⟨nL P t,es,true,false⟩:=by
  simp only[mkSlice,k,hw,l,v]
  rw[if_pos ⟨Bf q,g,y,x,by simpa using m⟩,b]
  rfl
 have w:ik P a H.get ⟨d,f,h,0⟩ t n (some ps)=none:=by
  simp only[ik,i,jH,if_false]
 unfold oS bsO
 rw[w,b]
 simp only[mz,EY,cond_true,kg,j,Option.map_some]
attribute [local simp] R5 bsO fG
def uh(o:aN):List UInt8:=[o.kind]++(jD o.h++(be 3 o.serial++(kA o.s.f++[u8 o.s.many])))
theorem ah5(n:Int):be 3 n=[u8 (n / 65536),u8 (n / 256),u8 n]:=by simp[KG]
theorem Gr(c:UInt8)(h:vI)(a:Int)(f:bR)(b:Int):aF env 120 [.cG 1 [.cG 1 [a8 c] (some 1),.cG 1 (jR (jD h)) none,.cG 1 [a8 (u8 (a / 65536)),a8 (u8 (a / 256)),a8 (u8 a)] (some 3),.cG 1 (jR (kA f)) none,.cG 1 [a8 (u8 b)] (some 1)] (some 5)] =
 some (.fsl 1 (jR ([c]++(jD h++(be 3 a++(kA f++[u8 b]))))) none):=by
 have e:k9 [([c],AV.cG 1 [a8 c] (some 1)),(jD h,.cG 1 (jR (jD h)) none),(be 3 a,.cG 1 [a8 (u8 (a / 65536)),a8 (u8 (a / 256)),a8 (u8 a)] (some 3)),(kA f,.cG 1 (jR (kA f)) none),([u8 b],.cG 1 [a8 (u8 b)] (some 1))]=[c]++(jD h++(be 3 a++(kA f++[u8 b]))):=by
  simp only[k9,zu,FG,sV]
 rw[<-e]
 refine Lz (ps:=[([c],AV.cG 1 [a8 c] (some 1)),(jD h,.cG 1 (jR (jD h)) none),(be 3 a,.cG 1 [a8 (u8 (a / 65536)),a8 (u8 (a / 256)),a8 (u8 a)] (some 3)),(kA f,.cG 1 (jR (kA f)) none),([u8 b],.cG 1 [a8 (u8 b)] (some 1))]) (.inr ⟨some 5,rfl,by simp⟩) ?_ (by simp) (by rw[e];simp) (by rw[e];simp)
 intro p hp
 simp only[nw,Du,or_false]at hp
 rcases hp with rfl | rfl | rfl | rfl | rfl
 ·exact .inr ⟨some 1,rfl,by simp⟩
 ·exact Sl.mk _ _
 ·exact .inr ⟨some 3,by rw[ah5];rfl,by simp⟩
 ·exact Sl.mk _ _
 ·exact .inr ⟨some 1,rfl,by simp⟩
theorem Tr(t:UInt8)(k:UInt8)(o:UInt32)(n:UInt8)(q:Int)(j:UInt8)(m:UInt32)(p:UInt8)(i:Int)(a:Int)(e:UInt8)(c:UInt32)(f:UInt8)(b:Int)(h:UInt8)(d:UInt32){x:AV}{l:List Int}(v:Sl 1 (rows l) x)(z:l.length<2000000)(u:mK (⟨t,⟨k,o,n⟩,q,⟨⟨⟨j,m,p⟩,i⟩,a⟩,⟨⟨e,c,f⟩,b⟩,⟨h,d⟩,l⟩:aN)=true)(w:t=2):aF env 99 [.agg [a8 t,a8 k,aw o,a8 n,aI q,a8 j,aw m,a8 p,aI i,aI a,a8 e,aw c,a8 f,aI b,a8 h,aw d,x]]=some (.tup [.cG 1 (jR (uh (⟨t,⟨k,o,n⟩,q,⟨⟨⟨j,m,p⟩,i⟩,a⟩,⟨⟨e,c,f⟩,b⟩,⟨h,d⟩,l⟩:aN))) none,aI 0]):=by
 refine aH rfl (by kernel_rfl) (AM _ _ _ λg=>?_)
 have y:=oD t k o n q j m p i a e c f b h d v z
 rw[u]at y
 have C:me ⟨k,o,n⟩=true:=by simp only[mK,aZ]at u;exact u.1
 have A:DZ ⟨⟨j,m,p⟩,i⟩=true:=by
  simp only[mK,aZ]at u
  have:=u.2.2.2.1
  simp only[eN,aZ]at this
  exact this.1
 clear u
 subst w
 have B:=Gr 2 ⟨k,o,n⟩ q ⟨⟨j,m,p⟩,i⟩ a
 unfold uh
 simp[af,ah,ad,ae,aa, *,uv,v.r,bad,gh,fu]
theorem Tq(u:UInt8)(h:UInt8)(k:UInt32)(j:UInt8)(n:Int)(f:UInt8)(i:UInt32)(m:UInt8)(d:Int)(c:Int)(q:UInt8)(p:UInt32)(t:UInt8)(o:Int)(b:UInt8)(a:UInt32){x:AV}{l:List Int}(B:Sl 1 (rows l) x)(G:l.length<2000000)(v:mK (⟨u,⟨h,k,j⟩,n,⟨⟨⟨f,i,m⟩,d⟩,c⟩,⟨⟨q,p,t⟩,o⟩,⟨b,a⟩,l⟩:aN)=true)(E:u=3):aF env 99 [.agg [a8 u,a8 h,aw k,a8 j,aI n,a8 f,aw i,a8 m,aI d,aI c,a8 q,aw p,a8 t,aI o,a8 b,aw a,x]]=some (.tup [.cG 1 (jR (uh (⟨u,⟨h,k,j⟩,n,⟨⟨⟨f,i,m⟩,d⟩,c⟩,⟨⟨q,p,t⟩,o⟩,⟨b,a⟩,l⟩:aN)++(b :: be 4 a.toNat))) none,aI 0]):=by
 refine aH rfl (by kernel_rfl) (AM _ _ _ λg=>?_)
 have F:=oD u h k j n f i m d c q p t o b a B G
 rw[v]at F
 subst E
 have J:me ⟨h,k,j⟩=true:=by simp only[mK,aZ]at v;exact v.1
 have H:DZ ⟨⟨f,i,m⟩,d⟩=true:=by
  simp only[mK,aZ]at v
  have:=v.2.2.2.1
  simp only[eN,aZ]at this
  exact this.1
 have A:me ⟨b,a,0⟩=true:=by
  simp only[mK,aZ]at v
  have:=v.2.2.2.2
  simp only[BO,J7]at this
  simp at this
  simp[me,this]
 clear v
 have I:=Gr 3 ⟨h,k,j⟩ n ⟨⟨f,i,m⟩,d⟩ c
 unfold uh
 have z:jD ⟨b,a,0⟩=b :: (be 4 a.toNat++[0]):=rfl
 have w:(jR ([(3:UInt8)]++(jD ⟨h,k,j⟩++(be 3 n++(kA ⟨⟨f,i,m⟩,d⟩++[u8 c]))))).length=24:=by simp
 have y:=Lu b a 0
 rw[if_pos A,z,Pg]at y
 rw[Pg]
 rw[show jR (([(3:UInt8)]++(jD ⟨h,k,j⟩++(be 3 n++(kA ⟨⟨f,i,m⟩,d⟩++[u8 c]))))++[b,u8 (↑a.toNat / 16777216),u8 (↑a.toNat / 65536),u8 (↑a.toNat / 256),u8 ↑a.toNat])=jR ([(3:UInt8)]++(jD ⟨h,k,j⟩++(be 3 n++(kA ⟨⟨f,i,m⟩,d⟩++[u8 c]))))++[a8 b,a8 (u8 (↑a.toNat / 16777216)),a8 (u8 (↑a.toNat / 65536)),a8 (u8 (↑a.toNat / 256)),a8 (u8 ↑a.toNat)] from Fj ..]
 have D:jR ([(3:UInt8)]++(jD ⟨h,k,j⟩++(be 3 n++(kA ⟨⟨f,i,m⟩,d⟩++[u8 c]))))≠[]:=by intro e;rw[e]at w;cases w
 generalize jR ([(3:UInt8)]++(jD ⟨h,k,j⟩++(be 3 n++(kA ⟨⟨f,i,m⟩,d⟩++[u8 c]))))=C at *
 clear A z
 simp[af,ah,ad,ae,aa, *,uv,B.r,bad,gh,fu]
 rfl
theorem PB(C A R:List UInt8)(a:Option Nat)(b:A.length<=a.getD A.length)(d:0<C.length)(c:C.length+A.length+R.length<1000000):aF env 120 [.cG 1 [.cG 1 (jR C) none,.cG 1 (jR A) a,.cG 1 (jR R) none] (some 3)]=some (.fsl 1 (jR (C++(A++R))) none):=by
 have e:k9 [(C,AV.cG 1 (jR C) none),(A,.cG 1 (jR A) a),(R,.cG 1 (jR R) none)]=C++(A++R):=by
  simp only[k9,zu,FG,sV]
 rw[<-e]
 refine Lz (ps:=[(C,AV.cG 1 (jR C) none),(A,.cG 1 (jR A) a),(R,.cG 1 (jR R) none)]) (.inr ⟨some 3,rfl,by simp⟩) ?_ (by simp) (by rw[e];simp;omega) (by rw[e];simp;omega)
 intro p hp
 simp only[nw,Du,or_false]at hp
 rcases hp with rfl | rfl | rfl
 ·exact Sl.mk _ _
 ·exact .inr ⟨a,rfl,by simpa using b⟩
 ·exact Sl.mk _ _
theorem Tp(n:UInt8)(k:UInt8)(q:UInt32)(p:UInt8)(m:Int)(j:UInt8)(o:UInt32)(t:UInt8)(i:Int)(f:Int)(d:UInt8)(b:UInt32)(e:UInt8)(a:Int)(h:UInt8)(c:UInt32){x:AV}{l:List Int}(v:Sl 1 (rows l) x)(y:l.length<2000000)(u:mK (⟨n,⟨k,q,p⟩,m,⟨⟨⟨j,o,t⟩,i⟩,f⟩,⟨⟨d,b,e⟩,a⟩,⟨h,c⟩,l⟩:aN)=false):aF env 99 [.agg [a8 n,a8 k,aw q,a8 p,aI m,a8 j,aw o,a8 t,aI i,aI f,a8 d,aw b,a8 e,aI a,a8 h,aw c,x]]=some (.tup [bZ,aI 8]):=by
 refine aH rfl (by kernel_rfl) (AM _ _ _ λg=>?_)
 have w:=oD n k q p m j o t i f d b e a h c v y
 rw[u]at w
 clear u
 simp[af,ah,ad,ae,aa, *,uv,v.r,bad]
@[simp] theorem ahN(r:Ref):Ev env.P r 137 (some (.v (.int .i64 13))) (some (.v (.int .i64 13)))=some (.cC r 0 13 none,[⟨1,[a8 0,a8 0,a8 0,a8 0,a8 0,a8 0,a8 0,a8 0,a8 0,a8 0,a8 0,a8 0,a8 0],true,false⟩]):=by kernel_rfl
theorem Rs{o:aN}(h:mK o=true):eN o.s=true:=by
 simp only[mK,aZ]at h
 exact h.2.2.2.1
theorem Zo{l:List Int}(h:J4 l=true):A9 l=0/\l.length<=64 /\∀n∈l, -2147483648<=n/\n<=2147483647:=by
 simp only[J4,aZ,decide_eq_true_eq]at h
 refine⟨by unfold A9;rw[if_neg (by omega),if_pos h.2],h.1,λn a=>?_⟩
 have:=fZ.1 h.2 n a
 simp only[oQ,ff,aZ,decide_eq_true_eq]at this
 omega
def AE(a:bR):List UInt8:=if fY a then List.replicate 13 0 else kA a
theorem Ts(v:UInt8)(j:UInt8)(n:UInt32)(m:UInt8)(q:Int)(i:UInt8)(k:UInt32)(o:UInt8)(h:Int)(f:Int)(c:UInt8)(b:UInt32)(d:UInt8)(a:Int)(u:UInt8)(t:UInt32){x:AV}{l:List Int}(D:Sl 1 (rows l) x)(P:l.length<2000000)(z:mK (⟨v,⟨j,n,m⟩,q,⟨⟨⟨i,k,o⟩,h⟩,f⟩,⟨⟨c,b,d⟩,a⟩,⟨u,t⟩,l⟩:aN)=true)(M:v=1):aF env 99 [.agg [a8 v,a8 j,aw n,a8 m,aI q,a8 i,aw k,a8 o,aI h,aI f,a8 c,aw b,a8 d,aI a,a8 u,aw t,x]]=some (.tup [.cG 1 (jR (uh (⟨v,⟨j,n,m⟩,q,⟨⟨⟨i,k,o⟩,h⟩,f⟩,⟨⟨c,b,d⟩,a⟩,⟨u,t⟩,l⟩:aN)++(AE ⟨⟨c,b,d⟩,a⟩++fB l))) none,aI 0]):=by
 refine aH rfl (by kernel_rfl) (AM _ _ _ λg=>?_)
 have O:=oD v j n m q i k o h f c b d a u t D P
 rw[z]at O
 subst M
 have V:me ⟨j,n,m⟩=true:=by simp only[mK,aZ]at z;exact z.1
 have B:=Rs z
 have S:DZ ⟨⟨i,k,o⟩,h⟩=true:=by
  have:=B
  simp only[eN,aZ]at this
  exact this.1
 obtain⟨F,hlen,w⟩:(fY ⟨⟨c,b,d⟩,a⟩||DZ ⟨⟨c,b,d⟩,a⟩)=true/\(l.length:Int)=f/\J4 l=true:=by
  simp only[mK,aZ]at z
  have:=z.2.2.2.2
  simp[BO,GR]at this
  refine⟨by simpa using this.2.1,this.2.2.2.1,this.2.2.2.2⟩
 obtain⟨G,N,I⟩:=Zo w
 have H:=gp B
 simp only at H
 have y:=Wi D (by omega) I
 rw[if_pos G]at y
 have K:=yT l
 have E:jR (fB l)≠[]:=by
  intro e
  have:=congrArg List.length e
  have T:(jR (fB l)).length=(fB l).length:=by simp
  simp only[Fk]at this
  omega
 rw[CL 1 E]at y
 clear z w G I H
 have U:=Gr 1 ⟨j,n,m⟩ q ⟨⟨i,k,o⟩,h⟩ f
 unfold uh
 have Q:([(1:UInt8)]++(jD ⟨j,n,m⟩++(be 3 q++(kA ⟨⟨i,k,o⟩,h⟩++[u8 f])))).length=24:=by simp
 generalize ([(1:UInt8)]++(jD ⟨j,n,m⟩++(be 3 q++(kA ⟨⟨i,k,o⟩,h⟩++[u8 f]))))=C at *
 generalize fB l=R at *
 cases p:fY ⟨⟨c,b,d⟩,a⟩ with
 | true=>
  have J:=PB C (List.replicate 13 0) R none (by simp) (by omega) (by simp;omega)
  rw[show AE ⟨⟨c,b,d⟩,a⟩=List.replicate 13 0 by unfold AE;rw[if_pos p]]
  obtain⟨⟨⟨rfl,rfl⟩,rfl⟩,rfl⟩:((c=0/\b=0)/\d=0)/\a=0:=by simpa [fY] using p
  have A:jR (List.replicate 13 0)=[a8 0,a8 0,a8 0,a8 0,a8 0,a8 0,a8 0,a8 0,a8 0,a8 0,a8 0,a8 0,a8 0]:=rfl
  rw[A]at J
  generalize jR (C++(List.replicate 13 0++R))=W at *
  clear p F hlen
  simp[af,ah,ad,ae,aa, *,uv,D.r,bad,gh,fu,gk,ca]
 | false=>
  rw[p,Ds]at F
  have J:=PB C (kA ⟨⟨c,b,d⟩,a⟩) R none (by simp) (by omega) (by simp;omega)
  rw[show AE ⟨⟨c,b,d⟩,a⟩=kA ⟨⟨c,b,d⟩,a⟩ by unfold AE;rw[if_neg (by rw[p];decide)]]
  generalize jR (C++(kA ⟨⟨c,b,d⟩,a⟩++R))=W at *
  have L:(decide (c=0)&&decide (b=0)&&decide (d=0)&&decide (a=0))=false:=p
  clear p hlen
  simp[af,ah,ad,ae,aa, *,uv,D.r,bad,gh,fu,gk,ca]
end Go.Proofs.YtdbiffjdomokfaaGreat
namespace Go.Proofs.YtdbiffjdomokfaaGreat
open Go.Ab
attribute [local simp] aU aK aG aW aV cz lT ba aO aQ cg cf bI bc ay bE gw
theorem Ea{f:FuncId}(a:(env.mode f == 2)=true)(dep:Nat)(H:ai)(r:Ref)(first args captured:List AV) :
 bF env true (aF env) (cE env dep) H r (some (.fn (.func f) first captured)) args=cE env dep (.fn f) (first++args++captured) H:=by
 have h:env.mode f=2:=by simpa using a
 simp[bF,kn,mT,mz,EY,h]
end Go.Proofs.YtdbiffjdomokfaaGreat
namespace Go.Proofs.YtdbiffjdomokfaaGreat
open Go.Ab
def uc(o:aN):List UInt8:=uh o++(if o.kind=1 then AE o.a++fB o.l else if o.kind=3 then o.to.lv :: be 4 o.to.cats.toNat else [])
theorem MX(o:aN):(uh o).length=24:=by simp[uh]
theorem DR{o:aN}(h:mK o=true):1<=o.serial/\o.serial<16777216/\(1<=o.s.f.n/\o.s.f.n<=1099511627776)/\1<=o.s.many/\o.s.many<=64 /\
 ((o.kind=1/\o.to=⟨0,0⟩/\(o.a=qI\/(1<=o.a.n/\o.a.n<=1099511627776))/\(o.l.length:Int)=o.s.many/\J4 o.l=true)\/(o.kind=2/\o.to=⟨0,0⟩/\o.a=qI/\o.l=[])\/(o.kind=3/\o.a=qI/\o.l=[]/\o.to.lv<=15)):=by
 simp only[mK,aZ,decide_eq_true_eq]at h
 obtain⟨u,m,p,c,hm⟩:=h
 have g:=gp c
 have j:=I6 (SW c)
 refine⟨m,p,j,g.2.1,g.2.2.1,?_⟩
 have d : ∀t:ib,vN t=true->t=⟨0,0⟩:=by
  rintro⟨a,b⟩ h;simp[vN]at h;rw[h.1,h.2]
 unfold BO at hm
 split at hm
 ·rename_i q
  simp only[GR,aZ,ff,decide_eq_true_eq]at hm
  refine .inl ⟨q,d _ hm.1,?_,hm.2.2.2.1,hm.2.2.2.2⟩
  rcases hm.2.1 with e | e
  ·exact .inl ((xj _).1 e)
  ·exact .inr (I6 e)
 ·split at hm
  ·rename_i k
   simp only[MU,yj,aZ,decide_eq_true_eq]at hm
   exact .inr (.inl ⟨k,d _ hm.1,(xj _).1 hm.2.1,hm.2.2⟩)
  ·split at hm
   ·rename_i i
    simp only[J7,yj,aZ,decide_eq_true_eq]at hm
    exact .inr (.inr ⟨i,(xj _).1 hm.1.1,hm.1.2,hm.2⟩)
   ·cases hm
def Lj(o:aN):Nat:=if o.kind=1 then 37+4 * o.s.many.toNat else if o.kind=3 then 29 else 24
theorem Pl(a:bR):(AE a).length=13:=by unfold AE;split<;>simp
theorem L1{o:aN}(h:mK o=true):(uc o).length=Lj o:=by
 have hp:=DR h
 unfold uc Lj
 rw[oN,MX]
 rcases hp.2.2.2.2.2 with ⟨k,_,_,a,_⟩ | ⟨k,_⟩ | ⟨k,_⟩
 ·rw[if_pos k,if_pos k,oN,Pl,yT];omega
 ·rw[k];rfl
 ·rw[k];simp
end Go.Proofs.YtdbiffjdomokfaaGreat
namespace Go.Proofs.YtdbiffjdomokfaaGreat
open Go.Ab
attribute [local simp] aU aK aG aW aV cz lT ba aO aQ cg cf bI bc ay bE gw
theorem Li{o:aN}(h:mK o=true):24<=Lj o/\Lj o<=293:=by
 have hp:=DR h
 unfold Lj
 split
 ·omega
 ·split<;>omega
def ZI(o:aN):AV:=if mK o then .tup [.cG 1 (jR (uc o)) none,aI 0] else .tup [bZ,aI 8]
theorem Wq(m:UInt8)(j:UInt8)(p:UInt32)(o:UInt8)(k:Int)(i:UInt8)(n:UInt32)(q:UInt8)(h:Int)(f:Int)(d:UInt8)(b:UInt32)(e:UInt8)(a:Int)(g:UInt8)(c:UInt32){x:AV}{l:List Int}(w:Sl 1 (rows l) x)(v:l.length<2000000):aF env 99 [.agg [a8 m,a8 j,aw p,a8 o,aI k,a8 i,aw n,a8 q,aI h,aI f,a8 d,aw b,a8 e,aI a,a8 g,aw c,x]]=some (ZI (⟨m,⟨j,p,o⟩,k,⟨⟨⟨i,n,q⟩,h⟩,f⟩,⟨⟨d,b,e⟩,a⟩,⟨g,c⟩,l⟩:aN)):=by
 unfold ZI
 cases u:mK (⟨m,⟨j,p,o⟩,k,⟨⟨⟨i,n,q⟩,h⟩,f⟩,⟨⟨d,b,e⟩,a⟩,⟨g,c⟩,l⟩:aN) with
 | false=>rw[Tp m j p o k i n q h f d b e a g c w v u];rfl
 | true=>
  have hp:=DR u
  rw[if_pos rfl]
  unfold uc
  rcases hp.2.2.2.2.2 with ⟨t,_⟩ | ⟨t,_⟩ | ⟨t,_⟩
  ·rw[Ts m j p o k i n q h f d b e a g c w v u t,if_pos t]
  ·simp only at t
   rw[Tr m j p o k i n q h f d b e a g c w v u t,if_neg (by simp[t]),if_neg (by simp[t]),sV]
  ·simp only at t
   rw[Tq m j p o k i n q h f d b e a g c w v u t,if_neg (by simp[t]),if_pos t]
def He(v:UInt8)(c:UInt32)(ok:Bool):Bool:=decide (v<=15)&&(ok||(decide (v=0)&&decide (c=0)))
def wV(a:Int)(v:UInt8)(c:UInt32)(ok:Bool):Bool:=decide (0<=a)&&decide (a<8)&&He v c ok
@[simp] theorem Lw(a:Int)(v:UInt8)(c:UInt32)(ok:Bool):aF env 96 [.agg [aI a,a8 v,aw c,aB ok]]=some (aI (bad (wV a v c ok))):=by
 refine aH rfl (by kernel_rfl) (F4 _ _ _ λg=>?_)
 cases ok
 ·simp[af,ah,ad,ae,aa, *,vp,gk,ca]
  repeat' ((first | refine gU (λh=>?_) (λh=>?_) | refine fM (λh=>?_) (λh=>?_) | refine fN (λh=>?_) (λh=>?_) | refine fK (λh=>?_) (λh=>?_) | refine fL (λh=>?_) (λh=>?_))<;>(try simp only[decide_eq_true_eq,decide_eq_false_iff_not,dQ,ke,aZ,ff]at h)<;>(try simp[af,ah,ad,ae,aa, *,gk,ca,wV,He,bad]))
  all_goals (try grind)
 ·simp[af,ah,ad,ae,aa, *,vp,gk,ca]
  repeat' ((first | refine gU (λh=>?_) (λh=>?_) | refine fM (λh=>?_) (λh=>?_) | refine fN (λh=>?_) (λh=>?_) | refine fK (λh=>?_) (λh=>?_) | refine fL (λh=>?_) (λh=>?_))<;>(try simp only[decide_eq_true_eq,decide_eq_false_iff_not,dQ,ke,aZ,ff]at h)<;>(try simp[af,ah,ad,ae,aa, *,gk,ca,wV,He,bad]))
  all_goals (try grind)
def G1(a:Int)(v:UInt8)(c:UInt32)(ok:Bool):List UInt8:=u8 a :: (if ok then 1 else 0) :: v :: be 4 c.toNat
@[simp] theorem ahE(a:Int)(v:UInt8)(c:UInt32)(ok:Bool):aF env 101 [.agg [aI a,a8 v,aw c,aB ok]]=some (if wV a v c ok then .tup [.cG 1 (jR (G1 a v c ok)) none,aI 0] else .tup [bZ,aI 8]):=by
 refine aH rfl (by kernel_rfl) (JP _ _ _ λg=>?_)
 by_cases h:wV a v c ok=true
 ·have b:v<=15:=by simp[wV,He]at h;exact h.2.1
  have d:me ⟨v,c,0⟩=true:=by simp[me,b]
  cases ok<;>simp[af,ah,ad,ae,aa, *,zj,bad,G1,jD,jR,Pg]
 ·simp at h
  simp[af,ah,ad,ae,aa, *,zj,bad]
structure cB where
 kind:UInt8
 user:Int
 op:aN
 code:Int
 gu:Int
 gv:UInt8
 gc:UInt32
 gok:Bool
def mC(a b:cB):Bool:=decide (a.kind=b.kind)&&(decide (a.user=b.user)&&(nZ a.op b.op&&(decide (a.code=b.code)&&(decide (a.gu=b.gu)&&(decide (a.gv=b.gv)&&decide (a.gc=b.gc)&&decide (a.gok=b.gok))))))
theorem QU(S R:UInt8)(Q N:Int)(w:UInt8)(v:UInt8)(K:UInt32)(J:UInt8)(F:Int)(t:UInt8)(I:UInt32)(B:UInt8)(C:Int)(p:Int)(k:UInt8)(f:UInt32)(o:UInt8)(b:Int)(q:UInt8)(j:UInt32)(E:UInt8)(u:UInt8)(G:UInt32)(L:UInt8)(D:Int)(z:UInt8)(M:UInt32)(H:UInt8)(A:Int)(h:Int)(a:UInt8)(i:UInt32)(d:UInt8)(n:Int)(e:UInt8)(c:UInt32)(P O Y U:Int)(v1 v2:UInt8)(X W:UInt32)(T V:Bool){x y:AV}{l m:List Int}(Z:Sl 1 (rows l) x)(hy:Sl 1 (rows m) y)(hl:l.length<1000000000) :
 aF env 102 [.agg [a8 S,aI Q,a8 w,a8 v,aw K,a8 J,aI F,a8 t,aw I,a8 B,aI C,aI p,a8 k,aw f,a8 o,aI b,a8 q,aw j,x,aI P,aI Y,a8 v1,aw X,aB T],.agg [a8 R,aI N,a8 E,a8 u,aw G,a8 L,aI D,a8 z,aw M,a8 H,aI A,aI h,a8 a,aw i,a8 d,aI n,a8 e,aw c,y,aI O,aI U,a8 v2,aw W,aB V]] =
  some (aB (mC ⟨S,Q,(⟨w,⟨v,K,J⟩,F,⟨⟨⟨t,I,B⟩,C⟩,p⟩,⟨⟨k,f,o⟩,b⟩,⟨q,j⟩,l⟩:aN),P,Y,v1,X,T⟩ ⟨R,N,(⟨E,⟨u,G,L⟩,D,⟨⟨⟨z,M,H⟩,A⟩,h⟩,⟨⟨a,i,d⟩,n⟩,⟨e,c⟩,m⟩:aN),O,U,v2,W,V⟩)):=by
 refine aH rfl (by kernel_rfl) (FZ _ _ _ _ λg=>?_)
 have hq:=To w v K J F t I B C p k f o b q j E u G L D z M H A h a i d n e c Z hy hl
 have hr:=Z.r
 have hr2:=hy.r
 unfold mC
 cases e1:decide (S=R) with
 | false=>simp[af,ah,ad,ae,aa, *,mi,gk,ca]
 | true=>
 cases e2:decide (Q=N) with
 | false=>simp[af,ah,ad,ae,aa, *,mi,gk,ca]
 | true=>
 cases e3:nZ (⟨w,⟨v,K,J⟩,F,⟨⟨⟨t,I,B⟩,C⟩,p⟩,⟨⟨k,f,o⟩,b⟩,⟨q,j⟩,l⟩:aN) (⟨E,⟨u,G,L⟩,D,⟨⟨⟨z,M,H⟩,A⟩,h⟩,⟨⟨a,i,d⟩,n⟩,⟨e,c⟩,m⟩:aN) with
 | false=>simp[af,ah,ad,ae,aa, *,mi,gk,ca]
 | true=>
 cases e4:decide (P=O) with
 | false=>simp[af,ah,ad,ae,aa, *,mi,gk,ca]
 | true=>simp[af,ah,ad,ae,aa, *,mi,gk,ca]
def xi:aN:=⟨0,⟨0,0,0⟩,0,⟨⟨⟨0,0,0⟩,0⟩,0⟩,⟨⟨0,0,0⟩,0⟩,⟨0,0⟩,[]⟩
def Cc(r:cB):cB:=if r.kind=1 then ⟨1,r.user, { xi with h:=r.op.h},0,0,0,0,false⟩ else if r.kind=2 then ⟨2,0,r.op,r.code,0,0,0,false⟩ else ⟨r.kind,0,xi,0,r.gu,r.gv,r.gc,r.gok⟩
def dC(r:cB):Bool:=if r.kind=1 then (decide (0<=r.user)&&decide (r.user<=255))&&(me r.op.h&&mC r (Cc r)) else if r.kind=2 then (!decide (-1∈r.op.l)&&decide (0<=r.code)&&decide (r.code<65536))&&(mK r.op&&mC r (Cc r)) else if r.kind=3 then wV r.gu r.gv r.gc r.gok&&mC r (Cc r) else false
def HM(r:cB):AV:=if r.kind=1 then .cG 1 (jR (r.kind :: ((if me r.op.h then jD r.op.h else [])++[u8 r.user]))) none
 else if r.kind=2 then .cG 1 (jR (r.kind :: ([u8 (r.code / 256),u8 r.code]++(if mK r.op then uc r.op else [])))) none
 else if r.kind=3 then (if wV r.gu r.gv r.gc r.gok then .cG 1 (jR (r.kind :: G1 r.gu r.gv r.gc r.gok)) none else .cG 1 [a8 r.kind] (some 1)) else .cG 1 [a8 r.kind] (some 1)
set_option maxHeartbeats 800000 in
theorem Ob(k:UInt8)(u:Int)(z:UInt8)(n:UInt8)(q:UInt32)(p:UInt8)(C:Int)(t:UInt8)(D:UInt32)(A:UInt8)(B:Int)(i:Int)(e:UInt8)(b:UInt32)(f:UInt8)(a:Int)(j:UInt8)(d:UInt32)(c E:Int)(v:UInt8)(w:UInt32)(o:Bool){x:AV}{l:List Int}(R:Sl 1 (rows l) x)(hl:l.length<2000000) :
 aF env 82 [.agg [a8 k,aI u,a8 z,a8 n,aw q,a8 p,aI C,a8 t,aw D,a8 A,aI B,aI i,a8 e,aw b,a8 f,aI a,a8 j,aw d,x,aI c,aI E,a8 v,aw w,aB o]]=some (.tup [HM ⟨k,u,(⟨z,⟨n,q,p⟩,C,⟨⟨⟨t,D,A⟩,B⟩,i⟩,⟨⟨e,b,f⟩,a⟩,⟨j,d⟩,l⟩:aN),c,E,v,w,o⟩,aB (dC ⟨k,u,(⟨z,⟨n,q,p⟩,C,⟨⟨⟨t,D,A⟩,B⟩,i⟩,⟨⟨e,b,f⟩,a⟩,⟨j,d⟩,l⟩:aN),c,E,v,w,o⟩)]):=by
 refine aH rfl (by kernel_rfl) (qy _ _ _ λg=>?_)
 have hr:=R.r
 have F:=λk' u' (Y:UInt8) (S:UInt8) (b_3:UInt32) (b_4:UInt8) (W:Int) (T:UInt8) (b_7:UInt32) (b_8:UInt8) (U:Int) (O:Int) (J:UInt8) (P:UInt32) (L:UInt8) (Q:Int) (M:UInt8) (K:UInt32) c' g' v' w' o' (y:AV) (m:List Int) (hy:Sl 1 (rows m) y)=>QU k k' u u' z n q p C t D A B i e b f a j d Y S b_3 b_4 W T b_7 b_8 U O J P L Q M K c c' E g' v v' w w' o o' R hy (by omega)
 by_cases Z:k=1
 ·subst Z
  have hs:=F 1 u 0 n q p 0 0 0 0 0 0 0 0 0 0 0 0 0 0 0 0 false bZ [] (.inl ⟨rfl,rfl⟩)
  have G:dC ⟨1,u,(⟨z,⟨n,q,p⟩,C,⟨⟨⟨t,D,A⟩,B⟩,i⟩,⟨⟨e,b,f⟩,a⟩,⟨j,d⟩,l⟩:aN),c,E,v,w,o⟩=((decide (0<=u)&&decide (u<=255))&&(me ⟨n,q,p⟩&&mC ⟨1,u,(⟨z,⟨n,q,p⟩,C,⟨⟨⟨t,D,A⟩,B⟩,i⟩,⟨⟨e,b,f⟩,a⟩,⟨j,d⟩,l⟩:aN),c,E,v,w,o⟩ ⟨1,u,⟨0,⟨n,q,p⟩,0,⟨⟨⟨0,0,0⟩,0⟩,0⟩,⟨⟨0,0,0⟩,0⟩,⟨0,0⟩,[]⟩,0,0,0,0,false⟩)):=rfl
  have H:HM ⟨1,u,(⟨z,⟨n,q,p⟩,C,⟨⟨⟨t,D,A⟩,B⟩,i⟩,⟨⟨e,b,f⟩,a⟩,⟨j,d⟩,l⟩:aN),c,E,v,w,o⟩ = .cG 1 (jR (1 :: ((if me ⟨n,q,p⟩ then jD ⟨n,q,p⟩ else [])++[u8 u]))) none:=rfl
  rw[G,H]
  clear F G H
  generalize mC ⟨1,u,(⟨z,⟨n,q,p⟩,C,⟨⟨⟨t,D,A⟩,B⟩,i⟩,⟨⟨e,b,f⟩,a⟩,⟨j,d⟩,l⟩:aN),c,E,v,w,o⟩ ⟨1,u,⟨0,⟨n,q,p⟩,0,⟨⟨⟨0,0,0⟩,0⟩,0⟩,⟨⟨0,0,0⟩,0⟩,⟨0,0⟩,[]⟩,0,0,0,0,false⟩=sm at *
  cases N:me ⟨n,q,p⟩<;>by_cases c0:0<=u<;>by_cases c2:u<=255
  all_goals simp[af,ah,ad,ae,aa, *,cq,jD,jR,Pg]
 ·by_cases X:k=2
  ·subst X
   have hs:=F 2 0 z n q p C t D A B i e b f a j d c 0 0 0 false x l R
   have G:dC ⟨2,u,(⟨z,⟨n,q,p⟩,C,⟨⟨⟨t,D,A⟩,B⟩,i⟩,⟨⟨e,b,f⟩,a⟩,⟨j,d⟩,l⟩:aN),c,E,v,w,o⟩=((!decide (-1∈l)&&decide (0<=c)&&decide (c<65536))&&(mK (⟨z,⟨n,q,p⟩,C,⟨⟨⟨t,D,A⟩,B⟩,i⟩,⟨⟨e,b,f⟩,a⟩,⟨j,d⟩,l⟩:aN)&&mC ⟨2,u,(⟨z,⟨n,q,p⟩,C,⟨⟨⟨t,D,A⟩,B⟩,i⟩,⟨⟨e,b,f⟩,a⟩,⟨j,d⟩,l⟩:aN),c,E,v,w,o⟩ ⟨2,0,(⟨z,⟨n,q,p⟩,C,⟨⟨⟨t,D,A⟩,B⟩,i⟩,⟨⟨e,b,f⟩,a⟩,⟨j,d⟩,l⟩:aN),c,0,0,0,false⟩)):=rfl
   have H:HM ⟨2,u,(⟨z,⟨n,q,p⟩,C,⟨⟨⟨t,D,A⟩,B⟩,i⟩,⟨⟨e,b,f⟩,a⟩,⟨j,d⟩,l⟩:aN),c,E,v,w,o⟩ = .cG 1 (jR (2 :: ([u8 (c / 256),u8 c]++(if mK (⟨z,⟨n,q,p⟩,C,⟨⟨⟨t,D,A⟩,B⟩,i⟩,⟨⟨e,b,f⟩,a⟩,⟨j,d⟩,l⟩:aN) then uc (⟨z,⟨n,q,p⟩,C,⟨⟨⟨t,D,A⟩,B⟩,i⟩,⟨⟨e,b,f⟩,a⟩,⟨j,d⟩,l⟩:aN) else [])))) none:=rfl
   have hP:=Q2 z n q p C t D A B i e b f a j d R (by omega)
   have V:=Wq z n q p C t D A B i e b f a j d R hl
   rw[G,H]
   unfold ZI at V
   have I:mK (⟨z,⟨n,q,p⟩,C,⟨⟨⟨t,D,A⟩,B⟩,i⟩,⟨⟨e,b,f⟩,a⟩,⟨j,d⟩,l⟩:aN)=true->(uc (⟨z,⟨n,q,p⟩,C,⟨⟨⟨t,D,A⟩,B⟩,i⟩,⟨⟨e,b,f⟩,a⟩,⟨j,d⟩,l⟩:aN)).length<=293/\24<=(uc (⟨z,⟨n,q,p⟩,C,⟨⟨⟨t,D,A⟩,B⟩,i⟩,⟨⟨e,b,f⟩,a⟩,⟨j,d⟩,l⟩:aN)).length:=λh=>by rw[L1 h];exact⟨(Li h).2,(Li h).1⟩
   clear F G H
   generalize mC ⟨2,u,(⟨z,⟨n,q,p⟩,C,⟨⟨⟨t,D,A⟩,B⟩,i⟩,⟨⟨e,b,f⟩,a⟩,⟨j,d⟩,l⟩:aN),c,E,v,w,o⟩ ⟨2,0,(⟨z,⟨n,q,p⟩,C,⟨⟨⟨t,D,A⟩,B⟩,i⟩,⟨⟨e,b,f⟩,a⟩,⟨j,d⟩,l⟩:aN),c,0,0,0,false⟩=sm at *
   generalize uc (⟨z,⟨n,q,p⟩,C,⟨⟨⟨t,D,A⟩,B⟩,i⟩,⟨⟨e,b,f⟩,a⟩,⟨j,d⟩,l⟩:aN)=bs at *
   generalize decide (-1∈l)=pl at *
   cases N:mK (⟨z,⟨n,q,p⟩,C,⟨⟨⟨t,D,A⟩,B⟩,i⟩,⟨⟨e,b,f⟩,a⟩,⟨j,d⟩,l⟩:aN) with
   | false=>
    rw[N,if_neg (by decide)]at V
    clear I
    cases pl<;>by_cases c0:0<=c<;>by_cases c2:c<65536
    all_goals simp[af,ah,ad,ae,aa, *,cq,jR,gh,fu]
   | true=>
    rw[N,if_pos rfl]at V
    have hl2:=I N
    have f1:bs.length+1<=140737488355328/\bs.length+1+1<=140737488355328/\bs.length+1+1+1<=140737488355328:=by omega
    have f0:2+bs.length=bs.length+1+1:=by omega
    have f3:1+(bs.length+1+1)<=140737488355328/\1+(bs.length+1+1)=bs.length+1+1+1:=by omega
    have f2:2+bs.length<=140737488355328/\1+(2+bs.length)<=140737488355328/\2<2+bs.length/\0<bs.length:=by omega
    have hne:bs≠[]:=by rintro rfl;simp at f2
    clear I
    cases pl<;>by_cases c0:0<=c<;>by_cases c2:c<65536
    all_goals simp[af,ah,ad,ae,aa, *,cq,jR,gh,fu]
  ·by_cases k3:k=3
   ·subst k3
    have hs:=F 3 0 0 0 0 0 0 0 0 0 0 0 0 0 0 0 0 0 0 E v w o bZ [] (.inl ⟨rfl,rfl⟩)
    have G:dC ⟨3,u,(⟨z,⟨n,q,p⟩,C,⟨⟨⟨t,D,A⟩,B⟩,i⟩,⟨⟨e,b,f⟩,a⟩,⟨j,d⟩,l⟩:aN),c,E,v,w,o⟩=(wV E v w o&&mC ⟨3,u,(⟨z,⟨n,q,p⟩,C,⟨⟨⟨t,D,A⟩,B⟩,i⟩,⟨⟨e,b,f⟩,a⟩,⟨j,d⟩,l⟩:aN),c,E,v,w,o⟩ ⟨3,0,⟨0,⟨0,0,0⟩,0,⟨⟨⟨0,0,0⟩,0⟩,0⟩,⟨⟨0,0,0⟩,0⟩,⟨0,0⟩,[]⟩,0,E,v,w,o⟩):=rfl
    have H:HM ⟨3,u,(⟨z,⟨n,q,p⟩,C,⟨⟨⟨t,D,A⟩,B⟩,i⟩,⟨⟨e,b,f⟩,a⟩,⟨j,d⟩,l⟩:aN),c,E,v,w,o⟩=if wV E v w o then .cG 1 (jR (3 :: G1 E v w o)) none else .cG 1 [a8 3] (some 1):=rfl
    rw[G,H]
    clear F G H
    generalize mC ⟨3,u,(⟨z,⟨n,q,p⟩,C,⟨⟨⟨t,D,A⟩,B⟩,i⟩,⟨⟨e,b,f⟩,a⟩,⟨j,d⟩,l⟩:aN),c,E,v,w,o⟩ ⟨3,0,⟨0,⟨0,0,0⟩,0,⟨⟨⟨0,0,0⟩,0⟩,0⟩,⟨⟨0,0,0⟩,0⟩,⟨0,0⟩,[]⟩,0,E,v,w,o⟩=sm at *
    cases N:wV E v w o
    all_goals simp[af,ah,ad,ae,aa, *,cq,G1,jR,Pg]
   ·have G:dC ⟨k,u,(⟨z,⟨n,q,p⟩,C,⟨⟨⟨t,D,A⟩,B⟩,i⟩,⟨⟨e,b,f⟩,a⟩,⟨j,d⟩,l⟩:aN),c,E,v,w,o⟩=false:=by unfold dC;rw[if_neg Z,if_neg X,if_neg k3]
    have H:HM ⟨k,u,(⟨z,⟨n,q,p⟩,C,⟨⟨⟨t,D,A⟩,B⟩,i⟩,⟨⟨e,b,f⟩,a⟩,⟨j,d⟩,l⟩:aN),c,E,v,w,o⟩ = .cG 1 [a8 k] (some 1):=by unfold HM;rw[if_neg Z,if_neg X,if_neg k3]
    rw[G,H]
    clear F G H
    simp[af,ah,ad,ae,aa, *,cq]
def cB.val(r:cB)(x:AV):AV := .agg [a8 r.kind,aI r.user,a8 r.op.kind,a8 r.op.h.lv,aw r.op.h.cats,a8 r.op.h.num,aI r.op.serial,a8 r.op.s.f.h.lv,aw r.op.s.f.h.cats,a8 r.op.s.f.h.num,aI r.op.s.f.n,aI r.op.s.many,
 a8 r.op.a.h.lv,aw r.op.a.h.cats,a8 r.op.a.h.num,aI r.op.a.n,a8 r.op.to.lv,aw r.op.to.cats,x,aI r.code,aI r.gu,a8 r.gv,aw r.gc,aB r.gok]
def Ba(p:cB × AV):Prop:=Sl 1 (rows p.1.op.l) p.2/\p.1.op.l.length<1000000
def bh(l:List (cB × AV)):List AV:=l.map λp=>p.1.val p.2
@[simp] theorem cP(l:List (cB × AV)):(bh l).length=l.length:=by simp[bh]
theorem Oa{p:cB × AV}(hp:Ba p):aF env 44 [p.1.val p.2]=some (aI (if dC p.1 then 0 else 8)):=by
 obtain⟨⟨k,u,⟨y,⟨q,C,B⟩,t,⟨⟨⟨n,A,D⟩,m⟩,i⟩,⟨⟨f,d,h⟩,a⟩,⟨j,e⟩,l⟩,c,E,v,w,o⟩,x⟩:=p
 obtain⟨F,H⟩:=hp
 simp only at F H
 refine aH rfl (by kernel_rfl) (EN _ _ _ λg=>?_)
 have J:=Ob k u y q C B t n A D m i f d h a j e c E v w o F (by omega)
 have I:=F.r
 have G:HM ⟨k,u,(⟨y,⟨q,C,B⟩,t,⟨⟨⟨n,A,D⟩,m⟩,i⟩,⟨⟨f,d,h⟩,a⟩,⟨j,e⟩,l⟩:aN),c,E,v,w,o⟩ = .cG 1 [a8 k] (some 1) \/∃es,HM ⟨k,u,(⟨y,⟨q,C,B⟩,t,⟨⟨⟨n,A,D⟩,m⟩,i⟩,⟨⟨f,d,h⟩,a⟩,⟨j,e⟩,l⟩:aN),c,E,v,w,o⟩ = .cG 1 es none:=by
  unfold HM
  repeat' (split)
  all_goals (first | exact .inl rfl | exact .inr ⟨_,rfl⟩)
 generalize HM ⟨k,u,(⟨y,⟨q,C,B⟩,t,⟨⟨⟨n,A,D⟩,m⟩,i⟩,⟨⟨f,d,h⟩,a⟩,⟨j,e⟩,l⟩:aN),c,E,v,w,o⟩=z at *
 unfold cB.val
 generalize dC ⟨k,u,(⟨y,⟨q,C,B⟩,t,⟨⟨⟨n,A,D⟩,m⟩,i⟩,⟨⟨f,d,h⟩,a⟩,⟨j,e⟩,l⟩:aN),c,E,v,w,o⟩=b at *
 rcases G with rfl | ⟨es,rfl⟩<;>cases b<;>simp[af,ah,ad,ae,aa, *,zG]
def uQ:AV->AV
 | .cG z [] _ => .cG z [] (some 0)
 | .cG z es _ => .cG z es none
 | x=>x
theorem Lb(z:Nat){es:List AV}(c:Option Nat)(h:es≠[]):uQ (.cG z es c) = .cG z es none:=by
 cases es with
 | nil=>exact absurd rfl h
 | cons _ _=>rfl
theorem Tn(o:UInt8)(m:UInt8)(t:UInt32)(q:UInt8)(n:Int)(k:UInt8)(p:UInt32)(u:UInt8)(j:Int)(f:Int)(d:UInt8)(b:UInt32)(e:UInt8)(a:Int)(i:UInt8)(c:UInt32){x:AV}{l:List Int}(C:Sl 1 (rows l) x)(D:l.length<1000000) : ∃y,y=uQ x/\Sl 1 (rows l) y/\aF env 78 [.agg [a8 o,a8 m,aw t,a8 q,aI n,a8 k,aw p,a8 u,aI j,aI f,a8 d,aw b,a8 e,aI a,a8 i,aw c,x]]=some (.agg [a8 o,a8 m,aw t,a8 q,aI n,a8 k,aw p,a8 u,aI j,aI f,a8 d,aw b,a8 e,aI a,a8 i,aw c,y]):=by
 have v:=IC C (by omega) (by omega)
 rcases C with ⟨rfl,h⟩ | ⟨A,rfl,w⟩
 ·refine⟨bZ,rfl,.inl ⟨rfl,h⟩,?_⟩
  refine aH rfl (by kernel_rfl) (BJ _ _ _ λg=>?_)
  rw[U9]at v
  simp[af,ah,ad,ae,aa, *,zh]
 ·by_cases z:rows l=[]
  ·rw[z]at v w ⊢
   refine⟨.cG 1 [] (some 0),rfl,.inr ⟨_,rfl,by simp⟩,?_⟩
   refine aH rfl (by kernel_rfl) (BJ _ _ _ λg=>?_)
   rw[O7]at v
   simp[af,ah,ad,ae,aa, *,zh]
  ·refine⟨.cG 1 (rows l) none,(Lb 1 A z).symm,Sl.mk _ _,?_⟩
   rw[sL 1 A z]at v
   have B:(rows l).length=l.length:=by simp
   generalize rows l=rw' at *
   refine aH rfl (by kernel_rfl) (BJ _ _ _ λg=>?_)
   simp[af,ah,ad,ae,aa, *,zh]
theorem Wk{p:cB × AV}(hp:Ba p) : ∃y,y=uQ p.2/\Sl 1 (rows p.1.op.l) y/\aF env 45 [p.1.val p.2]=some (p.1.val y):=by
 obtain⟨⟨k,u,⟨t,⟨n,B,A⟩,q,⟨⟨⟨m,z,D⟩,j⟩,h⟩,⟨⟨e,b,f⟩,a⟩,⟨i,d⟩,l⟩,c,J,v,w,o⟩,x⟩:=p
 obtain⟨C,F⟩:=hp
 simp only at C F
 obtain⟨y,E,G,K⟩:=Tn t n B A q m z D j h e b f a i d C F
 refine⟨y,E,G,?_⟩
 clear E
 refine aH rfl (by kernel_rfl) (FY _ _ _ λg=>?_)
 unfold cB.val
 have I:=C.r
 have H:=G.r
 simp[af,ah,ad,ae,aa, *,AF]
def aam(h:vI):Value := .agg #[.int .u8 h.lv.toNat,.int .u32 h.cats.toNat,.int .u8 h.num.toNat]
def aaj(i:bR):Value := .agg #[.int .u8 i.h.lv.toNat,.int .u32 i.h.cats.toNat,.int .u8 i.h.num.toNat,.int .i64 i.n]
def Z1(v:ib):Value := .agg #[.int .u8 v.lv.toNat,.int .u32 v.cats.toNat]
def Au(h:vI):AV := .agg [a8 h.lv,aw h.cats,a8 h.num]
def zT(i:bR):AV := .agg [a8 i.h.lv,aw i.h.cats,a8 i.h.num,aI i.n]
def y4(v:ib):AV := .agg [a8 v.lv,aw v.cats]
theorem GY(h:vI):gI (Au h)=some (aam h):=rfl
theorem Mt(i:bR):gI (zT i)=some (aaj i):=rfl
theorem GP(v:ib):gI (y4 v)=some (Z1 v):=rfl
theorem Xx:(λ(e:Bool)(a b c:Int)(n:Int)=>bj env.P (Instr.checkKey e 10000 45 (.agg #[.int .u8 a,.int .u32 b,.int .u8 c,.int .i64 n])))=λ_ _ _ _ _=>some ():=by kernel_rfl
theorem Xy:(λ(e:Bool)(a b c:Int)=>bj env.P (Instr.checkKey e 10000 40 (.agg #[.int .u8 a,.int .u32 b,.int .u8 c])))=λ_ _ _ _=>some ():=by kernel_rfl
theorem Xw:(λ(e:Bool)(a b:Int)=>bj env.P (Instr.checkKey e 10000 35 (.agg #[.int .u8 a,.int .u32 b])))=λ_ _ _=>some ():=by kernel_rfl
theorem Ke(d:TypeDesc)(u v:Array Value):Instr.sameNow d (.agg u) (.agg v)=none:=by
 unfold Instr.sameNow
 cases d<;>rfl
theorem UZ{t:TypeId}{xs ys:List AV}{us d:List Value}{b:Bool}(f:EZ env.P 8 t=true)(h:gk env.P 8 t xs ys=some b)(k:qP xs=some us)(l:qP ys=some d)(i:xs.length=env.P.cellsOf t)(e:ys.length=env.P.cellsOf t)(j:dB env.P t=some true) :
 bj env.P (Op.equal t (.agg us.toArray) (.agg d.toArray))=some b:=by
 obtain⟨u,v,a,c,g⟩:=U0 8 9992 t xs ys us d b f h k l i e
 unfold Ab.valOf at a c
 rw[j]at a c
 dsimp only at a c
 cases a
 cases c
 exact g
theorem P5:Vx env.P 45 aaj where
 chk:=λe a=>congrFun (congrFun (congrFun (congrFun (congrFun Xx e) _) _) _) _
 eq:=λa b=>by
  have h:=UZ (t:=45) (xs:=[a8 a.h.lv,aw a.h.cats,a8 a.h.num,aI a.n]) (ys:=[a8 b.h.lv,aw b.h.cats,a8 b.h.num,aI b.n]) (b:=decide (a=b)) (by kernel_rfl)
   (by obtain⟨⟨a1,a2,a3⟩,a4⟩:=a;obtain⟨⟨b1,b2,b3⟩,b4⟩:=b;simp[gk,ca,and_assoc,zr]) rfl rfl (by kernel_rfl) (by kernel_rfl) (by kernel_rfl)
  exact h
 now:=λd _ a b=>Ke d _ _
 und:=by kernel_rfl
 bits:=λa=>by simp[aaj,Instr.sameBits]
theorem Kp:Vx env.P 40 aam where
 chk:=λe a=>congrFun (congrFun (congrFun (congrFun Xy e) _) _) _
 eq:=λa b=>by
  have h:=UZ (t:=40) (xs:=[a8 a.lv,aw a.cats,a8 a.num]) (ys:=[a8 b.lv,aw b.cats,a8 b.num]) (b:=decide (a=b)) (by kernel_rfl)
   (by obtain⟨a1,a2,a3⟩:=a;obtain⟨b1,b2,b3⟩:=b;simp[gk,ca,and_assoc,zr]) rfl rfl (by kernel_rfl) (by kernel_rfl) (by kernel_rfl)
  exact h
 now:=λd _ a b=>Ke d _ _
 und:=by kernel_rfl
 bits:=λa=>by simp[aam,Instr.sameBits]
theorem Ko:Vx env.P 35 Z1 where
 chk:=λe a=>congrFun (congrFun (congrFun Xw e) _) _
 eq:=λa b=>by
  have h:=UZ (t:=35) (xs:=[a8 a.lv,aw a.cats]) (ys:=[a8 b.lv,aw b.cats]) (b:=decide (a=b)) (by kernel_rfl)
   (by obtain⟨a1,a2⟩:=a;obtain⟨b1,b2⟩:=b;simp[gk,ca,and_assoc,zr]) rfl rfl (by kernel_rfl) (by kernel_rfl) (by kernel_rfl)
  exact h
 now:=λd _ a b=>Ke d _ _
 und:=by kernel_rfl
 bits:=λa=>by simp[Z1,Instr.sameBits]
end Go.Proofs.YtdbiffjdomokfaaGreat
namespace Go.Proofs.YtdbiffjdomokfaaGreat
open Go.Ab
attribute [local simp] aU aK aG aW aV cz lT ba aO aQ cg cf bI bc ay bE gw
structure cF (H H':ai):Prop where
 fr:Fr H'
 old : ∀q b,H.get q=some b->H'.get q=some b
theorem cF.refl{H:ai}(h:Fr H):cF H H:=⟨h,λ_ _ h=>h⟩
theorem cF.trans{H H' a:ai}(h:cF H H')(c:cF H' a):cF H a:=⟨c.fr,λq b d=>c.old q b (h.old q b d)⟩
theorem cF.cons{H:ai}(hF:Fr H)(d t:Nat)(b:bA):cF H ((⟨d,t,H.gen d t,0⟩,some b) :: H):=
 ⟨by simp(maxDischargeDepth:=12) [ai.get_put,an,aj,Fr.nil,au,af,ah,ad,ae,ao,ak,aa, *],λq c a=>by rw[ai.tu,if_neg (ud hF (by rw[a];rfl) _ _ _)];exact a⟩
theorem nj{f:FuncId}(hm:(env.mode f == 2)=true){dep:Nat}{H:ai}{r:Ref}{first args captured:List AV}{y:AV}{K:AV->ai->Prop}{m:Mk K}
 (h : ∃H',cE env dep (.fn f) (first++args++captured) H=some (y,H')/\cF H H') (a : ∀H',cF H H'->K y H') :
 lQ (bF env true (aF env) (cE env dep) H r (some (.fn (.func f) first captured)) args) K m:=by
 obtain⟨H',b,c⟩:=h
 refine tI (v:=y) (H:=H') ?_ (a H' c)
 rw[Ea hm]
 exact b
theorem hY{f:FuncId}{fn:Func}{c:Code}{dep:Nat}{args:List AV}{H:ai}{y:AV}(hm:env.mode f=2)(a:env.allowed f=true)(g:env.P.funcs[f]?=some fn)(e:fn.body=some c)(hl:Nat.ble args.length fn.ntmps=true)
 (h:bB env fn (dep+1) [.code c] (vg 0 args) H λx d=>x=y/\cF H d) (b:env.thrSpec f args H=none:=by rfl) : ∃H',cE env dep (.fn f) args H=some (y,H')/\cF H H':=by
 obtain⟨k,H',j,rfl,i⟩:=pv (Q:=λx d=>x=y/\cF H d) hm a g e hl h b
 exact⟨H',j,i⟩
structure AL (H:ai) (rh:Ref) (ops:List (aN × AV)) (ents:List (bR × AV)):Prop where
 box : ∃xo vo rm,H.get rh=some ⟨2,[.agg [xo,.mp rm]],false,false⟩/\kr 17 (cD ops) H xo vo/\H.get rm=some (bn (cI zT ents))
theorem AL.grow{H H':ai}{rh:Ref}{ops:List (aN × AV)}{ents:List (bR × AV)}(h:AL H rh ops ents)(g:cF H H'):AL H' rh ops ents:=by
 obtain⟨e,k,rm,i,a,f⟩:=h.box
 refine⟨e,k,rm,g.old _ _ i,?_,g.old _ _ f⟩
 rcases a with a | ⟨r,c,fz,d,b,j⟩
 ·exact .inl a
 ·exact .inr ⟨r,c,fz,d,g.old _ _ b,j⟩
def fA(ents:List (bR × AV))(i:bR):Bool:=match cm i ents with | some (.v (.bool b))=>b | _=>false
def nH(ents:List (bR × AV)):Prop :=∀p∈ents,p.2=aB true
theorem RE{ents:List (bR × AV)}(h:nH ents)(i:bR):(cm i ents).getD (aB false)=aB (fA ents i):=by
 unfold fA
 induction ents with
 | nil=>rfl
 | cons p l a=>
  unfold cm
  split
  ·rename_i hp;rw[h p gG];rfl
  ·exact a λq b=>h q (fW _ b)
def uS(ents:List (bR × AV))(o:aN)(i:bR):Bool:=fA ents i&&nK (No i) (KC o)
theorem PZ{g:db}{rm:Ref}{ents:List (bR × AV)}(hb:nH ents)(e:g rm=some (bn (cI zT ents)))(a:UInt8)(b:UInt32)(d:UInt8)(c:Int):eT env.P g 196 (some (.mp rm)) (some (.agg [a8 a,aw b,a8 d,aI c])) false=some (aB (fA ents (⟨⟨a,b,d⟩,c⟩:bR)),[]):=by
 have h:=Ak P5 Mt (t:=196) (et:=4) (by kernel_rfl) (z:=aB false) (by kernel_rfl) e (⟨⟨a,b,d⟩,c⟩:bR) false
 rw[RE hb]at h
 exact h
section
variable(dep:Nat){H:ai}(hF:Fr H){rh:Ref}{ops:List (aN × AV)}{ents:List (bR × AV)}(hh:AL H rh ops ents)(hb:nH ents)
include hF hh hb
theorem PA(A:UInt8)(y:UInt8)(D:UInt32)(C:UInt8)(z:Int)(w:UInt8)(B:UInt32)(E:UInt8)(v:Int)(t:Int)(n:UInt8)(k:UInt32)(o:UInt8)(j:Int)(u:UInt8)(m:UInt32)(d:UInt8)(e:UInt32)(f:UInt8)(i:Int){x:AV}{I:List Int}(hx:Sl 1 (rows I) x) : ∃H',cE env dep (.fn 154) [.ptr rh 0 0,.agg [a8 A,a8 y,aw D,a8 C,aI z,a8 w,aw B,a8 E,aI v,aI t,a8 n,aw k,a8 o,aI j,a8 u,aw m,x],.agg [a8 d,aw e,a8 f,aI i]] H=some (aB (uS ents (⟨A,⟨y,D,C⟩,z,⟨⟨⟨w,B,E⟩,v⟩,t⟩,⟨⟨n,k,o⟩,j⟩,⟨u,m⟩,I⟩:aN) (⟨⟨d,e,f⟩,i⟩:bR)),H')/\cF H H':=by
 refine hY (fn:=Tryz.f154) (c:=qD) (by kernel_rfl) (by kernel_rfl) (by kernel_rfl) (by kernel_rfl) (by kernel_rfl) ?_
 refine qA _ _ _ _ _ _ λg=>?_
 obtain⟨R,V,rm,L,M,Q⟩:=hh.box
 have T:(H.get rh).isSome=true:=by rw[L];rfl
 have U:(H.get rm).isSome=true:=by rw[Q];rfl
 have N:=λ(H':ai)(h:H'.get rm=some (bn (cI zT ents)))=>PZ (g:=H'.get) hb h d e f i
 have P:=M.r
 have K : ∀H',Fr H'->(∀q b,H.get q=some b->H'.get q=some b)->cF H H':=λH' a b=>⟨a,b⟩
 have G : ∀b1 b2:bA,cF H ((⟨dep+1,5,H.gen (dep+1) 5,0⟩,some b2) :: (⟨dep+1,4,H.gen (dep+1) 4,0⟩,some b1) :: H):=λb1 b2=>⟨by simp(maxDischargeDepth:=12) [ai.get_put,an,aj,Fr.nil,au,af,ah,ad,ae,ao,ak,aa, *],λq c J=>by
  have O:(H.get q).isSome=true:=by rw[J];rfl
  simp[af hF O,J]⟩
 unfold uS
 cases S:fA ents (⟨⟨d,e,f⟩,i⟩:bR) with
 | false=>
  simp[af,ah,ad,ae,aa, *,gy,hx.r]
 | true=>
  simp[af,ah,ad,ae,aa, *,gy,hx.r]
  all_goals rfl
theorem UM(a:UInt8)(b:UInt32)(e:UInt8)(d:Int){q:Ref}(n:H.get q=some ⟨1,[.ptr rh 0 0],false,false⟩) : ∃H',cE env dep (.fn 157) [.agg [a8 a,aw b,a8 e,aI d],.ptr q 0 0] H=some (aB (fA ents (⟨⟨a,b,e⟩,d⟩:bR)),H')/\cF H H':=by
 refine hY (fn:=Tryz.f157) (c:=oK) (by kernel_rfl) (by kernel_rfl) (by kernel_rfl) (by kernel_rfl) (by kernel_rfl) ?_
 refine oB _ _ _ _ _ λg=>?_
 obtain⟨u,t,rm,k,m,j⟩:=hh.box
 have v:(H.get rh).isSome=true:=by rw[k];rfl
 have w:(H.get q).isSome=true:=by rw[n];rfl
 have x:(H.get rm).isSome=true:=by rw[j];rfl
 have o:=λ(H':ai)(h:H'.get rm=some (bn (cI zT ents)))=>PZ (g:=H'.get) hb h a b e d
 have i:=m.r
 have f : ∀b1:bA,cF H ((⟨dep+1,2,H.gen (dep+1) 2,0⟩,some b1) :: H):=λb1=>cF.cons hF _ _ _
 simp[af,ah,ad,ae,aa, *,jB]
theorem Vp(v:UInt8)(o:UInt8)(z:UInt32)(y:UInt8)(t:Int)(k:UInt8)(w:UInt32)(B:UInt8)(j:Int)(h:Int)(e:UInt8)(b:UInt32)(f:UInt8)(a:Int)(i:UInt8)(d:UInt32)(m:UInt8)(n:UInt32)(u:UInt8)(A:Int){x:AV}{E:List Int}(hx:Sl 1 (rows E) x){q p:Ref}(J:H.get q=some ⟨1,[.ptr rh 0 0],false,false⟩)(hp:H.get p=some ⟨17,[.agg [a8 v,a8 o,aw z,a8 y,aI t,a8 k,aw w,a8 B,aI j,aI h,a8 e,aw b,a8 f,aI a,a8 i,aw d,x]],false,false⟩) :
 ∃H',cE env dep (.fn 167) [.agg [a8 m,aw n,a8 u,aI A],.ptr q 0 0,.ptr p 0 0] H=some (aB (!uS ents (⟨v,⟨o,z,y⟩,t,⟨⟨⟨k,w,B⟩,j⟩,h⟩,⟨⟨e,b,f⟩,a⟩,⟨i,d⟩,E⟩:aN) (⟨⟨m,n,u⟩,A⟩:bR)),H')/\cF H H':=by
 refine hY (fn:=Tryz.f167) (c:=pW) (by kernel_rfl) (by kernel_rfl) (by kernel_rfl) (by kernel_rfl) (by kernel_rfl) ?_
 refine pQ _ _ _ _ _ _ λg=>?_
 have L:(H.get q).isSome=true:=by rw[J];rfl
 have M:(H.get p).isSome=true:=by rw[hp];rfl
 have D : ∀b1:bA,cF H ((⟨dep+1,3,H.gen (dep+1) 3,0⟩,some b1) :: H):=λb1=>cF.cons hF _ _ _
 have G:=λb1=>PA (dep+1) (D b1).fr (hh.grow (D b1)) hb v o z y t k w B j h e b f a i d m n u A hx
 simp[af,ah,ad,ae,aa, *,kI,hx.r]
 refine nj (by kernel_rfl) (G _) λK I=>?_
 have C:=(D _).trans I
 simp[C]
end
def nG(l:List bR):List AV:=l.map zT
@[simp] theorem ack(l:List bR):(nG l).length=l.length:=by simp[nG]
def OR(p:bR->Bool):List bR->Nat->Int
 | [],_ => -1
 | i :: l,k=>if p i then k else OR p l (k+1)
theorem Mr(p:bR->Bool) : ∀(l:List bR)(k:Nat),decide (0<=OR p l k)=l.any p
 | [],k=>rfl
 | i :: l,k=>by
  unfold OR
  rw[Fz]
  cases h:p i with
  | true=>simp
  | false=>simpa using Mr p l (k+1)
section
variable(dep:Nat){F:FuncId}(hm:(env.mode F == 2)=true){caps:List AV}{l:List bR}{x0:AV}(hx:Sl 4 (nG l) x0)(hl:l.length<100000){H0:ai}{p:bR->Bool}
include hm hx hl
theorem RV(hp : ∀i H,cF H0 H ->∃H',cE env (dep+1) (.fn F) ([]++[zT i]++caps) H=some (aB (p i),H')/\cF H H'){Q:AV->ai->Prop} : ∀(s:List bR)(k:Nat)(i:Int)(H:ai),l.drop k=s->k<=l.length->i=k->cF H0 H->(∀y H',y=aI (OR p s k)->cF H0 H'->Q y H') ->
 bB env Tryz.f166 (dep+1) bw [(8,aI i),(0,x0),(1,.fn (.func F) [] caps),(7,aI l.length)] H Q:=by
 intro s
 induction s with
 | nil=>
  rintro k i H hs hk rfl hG hQ
  obtain rfl:=drop_nil hs hk
  have c:=hQ _ H rfl hG
  refine dA _ _ _ _ _ _ _ λg=>?_
  clear hp hQ
  simp[af,ah,ad,ae,aa, *,bX]
  all_goals exact c
 | cons a s n=>
  rintro k i H hs hk rfl hG hQ
  obtain⟨t,q,b,f⟩:=drop_cons hs
  have z:=IntWalk.i64_in ((k:Int)+1) (by omega)
  have u:bW (nG l) k 0 4 true=some (zT a):=by simp[nG,f,zT]
  have x:=hp a H hG
  have j:=λH' w=>n (k+1) ((k:Int)+1) H' b (by omega) (by simp) w
  have o:(k:Int)<l.length:=by omega
  clear n hp hs b q f
  refine dA _ _ _ _ _ _ _ λg=>?_
  simp[af,ah,ad,ae,aa, *,bX,hx.r,hx.idx]
  refine nj hm x λv m=>?_
  have d:=hG.trans m
  unfold OR at hQ
  cases e:p a with
  | true=>
   rw[e]at hQ
   simp
   exact hQ _ _ (by simp) d
  | false=>
   rw[e]at hQ
   simp[z]
   exact j v d (λy H' A h=>hQ y H' (by simpa using A) h)
theorem EH{H:ai}(hF:Fr H)(hp : ∀i H',cF H H' ->∃a,cE env (dep+2) (.fn F) ([]++[zT i]++caps) H'=some (aB (p i),a)/\cF H' a) :
 ∃H',cE env dep (.fn 156) [x0,.fn (.func F) [] caps] H=some (aB (l.any p),H')/\cF H H':=by
 have f : ∃H',cE env (dep+1) (.fn 166) ([]++[x0,.fn (.func F) [] caps]++[]) H=some (aI (OR p l 0),H')/\cF H H':=by
  refine hY (fn:=Tryz.f166) (c:=iN) (by kernel_rfl) (by kernel_rfl) (by kernel_rfl) (by kernel_rfl) (by kernel_rfl) ?_
  refine iI _ _ _ _ _ λg=>?_
  have b:=RV (dep+1) hm hx hl (p:=p) hp (Q:=λx d=>x=aI (OR p l 0)/\cF H d) l 0 0 H rfl (by omega) rfl (cF.refl hF) (λy H' e h=>⟨e,h⟩)
  clear hp
  simp[af,ah,ad,ae,aa, *,dP,hx.r]
  all_goals exact b
 refine hY (fn:=Tryz.f156) (c:=ig) (by kernel_rfl) (by kernel_rfl) (by kernel_rfl) (by kernel_rfl) (by kernel_rfl) ?_
 refine ic _ _ _ _ _ λg=>?_
 unfold dw
 refine nj (by kernel_rfl) f λd j=>?_
 have:=Mr p l 0
 simp[j,<-this]
end
end Go.Proofs.YtdbiffjdomokfaaGreat
namespace Go.Proofs.YtdbiffjdomokfaaGreat
open Go.Ab
attribute [local simp] aU aK aG aW aV cz lT ba aO aQ cg cf bI bc ay bE gw
def cb(s:vu):List bR:=(List.range s.many.toNat).map λk=>zE s.f (k:Nat)
theorem OI(c:UInt8)(b:UInt32)(f:UInt8)(e:Int)(a:Int)(u:eN (⟨⟨⟨c,b,f⟩,e⟩,a⟩:vu)=true){Q:AV->ai->Prop} : ∀(d k:Nat)(i:Int)(o:AV)(H:ai),k+d=a.toNat->i=k->Fr H->H.get ⟨0,1,0,0⟩=some ⟨5,[.agg [a8 c,aw b,a8 f,aI e,aI a]],false,false⟩->tz [20] 4 (nG ((List.range k).map λ(k:Nat)=>zE ⟨⟨c,b,f⟩,e⟩ k)) H o ->
 (∀y H',tz [20] 4 (nG (cb (⟨⟨⟨c,b,f⟩,e⟩,a⟩:vu))) H' y->Q y H') ->
 bB env Tryz.f130 0 ov [(8,aI i),(2,o),(1,.ptr ⟨0,1,0,0⟩ 0 0),(7,aI a)] H Q:=by
 have D:=gp u
 simp only at D
 intro d
 induction d with
 | zero=>
  rintro k i o H hk rfl hF hb hO hQ
  have p:=hQ o H (by unfold cb;simp only;rw[show a.toNat=k by omega];exact hO)
  have q : ¬(k:Int)<a:=by omega
  refine Aa _ _ _ _ _ _ λg=>?_
  clear hQ hO
  simp[af,ah,ad,ae,aa, *,rI]
  all_goals exact p
 | succ d w=>
  rintro k i o H hk rfl hF hb hO hQ
  have K:=IntWalk.i64_in ((k:Int)+1) (by omega)
  have q:(k:Int)<a:=by omega
  have x:VL (⟨⟨⟨c,b,f⟩,e⟩,a⟩:vu) (k:Int)=0:=by
   unfold VL
   rw[if_pos u,if_neg]
   simp only
   omega
  have E:=adW c b f e a (k:Int)
  rw[if_pos x]at E
  have I:(H.get ⟨0,1,0,0⟩).isSome=true:=by rw[hb];rfl
  have l : ∀(g:Nat)(m:Nat)(n:ai),m=k+1->Fr n->n.get ⟨0,1,0,0⟩=some ⟨5,[.agg [a8 c,aw b,a8 f,aI e,aI a]],false,false⟩->n.get ⟨0,20,g,0⟩=some ⟨4,nG ((List.range k).map λ(k:Nat)=>zE ⟨⟨c,b,f⟩,e⟩ k)++[.agg [a8 c,aw b,a8 f,aI (e+k)]],true,false⟩ ->
   bB env Tryz.f130 0 ov [(8,aI ((k:Int)+1)),(2,.cC ⟨0,20,g,0⟩ 0 m none),(1,.ptr ⟨0,1,0,0⟩ 0 0),(7,aI a)] n Q:=by
   intro g m n F z C B
   subst F
   refine w (k+1) ((k:Int)+1) _ n (by omega) (by simp) z C (.inr ⟨20,g,by simp,by simp,?_⟩) hQ
   rw[B]
   simp[nG,List.range_succ,zT,zE]
  clear w hQ
  refine Aa _ _ _ _ _ _ λg=>?_
  generalize he:nG ((List.range k).map λ(k:Nat)=>zE ⟨⟨c,b,f⟩,e⟩ k)=es at *
  have j:es.length=k:=by rw[<-he];simp
  clear he x
  rcases hO with ⟨rfl,rfl⟩ | ⟨t,gg,v,rfl,A⟩
  ·have h:=λn=>l (H.gen 0 20) 1 n (by simp at j;omega)
   clear l j
   simp[af,ah,ad,ae,aa, *,rI]
   refine h _ ?_ ?_ ?_
   ·exact by simp(maxDischargeDepth:=12) [ai.get_put,an,aj,Fr.nil,au,af,ah,ad,ae,ao,ak,aa, *]
   ·exact by simp(maxDischargeDepth:=12) [ai.get_put,an,aj,Fr.nil,au,af,ah,ad,ae,ao,ak,aa, *]
   ·exact by simp(maxDischargeDepth:=12) [ai.get_put,an,aj,Fr.nil,au,af,ah,ad,ae,ao,ak,aa, *]
  ·rw[uC]at v
   subst v
   rw[j]
   have h:=l (H.gen 0 20) (k+1)
   clear l
   have G:(H.get ⟨0,20,gg,0⟩).isSome=true:=by rw[A];rfl
   have J:jW 4 24 k true none (some ⟨4,es,true,false⟩) (some [.agg [a8 c,aw b,a8 f,aI (e+k)]]):=by
    simp[j];omega
   simp[af,ah,ad,ae,aa, *,rI]
   refine h _ rfl ?_ ?_ ?_
   ·exact by simp(maxDischargeDepth:=12) [ai.get_put,an,aj,Fr.nil,au,af,ah,ad,ae,ao,ak,aa, *]
   ·exact by simp(maxDischargeDepth:=12) [ai.get_put,an,aj,Fr.nil,au,af,ah,ad,ae,ao,ak,aa, *]
   ·exact by simp(maxDischargeDepth:=12) [ai.get_put,an,aj,Fr.nil,au,af,ah,ad,ae,ao,ak,aa, *]
theorem JY(b:UInt8)(d:UInt32)(f:UInt8)(c:Int)(a:Int)(k:eN (⟨⟨⟨b,d,f⟩,c⟩,a⟩:vu)=true):aF env 130 [.agg [a8 b,aw d,a8 f,aI c,aI a]]=some (.cG 4 (nG (cb (⟨⟨⟨b,d,f⟩,c⟩,a⟩:vu))) none):=by
 have m:=gp k
 simp only at m
 have j:nG (cb (⟨⟨⟨b,d,f⟩,c⟩,a⟩:vu))≠[]:=by
  intro e
  have:=congrArg List.length e
  simp[cb]at this
  omega
 refine aH rfl (by kernel_rfl) (JQ _ _ _ λg=>?_)
 have i:=λH n o=>OI b d f c a k (Q:=λy H'=>view H'.get 8 y=some (.cG 4 (nG (cb (⟨⟨⟨b,d,f⟩,c⟩,a⟩:vu))) none)) a.toNat 0 0 bZ H (by omega) rfl n o (.inl ⟨rfl,by simp[nG]⟩) (λy H' h=>by
  rcases h with ⟨_,h⟩ | ⟨t,g,_,rfl,l⟩
  ·exact absurd h j
  ·rw[Iq l rfl])
 simp[af,ah,ad,ae,aa, *,Di]
 exact i _ (by simp(maxDischargeDepth:=12) [ai.get_put,an,aj,Fr.nil,au,af,ah,ad,ae,ao,ak,aa, *]) rfl
theorem L4(s:vu):Sl 4 (nG (cb s)) (.cG 4 (nG (cb s)) none):=Sl.mk _ _
theorem DS{s:vu}(h:eN s=true):(cb s).length<100000:=by
 have a:=gp h
 simp[cb]
 omega
def ra(ents:List (bR × AV))(o:aN):Bool := !(cb o.s).any λi => !uS ents o i
section
variable(dep:Nat){H:ai}(hF:Fr H){rh:Ref}{ops:List (aN × AV)}{ents:List (bR × AV)}(hh:AL H rh ops ents)(hb:nH ents)
include hF hh hb
theorem Vo(w:UInt8)(u:UInt8)(z:UInt32)(y:UInt8)(v:Int)(d:UInt8)(e:UInt32)(f:UInt8)(b:Int)(a:Int)(m:UInt8)(k:UInt32)(o:UInt8)(j:Int)(t:UInt8)(l:UInt32){x:AV}{D:List Int}(G:Sl 1 (rows D) x)(E:eN ⟨⟨⟨d,e,f⟩,b⟩,a⟩=true) :
 ∃H',cE env dep (.fn 158) [.ptr rh 0 0,.agg [a8 w,a8 u,aw z,a8 y,aI v,a8 d,aw e,a8 f,aI b,aI a,a8 m,aw k,a8 o,aI j,a8 t,aw l,x]] H=some (aB (ra ents (⟨w,⟨u,z,y⟩,v,⟨⟨⟨d,e,f⟩,b⟩,a⟩,⟨⟨m,k,o⟩,j⟩,⟨t,l⟩,D⟩:aN)),H')/\cF H H':=by
 refine hY (fn:=Tryz.f158) (c:=rA) (by kernel_rfl) (by kernel_rfl) (by kernel_rfl) (by kernel_rfl) (by kernel_rfl) ?_
 refine qO _ _ _ _ _ λg=>?_
 have M:=JY d e f b a E
 have A : ∀b1 b2:bA,cF H ((⟨dep+1,3,H.gen (dep+1) 3,0⟩,some b2) :: (⟨dep+1,2,H.gen (dep+1) 2,0⟩,some b1) :: H):=λb1 b2=>⟨by simp(maxDischargeDepth:=12) [ai.get_put,an,aj,Fr.nil,au,af,ah,ad,ae,ao,ak,aa, *],λq c I=>by
  have K:(H.get q).isSome=true:=by rw[I];rfl
  simp[af hF K,I]⟩
 have J : ∃H',cE env (dep+1) (.fn 156) ([]++[.cG 4 (nG (cb ⟨⟨⟨d,e,f⟩,b⟩,a⟩)) none,.fn (.func 167) [] [.ptr ⟨dep+1,2,H.gen (dep+1) 2,0⟩ 0 0,.ptr ⟨dep+1,3,H.gen (dep+1) 3,0⟩ 0 0]]++[])
  ((⟨dep+1,3,H.gen (dep+1) 3,0⟩,some ⟨17,[.agg [a8 w,a8 u,aw z,a8 y,aI v,a8 d,aw e,a8 f,aI b,aI a,a8 m,aw k,a8 o,aI j,a8 t,aw l,x]],false,false⟩) :: (⟨dep+1,2,H.gen (dep+1) 2,0⟩,some ⟨1,[.ptr rh 0 0],false,false⟩) :: H)=some (aB ((cb ⟨⟨⟨d,e,f⟩,b⟩,a⟩).any λi => !uS ents (⟨w,⟨u,z,y⟩,v,⟨⟨⟨d,e,f⟩,b⟩,a⟩,⟨⟨m,k,o⟩,j⟩,⟨t,l⟩,D⟩:aN) i),H')/\cF _ H':=
  EH (dep+1) (F:=167) (by kernel_rfl) (L4 _) (DS E) (p:=λi => !uS ents (⟨w,⟨u,z,y⟩,v,⟨⟨⟨d,e,f⟩,b⟩,a⟩,⟨⟨m,k,o⟩,j⟩,⟨t,l⟩,D⟩:aN) i) (A _ _).fr (λi H' B=>by
   have:=Vp (dep+3) B.fr ((hh.grow (A _ _)).grow B) hb w u z y v d e f b a m k o j t l i.h.lv i.h.cats i.h.num i.n G (q:=⟨dep+1,2,H.gen (dep+1) 2,0⟩) (p:=⟨dep+1,3,H.gen (dep+1) 3,0⟩) (B.old _ _ (by simp)) (B.old _ _ (by simp))
   exact this)
 simp[af,ah,ad,ae,aa, *,lg,G.r]
 refine nj (by kernel_rfl) J λL B=>?_
 have C:=(A _ _).trans B
 simp[C,ra]
end
end Go.Proofs.YtdbiffjdomokfaaGreat
namespace Go.Proofs.YtdbiffjdomokfaaGreat
open Go.Ab Go.ChangeShapes Go.WideShapes Go.RowKit
theorem ae1:env.Ok (D7 env):=Qi L8 (by kernel_rfl) aap (λf t h=>by cases h) (λf args H y H' h=>by
 have h:Cv f args H=some (y,H'):=h
 unfold Cv at h
 split at h
 ·rename_i e;subst e;exact Wb h
 ·cases h)
theorem WA:Np env.P 52 (λ_=>True) (λp:UInt8 × UInt32 × Bool=>[a8 p.1,aw p.2.1,aB p.2.2]):=by
 intro n xs h
 have h:=lZ (P:=env.P) EE h
 obtain⟨m,x,r,rfl,a,y,r',rfl,c,rfl⟩:=h
 obtain⟨q,_,rfl⟩:=AX _ _ a
 obtain⟨b,_,rfl⟩:=LD (P:=env.P) (t:=4) (by simp) _ _ c
 exact⟨(q.1,q.2,b),trivial,rfl⟩
def ahF(p:cB × AV):List AV:=[a8 p.1.kind,aI p.1.user]++(YY (p.1.op,p.2)++[aI p.1.code,aI p.1.gu,a8 p.1.gv,aw p.1.gc,aB p.1.gok])
theorem Zs:Np env.P 52 (λ_=>True) Clear.enc:=by
 intro n xs h
 have h:=lZ (P:=env.P) EE h
 obtain⟨m,x,r,rfl,a,y,r',rfl,c,rfl⟩:=h
 obtain⟨p,_,rfl⟩:=AX _ _ a
 obtain⟨b,_,rfl⟩:=LD (P:=env.P) (t:=4) (by simp) _ _ c
 exact⟨⟨p.1,p.2,b⟩,trivial,rfl⟩
theorem Zr:Np env.P 76 (λ_=>True) aC.enc:=by
 intro n xs h
 have h:=lZ (P:=env.P) ME h
 obtain⟨m,x,r,rfl,b,y,r',rfl,c,z,e,rfl,a,w,r3,rfl,d,rfl⟩:=h
 obtain⟨p,_,rfl⟩:=AX _ _ b
 obtain⟨i,_,rfl⟩:=sQ (P:=env.P) (t:=3) (by simp) _ _ c
 obtain⟨j,_,rfl⟩:=sQ (P:=env.P) (t:=3) (by simp) _ _ a
 obtain⟨k,_,rfl⟩:=sQ (P:=env.P) (t:=3) (by simp) _ _ d
 exact⟨⟨p.1,p.2,i,j,k⟩,trivial,rfl⟩
theorem Zj{n:Nat}{x:AV}(h:Sh env.P n 29 x) : ∃(us:List Clear) (qs:List aC) (gr:Int) (b a:AV),x = .agg [b,a,aI gr]/\Sl 3 (cW us) b/\Sl 5 (cN qs) a:=by
 obtain⟨o,rfl,c⟩:=h.agg (by simp)
 have i:=lZ (P:=env.P) MM c
 obtain⟨m,u,r,rfl,d,q,r',rfl,e,g,l,rfl,f,rfl⟩:=i
 have d:=Cs (P:=env.P) SO SJ V6 Zs d
 obtain⟨us,b,_,rfl,j⟩:=d
 have e:=Cs (P:=env.P) SN SH V4 Zr e
 obtain⟨qs,a,_,rfl,k⟩:=e
 obtain⟨gr,_,rfl⟩:=sQ (P:=env.P) (t:=3) (by simp) _ _ f
 exact⟨us,qs,gr,b,a,rfl,j,k⟩
end Go.Proofs.YtdbiffjdomokfaaGreat
namespace Go.Proofs.YtdbiffjdomokfaaGreat
open Go.Ab
attribute [local simp] aU aK aG aW aV cz lT ba aO aQ cg cf bI bc ay bE gw
theorem P3{g:db}{r rm:Ref}{ents:List (bR × AV)}(a:g rm=some (bn (cI zT ents))):ck env.P false g r .len #[196] [.mp rm]=some (aI ents.length,[]):=by
 have b:(HL env.P 196).isSome=true:=by kernel_rfl
 obtain⟨p,hp⟩:=gH.1 b
 have e:ck env.P false g r .len #[196] [.mp rm]=vZ env.P g (some 196) rm:=rfl
 rw[e]
 unfold vZ
 rw[uY a,fy,hp]
 simp[cI]
def fF(ents:List (bR × AV))(o:aN):Int:=
 if (!fY o.a && !uS ents o o.a)=true then 6 else if Hy o≠0\/(cb o.s).any (fA ents)=true then 2 else if 8192<(ents.length:Int)+o.s.many then 4 else 0
def yR(ents:List (bR × AV))(o:aN):Int:=if ra ents o=false then 6 else if (decide (o.s.f.h.lv=o.h.lv)&&decide (o.s.f.h.cats=o.h.cats))=false then 2 else 0
def yS(ops:List (aN × AV))(ents:List (bR × AV))(o:aN):Int:=if ra ents o=false then 6 else if pU (opsOf ops)=0/\kD (opsOf ops) o=true then 0 else 2
def tQ(ops:List (aN × AV))(ents:List (bR × AV))(o:aN):Int:=if o.kind=1 then fF ents o else if o.kind=2 then yR ents o else yS ops ents o
def u9(ops:List (aN × AV))(ents:List (bR × AV))(o:aN):Int:=if tQ ops ents o=0/\2048<=ops.length then 4 else tQ ops ents o
section
variable(dep:Nat){H:ai}(hF:Fr H){rh:Ref}{ops:List (aN × AV)}{ents:List (bR × AV)}(hh:AL H rh ops ents)(hb:nH ents)
include hF hh hb
theorem Rf(t:UInt8)(m:UInt8)(n:UInt32)(u:UInt8)(q:Int)(j:UInt8)(k:UInt32)(o:UInt8)(l:Int)(a:Int)(f:UInt8)(d:UInt32)(h:UInt8)(b:Int)(i:UInt8)(e:UInt32){x:AV}{z:List Int}(y:Sl 1 (rows z) x)(C:eN ⟨⟨⟨j,k,o⟩,l⟩,a⟩=true) :
 ∃H',cE env dep (.fn 134) [.ptr rh 0 0,.agg [a8 t,a8 m,aw n,a8 u,aI q,a8 j,aw k,a8 o,aI l,aI a,a8 f,aw d,a8 h,aI b,a8 i,aw e,x]] H=some (aI (yR ents (⟨t,⟨m,n,u⟩,q,⟨⟨⟨j,k,o⟩,l⟩,a⟩,⟨⟨f,d,h⟩,b⟩,⟨i,e⟩,z⟩:aN)),H')/\cF H H':=by
 refine hY (fn:=Tryz.f134) (c:=pz) (by kernel_rfl) (by kernel_rfl) (by kernel_rfl) (by kernel_rfl) (by kernel_rfl) ?_
 refine pd _ _ _ _ _ λg=>?_
 have v : ∀b1:bA,cF H ((⟨dep+1,3,H.gen (dep+1) 3,0⟩,some b1) :: H):=λb1=>cF.cons hF _ _ _
 have D:=Vo (dep+1) (v ⟨17,[.agg [a8 t,a8 m,aw n,a8 u,aI q,a8 j,aw k,a8 o,aI l,aI a,a8 f,aw d,a8 h,aI b,a8 i,aw e,x]],false,false⟩).fr (hh.grow (v _)) hb t m n u q j k o l a f d h b i e y C
 simp[af,ah,ad,ae,aa, *,kq,y.r]
 refine nj (by kernel_rfl) D λE A=>?_
 have p:=(v _).trans A
 have w:=A.old ⟨dep+1,3,H.gen (dep+1) 3,0⟩ _ (by simp;rfl)
 unfold yR
 cases ra ents (⟨t,⟨m,n,u⟩,q,⟨⟨⟨j,k,o⟩,l⟩,a⟩,⟨⟨f,d,h⟩,b⟩,⟨i,e⟩,z⟩:aN) with
 | false=>simp[p]
 | true=>
  cases B:(decide (j=m)&&decide (k=n)) with
  | false=>simp[w,p,y.r,gk,ca,B]
  | true=>simp[w,p,y.r,gk,ca,B]
theorem raise_at(D : ∀p∈ops,HT p)(O:ops.length<100000)(o:UInt8)(m:UInt8)(u:UInt32)(t:UInt8)(n:Int)(k:UInt8)(q:UInt32)(v:UInt8)(j:Int)(h:Int)(e:UInt8)(b:UInt32)(f:UInt8)(a:Int)(i:UInt8)(d:UInt32){x:AV}{B:List Int}(C:Sl 1 (rows B) x)(G:B.length<2000000)(M:mK (⟨o,⟨m,u,t⟩,n,⟨⟨⟨k,q,v⟩,j⟩,h⟩,⟨⟨e,b,f⟩,a⟩,⟨i,d⟩,B⟩:aN)=true) :
 ∃H',cE env dep (.fn 135) [.ptr rh 0 0,.agg [a8 o,a8 m,aw u,a8 t,aI n,a8 k,aw q,a8 v,aI j,aI h,a8 e,aw b,a8 f,aI a,a8 i,aw d,x]] H=some (aI (yS ops ents (⟨o,⟨m,u,t⟩,n,⟨⟨⟨k,q,v⟩,j⟩,h⟩,⟨⟨e,b,f⟩,a⟩,⟨i,d⟩,B⟩:aN)),H')/\cF H H':=by
 have I:=k7 M
 simp only at I
 refine hY (fn:=Tryz.f135) (c:=pV) (by kernel_rfl) (by kernel_rfl) (by kernel_rfl) (by kernel_rfl) (by kernel_rfl) ?_
 refine pP _ _ _ _ _ λg=>?_
 have z : ∀b1:bA,cF H ((⟨dep+1,3,H.gen (dep+1) 3,0⟩,some b1) :: H):=λb1=>cF.cons hF _ _ _
 have N:=Vo (dep+1) (z ⟨17,[.agg [a8 o,a8 m,aw u,a8 t,aI n,a8 k,aw q,a8 v,aI j,aI h,a8 e,aw b,a8 f,aI a,a8 i,aw d,x]],false,false⟩).fr (hh.grow (z _)) hb o m u t n k q v j h e b f a i d C I
 simp[af,ah,ad,ae,aa, *,kH,C.r]
 refine nj (by kernel_rfl) N λQ J=>?_
 have l:=(z _).trans J
 have A:=J.old ⟨dep+1,3,H.gen (dep+1) 3,0⟩ _ (by simp;rfl)
 obtain⟨P,R,rm,F,K,S⟩:=(hh.grow l).box
 have y:=K.r
 have w:=TC K.sl D O o m u t n k q v j h e b f a i d C G
 rw[if_pos M]at w
 unfold yS
 cases ra ents (⟨o,⟨m,u,t⟩,n,⟨⟨⟨k,q,v⟩,j⟩,h⟩,⟨⟨e,b,f⟩,a⟩,⟨i,d⟩,B⟩:aN) with
 | false=>simp[l]
 | true=>
  by_cases E:pU (opsOf ops)=0
  ·rw[if_pos E]at w
   cases L:kD (opsOf ops) (⟨o,⟨m,u,t⟩,n,⟨⟨⟨k,q,v⟩,j⟩,h⟩,⟨⟨e,b,f⟩,a⟩,⟨i,d⟩,B⟩:aN) with
   | false=>
    rw[L]at w
    simp[A,l,F,y,C.r,w]
   | true=>
    rw[L]at w
    simp[A,l,F,y,C.r,w,E]
  ·rw[if_neg E]at w
   simp[A,l,F,y,C.r,w,E]
end
end Go.Proofs.YtdbiffjdomokfaaGreat
namespace Go.Proofs.YtdbiffjdomokfaaGreat
open Go.Ab
attribute [local simp] aU aK aG aW aV cz lT ba aO aQ cg cf bI bc ay bE gw
section
variable(dep:Nat){H:ai}(hF:Fr H){rh:Ref}{ops:List (aN × AV)}{ents:List (bR × AV)}(hh:AL H rh ops ents)(hb:nH ents)(he:ents.length<1000000)
include hF hh hb he
theorem RJ(w:UInt8)(v:UInt8)(A:UInt32)(z:UInt8)(y:Int)(m:UInt8)(u:UInt32)(o:UInt8)(t:Int)(a:Int)(f:UInt8)(e:UInt32)(j:UInt8)(d:Int)(l:UInt8)(k:UInt32){x:AV}{C:List Int}(Q:Sl 1 (rows C) x)(hal:C.length<1000000)(ho:mK (⟨w,⟨v,A,z⟩,y,⟨⟨⟨m,u,o⟩,t⟩,a⟩,⟨⟨f,e,j⟩,d⟩,⟨l,k⟩,C⟩:aN)=true) :
 ∃H',cE env dep (.fn 133) [.ptr rh 0 0,.agg [a8 w,a8 v,aw A,a8 z,aI y,a8 m,aw u,a8 o,aI t,aI a,a8 f,aw e,a8 j,aI d,a8 l,aw k,x]] H=some (aI (fF ents (⟨w,⟨v,A,z⟩,y,⟨⟨⟨m,u,o⟩,t⟩,a⟩,⟨⟨f,e,j⟩,d⟩,⟨l,k⟩,C⟩:aN)),H')/\cF H H':=by
 have hs:=k7 ho
 simp only at hs
 have hn:=gp hs
 simp only at hn
 refine hY (fn:=Tryz.f133) (c:=pA) (by kernel_rfl) (by kernel_rfl) (by kernel_rfl) (by kernel_rfl) (by kernel_rfl) ?_
 refine pe _ _ _ _ _ λg=>?_
 have hN:=JY m u o t a hs
 have Y:=Wh w v A z y m u o t a f e j d l k Q hal
 have w1:=IntWalk.i64_in ((ents.length:Int)+a) (by omega)
 have X : ∀b1 b2:bA,cF H ((⟨dep+1,3,H.gen (dep+1) 3,0⟩,some b2) :: (⟨dep+1,2,H.gen (dep+1) 2,0⟩,some b1) :: H):=λb1 b2=>⟨by simp(maxDischargeDepth:=12) [ai.get_put,an,aj,Fr.nil,au,af,ah,ad,ae,ao,ak,aa, *],λq c hq=>by
  have lq:(H.get q).isSome=true:=by rw[hq];rfl
  simp[af hF lq,hq]⟩
 have S : ∀(Hs:ai),cF H Hs->Hs.get ⟨dep+1,2,H.gen (dep+1) 2,0⟩=some ⟨1,[.ptr rh 0 0],false,false⟩ ->
  ∃H',cE env (dep+1) (.fn 156) ([]++[.cG 4 (nG (cb ⟨⟨⟨m,u,o⟩,t⟩,a⟩)) none,.fn (.func 157) [] [.ptr ⟨dep+1,2,H.gen (dep+1) 2,0⟩ 0 0]]++[]) Hs=some (aB ((cb ⟨⟨⟨m,u,o⟩,t⟩,a⟩).any (fA ents)),H')/\cF Hs H':=λHs hG hq=>
  EH (dep+1) (F:=157) (by kernel_rfl) (L4 _) (DS hs) (p:=fA ents) hG.fr (λi H' Z=>by
   have:=UM (dep+3) Z.fr ((hh.grow hG).grow Z) hb i.h.lv i.h.cats i.h.num i.n (q:=⟨dep+1,2,H.gen (dep+1) 2,0⟩) (Z.old _ _ hq)
   exact this)
 cases hz:fY (⟨⟨f,e,j⟩,d⟩:bR) with
 | true=>
  have D : ¬((!fY (⟨⟨f,e,j⟩,d⟩:bR) && !uS ents (⟨w,⟨v,A,z⟩,y,⟨⟨⟨m,u,o⟩,t⟩,a⟩,⟨⟨f,e,j⟩,d⟩,⟨l,k⟩,C⟩:aN) ⟨⟨f,e,j⟩,d⟩)=true):=by simp[hz]
  have O:=hz
  unfold fY at O
  have L : ∀b1 b2 b3:bA,cF H ((⟨dep+1,5,H.gen (dep+1) 5,0⟩,some b3) :: (⟨dep+1,3,H.gen (dep+1) 3,0⟩,some b2) :: (⟨dep+1,2,H.gen (dep+1) 2,0⟩,some b1) :: H):=λb1 b2 b3=>⟨by simp(maxDischargeDepth:=12) [ai.get_put,an,aj,Fr.nil,au,af,ah,ad,ae,ao,ak,aa, *],λq c hq=>by
   have lq:(H.get q).isSome=true:=by rw[hq];rfl
   simp[af hF lq,hq]⟩
  by_cases P:Hy (⟨w,⟨v,A,z⟩,y,⟨⟨⟨m,u,o⟩,t⟩,a⟩,⟨⟨f,e,j⟩,d⟩,⟨l,k⟩,C⟩:aN)=0
  rotate_left
  ·rw[if_neg P]at Y
   have K:fF ents (⟨w,⟨v,A,z⟩,y,⟨⟨⟨m,u,o⟩,t⟩,a⟩,⟨⟨f,e,j⟩,d⟩,⟨l,k⟩,C⟩:aN)=2:=by unfold fF;rw[if_neg D,if_pos (.inl P)]
   simp[af,ah,ad,ae,aa, *,dV,Q.r,gk,ca,O,Q.r,Y,P]
   all_goals exact L _ _ _
  ·rw[if_pos P]at Y
   simp[af,ah,ad,ae,aa, *,dV,Q.r,gk,ca,O,Q.r,Y,P,hN]
   refine nj (by kernel_rfl) ((λb=>S _ (L ⟨1,[.ptr rh 0 0],false,false⟩ ⟨17,[.agg [a8 w,a8 v,aw A,a8 z,aI y,a8 m,aw u,a8 o,aI t,aI a,a8 f,aw e,a8 j,aI d,a8 l,aw k,x]],false,false⟩ b) (by simp)) _) λH2 M=>?_
   have B:=((λb=>L ⟨1,[.ptr rh 0 0],false,false⟩ ⟨17,[.agg [a8 w,a8 v,aw A,a8 z,aI y,a8 m,aw u,a8 o,aI t,aI a,a8 f,aw e,a8 j,aI d,a8 l,aw k,x]],false,false⟩ b) _).trans M
   obtain⟨xo,vo,rm,h1,h2,h3⟩:=(hh.grow B).box
   have R:=P3 (r:=⟨dep+1,37,H2.gen (dep+1) 37,0⟩) h3
   have T:=M.old _ _ ((λ(b:bA)=>(by simp:ai.get ((⟨dep+1,5,H.gen (dep+1) 5,0⟩,some b) :: (⟨dep+1,3,H.gen (dep+1) 3,0⟩,some ⟨17,[.agg [a8 w,a8 v,aw A,a8 z,aI y,a8 m,aw u,a8 o,aI t,aI a,a8 f,aw e,a8 j,aI d,a8 l,aw k,x]],false,false⟩) :: (⟨dep+1,2,H.gen (dep+1) 2,0⟩,some ⟨1,[.ptr rh 0 0],false,false⟩) :: H) ⟨dep+1,2,H.gen (dep+1) 2,0⟩=some ⟨1,[.ptr rh 0 0],false,false⟩)) _)
   have U:=M.old _ _ ((λ(b:bA)=>(by simp:ai.get ((⟨dep+1,5,H.gen (dep+1) 5,0⟩,some b) :: (⟨dep+1,3,H.gen (dep+1) 3,0⟩,some ⟨17,[.agg [a8 w,a8 v,aw A,a8 z,aI y,a8 m,aw u,a8 o,aI t,aI a,a8 f,aw e,a8 j,aI d,a8 l,aw k,x]],false,false⟩) :: (⟨dep+1,2,H.gen (dep+1) 2,0⟩,some ⟨1,[.ptr rh 0 0],false,false⟩) :: H) ⟨dep+1,3,H.gen (dep+1) 3,0⟩=some ⟨17,[.agg [a8 w,a8 v,aw A,a8 z,aI y,a8 m,aw u,a8 o,aI t,aI a,a8 f,aw e,a8 j,aI d,a8 l,aw k,x]],false,false⟩)) _)
   cases E:(cb ⟨⟨⟨m,u,o⟩,t⟩,a⟩).any (fA ents) with
   | true=>
    have K:fF ents (⟨w,⟨v,A,z⟩,y,⟨⟨⟨m,u,o⟩,t⟩,a⟩,⟨⟨f,e,j⟩,d⟩,⟨l,k⟩,C⟩:aN)=2:=by unfold fF;rw[if_neg D,if_pos (.inr E)]
    simp[B,K]
   | false=>
    have I : ¬(Hy (⟨w,⟨v,A,z⟩,y,⟨⟨⟨m,u,o⟩,t⟩,a⟩,⟨⟨f,e,j⟩,d⟩,⟨l,k⟩,C⟩:aN)≠0\/(cb ⟨⟨⟨m,u,o⟩,t⟩,a⟩).any (fA ents)=true):=by rw[E];simp[P]
    by_cases V:8192<(ents.length:Int)+a
    ·have K:fF ents (⟨w,⟨v,A,z⟩,y,⟨⟨⟨m,u,o⟩,t⟩,a⟩,⟨⟨f,e,j⟩,d⟩,⟨l,k⟩,C⟩:aN)=4:=by unfold fF;rw[if_neg D,if_neg I,if_pos V]
     simp[B,K,T,U,h1,R,w1,V,Q.r]
    ·have K:fF ents (⟨w,⟨v,A,z⟩,y,⟨⟨⟨m,u,o⟩,t⟩,a⟩,⟨⟨f,e,j⟩,d⟩,⟨l,k⟩,C⟩:aN)=0:=by unfold fF;rw[if_neg D,if_neg I,if_neg V]
     simp[B,K,T,U,h1,R,w1,V,Q.r]
 | false=>
  have O:=hz
  unfold fY at O
  have hS:=PA (dep+1) (X ⟨1,[.ptr rh 0 0],false,false⟩ ⟨17,[.agg [a8 w,a8 v,aw A,a8 z,aI y,a8 m,aw u,a8 o,aI t,aI a,a8 f,aw e,a8 j,aI d,a8 l,aw k,x]],false,false⟩).fr (hh.grow (X _ _)) hb w v A z y m u o t a f e j d l k f e j d Q
  simp[af,ah,ad,ae,aa, *,dV,Q.r,gk,ca,O]
  refine nj (by kernel_rfl) hS λH1 hG1=>?_
  have hGa:=(X _ _).trans hG1
  have J:=hGa.fr
  have G:=hG1.old ⟨dep+1,2,H.gen (dep+1) 2,0⟩ _ (by simp;rfl)
  have N:=hG1.old ⟨dep+1,3,H.gen (dep+1) 3,0⟩ _ (by simp;rfl)
  have W:(H1.get ⟨dep+1,2,H.gen (dep+1) 2,0⟩).isSome=true:=by rw[G];rfl
  have l3a:(H1.get ⟨dep+1,3,H.gen (dep+1) 3,0⟩).isSome=true:=by rw[N];rfl
  have L : ∀b3:bA,cF H ((⟨dep+1,5,H1.gen (dep+1) 5,0⟩,some b3) :: H1):=λb3=>hGa.trans (cF.cons J _ _ _)
  clear X
  cases hsb:uS ents (⟨w,⟨v,A,z⟩,y,⟨⟨⟨m,u,o⟩,t⟩,a⟩,⟨⟨f,e,j⟩,d⟩,⟨l,k⟩,C⟩:aN) ⟨⟨f,e,j⟩,d⟩ with
  | false=>
   have K:fF ents (⟨w,⟨v,A,z⟩,y,⟨⟨⟨m,u,o⟩,t⟩,a⟩,⟨⟨f,e,j⟩,d⟩,⟨l,k⟩,C⟩:aN)=6:=by unfold fF;rw[if_pos (by simp[hz,hsb])]
   simp[K,hGa]
  | true=>
   have D : ¬((!fY (⟨⟨f,e,j⟩,d⟩:bR) && !uS ents (⟨w,⟨v,A,z⟩,y,⟨⟨⟨m,u,o⟩,t⟩,a⟩,⟨⟨f,e,j⟩,d⟩,⟨l,k⟩,C⟩:aN) ⟨⟨f,e,j⟩,d⟩)=true):=by simp[hsb]
   by_cases P:Hy (⟨w,⟨v,A,z⟩,y,⟨⟨⟨m,u,o⟩,t⟩,a⟩,⟨⟨f,e,j⟩,d⟩,⟨l,k⟩,C⟩:aN)=0
   rotate_left
   ·rw[if_neg P]at Y
    have K:fF ents (⟨w,⟨v,A,z⟩,y,⟨⟨⟨m,u,o⟩,t⟩,a⟩,⟨⟨f,e,j⟩,d⟩,⟨l,k⟩,C⟩:aN)=2:=by unfold fF;rw[if_neg D,if_pos (.inl P)]
    simp[G,N,Q.r,Y,P,K,af J W,af J l3a,L]
   ·rw[if_pos P]at Y
    simp[G,N,Q.r,Y,P,hN,af J W,af J l3a]
    have hc:=λb=>S _ (L b) (by rw[ai.tu,if_neg (ud J W _ _ _)];exact G)
    refine nj (by kernel_rfl) (hc _) λH2 M=>?_
    have B:=(L _).trans M
    obtain⟨xo,vo,rm,h1,h2,h3⟩:=(hh.grow B).box
    have R:=P3 (r:=⟨dep+1,37,H2.gen (dep+1) 37,0⟩) h3
    have T:=M.old ⟨dep+1,2,H.gen (dep+1) 2,0⟩ _ (by rw[ai.tu,if_neg (ud J W _ _ _)];exact G)
    have U:=M.old ⟨dep+1,3,H.gen (dep+1) 3,0⟩ _ (by rw[ai.tu,if_neg (ud J l3a _ _ _)];exact N)
    cases E:(cb ⟨⟨⟨m,u,o⟩,t⟩,a⟩).any (fA ents) with
    | true=>
     have K:fF ents (⟨w,⟨v,A,z⟩,y,⟨⟨⟨m,u,o⟩,t⟩,a⟩,⟨⟨f,e,j⟩,d⟩,⟨l,k⟩,C⟩:aN)=2:=by unfold fF;rw[if_neg D,if_pos (.inr E)]
     simp[B,K]
    | false=>
     have I : ¬(Hy (⟨w,⟨v,A,z⟩,y,⟨⟨⟨m,u,o⟩,t⟩,a⟩,⟨⟨f,e,j⟩,d⟩,⟨l,k⟩,C⟩:aN)≠0\/(cb ⟨⟨⟨m,u,o⟩,t⟩,a⟩).any (fA ents)=true):=by rw[E];simp[P]
     by_cases V:8192<(ents.length:Int)+a
     ·have K:fF ents (⟨w,⟨v,A,z⟩,y,⟨⟨⟨m,u,o⟩,t⟩,a⟩,⟨⟨f,e,j⟩,d⟩,⟨l,k⟩,C⟩:aN)=4:=by unfold fF;rw[if_neg D,if_neg I,if_pos V]
      simp[B,K,T,U,h1,R,w1,V,Q.r]
     ·have K:fF ents (⟨w,⟨v,A,z⟩,y,⟨⟨⟨m,u,o⟩,t⟩,a⟩,⟨⟨f,e,j⟩,d⟩,⟨l,k⟩,C⟩:aN)=0:=by unfold fF;rw[if_neg D,if_neg I,if_neg V]
      simp[B,K,T,U,h1,R,w1,V,Q.r]
omit hF hh hb he in
theorem DG:lx env.P 206 (some [(1,AV.fn (Fn.func 133) [] []),(2,AV.fn (Fn.func 134) [] []),(3,AV.fn (Fn.func 135) [] [])]) =
 some (.agg [.v .nilFunc,.fn (.func 133) [] [],.fn (.func 134) [] [],.fn (.func 135) [] []],[]):=by kernel_rfl
omit hF hh hb he in
theorem SR:qU env.P 206 (some (.agg [.v .nilFunc,.fn (.func 133) [] [],.fn (.func 134) [] [],.fn (.func 135) [] []])) (some (a8 1))=some (.fn (.func 133) [] [],[]):=by kernel_rfl
omit hF hh hb he in
theorem SQ:qU env.P 206 (some (.agg [.v .nilFunc,.fn (.func 133) [] [],.fn (.func 134) [] [],.fn (.func 135) [] []])) (some (a8 2))=some (.fn (.func 134) [] [],[]):=by kernel_rfl
omit hF hh hb he in
theorem SP:qU env.P 206 (some (.agg [.v .nilFunc,.fn (.func 133) [] [],.fn (.func 134) [] [],.fn (.func 135) [] []])) (some (a8 3))=some (.fn (.func 135) [] [],[]):=by kernel_rfl
theorem Qd(O : ∀p∈ops,HT p)(T:ops.length<100000)(z:UInt8)(n:UInt8)(u:UInt32)(t:UInt8)(o:Int)(m:UInt8)(q:UInt32)(v:UInt8)(l:Int)(j:Int)(f:UInt8)(b:UInt32)(i:UInt8)(a:Int)(k:UInt8)(d:UInt32){x:AV}{C:List Int}(M:Sl 1 (rows C) x)(Q:C.length<1000000)(P:mK (⟨z,⟨n,u,t⟩,o,⟨⟨⟨m,q,v⟩,l⟩,j⟩,⟨⟨f,b,i⟩,a⟩,⟨k,d⟩,C⟩:aN)=true) :
 ∃H',cE env dep (.fn 116) [.ptr rh 0 0,.agg [a8 z,a8 n,aw u,a8 t,aI o,a8 m,aw q,a8 v,aI l,aI j,a8 f,aw b,a8 i,aI a,a8 k,aw d,x]] H=some (aI (u9 ops ents (⟨z,⟨n,u,t⟩,o,⟨⟨⟨m,q,v⟩,l⟩,j⟩,⟨⟨f,b,i⟩,a⟩,⟨k,d⟩,C⟩:aN)),H')/\cF H H':=by
 refine hY (fn:=Tryz.f116) (c:=qE) (by kernel_rfl) (by kernel_rfl) (by kernel_rfl) (by kernel_rfl) (by kernel_rfl) ?_
 refine qB _ _ _ _ _ λg=>?_
 have R:=k7 P
 simp only at R
 have y : ∀b1:bA,cF H ((⟨dep+1,3,H.gen (dep+1) 3,0⟩,some b1) :: H):=λb1=>cF.cons hF _ _ _
 have S:z=1\/z=2\/z=3:=by
  simp only[mK,aZ]at P
  have h:=P.2.2.2.2
  unfold BO at h
  split at h
  ·exact .inl (by assumption)
  ·split at h
   ·exact .inr (.inl (by assumption))
   ·split at h
    ·exact .inr (.inr (by assumption))
    ·cases h
 have L : ∀(E:ai)(e:Int),cF ((⟨dep+1,3,H.gen (dep+1) 3,0⟩,some ⟨17,[.agg [a8 z,a8 n,aw u,a8 t,aI o,a8 m,aw q,a8 v,aI l,aI j,a8 f,aw b,a8 i,aI a,a8 k,aw d,x]],false,false⟩) :: H) E ->∃(K:AV) (rm:Ref),E.get rh=some ⟨2,[.agg [K,.mp rm]],false,false⟩/\wh K=some ops.length/\cF H E:=by
  intro E e G
  obtain⟨K,U,rm,A,B,D⟩:=((hh.grow (y _)).grow G).box
  exact⟨K,rm,A,by rw[B.len];simp,(y _).trans G⟩
 rcases S with rfl | rfl | rfl
 ·have N:=RJ (dep+1) (y ⟨17,[.agg [a8 1,a8 n,aw u,a8 t,aI o,a8 m,aw q,a8 v,aI l,aI j,a8 f,aw b,a8 i,aI a,a8 k,aw d,x]],false,false⟩).fr (hh.grow (y _)) hb he _ _ _ _ _ _ _ _ _ _ _ _ _ _ _ _ M Q P
  have J:tQ ops ents ⟨1,⟨n,u,t⟩,o,⟨⟨⟨m,q,v⟩,l⟩,j⟩,⟨⟨f,b,i⟩,a⟩,⟨k,d⟩,C⟩=fF ents ⟨1,⟨n,u,t⟩,o,⟨⟨⟨m,q,v⟩,l⟩,j⟩,⟨⟨f,b,i⟩,a⟩,⟨k,d⟩,C⟩:=by unfold tQ;rfl
  unfold u9
  rw[J]
  clear J
  generalize fF ents ⟨1,⟨n,u,t⟩,o,⟨⟨⟨m,q,v⟩,l⟩,j⟩,⟨⟨f,b,i⟩,a⟩,⟨k,d⟩,C⟩=er at *
  simp[af,ah,ad,ae,aa, *,ew,M.r,DG,SR,SQ,SP]
  refine nj (by kernel_rfl) N λE G=>?_
  obtain⟨K,rm,A,B,D⟩:=L E 0 G
  by_cases I:er=0
  ·subst I
   by_cases F:2048<=ops.length
   ·have w:(2048:Int)<=ops.length:=by omega
    simp[A,B,D,F,w]
   ·have w : ¬(2048:Int)<=ops.length:=by omega
    simp[A,B,D,F,w]
  ·simp[A,B,D,I]
 ·have N:=Rf (dep+1) (y ⟨17,[.agg [a8 2,a8 n,aw u,a8 t,aI o,a8 m,aw q,a8 v,aI l,aI j,a8 f,aw b,a8 i,aI a,a8 k,aw d,x]],false,false⟩).fr (hh.grow (y _)) hb 2 n u t o m q v l j f b i a k d M R
  have J:tQ ops ents ⟨2,⟨n,u,t⟩,o,⟨⟨⟨m,q,v⟩,l⟩,j⟩,⟨⟨f,b,i⟩,a⟩,⟨k,d⟩,C⟩=yR ents ⟨2,⟨n,u,t⟩,o,⟨⟨⟨m,q,v⟩,l⟩,j⟩,⟨⟨f,b,i⟩,a⟩,⟨k,d⟩,C⟩:=by unfold tQ;rfl
  unfold u9
  rw[J]
  clear J
  generalize yR ents ⟨2,⟨n,u,t⟩,o,⟨⟨⟨m,q,v⟩,l⟩,j⟩,⟨⟨f,b,i⟩,a⟩,⟨k,d⟩,C⟩=er at *
  simp[af,ah,ad,ae,aa, *,ew,M.r,DG,SR,SQ,SP]
  refine nj (by kernel_rfl) N λE G=>?_
  obtain⟨K,rm,A,B,D⟩:=L E 0 G
  by_cases I:er=0
  ·subst I
   by_cases F:2048<=ops.length
   ·have w:(2048:Int)<=ops.length:=by omega
    simp[A,B,D,F,w]
   ·have w : ¬(2048:Int)<=ops.length:=by omega
    simp[A,B,D,F,w]
  ·simp[A,B,D,I]
 ·have N:=raise_at (dep+1) (y ⟨17,[.agg [a8 3,a8 n,aw u,a8 t,aI o,a8 m,aw q,a8 v,aI l,aI j,a8 f,aw b,a8 i,aI a,a8 k,aw d,x]],false,false⟩).fr (hh.grow (y _)) hb O T _ _ _ _ _ _ _ _ _ _ _ _ _ _ _ _ M (by omega) P
  have J:tQ ops ents ⟨3,⟨n,u,t⟩,o,⟨⟨⟨m,q,v⟩,l⟩,j⟩,⟨⟨f,b,i⟩,a⟩,⟨k,d⟩,C⟩=yS ops ents ⟨3,⟨n,u,t⟩,o,⟨⟨⟨m,q,v⟩,l⟩,j⟩,⟨⟨f,b,i⟩,a⟩,⟨k,d⟩,C⟩:=by unfold tQ;rfl
  unfold u9
  rw[J]
  clear J
  generalize yS ops ents ⟨3,⟨n,u,t⟩,o,⟨⟨⟨m,q,v⟩,l⟩,j⟩,⟨⟨f,b,i⟩,a⟩,⟨k,d⟩,C⟩=er at *
  simp[af,ah,ad,ae,aa, *,ew,M.r,DG,SR,SQ,SP]
  refine nj (by kernel_rfl) N λE G=>?_
  obtain⟨K,rm,A,B,D⟩:=L E 0 G
  by_cases I:er=0
  ·subst I
   by_cases F:2048<=ops.length
   ·have w:(2048:Int)<=ops.length:=by omega
    simp[A,B,D,F,w]
   ·have w : ¬(2048:Int)<=ops.length:=by omega
    simp[A,B,D,F,w]
  ·simp[A,B,D,I]
end
end Go.Proofs.YtdbiffjdomokfaaGreat
namespace Go.Proofs.YtdbiffjdomokfaaGreat
open Go.Ab
attribute [local simp] aU aK aG aW aV cz lT ba aO aQ cg cf bI bc ay bE gw
def tJ(ents:List (bR × AV))(l:List bR):List (bR × AV):=l.foldl (λe i=>jk i (aB true) e) ents
@[simp] theorem aaW(ents:List (bR × AV)):tJ ents []=ents:=id rfl
@[simp] theorem EJ(ents:List (bR × AV))(i:bR)(l:List bR):tJ ents (i :: l)=tJ (jk i (aB true) ents) l:=id rfl
theorem Ll{K:Type}[DecidableEq K](k:K)(x:AV) : ∀l:List (K × AV),(jk k x l).length<=l.length+1
 | []=>by simp[jk]
 | p :: l=>by
  unfold jk
  split
  ·simp
  ·have:=Ll k x l;simp;omega
theorem BX : ∀(l:List bR)(ents:List (bR × AV)),(tJ ents l).length<=ents.length+l.length
 | [],ents=>by simp
 | i :: l,ents=>by
  have:=BX l (jk i (aB true) ents)
  have a:=Ll i (aB true) ents
  simp
  omega
theorem AQ{i:bR} : ∀ {ents:List (bR × AV)},nH ents->nH (jk i (aB true) ents)
 | [],h=>by intro p hp;simp[jk]at hp;rw[hp]
 | q :: l,h=>by
  intro p hp
  unfold jk at hp
  split at hp
  ·rcases nw.1 hp with rfl | hp
   ·rfl
   ·exact h p (fW _ hp)
  ·rcases nw.1 hp with rfl | hp
   ·exact h _ gG
   ·exact AQ (λp hp=>h p (fW _ hp)) p hp
theorem EK : ∀(l:List bR){ents:List (bR × AV)},nH ents->nH (tJ ents l)
 | [],_,h=>h
 | i :: l,_,h=>EK l (AQ h)
def sk:List (aN × AV)->List (bR × AV)->List (aN × AV)->Option (List (aN × AV) × List (bR × AV))
 | ops,ents,[]=>some (ops,ents)
 | ops,ents,p :: l=>if mK p.1=true/\u9 ops ents p.1=0 then sk (ops++[p]) (if p.1.kind=1 then tJ ents (cb p.1.s) else ents) l else none
structure E2 (H0 H:ai) (rh rm:Ref) (ops:List (aN × AV)) (ents:List (bR × AV)):Prop where
 fr:Fr H
 box : ∃xo,H.get rh=some ⟨2,[.agg [xo,.mp rm]],false,false⟩/\((xo=bZ/\ops=[]) \/∃g,xo = .cC ⟨1,34,g,0⟩ 0 ops.length none/\H.get ⟨1,34,g,0⟩=some ⟨17,cD ops,true,false⟩)
 map:H.get rm=some (bn (cI zT ents))
 old : ∀q b,q.d=0->H0.get q=some b->H.get q=some b
 ok:nH ents
theorem E2.fc{H0 H:ai}{rh rm:Ref}{ops:List (aN × AV)}{ents:List (bR × AV)}(h:E2 H0 H rh rm ops ents):AL H rh ops ents:=by
 obtain⟨c,b,a⟩:=h.box
 rcases a with ⟨rfl,rfl⟩ | ⟨g,rfl,a⟩
 ·exact⟨bZ,bZ,rm,b,kr.of (.inl ⟨rfl,rfl⟩) _,h.map⟩
 ·exact⟨_,.cG 17 (cD ops) none,rm,b,.inr ⟨_,none,false,by rw[jy],a,rfl,bD _⟩,h.map⟩
theorem E2.grow{H0 H H':ai}{rh rm:Ref}{ops:List (aN × AV)}{ents:List (bR × AV)}(h:E2 H0 H rh rm ops ents)(g:cF H H'):E2 H0 H' rh rm ops ents:=by
 obtain⟨f,j,a⟩:=h.box
 refine⟨g.fr,⟨f,g.old _ _ j,?_⟩,g.old _ _ h.map,λq b k c=>g.old _ _ (h.old q b k c),h.ok⟩
 rcases a with a | ⟨i,e,a⟩
 ·exact .inl a
 ·exact .inr ⟨i,e,g.old _ _ a⟩
section
variable{l:List (aN × AV)}{x12:AV}(hx:Sl 17 (cD l) x12)(hall : ∀p∈l,HT p/\p.1.l.length<1000000)(hl:l.length<10000){rh rm:Ref}(th:rh.t=11)(tm:rm.t=9)(dh:rh.d=1)(dm:rm.d=1){H0:ai}{Q:AV->ai->Prop}
include hx hall hl th tm dh dm
theorem UP{ops:List (aN × AV)}{f:List bR}(hn:f.length<100000){j:Int}{c:List (bR × AV)}
 (E : ∀H,E2 H0 H rh rm ops c->bB env Tryz.f114 (0+1) ot [(4,.ptr rh 0 0),(14,aI (IntKind.i64.wrap (j+1))),(12,x12),(13,aI l.length)] H Q) :
 ∀(s:List bR)(k:Nat)(i:Int)(ents:List (bR × AV)) (H:ai),f.drop k=s->k<=f.length->i=k->E2 H0 H rh rm ops ents->tJ ents s=c ->
 bB env Tryz.f114 (0+1) ri [(44,aI i),(4,.ptr rh 0 0),(42,.cG 4 (nG f) none),(12,x12),(13,aI l.length),(14,aI j),(43,aI f.length)] H Q:=by
 have P:Sl 4 (nG f) (.cG 4 (nG f) none):=Sl.mk _ _
 intro s
 induction s with
 | nil=>
  rintro k i ents H hs hk rfl hI he
  obtain rfl:=drop_nil hs hk
  simp at he
  subst he
  have y:=E H hI
  refine Cm _ _ _ _ _ _ _ _ _ _ λg=>?_
  clear E hI hall
  simp[af,ah,ad,ae,aa, *,zk]
  all_goals exact y
 | cons a s N=>
  rintro k i ents H hs hk rfl hI he
  obtain⟨T,S,x,z⟩:=drop_cons hs
  have e3:=IntWalk.i64_in ((k:Int)+1) (by omega)
  obtain⟨⟨m,o,u⟩,v⟩:=a
  have U:bW (nG f) k 0 4 true=some (.agg [a8 m,aw o,a8 u,aI v]):=by simp[nG,z,zT]
  have O:(k:Int)<f.length:=by omega
  obtain⟨C,⟨L,X,n⟩,Y,I,Z⟩:=hI
  have l1:(H.get rh).isSome=true:=by rw[X];rfl
  have l3:(H.get rm).isSome=true:=by rw[Y];rfl
  have J:=λ(H':ai)(h:H'.get rm=some (bn (cI zT ents)))=>uD P5 Mt (t:=196) (et:=4) (by kernel_rfl) h ⟨⟨m,o,u⟩,v⟩ (aB true)
  have n1:rh≠rm:=by rintro rfl;omega
  have n2:=n1.symm
  have F:=λH' h=>N (k+1) ((k:Int)+1) (jk ⟨⟨m,o,u⟩,v⟩ (aB true) ents) H' x (by omega) (by simp) h (by simpa using he)
  have G : ∀(w:ai),Fr w->w.get rh=some ⟨2,[.agg [L,.mp rm]],false,false⟩->w.get rm=some (bn (cI zT (jk ⟨⟨m,o,u⟩,v⟩ (aB true) ents)))->(∀q,q≠rm->(H.get q).isSome=true->w.get q=H.get q)->E2 H0 w rh rm ops (jk ⟨⟨m,o,u⟩,v⟩ (aB true) ents):=by
   intro w R W V M
   refine⟨R,⟨L,W,?_⟩,V,λq b A K=>?_,AQ Z⟩
   ·rcases n with n | ⟨g,e,n⟩
    ·exact .inl n
    ·exact .inr ⟨g,e,by rw[M _ (λe=>by have h:=congrArg Ref.t e;rw[tm]at h;exact absurd h (by simp)) (by rw[n];rfl)];exact n⟩
   ·rw[M q (by rintro rfl;omega) (by rw[I q b A K];rfl)];exact I q b A K
  have B:(zT ⟨⟨m,o,u⟩,v⟩) = .agg [a8 m,aw o,a8 u,aI v]:=rfl
  rw[B]at J
  clear N E hall I n hs x S z he
  refine Cm _ _ _ _ _ _ _ _ _ _ λg=>?_
  simp[af,ah,ad,ae,aa, *,zk,P.r,P.idx]
  refine F _ (G _ ?_ ?_ ?_ λq A D=>?_)
  ·exact by simp(maxDischargeDepth:=12) [ai.get_put,an,aj,Fr.nil,au,af,ah,ad,ae,ao,ak,aa, *]
  ·exact by simp(maxDischargeDepth:=12) [ai.get_put,an,aj,Fr.nil,au,af,ah,ad,ae,ao,ak,aa, *]
  ·exact by simp(maxDischargeDepth:=12) [ai.get_put,an,aj,Fr.nil,au,af,ah,ad,ae,ao,ak,aa, *]
  ·simp[af C D,ai.get_put,A]
def KK(H0:ai)(rh rm:Ref)(n:Nat)(o:Option (List (aN × AV) × List (bR × AV)))(y:AV)(H:ai):Prop:=
 Fr H/\(∀q b,q.d=0->H0.get q=some b->H.get q=some b)/\match o with
  | none=>y = .tup [.v (.pointer none),aB false]
  | some (ops,ents)=>y = .tup [.ptr rh 0 0,aB true]/\E2 H0 H rh rm ops ents/\ops.length<=n/\ents.length<=64 * ops.length /\∀p∈ops,HT p
theorem U7 : ∀(s:List (aN × AV)) (k:Nat) (i:Int) (ops:List (aN × AV)) (ents:List (bR × AV)) (H:ai),l.drop k=s->k<=l.length->i=k->ops.length<=k->ents.length<=64 * ops.length->(∀p∈ops,HT p)->E2 H0 H rh rm ops ents ->
 (∀y H',KK H0 rh rm l.length (sk ops ents s) y H'->Q y H') ->
 bB env Tryz.f114 (0+1) ot [(4,.ptr rh 0 0),(14,aI i),(12,x12),(13,aI l.length)] H Q:=by
 intro s
 induction s with
 | nil=>
  rintro k i ops ents H hs hk rfl ho he hok hI hQ
  obtain rfl:=drop_nil hs hk
  have N:=hQ _ H ⟨hI.fr,hI.old,rfl,hI,ho,he,hok⟩
  refine Ep _ _ _ _ _ _ _ λg=>?_
  clear hQ hI hall
  simp[af,ah,ad,ae,aa, *,wE]
  all_goals exact N
 | cons p s ih=>
  rintro k i ops ents H hs hk rfl ho he hok hI hQ
  obtain⟨hlt,hg,hs',hg'⟩:=drop_cons hs
  have e3:=IntWalk.i64_in ((k:Int)+1) (by omega)
  have hp:=hall p (hg ▸ lM hlt)
  obtain⟨⟨C,⟨D,I,G⟩,F,⟨⟨⟨w,B,z⟩,A⟩,a⟩,⟨⟨n,f,o⟩,c⟩,⟨u,j⟩,V⟩,x⟩:=p
  obtain⟨⟨K,W⟩,hal⟩:=hp
  simp only at K hal W
  have hrd:bW (cD l) k 0 17 true=some (.agg [a8 C,a8 D,aw I,a8 G,aI F,a8 w,aw B,a8 z,aI A,aI a,a8 n,aw f,a8 o,aI c,a8 u,aw j,x]):=by simp[cD,hg',y6]
  have hlt':(k:Int)<l.length:=by omega
  have hC:=oD C D I G F w B z A a n f o c u j K W
  have hH:=hI.fc
  have hFr:=hI.fr
  have Y : ∀b1:bA,cF H ((⟨1,6,H.gen 1 6,0⟩,some b1) :: H):=λb1=>cF.cons hFr _ _ _
  have hcell : ∀ {b:aN × AV},(cD l).length=l.length:=jy l
  refine Ep _ _ _ _ _ _ _ λg=>?_
  have hno : ¬(mK (⟨C,⟨D,I,G⟩,F,⟨⟨⟨w,B,z⟩,A⟩,a⟩,⟨⟨n,f,o⟩,c⟩,⟨u,j⟩,V⟩:aN)=true/\u9 ops ents (⟨C,⟨D,I,G⟩,F,⟨⟨⟨w,B,z⟩,A⟩,a⟩,⟨⟨n,f,o⟩,c⟩,⟨u,j⟩,V⟩:aN)=0)->Q (.tup [.v (.pointer none),aB false]) H->True:=λ_ _=>trivial
  clear hno hcell
  cases hb:mK (⟨C,⟨D,I,G⟩,F,⟨⟨⟨w,B,z⟩,A⟩,a⟩,⟨⟨n,f,o⟩,c⟩,⟨u,j⟩,V⟩:aN) with
  | false=>
   have hd:sk ops ents (((⟨C,⟨D,I,G⟩,F,⟨⟨⟨w,B,z⟩,A⟩,a⟩,⟨⟨n,f,o⟩,c⟩,⟨u,j⟩,V⟩:aN),x) :: s)=none:=by simp[sk,hb]
   rw[hd]at hQ
   have N:=λb1=>hQ (.tup [.v (.pointer none),aB false]) _ ⟨(Y b1).fr,λq b R hb=>(Y b1).old _ _ (hI.old q b R hb),rfl⟩
   clear hQ ih hI hall hH
   simp[af,ah,ad,ae,aa, *,wE,hx.r,hx.idx,K.r]
   all_goals exact N _
  | true=>
   have T:=Qd 1 (Y ⟨17,[.agg [a8 C,a8 D,aw I,a8 G,aI F,a8 w,aw B,a8 z,aI A,aI a,a8 n,aw f,a8 o,aI c,a8 u,aw j,x]],false,false⟩).fr (hH.grow (Y _)) hI.ok (by omega) hok (by omega) C D I G F w B z A a n f o c u j K hal hb
   have hsp:=k7 hb
   simp only at hsp
   have hN:=JY w B z A a hsp
   simp[af,ah,ad,ae,aa, *,wE,hx.r,hx.idx,K.r]
   refine nj (by kernel_rfl) T λH4 hG4=>?_
   have hI4:=(hI.grow (Y _)).grow hG4
   by_cases hd0:u9 ops ents (⟨C,⟨D,I,G⟩,F,⟨⟨⟨w,B,z⟩,A⟩,a⟩,⟨⟨n,f,o⟩,c⟩,⟨u,j⟩,V⟩:aN)=0
   ·have hd:sk ops ents (((⟨C,⟨D,I,G⟩,F,⟨⟨⟨w,B,z⟩,A⟩,a⟩,⟨⟨n,f,o⟩,c⟩,⟨u,j⟩,V⟩:aN),x) :: s)=sk (ops++[((⟨C,⟨D,I,G⟩,F,⟨⟨⟨w,B,z⟩,A⟩,a⟩,⟨⟨n,f,o⟩,c⟩,⟨u,j⟩,V⟩:aN),x)]) (if C=1 then tJ ents (cb ⟨⟨⟨w,B,z⟩,A⟩,a⟩) else ents) s:=by
     show(if _ then _ else _)=_
     rw[if_pos ⟨hb,hd0⟩]
    rw[hd]at hQ
    have hnl:=DS hsp
    have hnl2:(cb ⟨⟨⟨w,B,z⟩,A⟩,a⟩).length<=64:=by
     have hn:=gp hsp
     simp only at hn
     simp[cb]
     omega
    have hal2:=BX (cb ⟨⟨⟨w,B,z⟩,A⟩,a⟩) ents
    have S : ∀p∈ops++[((⟨C,⟨D,I,G⟩,F,⟨⟨⟨w,B,z⟩,A⟩,a⟩,⟨⟨n,f,o⟩,c⟩,⟨u,j⟩,V⟩:aN),x)],HT p:=by
     intro p hp
     rcases nM.1 hp with hp | hp
     ·exact hok p hp
     ·rw[uC]at hp;subst hp;exact⟨K,W⟩
    obtain⟨hF4,⟨xo,h1,h2⟩,h3,h4,h5⟩:=hI4
    have hb6:=hG4.old ⟨1,6,H.gen 1 6,0⟩ _ (by simp;rfl)
    have lh:(H4.get rh).isSome=true:=by rw[h1];rfl
    have lm:(H4.get rm).isSome=true:=by rw[h3];rfl
    have n34 : ∀g,(⟨1,34,g,0⟩:Ref)≠rh:=λg e=>by have h:=congrArg Ref.t e;rw[th]at h;exact absurd h (by simp)
    have n34' : ∀g,rh≠(⟨1,34,g,0⟩:Ref):=λg e=>n34 g e.symm
    have m34 : ∀g,(⟨1,34,g,0⟩:Ref)≠rm:=λg e=>by have h:=congrArg Ref.t e;rw[tm]at h;exact absurd h (by simp)
    have m34' : ∀g,rm≠(⟨1,34,g,0⟩:Ref):=λg e=>m34 g e.symm
    have nhm:rh≠rm:=by rintro rfl;omega
    have nmh:=nhm.symm
    have n6:rh≠⟨1,6,H.gen 1 6,0⟩:=λe=>by have h:=congrArg Ref.t e;rw[th]at h;exact absurd h (by simp)
    have n6':=n6.symm
    have Z : ∀(g m:Nat)(H1:ai),m=ops.length+1->Fr H1->H1.get rh=some ⟨2,[.agg [.cC ⟨1,34,g,0⟩ 0 m none,.mp rm]],false,false⟩->H1.get ⟨1,34,g,0⟩=some ⟨17,cD ops++[.agg [a8 C,a8 D,aw I,a8 G,aI F,a8 w,aw B,a8 z,aI A,aI a,a8 n,aw f,a8 o,aI c,a8 u,aw j,x]],true,false⟩->H1.get rm=some (bn (cI zT ents)) ->
     (∀q,q.d=0->(H4.get q).isSome=true->H1.get q=H4.get q)->E2 H0 H1 rh rm (ops++[((⟨C,⟨D,I,G⟩,F,⟨⟨⟨w,B,z⟩,A⟩,a⟩,⟨⟨n,f,o⟩,c⟩,⟨u,j⟩,V⟩:aN),x)]) ents:=by
     intro g m H1 hm f1 f2 f3 f4 f5
     subst hm
     refine⟨f1,⟨_,f2,.inr ⟨g,by simp,by rw[f3];simp[cD,y6]⟩⟩,f4,λq b R hb=>?_,h5⟩
     rw[f5 q R (by rw[h4 q b R hb];rfl)]
     exact h4 q b R hb
    have E : ∀(P:ai),E2 H0 P rh rm (ops++[((⟨C,⟨D,I,G⟩,F,⟨⟨⟨w,B,z⟩,A⟩,a⟩,⟨⟨n,f,o⟩,c⟩,⟨u,j⟩,V⟩:aN),x)]) ents->(if C=1 then bB env Tryz.f114 (0+1) ri [(44,aI 0),(4,.ptr rh 0 0),(42,.cG 4 (nG (cb ⟨⟨⟨w,B,z⟩,A⟩,a⟩)) none),(12,x12),(13,aI l.length),(14,aI k),(43,aI (cb ⟨⟨⟨w,B,z⟩,A⟩,a⟩).length)] P Q
     else bB env Tryz.f114 (0+1) ot [(4,.ptr rh 0 0),(14,aI ((k:Int)+1)),(12,x12),(13,aI l.length)] P Q):=by
     intro P hI7
     split
     ·rename_i L
      rw[if_pos L]at hQ
      exact UP hx hall hl th tm dh dm hnl (λH' hI'=>by rw[e3];exact ih (k+1) _ _ _ H' hs' (by omega) (by simp) (by simp;omega) (by simp;omega) S hI' hQ) _ 0 0 ents P rfl (by omega) rfl hI7 rfl
     ·rename_i L
      rw[if_neg L]at hQ
      exact ih (k+1) _ _ _ P hs' (by omega) (by simp) (by simp;omega) (by simp;omega) S hI7 hQ
    clear hall hQ ih hI hH T hC hok S hal2 hs hs' hg hg' h4 h5 hG4 hrd hd
    rcases h2 with ⟨rfl,rfl⟩ | ⟨g,rfl,h2⟩
    ·have M:=Z (H4.gen 1 34) 1
     clear Z
     have heo:cD []=[]:=rfl
     by_cases L:C=1
     ·subst L
      have X:=λP h=>E P h
      simp only[if_true]at X
      clear E
      simp[af,ah,ad,ae,aa, *,K.r]
      refine X _ (M _ rfl ?_ ?_ ?_ ?_ λq R O=>?_)
      ·exact by simp(maxDischargeDepth:=12) [ai.get_put,an,aj,Fr.nil,au,af,ah,ad,ae,ao,ak,aa, *]
      ·exact by simp(maxDischargeDepth:=12) [ai.get_put,an,aj,Fr.nil,au,af,ah,ad,ae,ao,ak,aa, *]
      ·exact by simp(maxDischargeDepth:=12) [ai.get_put,an,aj,Fr.nil,au,af,ah,ad,ae,ao,ak,aa, *]
      ·exact by simp(maxDischargeDepth:=12) [ai.get_put,an,aj,Fr.nil,au,af,ah,ad,ae,ao,ak,aa, *]
      ·have U:q≠rh:=by rintro rfl;omega
       have J : ∀g,q≠(⟨1,34,g,0⟩:Ref):=λg e=>by have h:=congrArg Ref.d e;rw[R]at h;exact absurd h (by simp)
       simp[af hF4 O,ai.get_put,U,J,U.symm,λg=>(J g).symm]
     ·have X:=λP h=>E P h
      simp only[L,if_false]at X
      clear E
      simp[af,ah,ad,ae,aa, *,K.r]
      refine X _ (M _ rfl ?_ ?_ ?_ ?_ λq R O=>?_)
      ·exact by simp(maxDischargeDepth:=12) [ai.get_put,an,aj,Fr.nil,au,af,ah,ad,ae,ao,ak,aa, *]
      ·exact by simp(maxDischargeDepth:=12) [ai.get_put,an,aj,Fr.nil,au,af,ah,ad,ae,ao,ak,aa, *]
      ·exact by simp(maxDischargeDepth:=12) [ai.get_put,an,aj,Fr.nil,au,af,ah,ad,ae,ao,ak,aa, *]
      ·exact by simp(maxDischargeDepth:=12) [ai.get_put,an,aj,Fr.nil,au,af,ah,ad,ae,ao,ak,aa, *]
      ·have U:q≠rh:=by rintro rfl;omega
       have J : ∀g,q≠(⟨1,34,g,0⟩:Ref):=λg e=>by have h:=congrArg Ref.d e;rw[R]at h;exact absurd h (by simp)
       simp[af hF4 O,ai.get_put,U,J,U.symm,λg=>(J g).symm]
    ·have M:=Z (H4.gen 1 34) (ops.length+1)
     clear Z
     have l34:(H4.get ⟨1,34,g,0⟩).isSome=true:=by rw[h2];rfl
     have f4:jW 17 112 ops.length true none (some ⟨17,cD ops,true,false⟩) (some [.agg [a8 C,a8 D,aw I,a8 G,aI F,a8 w,aw B,a8 z,aI A,aI a,a8 n,aw f,a8 o,aI c,a8 u,aw j,x]]):=by
      simp;omega
     by_cases L:C=1
     ·subst L
      have X:=λP h=>E P h
      simp only[if_true]at X
      clear E
      simp[af,ah,ad,ae,aa, *,K.r]
      refine X _ (M _ rfl ?_ ?_ ?_ ?_ λq R O=>?_)
      ·exact by simp(maxDischargeDepth:=12) [ai.get_put,an,aj,Fr.nil,au,af,ah,ad,ae,ao,ak,aa, *]
      ·exact by simp(maxDischargeDepth:=12) [ai.get_put,an,aj,Fr.nil,au,af,ah,ad,ae,ao,ak,aa, *]
      ·exact by simp(maxDischargeDepth:=12) [ai.get_put,an,aj,Fr.nil,au,af,ah,ad,ae,ao,ak,aa, *]
      ·exact by simp(maxDischargeDepth:=12) [ai.get_put,an,aj,Fr.nil,au,af,ah,ad,ae,ao,ak,aa, *]
      ·have U:q≠rh:=by rintro rfl;omega
       have J : ∀g,q≠(⟨1,34,g,0⟩:Ref):=λg e=>by have h:=congrArg Ref.d e;rw[R]at h;exact absurd h (by simp)
       simp[af hF4 O,ai.get_put,U,J,U.symm,λg=>(J g).symm]
     ·have X:=λP h=>E P h
      simp only[L,if_false]at X
      clear E
      simp[af,ah,ad,ae,aa, *,K.r]
      refine X _ (M _ rfl ?_ ?_ ?_ ?_ λq R O=>?_)
      ·exact by simp(maxDischargeDepth:=12) [ai.get_put,an,aj,Fr.nil,au,af,ah,ad,ae,ao,ak,aa, *]
      ·exact by simp(maxDischargeDepth:=12) [ai.get_put,an,aj,Fr.nil,au,af,ah,ad,ae,ao,ak,aa, *]
      ·exact by simp(maxDischargeDepth:=12) [ai.get_put,an,aj,Fr.nil,au,af,ah,ad,ae,ao,ak,aa, *]
      ·exact by simp(maxDischargeDepth:=12) [ai.get_put,an,aj,Fr.nil,au,af,ah,ad,ae,ao,ak,aa, *]
      ·have U:q≠rh:=by rintro rfl;omega
       have J : ∀g,q≠(⟨1,34,g,0⟩:Ref):=λg e=>by have h:=congrArg Ref.d e;rw[R]at h;exact absurd h (by simp)
       simp[af hF4 O,ai.get_put,U,J,U.symm,λg=>(J g).symm]
   ·have hd:sk ops ents (((⟨C,⟨D,I,G⟩,F,⟨⟨⟨w,B,z⟩,A⟩,a⟩,⟨⟨n,f,o⟩,c⟩,⟨u,j⟩,V⟩:aN),x) :: s)=none:=by
     show(if _ then _ else _)=_
     rw[if_neg (λh=>hd0 h.2)]
    rw[hd]at hQ
    have N:=hQ (.tup [.v (.pointer none),aB false]) H4 ⟨hI4.fr,hI4.old,rfl⟩
    simp[hd0]
    all_goals exact N
end
end Go.Proofs.YtdbiffjdomokfaaGreat
namespace Go.Proofs.YtdbiffjdomokfaaGreat
open Go.Ab
attribute [local simp] aU aK aG aW aV cz lT ba aO aQ cg cf bI bc ay bE gw
@[simp] theorem aef(r:Ref):(AV.mp r).cells=[.mp r]:=id rfl
@[simp] theorem ahM(r:Ref):(AV.mp r).one=true:=id rfl
section
variable{l:List (aN × AV)}{x0:AV}(hx:Sl 17 (cD l) x0)(hall : ∀p∈l,HT p/\p.1.l.length<1000000)(hl:l.length<10000)
include hx hall hl
theorem U6{H:ai}(i:Fr H) : ∃y H',cE env 0 (.fn 114) [x0] H=some (y,H') /\∃rh rm,KK H rh rm l.length (sk [] [] l) y H':=by
 refine pv (Q:=λy H' =>∃rh rm,KK H rh rm l.length (sk [] [] l) y H') (fn:=Tryz.f114) (c:=R6) (by kernel_rfl) (by kernel_rfl) (by kernel_rfl) (by kernel_rfl) (by kernel_rfl) ?_
 refine Qz _ _ _ _ λg=>?_
 have a:=λj e=>U7 hx hall hl (rh:=⟨1,11,H.gen 1 11,0⟩) (rm:=⟨1,9,H.gen 1 9,0⟩) rfl rfl rfl rfl (H0:=H) (Q:=λy H' =>∃rh rm,KK H rh rm l.length (sk [] [] l) y H') l 0 0 [] [] j rfl (by omega) rfl (by simp) (by simp) (by intro p hp;cases hp) e (λy H' h=>⟨_,_,h⟩)
 clear hall
 simp[af,ah,ad,ae,aa, *,Ji,hx.r]
 refine a _ ⟨?_,⟨bZ,?_,.inl ⟨rfl,rfl⟩⟩,?_,λq b k d=>?_,λp hp=>nomatch hp⟩
 ·exact by simp(maxDischargeDepth:=12) [ai.get_put,an,aj,Fr.nil,au,af,ah,ad,ae,ao,ak,aa, *]
 ·simp
 ·simp[cI]
 ·have f:(H.get q).isSome=true:=by rw[d];rfl
  simp[af i f,d]
def py(l:List (aN × AV))(o:aN):Int:=match sk [] [] l with
 | none=>8
 | some (ops,ents)=>if mK o then u9 ops ents o else 8
theorem Q6(k:UInt8)(j:UInt8)(u:UInt32)(t:UInt8)(o:Int)(i:UInt8)(q:UInt32)(m:UInt8)(n:Int)(f:Int)(d:UInt8)(b:UInt32)(e:UInt8)(a:Int)(h:UInt8)(c:UInt32){x:AV}{z:List Int}(v:Sl 1 (rows z) x)(A:z.length<1000000):aF env 94 [x0,.agg [a8 k,a8 j,aw u,a8 t,aI o,a8 i,aw q,a8 m,aI n,aI f,a8 d,aw b,a8 e,aI a,a8 h,aw c,x]]=some (aI (py l (⟨k,⟨j,u,t⟩,o,⟨⟨⟨i,q,m⟩,n⟩,f⟩,⟨⟨d,b,e⟩,a⟩,⟨h,c⟩,z⟩:aN))):=by
 refine aH rfl (by kernel_rfl) (K9 _ _ _ _ λg=>?_)
 have N:=oD k j u t o i q m n f d b e a h c v (by omega)
 obtain⟨y,I,F,rh,rm,C,hold,hm⟩:=U6 hx hall hl (H:=[(⟨0,3,0,0⟩,some ⟨17,[.agg [a8 k,a8 j,aw u,a8 t,aI o,a8 i,aw q,a8 m,aI n,aI f,a8 d,aw b,a8 e,aI a,a8 h,aw c,x]],false,false⟩)]) (by simp[an,aj,Fr.nil])
 have K:=hold ⟨0,3,0,0⟩ _ rfl rfl
 have B:bF env true (aF env) (cE env 0) [(⟨0,3,0,0⟩,some ⟨17,[.agg [a8 k,a8 j,aw u,a8 t,aI o,a8 i,aw q,a8 m,aI n,aI f,a8 d,aw b,a8 e,aI a,a8 h,aw c,x]],false,false⟩)] ⟨0,10,0,0⟩ (some (.fn (.func 114) [] [])) [x0]=some (y,I):=by
  rw[Ea (by kernel_rfl)]
  exact F
 unfold py
 cases E:sk [] [] l with
 | none=>
  rw[E]at hm
  dsimp only at hm
  subst hm
  clear hold hall
  simp[af,ah,ad,ae,aa, *,wF,hx.r,v.r,B]
 | some p=>
  obtain⟨ops,ents⟩:=p
  rw[E]at hm
  dsimp only at hm
  obtain⟨rfl,w,O,he,D⟩:=hm
  clear hold
  cases J:mK (⟨k,⟨j,u,t⟩,o,⟨⟨⟨i,q,m⟩,n⟩,f⟩,⟨⟨d,b,e⟩,a⟩,⟨h,c⟩,z⟩:aN) with
  | false=>
   clear hall w
   simp[af,ah,ad,ae,aa, *,wF,hx.r,v.r,B]
  | true=>
   have G:=Qd 0 C w.fc w.ok (by omega) D (by omega) k j u t o i q m n f d b e a h c v A J
   clear hall w
   simp[af,ah,ad,ae,aa, *,wF,hx.r,v.r,B]
   refine nj (by kernel_rfl) G λM L=>?_
   simp
end
end Go.Proofs.YtdbiffjdomokfaaGreat
