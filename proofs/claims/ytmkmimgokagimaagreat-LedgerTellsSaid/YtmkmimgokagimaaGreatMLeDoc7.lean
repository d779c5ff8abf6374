/-
  Operations: whether they may be. No statement of a seat is proved here.
-/
import Derived.Test.YtmkmimgokagimaaGreatMCatFns
import Derived.Test.YtmkmimgokagimaaGreatMLeJoin4
set_option linter.unusedVariables false
set_option linter.unusedSimpArgs false
set_option linter.unusedSectionVars false
set_option linter.unnecessarySimpa false
set_option maxRecDepth 1000000
namespace Go.Proofs.YtmkmimgokagimaaGreat
open Go.Ab
attribute [local simp] aW aJ aH aV aU cr ld bf aQ aT cz cw bI bg aC bH gh
def J5:AV := .agg [.v .nilFunc,.v .nilFunc,.fn (.func 186) [] [.iptr 1 [.fn (.func 184) [] []] 0 0],.fn (.func 188) [] [],
 .fn (.func 189) [] [.iptr 1 [.fn (.func 184) [] []] 0 0,.iptr 1 [.fn (.func 183) [] []] 0 0],.fn (.func 190) [] [],.fn (.func 191) [] [.iptr 1 [.fn (.func 183) [] []] 0 0],.fn (.func 192) [] []]
theorem Wm:aF env 136 []=some J5:=ED (n:=2000) (by kernel_rfl)
@[simp] theorem Wx:aF env 185 []=some (.agg [a8 0,au 0]):=by
 refine aG rfl (by kernel_rfl) (Ag _ _ λg=>?_)
 simp[af,ah,ad,ae,aa, *,vw]
section
variable(a_1:UInt8)(a_2:UInt8)(a_3:UInt32)(a_4:UInt8)(a_5:Int)(a_6:UInt8)(a_7:UInt32)(a_8:UInt8)(a_9:Int)(a_10:Int)(a_11:UInt8)(a_12:UInt32)(a_13:UInt8)(a_14:Int)(a_15:UInt8)(a_16:UInt32){x:AV}{l:List Int}(hx:Sl 1 (rows l) x)(hl:l.length<2000000)
include hx hl
theorem Te:aF env 183 [.agg [a8 a_1,a8 a_2,au a_3,a8 a_4,aI a_5,a8 a_6,au a_7,a8 a_8,aI a_9,aI a_10,a8 a_11,au a_12,a8 a_13,aI a_14,a8 a_15,au a_16,x]]=some (aB (yi (⟨a_1,⟨a_2,a_3,a_4⟩,a_5,⟨⟨⟨a_6,a_7,a_8⟩,a_9⟩,a_10⟩,⟨⟨a_11,a_12,a_13⟩,a_14⟩,⟨a_15,a_16⟩,l⟩:aK))):=by
 refine aG rfl (by kernel_rfl) (HK _ _ _ λg=>?_)
 unfold yi
 cases a:gf (⟨⟨a_11,a_12,a_13⟩,a_14⟩:bV) with
 | true=>
  unfold gf at a
  simp[af,ah,ad,ae,aa, *,w7,hx.r,fJ,bU]
 | false=>
  unfold gf at a
  simp[af,ah,ad,ae,aa, *,w7,hx.r,fJ,bU]
theorem PH:aF env 184 [.agg [a8 a_1,a8 a_2,au a_3,a8 a_4,aI a_5,a8 a_6,au a_7,a8 a_8,aI a_9,aI a_10,a8 a_11,au a_12,a8 a_13,aI a_14,a8 a_15,au a_16,x]]=some (aB (vQ (⟨a_15,a_16⟩:jy))):=by
 refine aG rfl (by kernel_rfl) (HJ _ _ _ λg=>?_)
 simp[af,ah,ad,ae,aa, *,BK,hx.r,fJ,bU,vQ]
theorem Td:aF env 189 [.agg [a8 a_1,a8 a_2,au a_3,a8 a_4,aI a_5,a8 a_6,au a_7,a8 a_8,aI a_9,aI a_10,a8 a_11,au a_12,a8 a_13,aI a_14,a8 a_15,au a_16,x],.iptr 1 [.fn (.func 184) [] []] 0 0,.iptr 1 [.fn (.func 183) [] []] 0 0]=some (aB (MU (⟨a_1,⟨a_2,a_3,a_4⟩,a_5,⟨⟨⟨a_6,a_7,a_8⟩,a_9⟩,a_10⟩,⟨⟨a_11,a_12,a_13⟩,a_14⟩,⟨a_15,a_16⟩,l⟩:aK))):=by
 refine aG rfl (by kernel_rfl) (HH _ _ _ _ _ λg=>?_)
 have b:=Te a_1 a_2 a_3 a_4 a_5 a_6 a_7 a_8 a_9 a_10 a_11 a_12 a_13 a_14 a_15 a_16 hx hl
 have c:=PH a_1 a_2 a_3 a_4 a_5 a_6 a_7 a_8 a_9 a_10 a_11 a_12 a_13 a_14 a_15 a_16 hx hl
 unfold MU
 cases a:vQ (⟨a_15,a_16⟩:jy)<;>simp[af,ah,ad,ae,aa, *,BJ,hx.r]
theorem Wl:aF env 191 [.agg [a8 a_1,a8 a_2,au a_3,a8 a_4,aI a_5,a8 a_6,au a_7,a8 a_8,aI a_9,aI a_10,a8 a_11,au a_12,a8 a_13,aI a_14,a8 a_15,au a_16,x],.iptr 1 [.fn (.func 183) [] []] 0 0]=some (aB (J1 (⟨a_1,⟨a_2,a_3,a_4⟩,a_5,⟨⟨⟨a_6,a_7,a_8⟩,a_9⟩,a_10⟩,⟨⟨a_11,a_12,a_13⟩,a_14⟩,⟨a_15,a_16⟩,l⟩:aK))):=by
 refine aG rfl (by kernel_rfl) (HG _ _ _ _ λg=>?_)
 have b:=Te a_1 a_2 a_3 a_4 a_5 a_6 a_7 a_8 a_9 a_10 a_11 a_12 a_13 a_14 a_15 a_16 hx hl
 unfold J1
 cases a:yi (⟨a_1,⟨a_2,a_3,a_4⟩,a_5,⟨⟨⟨a_6,a_7,a_8⟩,a_9⟩,a_10⟩,⟨⟨a_11,a_12,a_13⟩,a_14⟩,⟨a_15,a_16⟩,l⟩:aK)<;>simp[af,ah,ad,ae,aa, *,BI,hx.r]
theorem S9:aF env 186 [.agg [a8 a_1,a8 a_2,au a_3,a8 a_4,aI a_5,a8 a_6,au a_7,a8 a_8,aI a_9,aI a_10,a8 a_11,au a_12,a8 a_13,aI a_14,a8 a_15,au a_16,x],.iptr 1 [.fn (.func 184) [] []] 0 0]=some (aB (GX (⟨a_1,⟨a_2,a_3,a_4⟩,a_5,⟨⟨⟨a_6,a_7,a_8⟩,a_9⟩,a_10⟩,⟨⟨a_11,a_12,a_13⟩,a_14⟩,⟨a_15,a_16⟩,l⟩:aK))):=by
 refine aG rfl (by kernel_rfl) (HI _ _ _ _ λg=>?_)
 have h:=PH a_1 a_2 a_3 a_4 a_5 a_6 a_7 a_8 a_9 a_10 a_11 a_12 a_13 a_14 a_15 a_16 hx hl
 have f:=DM hx (by omega)
 have j:=A2 l
 unfold GX
 cases i:vQ (⟨a_15,a_16⟩:jy) with
 | false=>
  cases a:gf (⟨⟨a_11,a_12,a_13⟩,a_14⟩:bV) with
  | false=>
   unfold gf at a
   simp[af,ah,ad,ae,aa, *,jk,hx.r,fJ,bU]
  | true=>
   unfold gf at a
   simp[af,ah,ad,ae,aa, *,jk,hx.r,fJ,bU]
 | true=>
  have key : ∀b:Bool,(gf (⟨⟨a_11,a_12,a_13⟩,a_14⟩:bV)||D2 (⟨⟨a_11,a_12,a_13⟩,a_14⟩:bV))=b->True:=λ_ _=>trivial
  cases c:CA ⟨a_6,a_7,a_8⟩ ⟨a_2,a_3,a_4⟩ with
  | false=>
   unfold CA at c
   cases a:gf (⟨⟨a_11,a_12,a_13⟩,a_14⟩:bV) with
   | false=>
    unfold gf at a
    cases d:D2 (⟨⟨a_11,a_12,a_13⟩,a_14⟩:bV)<;>simp[af,ah,ad,ae,aa, *,jk,hx.r,fJ,bU]
   | true=>
    unfold gf at a
    simp[af,ah,ad,ae,aa, *,jk,hx.r,fJ,bU]
  | true=>
   unfold CA at c
   by_cases e:(l.length:Int)=a_10
   ·cases a:gf (⟨⟨a_11,a_12,a_13⟩,a_14⟩:bV) with
    | false=>
     unfold gf at a
     cases d:D2 (⟨⟨a_11,a_12,a_13⟩,a_14⟩:bV)<;>simp[af,ah,ad,ae,aa, *,jk,hx.r,fJ,bU]
    | true=>
     unfold gf at a
     simp[af,ah,ad,ae,aa, *,jk,hx.r,fJ,bU]
   ·cases a:gf (⟨⟨a_11,a_12,a_13⟩,a_14⟩:bV) with
    | false=>
     unfold gf at a
     cases d:D2 (⟨⟨a_11,a_12,a_13⟩,a_14⟩:bV)<;>simp[af,ah,ad,ae,aa, *,jk,hx.r,fJ,bU]
    | true=>
     unfold gf at a
     simp[af,ah,ad,ae,aa, *,jk,hx.r,fJ,bU]
theorem oH:aF env 70 [.agg [a8 a_1,a8 a_2,au a_3,a8 a_4,aI a_5,a8 a_6,au a_7,a8 a_8,aI a_9,aI a_10,a8 a_11,au a_12,a8 a_13,aI a_14,a8 a_15,au a_16,x]]=some (aI (bad (m0 (⟨a_1,⟨a_2,a_3,a_4⟩,a_5,⟨⟨⟨a_6,a_7,a_8⟩,a_9⟩,a_10⟩,⟨⟨a_11,a_12,a_13⟩,a_14⟩,⟨a_15,a_16⟩,l⟩:aK)))):=by
 refine aG rfl (by kernel_rfl) (K2 _ _ _ λg=>?_)
 have i:=S9 a_1 a_2 a_3 a_4 a_5 a_6 a_7 a_8 a_9 a_10 a_11 a_12 a_13 a_14 a_15 a_16 hx hl
 have k:=Td a_1 a_2 a_3 a_4 a_5 a_6 a_7 a_8 a_9 a_10 a_11 a_12 a_13 a_14 a_15 a_16 hx hl
 have j:=Wl a_1 a_2 a_3 a_4 a_5 a_6 a_7 a_8 a_9 a_10 a_11 a_12 a_13 a_14 a_15 a_16 hx hl
 have n:=Wm
 unfold m0 BV
 by_cases k0:a_1=0
 ·subst k0
  simp[af,ah,ad,ae,aa, *,kz,hx.r]
 by_cases a:4<=a_1
 ·have n1 : ¬a_1=1:=by rintro rfl;exact absurd a (by decide)
  have n2 : ¬a_1=2:=by rintro rfl;exact absurd a (by decide)
  have f : ¬a_1=3:=by rintro rfl;exact absurd a (by decide)
  simp[af,ah,ad,ae,aa, *,kz,hx.r]
 cases c1:gU ⟨a_2,a_3,a_4⟩ with
 | false=>simp[af,ah,ad,ae,aa, *,kz,hx.r]
 | true=>
 rcases Ds a_5 1 with b | c2
 ·have c2 : ¬1<=a_5:=by omega
  simp[af,ah,ad,ae,aa, *,kz,hx.r]
 have b : ¬a_5<1:=by omega
 rcases Ds a_5 16777216 with c3 | c
 rotate_left
 ·have c3 : ¬a_5<16777216:=by omega
  simp[af,ah,ad,ae,aa, *,kz,hx.r]
 have c : ¬16777216<=a_5:=by omega
 cases c4:eP ⟨⟨⟨a_6,a_7,a_8⟩,a_9⟩,a_10⟩ with
 | false=>simp[af,ah,ad,ae,aa, *,kz,hx.r]
 | true=>
 have d:a_1=1\/a_1=2\/a_1=3:=by
  have e:a_1.toNat<4:=by have:=UInt8.not_le.1 a;exact this
  have m:a_1.toNat≠0:=λh=>k0 (Cd.1 h)
  rcases(show a_1.toNat=1\/a_1.toNat=2\/a_1.toNat=3 by omega)with h | h | h
  ·exact .inl (Cd.1 h)
  ·exact .inr (.inl (Cd.1 h))
  ·exact .inr (.inr (Cd.1 h))
 rcases d with rfl | rfl | rfl
 ·cases c5:GX (⟨1,⟨a_2,a_3,a_4⟩,a_5,⟨⟨⟨a_6,a_7,a_8⟩,a_9⟩,a_10⟩,⟨⟨a_11,a_12,a_13⟩,a_14⟩,⟨a_15,a_16⟩,l⟩:aK)<;>simp[af,ah,ad,ae,aa, *,kz,hx.r,J5,DO,GK]
 ·cases c5:MU (⟨2,⟨a_2,a_3,a_4⟩,a_5,⟨⟨⟨a_6,a_7,a_8⟩,a_9⟩,a_10⟩,⟨⟨a_11,a_12,a_13⟩,a_14⟩,⟨a_15,a_16⟩,l⟩:aK)<;>simp[af,ah,ad,ae,aa, *,kz,hx.r,J5,DO,GK]
 ·cases c5:J1 (⟨3,⟨a_2,a_3,a_4⟩,a_5,⟨⟨⟨a_6,a_7,a_8⟩,a_9⟩,a_10⟩,⟨⟨a_11,a_12,a_13⟩,a_14⟩,⟨a_15,a_16⟩,l⟩:aK)<;>simp[af,ah,ad,ae,aa, *,kz,hx.r,J5,DO,GK]
end
end Go.Proofs.YtmkmimgokagimaaGreat
namespace Go.Proofs.YtmkmimgokagimaaGreat
open Go.Ab
attribute [local simp] aW aJ aH aV aU cr ld bf aQ aT cz cw bI bg aC bH gh
@[simp] theorem RT(l:List Int)(n:Nat):(rows l).all (flat (n+1))=true:=by
 simp[rows,gD,aR]
theorem Ob(e:UInt8)(m:UInt32)(f:UInt8)(k:Int)(j:Int)(c:UInt8)(a:UInt32)(d:UInt8)(b:Int){x:AV}{l:List Int}(i:Sl 1 (rows l) x)(p:l.length<1000000):aF env 240 [.agg [a8 e,au m,a8 f,aI k,aI j,a8 c,au a,a8 d,aI b,x]]=some (aI (bad (xM (⟨⟨⟨⟨e,m,f⟩,k⟩,j⟩,⟨⟨c,a,d⟩,b⟩,l⟩:Rn)))):=by
 refine aG rfl (by kernel_rfl) (JG _ _ _ λg=>?_)
 have o:=DM i (by omega)
 have q:=A2 l
 have n:((⟨⟨c,a,d⟩,b⟩:bV)=qX)=((decide (c=0)&&decide (a=0)&&decide (d=0)&&decide (b=0))=true):=by simp[qX,and_assoc]
 unfold xM
 simp only[n]
 cases t:(decide (c=0)&&decide (a=0)&&decide (d=0)&&decide (b=0)) with
 | true=>
  simp[af,ah,ad,ae,aa, *,zo,i.r,fJ,bU]
  repeat' ((first | refine iK (λh=>?_) (λh=>?_) | refine fQ (λh=>?_) (λh=>?_) | refine fR (λh=>?_) (λh=>?_) | refine fO (λh=>?_) (λh=>?_) | refine fP (λh=>?_) (λh=>?_))<;>(try simp only[decide_eq_true_eq,decide_eq_false_iff_not,dV,kp,bh,fe]at h)<;>(try simp[af,ah,ad,ae,aa, *,i.r]))
 | false=>
  simp[af,ah,ad,ae,aa, *,zo,i.r,fJ,bU]
  repeat' ((first | refine iK (λh=>?_) (λh=>?_) | refine fQ (λh=>?_) (λh=>?_) | refine fR (λh=>?_) (λh=>?_) | refine fO (λh=>?_) (λh=>?_) | refine fP (λh=>?_) (λh=>?_))<;>(try simp only[decide_eq_true_eq,decide_eq_false_iff_not,dV,kp,bh,fe]at h)<;>(try simp[af,ah,ad,ae,aa, *,i.r]))
theorem TH{r:Rn}(h:xM r=true):eP r.s=true/\(r.l.length:Int)=r.s.many:=by
 simp[xM]at h;exact⟨h.1,h.2.2.1⟩
def HA(o:aK):Int:=if m0 o then (if o.kind=1/\xM ⟨o.s,o.a,o.l⟩=true then 0 else 2) else 8
theorem Wo(q:UInt8)(w:UInt8)(t:UInt32)(v:UInt8)(u:Int)(o:UInt8)(m:UInt32)(p:UInt8)(n:Int)(i:Int)(f:UInt8)(b:UInt32)(a:UInt8)(d:Int)(j:UInt8)(k:UInt32){x:AV}{l:List Int}(A:Sl 1 (rows l) x)(M:l.length<1000000):aF env 231 [.agg [a8 q,a8 w,au t,a8 v,aI u,a8 o,au m,a8 p,aI n,aI i,a8 f,au b,a8 a,aI d,a8 j,au k,x]] =
 some (if HA (⟨q,⟨w,t,v⟩,u,⟨⟨⟨o,m,p⟩,n⟩,i⟩,⟨⟨f,b,a⟩,d⟩,⟨j,k⟩,l⟩:aK)=0 then .tup [.agg [a8 o,au m,a8 p,aI n,aI i,a8 f,au b,a8 a,aI d,.bW 1 (rows l) none],aI 0]
  else .tup [.agg [a8 0,au 0,a8 0,aI 0,aI 0,a8 0,au 0,a8 0,aI 0,ct],aI (HA (⟨q,⟨w,t,v⟩,u,⟨⟨⟨o,m,p⟩,n⟩,i⟩,⟨⟨f,b,a⟩,d⟩,⟨j,k⟩,l⟩:aK))]):=by
 have I:=oH q w t v u o m p n i f b a d j k A (by omega)
 have G:=IF A (by omega) (by omega)
 cases c1:m0 (⟨q,⟨w,t,v⟩,u,⟨⟨⟨o,m,p⟩,n⟩,i⟩,⟨⟨f,b,a⟩,d⟩,⟨j,k⟩,l⟩:aK) with
 | false=>
  have e:HA (⟨q,⟨w,t,v⟩,u,⟨⟨⟨o,m,p⟩,n⟩,i⟩,⟨⟨f,b,a⟩,d⟩,⟨j,k⟩,l⟩:aK)=8:=by simp[HA,c1]
  refine aG rfl (by kernel_rfl) (uC _ _ _ λg=>?_)
  simp[af,ah,ad,ae,aa, *,oP,A.r]
 | true=>
  have C:=λ{y:AV} (H:Sl 1 (rows l) y)=>Ob o m p n i f b a d H M
  by_cases E:l=[]
  ·have e:HA (⟨q,⟨w,t,v⟩,u,⟨⟨⟨o,m,p⟩,n⟩,i⟩,⟨⟨f,b,a⟩,d⟩,⟨j,k⟩,l⟩:aK)=2:=by
    simp only[HA,c1,if_true]
    rw[if_neg]
    rintro⟨_,h⟩
    have z:=TH h
    simp only at z
    have F:=gz z.1
    simp only at F
    rw[E]at z
    simp at z
    omega
   have N:xM ⟨⟨⟨⟨o,m,p⟩,n⟩,i⟩,⟨⟨f,b,a⟩,d⟩,l⟩=false:=by
    cases C:xM ⟨⟨⟨⟨o,m,p⟩,n⟩,i⟩,⟨⟨f,b,a⟩,d⟩,l⟩ with
    | false=>rfl
    | true=>
     have z:=TH C
     simp only at z
     have F:=gz z.1
     simp only at F
     rw[E]at z
     simp at z
     omega
   subst E
   have L:rows ([]:List Int)=[]:=rfl
   rcases A.Ut with ⟨rfl,_⟩ | ⟨c,rfl⟩
   ·have D:=C (y:=ct) (.inl ⟨rfl,rfl⟩)
    clear C
    refine aG rfl (by kernel_rfl) (uC _ _ _ λg=>?_)
    by_cases c2:q=1
    ·subst c2
     simp[af,ah,ad,ae,aa, *,oP]
    ·simp[af,ah,ad,ae,aa, *,oP]
   ·have D:=C (y := .bW 1 (rows []) (some 0)) (.inr ⟨some 0,rfl,by simp[rows]⟩)
    have K:aF env 173 [.bW 1 [] c]=some (.fsl 1 [] (some 0)):=G
    clear C G
    rw[L]at I D ⊢
    refine aG rfl (by kernel_rfl) (uC _ _ _ λg=>?_)
    by_cases c2:q=1
    ·subst c2
     simp[af,ah,ad,ae,aa, *,oP]
    ·simp[af,ah,ad,ae,aa, *,oP]
  ·have z:rows l≠[]:=by simpa using E
   obtain⟨c,rfl,O⟩:=A.Xb z
   rw[sW 1 c z]at G
   have D:=C (Sl.mk 1 (rows l))
   clear C
   have J:=RT l
   by_cases c2:q=1
   ·subst c2
    cases c3:xM ⟨⟨⟨⟨o,m,p⟩,n⟩,i⟩,⟨⟨f,b,a⟩,d⟩,l⟩ with
    | false=>
     have e:HA ⟨1,⟨w,t,v⟩,u,⟨⟨⟨o,m,p⟩,n⟩,i⟩,⟨⟨f,b,a⟩,d⟩,⟨j,k⟩,l⟩=2:=by simp[HA,c1,c3]
     refine aG rfl (by kernel_rfl) (uC _ _ _ λg=>?_)
     simp[af,ah,ad,ae,aa, *,oP,A.r]
    | true=>
     have e:HA ⟨1,⟨w,t,v⟩,u,⟨⟨⟨o,m,p⟩,n⟩,i⟩,⟨⟨f,b,a⟩,d⟩,⟨j,k⟩,l⟩=0:=by simp[HA,c1,c3]
     refine aG rfl (by kernel_rfl) (uC _ _ _ λg=>?_)
     simp[af,ah,ad,ae,aa, *,oP,A.r]
   ·have e:HA (⟨q,⟨w,t,v⟩,u,⟨⟨⟨o,m,p⟩,n⟩,i⟩,⟨⟨f,b,a⟩,d⟩,⟨j,k⟩,l⟩:aK)=2:=by simp[HA,c1,c2]
    refine aG rfl (by kernel_rfl) (uC _ _ _ λg=>?_)
    simp[af,ah,ad,ae,aa, *,oP,A.r]
end Go.Proofs.YtmkmimgokagimaaGreat
namespace Go.Proofs.YtmkmimgokagimaaGreat
open Go.Ab
attribute [local simp] aW aJ aH aV aU cr ld bf aQ aT cz cw bI bg aC bH gh
def G0(t:Int):List Int->Nat->Int
 | [],_ => -1
 | a :: l,k=>if t=a then k else G0 t l (k+1)
theorem UY(t:Int)(l:List Int) : ∀k:Nat,(0<=G0 t l k↔t∈l):=by
 induction l with
 | nil=>intro k;simp[G0]
 | cons a l b=>
  intro k
  unfold G0
  by_cases h:t=a
  ·simp[h]
  ·rw[if_neg h,b];simp[h]
theorem Mo{x0:AV}{Q:AV->ai->Prop}{l:List Int}(hx:Sl 1 (rows l) x0)(hl:l.length<4611686018427387904){t:Int}{H:ai} :
 ∀(s:List Int)(k:Nat)(i:Int),l.drop k=s->k<=l.length->i=k->(∀y,y=aI (G0 t s k)->Q y H) ->
 bN env Tryz.f214 0 eF [(8,aI i),(0,x0),(1,aR t),(7,aI l.length)] H Q:=by
 intro s
 induction s with
 | nil=>
  rintro k i hs hk rfl hQ
  obtain rfl:=drop_nil hs hk
  refine lg _ _ _ _ _ _ λg=>?_
  simp[af,ah,ad,ae,aa, *,eJ]
  all_goals exact hQ _ rfl
 | cons a s d=>
  rintro k i hs hk rfl hQ
  obtain⟨j,n,b,h⟩:=drop_cons hs
  refine lg _ _ _ _ _ _ λg=>?_
  have o:=IntWalk.i64_in ((k:Int)+1) (by omega)
  by_cases f:t=a
  ·have e:G0 t (a :: s) k=k:=by unfold G0;rw[if_pos f]
   simp[af,ah,ad,ae,aa, *,eJ,hx.idx,rows,aR]
   all_goals exact hQ _ (by simp[e])
  ·have e:G0 t (a :: s) k=G0 t s (k+1):=by rw[G0,if_neg f]
   have c:=d (k+1) ((k:Int)+1) b (by omega) (by simp) (λy m=>hQ y (by rw[m,e]))
   clear d hQ e
   simp[af,ah,ad,ae,aa, *,eJ,hx.idx,rows,aR]
   exact c
section
variable{x:AV}{l:List Int}(hx:Sl 1 (rows l) x)(hl:l.length<4611686018427387904)
include hx hl
theorem TB(t:Int):aF env 214 [x,aR t]=some (aI (G0 t l 0)):=by
 refine aG rfl (by kernel_rfl) (sN _ _ _ _ λg=>?_)
 have h:=hx.len
 simp[af,ah,ad,ae,aa, *,mu]
 exact Mo hx hl l 0 _ rfl (by omega) rfl (λy e=>by simp[e])
theorem Lw(t:Int):aF env 176 [x,aR t]=some (aB (decide (t∈l))):=by
 refine aG rfl (by kernel_rfl) (qM _ _ _ _ λg=>?_)
 have h:=TB hx hl t
 have a:=hx.r
 have e:=UY t l 0
 simp[af,ah,ad,ae,aa, *,kU]
end
theorem Q9(j:UInt8)(t:UInt8)(k:UInt32)(q:UInt8)(p:Int)(o:UInt8)(m:UInt32)(u:UInt8)(n:Int)(i:Int)(f:UInt8)(b:UInt32)(a:UInt8)(d:Int)(c:UInt8)(e:UInt32){x:AV}{l:List Int}(hx:Sl 1 (rows l) x)(hl:l.length<4611686018427387904):aF env 121 [.agg [a8 j,a8 t,au k,a8 q,aI p,a8 o,au m,a8 u,aI n,aI i,a8 f,au b,a8 a,aI d,a8 c,au e,x]]=some (aB (!decide (-1∈l))):=by
 refine aG rfl (by kernel_rfl) (K1 _ _ _ λg=>?_)
 have h:=Lw hx hl (-1)
 have v:=hx.r
 unfold aR at h
 simp[af,ah,ad,ae,aa, *,ER]
def od(a b:aK):Bool:=decide (a.kind=b.kind)&&((decide (a.h.lv=b.h.lv)&&decide (a.h.cats=b.h.cats)&&decide (a.h.num=b.h.num))&&(decide (a.serial=b.serial) &&
 ((decide (a.s.f.h.lv=b.s.f.h.lv)&&decide (a.s.f.h.cats=b.s.f.h.cats)&&decide (a.s.f.h.num=b.s.f.h.num)&&decide (a.s.f.n=b.s.f.n)&&decide (a.s.many=b.s.many)) &&
 ((decide (a.a.h.lv=b.a.h.lv)&&decide (a.a.h.cats=b.a.h.cats)&&decide (a.a.h.num=b.a.h.num)&&decide (a.a.n=b.a.n))&&((decide (a.to.lv=b.to.lv)&&decide (a.to.cats=b.to.cats))&&decide (a.l=b.l))))))
theorem Tu(t:UInt8)(M:UInt8)(F:UInt32)(L:UInt8)(K:Int)(I:UInt8)(H:UInt32)(A:UInt8)(v:Int)(p:Int)(i:UInt8)(d:UInt32)(c:UInt8)(f:Int)(e:UInt8)(n:UInt32)(z:UInt8)(E:UInt8)(D:UInt32)(C:UInt8)(u:Int)(w:UInt8)(J:UInt32)(G:UInt8)(N:Int)(o:Int)(h:UInt8)(k:UInt32)(q:UInt8)(j:Int)(a:UInt8)(b:UInt32){x y:AV}{l m:List Int}(hx:Sl 1 (rows l) x)(O:Sl 1 (rows m) y)(hl:l.length<1000000000):aF env 211 [.agg [a8 t,a8 M,au F,a8 L,aI K,a8 I,au H,a8 A,aI v,aI p,a8 i,au d,a8 c,aI f,a8 e,au n,x],.agg [a8 z,a8 E,au D,a8 C,aI u,a8 w,au J,a8 G,aI N,aI o,a8 h,au k,a8 q,aI j,a8 a,au b,y]]=some (aB (od (⟨t,⟨M,F,L⟩,K,⟨⟨⟨I,H,A⟩,v⟩,p⟩,⟨⟨i,d,c⟩,f⟩,⟨e,n⟩,l⟩:aK) (⟨z,⟨E,D,C⟩,u,⟨⟨⟨w,J,G⟩,N⟩,o⟩,⟨⟨h,k,q⟩,j⟩,⟨a,b⟩,m⟩:aK))):=by
 refine aG rfl (by kernel_rfl) (NY _ _ _ _ λg=>?_)
 have R:=QW hx O (by omega)
 have Q:=hx.r
 have P:=O.r
 unfold od
 cases c1:decide (t=z) with
 | false=>simp[af,ah,ad,ae,aa, *,oD,fJ,bU]
 | true=>
 cases c2:(decide (M=E)&&decide (F=D)&&decide (L=C)) with
 | false=>simp[af,ah,ad,ae,aa, *,oD,fJ,bU]
 | true=>
 cases c3:decide (K=u) with
 | false=>simp[af,ah,ad,ae,aa, *,oD,fJ,bU]
 | true=>
 cases c4:(decide (I=w)&&decide (H=J)&&decide (A=G)&&decide (v=N)&&decide (p=o)) with
 | false=>simp[af,ah,ad,ae,aa, *,oD,fJ,bU]
 | true=>
 cases c5:(decide (i=h)&&decide (d=k)&&decide (c=q)&&decide (f=j)) with
 | false=>simp[af,ah,ad,ae,aa, *,oD,fJ,bU]
 | true=>
 cases c6:(decide (e=a)&&decide (n=b)) with
 | false=>simp[af,ah,ad,ae,aa, *,oD,fJ,bU]
 | true=>simp[af,ah,ad,ae,aa, *,oD,fJ,bU]
end Go.Proofs.YtmkmimgokagimaaGreat
namespace Go.Proofs.YtmkmimgokagimaaGreat
open Go.Ab
attribute [local simp] aW aJ aH aV aU cr ld bf aQ aT cz cw bI bg aC bH gh
@[simp] theorem ahV(a:UInt8)(b:UInt32)(c:UInt8)(d:UInt32):aF env 47 [.agg [a8 a,au b],.agg [a8 c,au d]]=some (aB (tU ⟨a,b⟩ ⟨c,d⟩)):=by
 refine aG rfl (by kernel_rfl) (Cr _ _ _ _ λg=>?_)
 simp[af,ah,ad,ae,aa, *,zr]
 repeat' ((first | refine iK (λh=>?_) (λh=>?_) | refine fQ (λh=>?_) (λh=>?_) | refine fR (λh=>?_) (λh=>?_) | refine fO (λh=>?_) (λh=>?_) | refine fP (λh=>?_) (λh=>?_))<;>(try simp only[decide_eq_true_eq,decide_eq_false_iff_not,dV,kp,bh,fe]at h)<;>(try simp[af,ah,ad,ae,aa, *,tU]))
theorem adJ(c:UInt8)(h:UInt32)(d:UInt8)(b:Int)(f:Int)(k:UInt8)(j:UInt32)(i:UInt8)(a:Int)(z : -4611686018427387904<a)(u:a<4611686018427387904):aF env 251 [.agg [a8 c,au h,a8 d,aI b,aI f],.agg [a8 k,au j,a8 i,aI a]]=some (if hasB (⟨⟨⟨c,h,d⟩,b⟩,f⟩:vE) (⟨⟨k,j,i⟩,a⟩:bV) then .tup [aI (a - b),aB true] else .tup [aI 0,aB false]):=by
 refine aG rfl (by kernel_rfl) (N0 _ _ _ _ λg=>?_)
 cases m:eP (⟨⟨⟨c,h,d⟩,b⟩,f⟩:vE) with
 | false=>
  have e:hasB (⟨⟨⟨c,h,d⟩,b⟩,f⟩:vE) (⟨⟨k,j,i⟩,a⟩:bV)=false:=by simp[hasB,m]
  simp[af,ah,ad,ae,aa, *,s7]
 | true=>
  have o:=gz m
  simp only at o
  have w:=IntWalk.i64_in (a - b) (by omega)
  have t:=IntWalk.i64_in (b+(a - b)) (by omega)
  have y:b+(a - b)=a:=by omega
  have v:=IntWalk.i64_in a (by omega)
  rcases Ds (a - b) 0 with c1 | c1
  ·have e:hasB (⟨⟨⟨c,h,d⟩,b⟩,f⟩:vE) (⟨⟨k,j,i⟩,a⟩:bV)=false:=by
    have : ¬b<=a:=by omega
    simp[hasB,this]
   simp[af,ah,ad,ae,aa, *,s7]
  ·have q : ¬a - b<0:=by omega
   rcases Ds (a - b) f with c2 | c2
   rotate_left
   ·have e:hasB (⟨⟨⟨c,h,d⟩,b⟩,f⟩:vE) (⟨⟨k,j,i⟩,a⟩:bV)=false:=by
     have : ¬a<b+f:=by omega
     simp[hasB,this]
    simp[af,ah,ad,ae,aa, *,s7]
   ·have p : ¬f<=a - b:=by omega
    have c3:b<=a:=by omega
    have c4:a<b+f:=by omega
    have n:decide ((⟨c,h,d⟩:sj)=⟨k,j,i⟩)=(decide (k=c)&&decide (j=h)&&decide (i=d)):=by
     simp[zE,eq_comm]
    have e:hasB (⟨⟨⟨c,h,d⟩,b⟩,f⟩:vE) (⟨⟨k,j,i⟩,a⟩:bV)=(decide (k=c)&&decide (j=h)&&decide (i=d)):=by
     rw[<-n];simp only[hasB,m,c3,c4,decide_true,BN,nx]
    rw[e]
    clear e n
    cases A:(decide (k=c)&&decide (j=h)&&decide (i=d)) with
    | false=>simp[af,ah,ad,ae,aa, *,s7,fJ,bU]
    | true=>simp[af,ah,ad,ae,aa, *,s7,fJ,bU]
def vj(t:jy):List jy->Nat->Int
 | [],_ => -1
 | a :: l,k=>if t=a then k else vj t l (k+1)
theorem OX(t:jy)(l:List jy) : ∀k:Nat,(0<=vj t l k↔t∈l):=by
 induction l with
 | nil=>intro k;simp[vj]
 | cons a l b=>
  intro k
  unfold vj
  by_cases h:t=a
  ·simp[h]
  ·rw[if_neg h,b];simp[h]
theorem Mp{x0:AV}{Q:AV->ai->Prop}{l:List jy}(hx:Sl 2 (kb l) x0)(hl:l.length<4611686018427387904){a:UInt8}{b:UInt32}{r3:Ref}{H:ai}(q:H.get r3=some ⟨2,[.agg [a8 a,au b]],false,false⟩) :
 ∀(s:List jy)(k:Nat)(i:Int),l.drop k=s->k<=l.length->i=k->(∀y,y=aI (vj ⟨a,b⟩ s k)->Q y H) ->
 bN env Tryz.f248 0 bw [(8,aI i),(0,x0),(3,.ptr r3 0 0),(7,aI l.length)] H Q:=by
 intro s
 induction s with
 | nil=>
  rintro k i hs hk rfl hQ
  obtain rfl:=drop_nil hs hk
  refine df _ _ _ _ _ _ λg=>?_
  simp[af,ah,ad,ae,aa, *,bx]
  all_goals exact hQ _ rfl
 | cons t s j=>
  rintro k i hs hk rfl hQ
  obtain⟨t1,t2⟩:=t
  obtain⟨m,o,d,h⟩:=drop_cons hs
  refine df _ _ _ _ _ _ λg=>?_
  have p:=IntWalk.i64_in ((k:Int)+1) (by omega)
  have c:((⟨a,b⟩:jy)=⟨t1,t2⟩)=((decide (a=t1)&&decide (b=t2))=true):=by simp
  cases f:(decide (a=t1)&&decide (b=t2)) with
  | true=>
   rw[f]at c
   have e:vj ⟨a,b⟩ (⟨t1,t2⟩ :: s) k=k:=by unfold vj;rw[if_pos (by rw[c])]
   clear c
   simp[af,ah,ad,ae,aa, *,bx,hx.idx,kb,fJ,bU]
   all_goals exact hQ _ (by simp[e])
  | false=>
   rw[f]at c
   have e:vj ⟨a,b⟩ (⟨t1,t2⟩ :: s) k=vj ⟨a,b⟩ s (k+1):=by
    rw[vj,if_neg (by rw[c];simp)]
   clear c
   simp[af,ah,ad,ae,aa, *,bx,hx.idx,kb,fJ,bU]
   exact j (k+1) _ d (by omega) (by simp) (λy n=>hQ y (by rw[n,e]))
section
variable{x:AV}{l:List jy}(hx:Sl 2 (kb l) x)(hl:l.length<4611686018427387904)
include hx hl
theorem TC(a:UInt8)(b:UInt32):aF env 248 [x,.agg [a8 a,au b]]=some (aI (vj ⟨a,b⟩ l 0)):=by
 refine aG rfl (by kernel_rfl) (ir _ _ _ _ λg=>?_)
 have h:=hx.len
 simp[af,ah,ad,ae,aa, *,dA]
 exact Mp hx hl (a:=a) (b:=b) (by simp) l 0 _ rfl (by omega) rfl (λy e=>by simp[e])
theorem Ao(a:UInt8)(b:UInt32):aF env 246 [x,.agg [a8 a,au b]]=some (aB (decide (⟨a,b⟩∈l))):=by
 refine aG rfl (by kernel_rfl) (gE _ _ _ _ λg=>?_)
 have h:=TC hx hl a b
 have e:=OX ⟨a,b⟩ l 0
 simp[af,ah,ad,ae,aa, *,db,hx.r]
end
structure Ih (r r7 q:Ref) (c:Option Nat) (info:AV) (H:ai) (out:List jy):Prop where
 fr:Fr H
 mark:H.get r=some (kE 0 info)
 box:H.get r7=some ⟨1,[.cL q 0 out.length c],false,false⟩
 row:H.get q=some ⟨2,kb out,true,false⟩
 cap:(c=none/\q.d=2/\q.t=25/\2<=out.length)\/(c=some out.length/\out.length=1)
 n1:r7≠r
 n2:q≠r
 n3:q≠r7
theorem OP{r r7 q:Ref}{c:Option Nat}{tm:List AV}{H:ai}{out:List jy}{ps:List Tmp}(j:ps=[17])(i:dH tm 7 = .ptr r7 0 0)(n:Ih r r7 q c (.lp 0 27 ps dL dJ tm) H out)(o:out.length<1000000)(a:UInt8)(b:UInt32) :
 ∃y H',cg env 1 (.yld r) [.agg [a8 a,au b]] H=some (y,H')/\(y=aB true /\∃w A,Ih r r7 w A (.lp 0 27 ps dL dJ tm) H' (sn out ⟨a,b⟩)):=by
 subst j
 refine RJ (fn:=Tryz.f247) (dep:=1) n.mark (by kernel_rfl) rfl rfl (by kernel_rfl) (by kernel_rfl) ?_
 rw[<-L2 (s:=dH (wU tm [17] [.agg [a8 a,au b]])) (l:=[(7,.ptr r7 0 0),(17,.agg [a8 a,au b])]) (by
  intro p hp
  simp only[m6,Dv,or_false]at hp
  rcases hp with rfl | rfl
  ·show dH (Cu tm 17 _) 7=_
   rw[uD]
   simpa using i
  ·show dH (Cu tm 17 _) 17=_
   rw[uD]
   simp)]
 refine(Bf r _ _ _ _ λg=>?_).h _
 obtain⟨fr,mark,box,row,cap,n1,n2,n3⟩:=n
 have v:=n1.symm
 have z:=n2.symm
 have t:=n3.symm
 have E:(H.get r).isSome=true:=by rw[mark];rfl
 have K:(H.get r7).isSome=true:=by rw[box];rfl
 have C:(H.get q).isSome=true:=by rw[row];rfl
 have F:out.length+1<=17592186044416:=by omega
 have D:(out.length+1) * 8<=140737488355328:=by omega
 have d:(⟨a,b⟩:jy) ∉ out->sn out ⟨a,b⟩=out++[⟨a,b⟩]:=λh=>by unfold sn;rw[if_neg h]
 rcases cap with ⟨rfl,q1,q2,m⟩ | ⟨rfl,k⟩
 ·obtain⟨J,L,G,I⟩:=q
  simp only at q1 q2
  subst q1 q2
  have u:=Ao (x := .bW 2 (kb out) none) (Sl.mk _ _) (by omega) a b
  by_cases f:(⟨a,b⟩:jy)∈out
  ·have e:sn out ⟨a,b⟩=out:=by unfold sn;rw[if_pos f]
   simp[af,ah,ad,ae,aa, *,jW,wg,ai.get_put]
   refine⟨_,rfl,_,none,⟨by simp(maxDischargeDepth:=12) [ai.get_put,aq,aj,Fr.nil,aw,af,ah,ad,ae,ao,ak,aa, *],by simp(maxDischargeDepth:=12) [ai.get_put,aq,aj,Fr.nil,aw,af,ah,ad,ae,ao,ak,aa, *],by simp(maxDischargeDepth:=12) [ai.get_put,aq,aj,Fr.nil,aw,af,ah,ad,ae,ao,ak,aa, *],by simp(maxDischargeDepth:=12) [ai.get_put,aq,aj,Fr.nil,aw,af,ah,ad,ae,ao,ak,aa, *],.inl ⟨rfl,rfl,rfl,by first | exact m | (rw[e];exact m)⟩,n1,n2,n3⟩⟩
  ·replace d:=d f
   simp[af,ah,ad,ae,aa, *,jW,wg,ai.get_put]
   refine⟨_,rfl,⟨2,25,H.gen 2 25,0⟩,none,⟨by simp(maxDischargeDepth:=12) [ai.get_put,aq,aj,Fr.nil,aw,af,ah,ad,ae,ao,ak,aa, *],by simp(maxDischargeDepth:=12) [ai.get_put,aq,aj,Fr.nil,aw,af,ah,ad,ae,ao,ak,aa, *],by simp(maxDischargeDepth:=12) [ai.get_put,aq,aj,Fr.nil,aw,af,ah,ad,ae,ao,ak,aa, *],?_,.inl ⟨rfl,rfl,rfl,by simp[d];omega⟩,by simp(maxDischargeDepth:=12) [ai.get_put,aq,aj,Fr.nil,aw,af,ah,ad,ae,ao,ak,aa, *],by simp(maxDischargeDepth:=12) [ai.get_put,aq,aj,Fr.nil,aw,af,ah,ad,ae,ao,ak,aa, *],by simp(maxDischargeDepth:=12) [ai.get_put,aq,aj,Fr.nil,aw,af,ah,ad,ae,ao,ak,aa, *]⟩⟩
   simp[ai.get_put,kb,d]
 ·have m:out.length<=1/\1<=out.length:=by omega
  clear k
  have u:=Ao (x := .bW 2 (kb out) (some out.length)) (.inr ⟨_,rfl,by simp⟩) (by omega) a b
  by_cases f:(⟨a,b⟩:jy)∈out
  ·have e:sn out ⟨a,b⟩=out:=by unfold sn;rw[if_pos f]
   simp[af,ah,ad,ae,aa, *,jW,wg,ai.get_put]
   refine⟨_,rfl,_,some out.length,⟨by simp(maxDischargeDepth:=12) [ai.get_put,aq,aj,Fr.nil,aw,af,ah,ad,ae,ao,ak,aa, *],by simp(maxDischargeDepth:=12) [ai.get_put,aq,aj,Fr.nil,aw,af,ah,ad,ae,ao,ak,aa, *],by simp(maxDischargeDepth:=12) [ai.get_put,aq,aj,Fr.nil,aw,af,ah,ad,ae,ao,ak,aa, *],by simp(maxDischargeDepth:=12) [ai.get_put,aq,aj,Fr.nil,aw,af,ah,ad,ae,ao,ak,aa, *],.inr ⟨by first | rfl | rw[e],by first | omega | (rw[e];omega)⟩,n1,n2,n3⟩⟩
  ·replace d:=d f
   simp[af,ah,ad,ae,aa, *,jW,wg,ai.get_put]
   refine⟨_,rfl,⟨2,25,H.gen 2 25,0⟩,none,⟨by simp(maxDischargeDepth:=12) [ai.get_put,aq,aj,Fr.nil,aw,af,ah,ad,ae,ao,ak,aa, *],by simp(maxDischargeDepth:=12) [ai.get_put,aq,aj,Fr.nil,aw,af,ah,ad,ae,ao,ak,aa, *],by simp(maxDischargeDepth:=12) [ai.get_put,aq,aj,Fr.nil,aw,af,ah,ad,ae,ao,ak,aa, *],?_,.inl ⟨rfl,rfl,rfl,by simp[d];omega⟩,by simp(maxDischargeDepth:=12) [ai.get_put,aq,aj,Fr.nil,aw,af,ah,ad,ae,ao,ak,aa, *],by simp(maxDischargeDepth:=12) [ai.get_put,aq,aj,Fr.nil,aw,af,ah,ad,ae,ao,ak,aa, *],by simp(maxDischargeDepth:=12) [ai.get_put,aq,aj,Fr.nil,aw,af,ah,ad,ae,ao,ak,aa, *]⟩⟩
   simp[ai.get_put,kb,d]
theorem Ih.cons{r r7 q:Ref}{c:Option Nat}{a:AV}{H:ai}{out:List jy}(h:Ih r r7 q c a H out)(d t:Nat)(b:Option bz):Ih r r7 q c a ((⟨d,t,H.gen d t,0⟩,b) :: H) out:=by
 obtain⟨fr,mark,box,row,cap,n1,n2,n3⟩:=h
 have f:(H.get r).isSome=true:=by rw[mark];rfl
 have g:(H.get r7).isSome=true:=by rw[box];rfl
 have e:(H.get q).isSome=true:=by rw[row];rfl
 exact⟨by simp(maxDischargeDepth:=12) [ai.get_put,aq,aj,Fr.nil,aw,af,ah,ad,ae,ao,ak,aa, *],by simp(maxDischargeDepth:=12) [ai.get_put,aq,aj,Fr.nil,aw,af,ah,ad,ae,ao,ak,aa, *],by simp(maxDischargeDepth:=12) [ai.get_put,aq,aj,Fr.nil,aw,af,ah,ad,ae,ao,ak,aa, *],by simp(maxDischargeDepth:=12) [ai.get_put,aq,aj,Fr.nil,aw,af,ah,ad,ae,ao,ak,aa, *],cap,n1,n2,n3⟩
theorem LH{r r7:Ref}{tm:List AV}(htm:dH tm 7 = .ptr r7 0 0){l:List (aK × AV)}{x9:AV}(hx:Sl 17 (cI l) x9)(U : ∀p∈l,HW p)(hl:l.length<100000)(f:UInt8)(j:UInt32)(h:UInt8)(e:Int)(Z : -4611686018427387904<e)(X:e<4611686018427387904)(L:UInt8)(M:UInt32){Q:AV->ai->Prop} :
 ∀(s:List (aK × AV)) (k:Nat) (i:Int) (out:List jy) (q:Ref) (c:Option Nat) (H:ai),l.drop k=s->k<=l.length->i=k->out.length<=k+1 ->
 Ih r r7 q c (.lp 0 27 [17] dL dJ tm) H out ->
 (∀y I K H',Ih r r7 I K (.lp 0 27 [17] dL dJ tm) H' (vf out (opsOf s) (⟨⟨f,j,h⟩,e⟩:bV) ⟨L,M⟩)->Q y H') ->
 bN env Tryz.f250 (0+1) me [(11,aI i),(0,.yld r),(3,.iptr 2 [.agg [a8 L,au M]] 0 0),(2,.iptr 4 [.agg [a8 f,au j,a8 h,aI e]] 0 0),(9,x9),(10,aI l.length)] H Q:=by
 intro s
 induction s with
 | nil=>
  rintro k i out q c H hs hk rfl ho hI hQ
  obtain rfl:=drop_nil hs hk
  refine uc _ _ _ _ _ _ _ _ _ λg=>?_
  simp[af,ah,ad,ae,aa, *,ib]
  exact hQ _ _ _ _ hI
 | cons p s W=>
  rintro k i out q c H hs hk rfl ho hI hQ
  obtain⟨hlt,hg,O,hg'⟩:=drop_cons hs
  have hp:=U p (by rw[<-hg];exact lY _)
  obtain⟨⟨G,⟨D,C,F⟩,E,⟨⟨⟨z,w,v⟩,u⟩,d⟩,⟨⟨t,n,m⟩,o⟩,⟨a,b⟩,S⟩,x⟩:=p
  obtain⟨J,Y⟩:=hp
  simp only at J Y
  refine uc _ _ _ _ _ _ _ _ _ λg=>?_
  have e3:=IntWalk.i64_in ((k:Int)+1) (by omega)
  have hh:=adJ z w v u d f j h e Z X
  have N:=hI.cons 1 6 (some ⟨17,[.agg [a8 G,a8 D,au C,a8 F,aI E,a8 z,au w,a8 v,aI u,aI d,a8 t,au n,a8 m,aI o,a8 a,au b,x]],false,false⟩)
  have A:vf out (opsOf (((⟨G,⟨D,C,F⟩,E,⟨⟨⟨z,w,v⟩,u⟩,d⟩,⟨⟨t,n,m⟩,o⟩,⟨a,b⟩,S⟩:aK),x) :: s)) (⟨⟨f,j,h⟩,e⟩:bV) ⟨L,M⟩=vf (if jZ (⟨G,⟨D,C,F⟩,E,⟨⟨⟨z,w,v⟩,u⟩,d⟩,⟨⟨t,n,m⟩,o⟩,⟨a,b⟩,S⟩:aK) (⟨⟨f,j,h⟩,e⟩:bV) ⟨L,M⟩ then sn out ⟨a,b⟩ else out) (opsOf s) (⟨⟨f,j,h⟩,e⟩:bV) ⟨L,M⟩:=rfl
  have hfr:=hI.fr
  by_cases T:G=3
  rotate_left
  ·have R:jZ (⟨G,⟨D,C,F⟩,E,⟨⟨⟨z,w,v⟩,u⟩,d⟩,⟨⟨t,n,m⟩,o⟩,⟨a,b⟩,S⟩:aK) (⟨⟨f,j,h⟩,e⟩:bV) ⟨L,M⟩=false:=by simp[jZ,T]
   rw[R,if_neg (by decide)]at A
   cases V:hasB ⟨⟨⟨z,w,v⟩,u⟩,d⟩ (⟨⟨f,j,h⟩,e⟩:bV)<;>simp[af,ah,ad,ae,aa, *,ib,hx.idx,cI,zh,J.r]
   all_goals exact W (k+1) _ out q c _ O (by omega) (by simp) (by omega) N (λy I K H' P=>hQ y I K H' (by rw[A];exact P))
  ·subst T
   cases V:hasB ⟨⟨⟨z,w,v⟩,u⟩,d⟩ (⟨⟨f,j,h⟩,e⟩:bV) with
   | false=>
    have R:jZ (⟨3,⟨D,C,F⟩,E,⟨⟨⟨z,w,v⟩,u⟩,d⟩,⟨⟨t,n,m⟩,o⟩,⟨a,b⟩,S⟩:aK) (⟨⟨f,j,h⟩,e⟩:bV) ⟨L,M⟩=false:=by simp[jZ,V]
    rw[R,if_neg (by decide)]at A
    simp[af,ah,ad,ae,aa, *,ib,hx.idx,cI,zh,J.r]
    exact W (k+1) _ out q c _ O (by omega) (by simp) (by omega) N (λy I K H' P=>hQ y I K H' (by rw[A];exact P))
   | true=>
    cases hq:tU ⟨D,C⟩ ⟨L,M⟩ with
    | false=>
     have R:jZ (⟨3,⟨D,C,F⟩,E,⟨⟨⟨z,w,v⟩,u⟩,d⟩,⟨⟨t,n,m⟩,o⟩,⟨a,b⟩,S⟩:aK) (⟨⟨f,j,h⟩,e⟩:bV) ⟨L,M⟩=false:=by simp[jZ,V,Ku,hq]
     rw[R,if_neg (by decide)]at A
     simp[af,ah,ad,ae,aa, *,ib,hx.idx,cI,zh,J.r]
     exact W (k+1) _ out q c _ O (by omega) (by simp) (by omega) N (λy I K H' P=>hQ y I K H' (by rw[A];exact P))
    | true=>
     have R:jZ (⟨3,⟨D,C,F⟩,E,⟨⟨⟨z,w,v⟩,u⟩,d⟩,⟨⟨t,n,m⟩,o⟩,⟨a,b⟩,S⟩:aK) (⟨⟨f,j,h⟩,e⟩:bV) ⟨L,M⟩=true:=by simp[jZ,V,Ku,hq]
     rw[R,if_pos rfl]at A
     obtain⟨y,H',hy,rfl,I,K,hI'⟩:=OP rfl htm N (by omega) a b
     simp[af,ah,ad,ae,aa, *,ib,hx.idx,cI,zh,J.r,MY]
     exact W (k+1) _ _ I K _ O (by omega) (by simp) (by have:=Ng out ⟨a,b⟩;omega) hI' (λy I K H' P=>hQ y I K H' (by rw[A];exact P))
theorem Ot{r r7 q:Ref}{c:Option Nat}{tm:List AV}{H:ai}{out:List jy}(h:dH tm 7 = .ptr r7 0 0){l:List (aK × AV)}{x:AV}(hx:Sl 17 (cI l) x)(f : ∀p∈l,HW p)(hl:l.length<100000)(e:UInt8)(d:UInt32)(b:UInt8)(a:Int)(n : -4611686018427387904<a)(i:a<4611686018427387904)(m:UInt8)(o:UInt32)
 (v:out.length<=1) (u:Ih r r7 q c (.lp 0 27 [17] dL dJ tm) H out) :
 ∃y H',cg env 0 (.fn 250) [.yld r,.iptr 1 [x] 0 0,.iptr 4 [.agg [a8 e,au d,a8 b,aI a]] 0 0,.iptr 2 [.agg [a8 m,au o]] 0 0] H=some (y,H') /\∃j k,Ih r r7 j k (.lp 0 27 [17] dL dJ tm) H' (vf out (opsOf l) (⟨⟨e,d,b⟩,a⟩:bV) ⟨m,o⟩):=by
 refine lB (fn:=Tryz.f250) (c:=Df) (by kernel_rfl) (by kernel_rfl) (by kernel_rfl) (by kernel_rfl) (by kernel_rfl) ?_
 refine Ct _ _ _ _ _ _ _ λg=>?_
 simp[af,ah,ad,ae,aa, *,wG,hx.r]
 exact LH h hx f hl e d b a n i m o l 0 _ out q c H rfl (by omega) rfl (by omega) u (λy j k H' t=>⟨j,k,t⟩)
theorem WD:jP = .code (.rangeFunc (.tmp 16) #[17] dL dJ) :: ud:=by kernel_rfl
def Hl(out:List jy):Option Nat:=if out.length=1 then some 1 else none
theorem QP{l:List (aK × AV)}{x:AV}(hx:Sl 17 (cI l) x)(c:UInt8)(b:UInt32)(a:UInt8)(d:Int)(e:UInt8)(f:UInt32):aF env 249 [x,.agg [a8 c,au b,a8 a,aI d],.agg [a8 e,au f]]=some (.fn (.func 250) [] [.iptr 1 [x] 0 0,.iptr 4 [.agg [a8 c,au b,a8 a,aI d]] 0 0,.iptr 2 [.agg [a8 e,au f]] 0 0]):=by
 refine aG rfl (by kernel_rfl) (E0 _ _ _ _ _ λg=>?_)
 simp[af,ah,ad,ae,aa, *,zV,hx.r]
theorem Zh{l:List (aK × AV)}{x:AV}(hx:Sl 17 (cI l) x)(k : ∀p∈l,HW p)(hl:l.length<100000)(b:UInt8)(a:UInt32)(e:UInt8)(d:Int)(w : -4611686018427387904<d)(n:d<4611686018427387904)(f:UInt8)(i:UInt32) :
 aF env 247 [x,.agg [a8 b,au a,a8 e,aI d],.agg [a8 f,au i]]=some (.bW 2 (kb (pw (opsOf l) (⟨⟨b,a,e⟩,d⟩:bV) ⟨f,i⟩)) (Hl (pw (opsOf l) (⟨⟨b,a,e⟩,d⟩:bV) ⟨f,i⟩))):=by
 refine aG rfl (by kernel_rfl) (HL _ _ _ _ _ λg=>?_)
 have I:=QP hx b a e d f i
 have m : ∀ {r r7 q c j H out},Ih r r7 q c j H out->c=Hl out:=by
  intro r r7 q c j H out h
  rcases h.cap with ⟨t,_,_,z⟩ | ⟨t,z⟩
  ·rw[t,Hl,if_neg (by omega)]
  ·rw[t,Hl,if_pos z,z]
 simp[af,ah,ad,ae,aa, *,BL,hx.r]
 rw[WD]
 refine⟨λA=>O4 (gi:=250) (first:=[]) (captured:=[.iptr 1 [x] 0 0,.iptr 4 [.agg [a8 b,au a,a8 e,aI d]] 0 0,.iptr 2 [.agg [a8 f,au i]] 0 0]) rfl ?_⟩
 intro tm F
 have G:dH tm 7 = .ptr ⟨0,7,0,0⟩ 0 0:=(F 7).trans rfl
 rw[show Tryz.f247.ntmps=27 from by kernel_rfl]
 obtain⟨y,H',E,J,K,hm⟩:=Ot (r:=⟨0,27,0,0⟩) (r7:=⟨0,7,0,0⟩) (q:=⟨0,12,0,0⟩) (c:=some 1) (tm:=tm) (out:=[⟨b,a⟩])
  (H:=(⟨0,27,0,0⟩,some (kE 0 (.lp 0 27 [17] dL dJ tm))) :: [(⟨0,7,0,0⟩,some ⟨1,[.cL ⟨0,12,0,0⟩ 0 1 (some 1)],false,false⟩),(⟨0,12,0,0⟩,some ⟨2,[.agg [a8 b,au a]],true,false⟩),(⟨0,5,0,0⟩,some ⟨2,[.agg [a8 f,au i]],false,false⟩),(⟨0,4,0,0⟩,some ⟨4,[.agg [a8 b,au a,a8 e,aI d]],false,false⟩)])
  G hx k hl b a e d w n f i (by simp) ⟨by simp(maxDischargeDepth:=12) [aq,aj,Fr.nil,aw,af,ah,ad,ae,ao,ak,aa, *],by simp,by simp,by simp[kb],.inr ⟨rfl,rfl⟩,by decide,by decide,by decide⟩
 refine⟨y,H',0,_,by simpa using E,by simp only[ai.MA,ai.Xh];rw[wg];exact(congrArg lpO hm.mark).trans (CX _ _),.inl ⟨rfl,?_⟩⟩
 have C:=L2 (s:=OL A [(16,AV.fn (.func 250) [] [.iptr 1 [x] 0 0,.iptr 4 [.agg [a8 b,au a,a8 e,aI d]] 0 0,.iptr 2 [.agg [a8 f,au i]] 0 0]),(7,AV.ptr ⟨0,7,0,0⟩ 0 0)]) (l:=[(7,AV.ptr ⟨0,7,0,0⟩ 0 0)]) (by
  intro p hp
  simp only[m6,Dv,or_false]at hp
  subst hp
  rfl)
 rw[<-C]
 refine(Ak _ _ _ λg=>?_).h _
 have n1:(⟨0,7,0,0⟩:Ref)≠⟨0,27,0,0⟩:=hm.n1
 have n2:=hm.n2
 have u:=hm.box
 have v:=hm.row
 have D:=m hm
 subst D
 have o:(vf [⟨b,a⟩] (opsOf l) (⟨⟨b,a,e⟩,d⟩:bV) ⟨f,i⟩)=pw (opsOf l) (⟨⟨b,a,e⟩,d⟩:bV) ⟨f,i⟩:=rfl
 rw[o]at u v
 simp[af,ah,ad,ae,aa, *,tO,ai.get_put]
end Go.Proofs.YtmkmimgokagimaaGreat
namespace Go.Proofs.YtmkmimgokagimaaGreat
open Go.Ab
attribute [local simp] aW aJ aH aV aU cr ld bf aQ aT cz cw bI bg aC bH gh
theorem Qn(out:List jy):Sl 2 (kb out) (.bW 2 (kb out) (Hl out)):=by
 refine .inr ⟨_,rfl,?_⟩
 unfold Hl
 split
 ·rename_i h;simp[h]
 ·simp
def pG(l:List aK)(o:aK):Nat->Nat->Bool
 | 0,_=>true
 | n+1,k=>decide (Ku o∈pw l ⟨o.s.f.h,o.s.f.n+(k:Int)⟩ (Ku o))&&pG l o n (k+1)
theorem IY(l:List aK)(i:bV)(v:jy):(pw l i v).length<=1+l.length:=RG l i v [Np i]
theorem RV{l:List (aK × AV)}{x0:AV}(hx:Sl 17 (cI l) x0)(hall : ∀p∈l,HW p)(hl:l.length<100000)(w:UInt8)(c:UInt8)(b:UInt32)(A:UInt8)(z:Int)(j:UInt8)(h:UInt32)(f:UInt8)(d:Int)(a:Int)(u:UInt8)(o:UInt32)(m:UInt8)(t:Int)(q:UInt8)(v:UInt32){D:List Int}{x:AV}(C:Sl 1 (rows D) x)(I:eP ⟨⟨⟨j,h,f⟩,d⟩,a⟩=true){Q:AV->ai->Prop}{r3:Ref} :
 ∀(n k:Nat)(i:Int)(right:Bool)(H:ai),(k:Int)+n=a->i=k->Fr H->H.get r3=some ⟨17,[.agg [a8 w,a8 c,au b,a8 A,aI z,a8 j,au h,a8 f,aI d,aI a,a8 u,au o,a8 m,aI t,a8 q,au v,x]],false,false⟩->(k=0\/right=true) ->
 (∀y H',y=aB (right&&pG (opsOf l) (⟨w,⟨c,b,A⟩,z,⟨⟨⟨j,h,f⟩,d⟩,a⟩,⟨⟨u,o,m⟩,t⟩,⟨q,v⟩,D⟩:aK) n k)->Q y H') ->
 bN env Tryz.f244 0 p4 [(21,aI i),(3,.ptr r3 0 0),(0,x0),(5,aB right),(20,aI a)] H Q:=by
 have G:=gz I
 simp only at G
 intro n
 induction n with
 | zero=>
  rintro k i right H hk rfl hF hB hr hQ
  refine zK _ _ _ _ _ _ _ λg=>?_
  have E : ¬(k:Int)<a:=by omega
  simp[af,ah,ad,ae,aa, *,nj]
  all_goals exact hQ _ _ (by simp[pG])
 | succ n K=>
  rintro k i right H hk rfl hF hB hr hQ
  refine zK _ _ _ _ _ _ _ λg=>?_
  have E:(k:Int)<a:=by omega
  have N:=IntWalk.i64_in ((k:Int)+1) (by omega)
  have M:VV ⟨⟨⟨j,h,f⟩,d⟩,a⟩ (k:Int)=0:=by
   unfold VV
   rw[if_pos I,if_neg]
   simp only
   omega
  have P:=Zh hx hall hl j h f (d+k) (by omega) (by omega) c b
  have L:=IY (opsOf l) ⟨⟨j,h,f⟩,d+k⟩ ⟨c,b⟩
  have O:=Ao (Qn (pw (opsOf l) ⟨⟨j,h,f⟩,d+k⟩ ⟨c,b⟩)) (by rw[show(opsOf l).length=l.length from so _]at L;omega) c b
  have J:pG (opsOf l) (⟨w,⟨c,b,A⟩,z,⟨⟨⟨j,h,f⟩,d⟩,a⟩,⟨⟨u,o,m⟩,t⟩,⟨q,v⟩,D⟩:aK) (n+1) k=(decide ((⟨c,b⟩:jy)∈pw (opsOf l) ⟨⟨j,h,f⟩,d+k⟩ ⟨c,b⟩)&&pG (opsOf l) (⟨w,⟨c,b,A⟩,z,⟨⟨⟨j,h,f⟩,d⟩,a⟩,⟨⟨u,o,m⟩,t⟩,⟨q,v⟩,D⟩:aK) n (k+1)):=rfl
  rw[J]at hQ
  clear J G
  cases right with
  | false=>
   simp[af,ah,ad,ae,aa, *,nj,hx.r,C.r]
   all_goals exact hQ _ _ (by simp)
  | true=>
   by_cases F:(⟨c,b⟩:jy)∈pw (opsOf l) ⟨⟨j,h,f⟩,d+k⟩ ⟨c,b⟩
   ·simp[af,ah,ad,ae,aa, *,nj,hx.r,C.r]
    exact K (k+1) _ true _ (by omega) (by simp) (by simp(maxDischargeDepth:=12) [aq,aj,Fr.nil,aw,af,ah,ad,ae,ao,ak,aa, *]) (by simp(maxDischargeDepth:=12) [aq,aj,Fr.nil,aw,af,ah,ad,ae,ao,ak,aa, *]) (.inr rfl) (λy H' e=>hQ y H' (by rw[e];simp[F]))
   ·simp[af,ah,ad,ae,aa, *,nj,hx.r,C.r]
    all_goals exact hQ _ _ (by simp[F])
theorem ME(l:List aK)(o:aK)(b:o.kind=3):kI l o=(tU (Ku o) o.to&&pG l o o.s.many.toNat 0):=by
 unfold kI
 rw[if_pos b]
 congr 1
 have key : ∀n k,pG l o n k=(List.range n).all (λj=>decide (Ku o∈pw l ⟨o.s.f.h,o.s.f.n+((k+j:Nat):Int)⟩ (Ku o))):=by
  intro n
  induction n with
  | zero=>intro k;rfl
  | succ n a=>
   intro k
   rw[pG,a,NN,Ad,List.all_map]
   congr 1
   congr 1
   funext j
   simp only[Function.comp,ND]
   rw[show k+1+j=k+(j+1) by omega]
 rw[key]
 simp
theorem Tb{l:List (aK × AV)}{x0:AV}(hx:Sl 17 (cI l) x0)(hall : ∀p∈l,HW p)(hl:l.length<100000)(o:UInt8)(v:UInt8)(q:UInt32)(u:UInt8)(t:Int)(m:UInt8)(j:UInt32)(n:UInt8)(k:Int)(a:Int)(i:UInt8)(c:UInt32)(b:UInt8)(f:Int)(d:UInt8)(h:UInt32){z:List Int}{x:AV}(w:Sl 1 (rows z) x)(A:eP ⟨⟨⟨m,j,n⟩,k⟩,a⟩=true) :
 aF env 244 [x0,.agg [a8 o,a8 v,au q,a8 u,aI t,a8 m,au j,a8 n,aI k,aI a,a8 i,au c,a8 b,aI f,a8 d,au h,x]]=some (aB (kI (opsOf l) (⟨o,⟨v,q,u⟩,t,⟨⟨⟨m,j,n⟩,k⟩,a⟩,⟨⟨i,c,b⟩,f⟩,⟨d,h⟩,z⟩:aK))):=by
 refine aG rfl (by kernel_rfl) (HM _ _ _ _ λg=>?_)
 by_cases C:o=3
 ·subst C
  rw[ME _ _ rfl]
  have D:=gz A
  simp only at D
  simp[af,ah,ad,ae,aa, *,w9,hx.r,w.r]
  exact RV hx hall hl 3 v q u t m j n k a i c b f d h w A a.toNat 0 _ _ _ (by omega) rfl (by simp(maxDischargeDepth:=12) [aq,aj,Fr.nil,aw,af,ah,ad,ae,ao,ak,aa, *]) (by simp) (.inl rfl) (λy H' e=>by rw[e];simp[Ku])
 ·have e:kI (opsOf l) (⟨o,⟨v,q,u⟩,t,⟨⟨⟨m,j,n⟩,k⟩,a⟩,⟨⟨i,c,b⟩,f⟩,⟨d,h⟩,z⟩:aK)=true:=by unfold kI;rw[if_neg C]
  simp[af,ah,ad,ae,aa, *,w9,w.r]
theorem Ol(s t:List aK) : ∀l,lJ l (s++t)=(lJ l s&&lJ (l++s) t):=by
 induction s with
 | nil=>intro l;simp[lJ]
 | cons o s a=>
  intro l
  show(m0 o&&kI l o&&lJ (l++[o]) (s++t))=(m0 o&&kI l o&&lJ (l++[o]) s&&lJ (l++o :: s) t)
  rw[a,Ce,List.singleton_append]
  simp only[zE]
theorem lz{o:aK}(h:m0 o=true):eP o.s=true:=by
 simp only[m0,bh]at h
 exact h.2.2.2.1
theorem Pf{l:List (aK × AV)}{x0:AV}(hx:Sl 17 (cI l) x0)(hall : ∀p∈l,HW p)(hl:l.length<100000){Q:AV->ai->Prop} :
 ∀(s:List (aK × AV)) (k:Nat) (i:Int) (H:ai),l.drop k=s->k<=l.length->i=k->Fr H ->
 (∀y H',y=aI (bad (lJ (opsOf (l.take k)) (opsOf s)))->Q y H') ->
 bN env Tryz.f243 0 oI [(10,aI i),(0,x0),(8,x0),(9,aI l.length)] H Q:=by
 intro s
 induction s with
 | nil=>
  rintro k i H hs hk rfl hF hQ
  obtain rfl:=drop_nil hs hk
  refine xk _ _ _ _ _ _ λg=>?_
  simp[af,ah,ad,ae,aa, *,mA]
  all_goals exact hQ _ _ rfl
 | cons p s W=>
  rintro k i H hs hk rfl hF hQ
  obtain⟨J,R,O,N⟩:=drop_cons hs
  have hp:=hall p (by rw[<-R];exact lY _)
  obtain⟨⟨n,⟨A,t,z⟩,w,⟨⟨⟨v,u,q⟩,o⟩,m⟩,⟨⟨h,b,a⟩,f⟩,⟨d,j⟩,D⟩,x⟩:=p
  obtain⟨C,E⟩:=hp
  simp only at C E
  refine xk _ _ _ _ _ _ λg=>?_
  have e3:=IntWalk.i64_in ((k:Int)+1) (by omega)
  have Z:=oH n A t z w v u q o m h b a f d j C E
  have Y:Sl 17 (cI (l.take k)) (.bW 17 (cI (l.take k)) none):=Sl.mk _ _
  obtain⟨c,rfl,I⟩:=hx.Xb (by intro e;have:=congrArg List.length e;simp at this;subst this;simp at J)
  have G:l.take (k+1)=l.take k++[((⟨n,⟨A,t,z⟩,w,⟨⟨⟨v,u,q⟩,o⟩,m⟩,⟨⟨h,b,a⟩,f⟩,⟨d,j⟩,D⟩:aK),x)]:=by rw[List.take_succ_eq_append_getElem J,R]
  have S:lJ (opsOf (l.take k)) (opsOf (((⟨n,⟨A,t,z⟩,w,⟨⟨⟨v,u,q⟩,o⟩,m⟩,⟨⟨h,b,a⟩,f⟩,⟨d,j⟩,D⟩:aK),x) :: s))=(m0 (⟨n,⟨A,t,z⟩,w,⟨⟨⟨v,u,q⟩,o⟩,m⟩,⟨⟨h,b,a⟩,f⟩,⟨d,j⟩,D⟩:aK)&&kI (opsOf (l.take k)) (⟨n,⟨A,t,z⟩,w,⟨⟨⟨v,u,q⟩,o⟩,m⟩,⟨⟨h,b,a⟩,f⟩,⟨d,j⟩,D⟩:aK)&&lJ (opsOf (l.take (k+1))) (opsOf s)):=by
   rw[G]
   show(_&&lJ (opsOf (l.take k)++[_]) (opsOf s))=_
   simp only[opsOf,Fp,tp,Jn]
  rw[S]at hQ
  have F:(l.take k).length<100000:=by rw[tv];omega
  have X:(cI l).take k=cI (l.take k):=by simp[cI,Jo]
  have k1:(k:Int)<=l.length:=by omega
  have k2:(0:Int)<=k:=by omega
  have U:bX (cI l) k 0 17 true=some (.agg [a8 n,a8 A,au t,a8 z,aI w,a8 v,au u,a8 q,aI o,aI m,a8 h,au b,a8 a,aI f,a8 d,au j,x]):=by simp[cI,zh,N]
  clear S G
  cases K:m0 (⟨n,⟨A,t,z⟩,w,⟨⟨⟨v,u,q⟩,o⟩,m⟩,⟨⟨h,b,a⟩,f⟩,⟨d,j⟩,D⟩:aK) with
  | false=>
   simp[af,ah,ad,ae,aa, *,mA,hx.r,hx.idx,C.r]
   all_goals exact hQ _ _ (by simp[K,bad])
  | true=>
   have V:k<=c.getD k:=by
    cases c with
    | none=>exact dc _
    | some c=>simp only[cX,jD]at I ⊢;omega
   have hf : ∀L:Option Nat,k<=L.getD k->aF env 244 [.bW 17 (cI (l.take k)) L,.agg [a8 n,a8 A,au t,a8 z,aI w,a8 v,au u,a8 q,aI o,aI m,a8 h,au b,a8 a,aI f,a8 d,au j,x]]=some (aB (kI (opsOf (l.take k)) (⟨n,⟨A,t,z⟩,w,⟨⟨⟨v,u,q⟩,o⟩,m⟩,⟨⟨h,b,a⟩,f⟩,⟨d,j⟩,D⟩:aK))):=by
    intro L M
    have P:(cI (l.take k)).length=k:=by rw[jD,tv];omega
    exact Tb (.inr ⟨L,rfl,by rw[P];exact M⟩) (λp hp=>hall p (zH hp)) F n A t z w v u q o m h b a f d j C (lz K)
   cases T:kI (opsOf (l.take k)) (⟨n,⟨A,t,z⟩,w,⟨⟨⟨v,u,q⟩,o⟩,m⟩,⟨⟨h,b,a⟩,f⟩,⟨d,j⟩,D⟩:aK) with
   | false=>
    simp[af,ah,ad,ae,aa, *,mA,hx.r,hx.idx,C.r]
    all_goals exact hQ _ _ (by simp[K,T,bad])
   | true=>
    simp[af,ah,ad,ae,aa, *,mA,hx.r,hx.idx,C.r]
    exact W (k+1) _ _ O (by omega) (by simp) (by simp(maxDischargeDepth:=12) [aq,aj,Fr.nil,aw,af,ah,ad,ae,ao,ak,aa, *]) (λy H' e=>hQ y H' (by rw[e];simp[K,T]))
section
variable{l:List (aK × AV)}{x0:AV}(hx:Sl 17 (cI l) x0)(hall : ∀p∈l,HW p)(hl:l.length<100000)
include hx hall hl
theorem Rf:aF env 243 [x0]=some (aI (qa (opsOf l))):=by
 refine aG rfl (by kernel_rfl) (Gd _ _ _ λg=>?_)
 have d:=hx.len
 have a:(opsOf l).length=l.length:=so _
 by_cases h:2048<l.length
 ·have c:(2048:Int)<l.length:=by omega
  have e:qa (opsOf l)=4:=by unfold qa;rw[if_pos (by rw[a];exact h)]
  simp[af,ah,ad,ae,aa, *,vC,hx.r]
 ·have c : ¬(2048:Int)<l.length:=by omega
  have e:qa (opsOf l)=bad (lJ [] (opsOf l)):=by unfold qa bad;rw[if_neg (by rw[a];exact h)]
  simp[af,ah,ad,ae,aa, *,vC,hx.r]
  exact Pf hx hall hl l 0 _ _ rfl (by omega) rfl Fr.nil (λy H' b=>by rw[b];simp[opsOf])
theorem TG(j:UInt8)(u:UInt8)(k:UInt32)(t:UInt8)(q:Int)(o:UInt8)(m:UInt32)(v:UInt8)(n:Int)(i:Int)(f:UInt8)(b:UInt32)(a:UInt8)(d:Int)(c:UInt8)(e:UInt32){y:List Int}{x:AV}(w:Sl 1 (rows y) x)(z:y.length<2000000):aF env 235 [x0,.agg [a8 j,a8 u,au k,a8 t,aI q,a8 o,au m,a8 v,aI n,aI i,a8 f,au b,a8 a,aI d,a8 c,au e,x]] =
 some (if qa (opsOf l)=0 then (if m0 (⟨j,⟨u,k,t⟩,q,⟨⟨⟨o,m,v⟩,n⟩,i⟩,⟨⟨f,b,a⟩,d⟩,⟨c,e⟩,y⟩:aK) then .tup [aB (kI (opsOf l) (⟨j,⟨u,k,t⟩,q,⟨⟨⟨o,m,v⟩,n⟩,i⟩,⟨⟨f,b,a⟩,d⟩,⟨c,e⟩,y⟩:aK)),aI 0] else .tup [aB false,aI 8]) else .tup [aB false,aI (qa (opsOf l))]):=by
 refine aG rfl (by kernel_rfl) (HN _ _ _ _ λg=>?_)
 have C:=Rf hx hall hl
 have E:=oH j u k t q o m v n i f b a d c e w z
 by_cases h:qa (opsOf l)=0
 ·rw[if_pos h]
  cases A:m0 (⟨j,⟨u,k,t⟩,q,⟨⟨⟨o,m,v⟩,n⟩,i⟩,⟨⟨f,b,a⟩,d⟩,⟨c,e⟩,y⟩:aK) with
  | false=>simp[af,ah,ad,ae,aa, *,tl,hx.r,w.r]
  | true=>
   have D:=Tb hx hall hl j u k t q o m v n i f b a d c e w (lz A)
   simp[af,ah,ad,ae,aa, *,tl,hx.r,w.r]
 ·rw[if_neg h]
  simp[af,ah,ad,ae,aa, *,tl,hx.r,w.r]
end
end Go.Proofs.YtmkmimgokagimaaGreat
namespace Go.Proofs.YtmkmimgokagimaaGreat
open Go.Ab
attribute [local simp] aW aJ aH aV aU cr ld bf aQ aT cz cw bI bg aC bH gh
def bsO(z:Nat)(a:AV)(H:ai)(r:Ref)(n:Nat)(b:List (Nat × AV))(refs:List Ref):du:=match iR (List.replicate n a) b with
 | some es=>some (.cL r 0 n (some n),(r,some ⟨z,es,true,false⟩) :: cJ H refs)
 | none=>none
theorem R9{P:Program}{a:Bool}{t:TypeId}(m:qS P t=true)(H:ai)(d g i:Nat)(n:Nat)(ps:List (Nat × AV))(h:n * nQ P t<=16777216)(z:(fI H.get ps).isSome=true)
 (k:((fI H.get ps).getD []).all (λp=>p.2.cells.length == nQ P t&&p.2.cells.all AV.one)=true) (b:(iR (List.replicate n (kf P t)) ((fI H.get ps).getD [])).isSome=true) (j:kg H.get (cq H.get (ps.map (·.2)))=false) :
 pJ P a true H ⟨d,g,i,0⟩ t n (some ps)=bsO (nQ P t) (kf P t) H ⟨d,g,i,0⟩ n ((fI H.get ps).getD []) (cq H.get (ps.map (·.2))):=by
 obtain⟨ws,hw⟩:=gI.1 z
 rw[hw,cX]at k b ⊢
 obtain⟨es,b⟩:=gI.1 b
 unfold qS at m
 obtain⟨e,u,l,y,A,o,q,x,v,C⟩:=lE m
 have f:kf P t=u:=by unfold kf;rw[l,fH,o];rfl
 rw[f]at b ⊢
 have c:mkSlice P H.get t n ps=some ⟨nQ P t,es,true,false⟩:=by
  simp only[mkSlice,l,hw,o,y]
  rw[if_pos ⟨Bm v,h,q,x,by simpa using k⟩,b]
  rfl
 have w:im P a H.get ⟨d,g,i,0⟩ t n (some ps)=none:=by
  simp only[im,j,nz,if_false]
 unfold pJ bsO
 rw[w,b]
 simp only[mQ,E3,cond_true,kq,c,Option.map_some]
attribute [local simp] R9 bsO fI
def uA(o:aK):List UInt8:=[o.kind]++(jO o.h++(be 3 o.serial++(kF o.s.f++[u8 o.s.many])))
theorem ahG(n:Int):be 3 n=[u8 (n / 65536),u8 (n / 256),u8 n]:=by simp[Ky]
theorem Gy(c:UInt8)(h:sj)(a:Int)(f:bV)(b:Int):aF env 209 [.bW 1 [.bW 1 [a8 c] (some 1),.bW 1 (jX (jO h)) none,.bW 1 [a8 (u8 (a / 65536)),a8 (u8 (a / 256)),a8 (u8 a)] (some 3),.bW 1 (jX (kF f)) none,.bW 1 [a8 (u8 b)] (some 1)] (some 5)] =
 some (.fsl 1 (jX ([c]++(jO h++(be 3 a++(kF f++[u8 b]))))) none):=by
 have e:lC [([c],AV.bW 1 [a8 c] (some 1)),(jO h,.bW 1 (jX (jO h)) none),(be 3 a,.bW 1 [a8 (u8 (a / 65536)),a8 (u8 (a / 256)),a8 (u8 a)] (some 3)),(kF f,.bW 1 (jX (kF f)) none),([u8 b],.bW 1 [a8 (u8 b)] (some 1))]=[c]++(jO h++(be 3 a++(kF f++[u8 b]))):=by
  simp only[lC,zG,FM,tq]
 rw[<-e]
 refine Lx (ps:=[([c],AV.bW 1 [a8 c] (some 1)),(jO h,.bW 1 (jX (jO h)) none),(be 3 a,.bW 1 [a8 (u8 (a / 65536)),a8 (u8 (a / 256)),a8 (u8 a)] (some 3)),(kF f,.bW 1 (jX (kF f)) none),([u8 b],.bW 1 [a8 (u8 b)] (some 1))]) (.inr ⟨some 5,rfl,by simp⟩) ?_ (by simp) (by rw[e];simp) (by rw[e];simp)
 intro p hp
 simp only[m6,Dv,or_false]at hp
 rcases hp with rfl | rfl | rfl | rfl | rfl
 ·exact .inr ⟨some 1,rfl,by simp⟩
 ·exact Sl.mk _ _
 ·exact .inr ⟨some 3,by rw[ahG];rfl,by simp⟩
 ·exact Sl.mk _ _
 ·exact .inr ⟨some 1,rfl,by simp⟩
theorem Tx(q:UInt8)(o:UInt8)(i:UInt32)(n:UInt8)(t:Int)(m:UInt8)(j:UInt32)(p:UInt8)(k:Int)(a:Int)(h:UInt8)(c:UInt32)(b:UInt8)(e:Int)(d:UInt8)(f:UInt32){x:AV}{l:List Int}(v:Sl 1 (rows l) x)(y:l.length<2000000)(u:m0 (⟨q,⟨o,i,n⟩,t,⟨⟨⟨m,j,p⟩,k⟩,a⟩,⟨⟨h,c,b⟩,e⟩,⟨d,f⟩,l⟩:aK)=true)(z:q=2):aF env 163 [.agg [a8 q,a8 o,au i,a8 n,aI t,a8 m,au j,a8 p,aI k,aI a,a8 h,au c,a8 b,aI e,a8 d,au f,x]]=some (.tup [.bW 1 (jX (uA (⟨q,⟨o,i,n⟩,t,⟨⟨⟨m,j,p⟩,k⟩,a⟩,⟨⟨h,c,b⟩,e⟩,⟨d,f⟩,l⟩:aK))) none,aI 0]):=by
 refine aG rfl (by kernel_rfl) (AT _ _ _ λg=>?_)
 have w:=oH q o i n t m j p k a h c b e d f v y
 rw[u]at w
 have A:gU ⟨o,i,n⟩=true:=by simp only[m0,bh]at u;exact u.1
 have C:D2 ⟨⟨m,j,p⟩,k⟩=true:=by
  simp only[m0,bh]at u
  have:=u.2.2.2.1
  simp only[eP,bh]at this
  exact this.1
 clear u
 subst z
 have D:=Gy 2 ⟨o,i,n⟩ t ⟨⟨m,j,p⟩,k⟩ a
 unfold uA
 simp[af,ah,ad,ae,aa, *,uJ,v.r,bad,gm,fw]
theorem Tw(u:UInt8)(k:UInt8)(d:UInt32)(j:UInt8)(n:Int)(i:UInt8)(f:UInt32)(m:UInt8)(h:Int)(c:Int)(t:UInt8)(p:UInt32)(o:UInt8)(q:Int)(b:UInt8)(a:UInt32){x:AV}{l:List Int}(D:Sl 1 (rows l) x)(F:l.length<2000000)(v:m0 (⟨u,⟨k,d,j⟩,n,⟨⟨⟨i,f,m⟩,h⟩,c⟩,⟨⟨t,p,o⟩,q⟩,⟨b,a⟩,l⟩:aK)=true)(G:u=3):aF env 163 [.agg [a8 u,a8 k,au d,a8 j,aI n,a8 i,au f,a8 m,aI h,aI c,a8 t,au p,a8 o,aI q,a8 b,au a,x]]=some (.tup [.bW 1 (jX (uA (⟨u,⟨k,d,j⟩,n,⟨⟨⟨i,f,m⟩,h⟩,c⟩,⟨⟨t,p,o⟩,q⟩,⟨b,a⟩,l⟩:aK)++(b :: be 4 a.toNat))) none,aI 0]):=by
 refine aG rfl (by kernel_rfl) (AT _ _ _ λg=>?_)
 have E:=oH u k d j n i f m h c t p o q b a D F
 rw[v]at E
 subst G
 have I:gU ⟨k,d,j⟩=true:=by simp only[m0,bh]at v;exact v.1
 have J:D2 ⟨⟨i,f,m⟩,h⟩=true:=by
  simp only[m0,bh]at v
  have:=v.2.2.2.1
  simp only[eP,bh]at this
  exact this.1
 have A:gU ⟨b,a,0⟩=true:=by
  simp only[m0,bh]at v
  have:=v.2.2.2.2
  simp only[BV,J1]at this
  simp at this
  simp[gU,this]
 clear v
 have K:=Gy 3 ⟨k,d,j⟩ n ⟨⟨i,f,m⟩,h⟩ c
 unfold uA
 have z:jO ⟨b,a,0⟩=b :: (be 4 a.toNat++[0]):=rfl
 have w:(jX ([(3:UInt8)]++(jO ⟨k,d,j⟩++(be 3 n++(kF ⟨⟨i,f,m⟩,h⟩++[u8 c]))))).length=24:=by simp
 have y:=Ls b a 0
 rw[if_pos A,z,Pn]at y
 rw[Pn]
 rw[show jX (([(3:UInt8)]++(jO ⟨k,d,j⟩++(be 3 n++(kF ⟨⟨i,f,m⟩,h⟩++[u8 c]))))++[b,u8 (↑a.toNat / 16777216),u8 (↑a.toNat / 65536),u8 (↑a.toNat / 256),u8 ↑a.toNat])=jX ([(3:UInt8)]++(jO ⟨k,d,j⟩++(be 3 n++(kF ⟨⟨i,f,m⟩,h⟩++[u8 c]))))++[a8 b,a8 (u8 (↑a.toNat / 16777216)),a8 (u8 (↑a.toNat / 65536)),a8 (u8 (↑a.toNat / 256)),a8 (u8 ↑a.toNat)] from Fp ..]
 have H:jX ([(3:UInt8)]++(jO ⟨k,d,j⟩++(be 3 n++(kF ⟨⟨i,f,m⟩,h⟩++[u8 c]))))≠[]:=by intro e;rw[e]at w;cases w
 generalize jX ([(3:UInt8)]++(jO ⟨k,d,j⟩++(be 3 n++(kF ⟨⟨i,f,m⟩,h⟩++[u8 c]))))=C at *
 clear A z
 simp[af,ah,ad,ae,aa, *,uJ,D.r,bad,gm,fw]
 rfl
theorem PG(C A R:List UInt8)(a:Option Nat)(b:A.length<=a.getD A.length)(d:0<C.length)(c:C.length+A.length+R.length<1000000):aF env 209 [.bW 1 [.bW 1 (jX C) none,.bW 1 (jX A) a,.bW 1 (jX R) none] (some 3)]=some (.fsl 1 (jX (C++(A++R))) none):=by
 have e:lC [(C,AV.bW 1 (jX C) none),(A,.bW 1 (jX A) a),(R,.bW 1 (jX R) none)]=C++(A++R):=by
  simp only[lC,zG,FM,tq]
 rw[<-e]
 refine Lx (ps:=[(C,AV.bW 1 (jX C) none),(A,.bW 1 (jX A) a),(R,.bW 1 (jX R) none)]) (.inr ⟨some 3,rfl,by simp⟩) ?_ (by simp) (by rw[e];simp;omega) (by rw[e];simp;omega)
 intro p hp
 simp only[m6,Dv,or_false]at hp
 rcases hp with rfl | rfl | rfl
 ·exact Sl.mk _ _
 ·exact .inr ⟨a,rfl,by simpa using b⟩
 ·exact Sl.mk _ _
theorem Tv(i:UInt8)(q:UInt8)(j:UInt32)(p:UInt8)(o:Int)(n:UInt8)(k:UInt32)(t:UInt8)(m:Int)(h:Int)(f:UInt8)(b:UInt32)(a:UInt8)(d:Int)(c:UInt8)(e:UInt32){x:AV}{l:List Int}(v:Sl 1 (rows l) x)(y:l.length<2000000)(u:m0 (⟨i,⟨q,j,p⟩,o,⟨⟨⟨n,k,t⟩,m⟩,h⟩,⟨⟨f,b,a⟩,d⟩,⟨c,e⟩,l⟩:aK)=false):aF env 163 [.agg [a8 i,a8 q,au j,a8 p,aI o,a8 n,au k,a8 t,aI m,aI h,a8 f,au b,a8 a,aI d,a8 c,au e,x]]=some (.tup [ct,aI 8]):=by
 refine aG rfl (by kernel_rfl) (AT _ _ _ λg=>?_)
 have w:=oH i q j p o n k t m h f b a d c e v y
 rw[u]at w
 clear u
 simp[af,ah,ad,ae,aa, *,uJ,v.r,bad]
@[simp] theorem ahr(r:Ref):Ez env.P r 170 (some (.v (.int .i64 13))) (some (.v (.int .i64 13)))=some (.cL r 0 13 none,[⟨1,[a8 0,a8 0,a8 0,a8 0,a8 0,a8 0,a8 0,a8 0,a8 0,a8 0,a8 0,a8 0,a8 0],true,false⟩]):=by kernel_rfl
theorem RA{o:aK}(h:m0 o=true):eP o.s=true:=by
 simp only[m0,bh]at h
 exact h.2.2.2.1
theorem Zp{l:List Int}(h:JX l=true):Bg l=0/\l.length<=64 /\∀n∈l, -2147483648<=n/\n<=2147483647:=by
 simp only[JX,bh,decide_eq_true_eq]at h
 refine⟨by unfold Bg;rw[if_neg (by omega),if_pos h.2],h.1,λn a=>?_⟩
 have:=gD.1 h.2 n a
 simp only[oY,fe,bh,decide_eq_true_eq]at this
 omega
def AI(a:bV):List UInt8:=if gf a then List.replicate 13 0 else kF a
theorem Ty(v:UInt8)(n:UInt8)(h:UInt32)(m:UInt8)(q:Int)(k:UInt8)(i:UInt32)(o:UInt8)(j:Int)(f:Int)(d:UInt8)(b:UInt32)(a:UInt8)(c:Int)(t:UInt8)(u:UInt32){x:AV}{l:List Int}(E:Sl 1 (rows l) x)(N:l.length<2000000)(z:m0 (⟨v,⟨n,h,m⟩,q,⟨⟨⟨k,i,o⟩,j⟩,f⟩,⟨⟨d,b,a⟩,c⟩,⟨t,u⟩,l⟩:aK)=true)(Q:v=1):aF env 163 [.agg [a8 v,a8 n,au h,a8 m,aI q,a8 k,au i,a8 o,aI j,aI f,a8 d,au b,a8 a,aI c,a8 t,au u,x]]=some (.tup [.bW 1 (jX (uA (⟨v,⟨n,h,m⟩,q,⟨⟨⟨k,i,o⟩,j⟩,f⟩,⟨⟨d,b,a⟩,c⟩,⟨t,u⟩,l⟩:aK)++(AI ⟨⟨d,b,a⟩,c⟩++fD l))) none,aI 0]):=by
 refine aG rfl (by kernel_rfl) (AT _ _ _ λg=>?_)
 have M:=oH v n h m q k i o j f d b a c t u E N
 rw[z]at M
 subst Q
 have T:gU ⟨n,h,m⟩=true:=by simp only[m0,bh]at z;exact z.1
 have D:=RA z
 have U:D2 ⟨⟨k,i,o⟩,j⟩=true:=by
  have:=D
  simp only[eP,bh]at this
  exact this.1
 obtain⟨K,hlen,y⟩:(gf ⟨⟨d,b,a⟩,c⟩||D2 ⟨⟨d,b,a⟩,c⟩)=true/\(l.length:Int)=f/\JX l=true:=by
  simp only[m0,bh]at z
  have:=z.2.2.2.2
  simp[BV,GX]at this
  refine⟨by simpa using this.2.1,this.2.2.2.1,this.2.2.2.2⟩
 obtain⟨G,L,J⟩:=Zp y
 have H:=gz D
 simp only at H
 have w:=Wp E (by omega) J
 rw[if_pos G]at w
 have S:=yV l
 have F:jX (fD l)≠[]:=by
  intro e
  have:=congrArg List.length e
  have V:(jX (fD l)).length=(fD l).length:=by simp
  simp only[Fq]at this
  omega
 rw[CL 1 F]at w
 clear z y G J H
 have X:=Gy 1 ⟨n,h,m⟩ q ⟨⟨k,i,o⟩,j⟩ f
 unfold uA
 have P:([(1:UInt8)]++(jO ⟨n,h,m⟩++(be 3 q++(kF ⟨⟨k,i,o⟩,j⟩++[u8 f])))).length=24:=by simp
 generalize ([(1:UInt8)]++(jO ⟨n,h,m⟩++(be 3 q++(kF ⟨⟨k,i,o⟩,j⟩++[u8 f]))))=C at *
 generalize fD l=R at *
 cases p:gf ⟨⟨d,b,a⟩,c⟩ with
 | true=>
  have I:=PG C (List.replicate 13 0) R none (by simp) (by omega) (by simp;omega)
  rw[show AI ⟨⟨d,b,a⟩,c⟩=List.replicate 13 0 by unfold AI;rw[if_pos p]]
  obtain⟨⟨⟨rfl,rfl⟩,rfl⟩,rfl⟩:((d=0/\b=0)/\a=0)/\c=0:=by simpa [gf] using p
  have A:jX (List.replicate 13 0)=[a8 0,a8 0,a8 0,a8 0,a8 0,a8 0,a8 0,a8 0,a8 0,a8 0,a8 0,a8 0,a8 0]:=rfl
  rw[A]at I
  generalize jX (C++(List.replicate 13 0++R))=W at *
  clear p K hlen
  simp[af,ah,ad,ae,aa, *,uJ,E.r,bad,gm,fw,fJ,bU]
 | false=>
  rw[p,Dt]at K
  have I:=PG C (kF ⟨⟨d,b,a⟩,c⟩) R none (by simp) (by omega) (by simp;omega)
  rw[show AI ⟨⟨d,b,a⟩,c⟩=kF ⟨⟨d,b,a⟩,c⟩ by unfold AI;rw[if_neg (by rw[p];decide)]]
  generalize jX (C++(kF ⟨⟨d,b,a⟩,c⟩++R))=W at *
  have O:(decide (d=0)&&decide (b=0)&&decide (a=0)&&decide (c=0))=false:=p
  clear p hlen
  simp[af,ah,ad,ae,aa, *,uJ,E.r,bad,gm,fw,fJ,bU]
end Go.Proofs.YtmkmimgokagimaaGreat
namespace Go.Proofs.YtmkmimgokagimaaGreat
open Go.Ab
attribute [local simp] aW aJ aH aV aU cr ld bf aQ aT cz cw bI bg aC bH gh
theorem Eb{f:FuncId}(a:(env.mode f == 2)=true)(dep:Nat)(H:ai)(r:Ref)(first args captured:List AV) :
 bJ env true (aF env) (cg env dep) H r (some (.fn (.func f) first captured)) args=cg env dep (.fn f) (first++args++captured) H:=by
 have h:env.mode f=2:=by simpa using a
 simp[bJ,ku,m7,mQ,E3,h]
end Go.Proofs.YtmkmimgokagimaaGreat
namespace Go.Proofs.YtmkmimgokagimaaGreat
open Go.Ab
def uv(o:aK):List UInt8:=uA o++(if o.kind=1 then AI o.a++fD o.l else if o.kind=3 then o.to.lv :: be 4 o.to.cats.toNat else [])
theorem MV(o:aK):(uA o).length=24:=by simp[uA]
theorem DT{o:aK}(h:m0 o=true):1<=o.serial/\o.serial<16777216/\(1<=o.s.f.n/\o.s.f.n<=1099511627776)/\1<=o.s.many/\o.s.many<=64 /\
 ((o.kind=1/\o.to=⟨0,0⟩/\(o.a=qX\/(1<=o.a.n/\o.a.n<=1099511627776))/\(o.l.length:Int)=o.s.many/\JX o.l=true)\/(o.kind=2/\o.to=⟨0,0⟩/\o.a=qX/\o.l=[])\/(o.kind=3/\o.a=qX/\o.l=[]/\o.to.lv<=15)):=by
 simp only[m0,bh,decide_eq_true_eq]at h
 obtain⟨m,j,k,d,hm⟩:=h
 have c:=gz d
 have i:=I3 (S1 d)
 refine⟨j,k,i,c.2.1,c.2.2.1,?_⟩
 have g : ∀t:jy,vQ t=true->t=⟨0,0⟩:=by
  rintro⟨a,b⟩ h;simp[vQ]at h;rw[h.1,h.2]
 unfold BV at hm
 split at hm
 ·rename_i k1
  simp only[GX,bh,fe,decide_eq_true_eq]at hm
  refine .inl ⟨k1,g _ hm.1,?_,hm.2.2.2.1,hm.2.2.2.2⟩
  rcases hm.2.1 with e | e
  ·exact .inl ((xd _).1 e)
  ·exact .inr (I3 e)
 ·split at hm
  ·rename_i k2
   simp only[MU,yi,bh,decide_eq_true_eq]at hm
   exact .inr (.inl ⟨k2,g _ hm.1,(xd _).1 hm.2.1,hm.2.2⟩)
  ·split at hm
   ·rename_i k3
    simp only[J1,yi,bh,decide_eq_true_eq]at hm
    exact .inr (.inr ⟨k3,(xd _).1 hm.1.1,hm.1.2,hm.2⟩)
   ·cases hm
def Li(o:aK):Nat:=if o.kind=1 then 37+4 * o.s.many.toNat else if o.kind=3 then 29 else 24
theorem Pr(a:bV):(AI a).length=13:=by unfold AI;split<;>simp
theorem L1{o:aK}(h:m0 o=true):(uv o).length=Li o:=by
 have hp:=DT h
 unfold uv Li
 rw[oT,MV]
 rcases hp.2.2.2.2.2 with ⟨k,_,_,a,_⟩ | ⟨k,_⟩ | ⟨k,_⟩
 ·rw[if_pos k,if_pos k,oT,Pr,yV];omega
 ·rw[k];rfl
 ·rw[k];simp
end Go.Proofs.YtmkmimgokagimaaGreat
namespace Go.Proofs.YtmkmimgokagimaaGreat
open Go.Ab
attribute [local simp] aW aJ aH aV aU cr ld bf aQ aT cz cw bI bg aC bH gh
theorem Lh{o:aK}(h:m0 o=true):24<=Li o/\Li o<=293:=by
 have hp:=DT h
 unfold Li
 split
 ·omega
 ·split<;>omega
def ZJ(o:aK):AV:=if m0 o then .tup [.bW 1 (jX (uv o)) none,aI 0] else .tup [ct,aI 8]
theorem Ww(h:UInt8)(p:UInt8)(i:UInt32)(o:UInt8)(n:Int)(m:UInt8)(j:UInt32)(q:UInt8)(k:Int)(g:Int)(f:UInt8)(b:UInt32)(a:UInt8)(d:Int)(c:UInt8)(e:UInt32){x:AV}{l:List Int}(v:Sl 1 (rows l) x)(w:l.length<2000000):aF env 163 [.agg [a8 h,a8 p,au i,a8 o,aI n,a8 m,au j,a8 q,aI k,aI g,a8 f,au b,a8 a,aI d,a8 c,au e,x]]=some (ZJ (⟨h,⟨p,i,o⟩,n,⟨⟨⟨m,j,q⟩,k⟩,g⟩,⟨⟨f,b,a⟩,d⟩,⟨c,e⟩,l⟩:aK)):=by
 unfold ZJ
 cases u:m0 (⟨h,⟨p,i,o⟩,n,⟨⟨⟨m,j,q⟩,k⟩,g⟩,⟨⟨f,b,a⟩,d⟩,⟨c,e⟩,l⟩:aK) with
 | false=>rw[Tv h p i o n m j q k g f b a d c e v w u];rfl
 | true=>
  have hp:=DT u
  rw[if_pos rfl]
  unfold uv
  rcases hp.2.2.2.2.2 with ⟨t,_⟩ | ⟨t,_⟩ | ⟨t,_⟩
  ·rw[Ty h p i o n m j q k g f b a d c e v w u t,if_pos t]
  ·simp only at t
   rw[Tx h p i o n m j q k g f b a d c e v w u t,if_neg (by simp[t]),if_neg (by simp[t]),tq]
  ·simp only at t
   rw[Tw h p i o n m j q k g f b a d c e v w u t,if_neg (by simp[t]),if_pos t]
def Hi(v:UInt8)(c:UInt32)(ok:Bool):Bool:=decide (v<=15)&&(ok||(decide (v=0)&&decide (c=0)))
def wW(a:Int)(v:UInt8)(c:UInt32)(ok:Bool):Bool:=decide (0<=a)&&decide (a<8)&&Hi v c ok
@[simp] theorem Lu(a:Int)(v:UInt8)(c:UInt32)(ok:Bool):aF env 202 [.agg [aI a,a8 v,au c,aB ok]]=some (aI (bad (wW a v c ok))):=by
 refine aG rfl (by kernel_rfl) (Gc _ _ _ λg=>?_)
 cases ok
 ·simp[af,ah,ad,ae,aa, *,vB,fJ,bU]
  repeat' ((first | refine iK (λh=>?_) (λh=>?_) | refine fQ (λh=>?_) (λh=>?_) | refine fR (λh=>?_) (λh=>?_) | refine fO (λh=>?_) (λh=>?_) | refine fP (λh=>?_) (λh=>?_))<;>(try simp only[decide_eq_true_eq,decide_eq_false_iff_not,dV,kp,bh,fe]at h)<;>(try simp[af,ah,ad,ae,aa, *,fJ,bU,wW,Hi,bad]))
  all_goals (try grind)
 ·simp[af,ah,ad,ae,aa, *,vB,fJ,bU]
  repeat' ((first | refine iK (λh=>?_) (λh=>?_) | refine fQ (λh=>?_) (λh=>?_) | refine fR (λh=>?_) (λh=>?_) | refine fO (λh=>?_) (λh=>?_) | refine fP (λh=>?_) (λh=>?_))<;>(try simp only[decide_eq_true_eq,decide_eq_false_iff_not,dV,kp,bh,fe]at h)<;>(try simp[af,ah,ad,ae,aa, *,fJ,bU,wW,Hi,bad]))
  all_goals (try grind)
def G5(a:Int)(v:UInt8)(c:UInt32)(ok:Bool):List UInt8:=u8 a :: (if ok then 1 else 0) :: v :: be 4 c.toNat
@[simp] theorem ahi(a:Int)(v:UInt8)(c:UInt32)(ok:Bool):aF env 164 [.agg [aI a,a8 v,au c,aB ok]]=some (if wW a v c ok then .tup [.bW 1 (jX (G5 a v c ok)) none,aI 0] else .tup [ct,aI 8]):=by
 refine aG rfl (by kernel_rfl) (JK _ _ _ λg=>?_)
 by_cases h:wW a v c ok=true
 ·have b:v<=15:=by simp[wW,Hi]at h;exact h.2.1
  have d:gU ⟨v,c,0⟩=true:=by simp[gU,b]
  cases ok<;>simp[af,ah,ad,ae,aa, *,zt,bad,G5,jO,jX,Pn]
 ·simp at h
  simp[af,ah,ad,ae,aa, *,zt,bad]
structure cH where
 kind:UInt8
 user:Int
 op:aK
 code:Int
 gu:Int
 gv:UInt8
 gc:UInt32
 gok:Bool
def mJ(a b:cH):Bool:=decide (a.kind=b.kind)&&(decide (a.user=b.user)&&(od a.op b.op&&(decide (a.code=b.code)&&(decide (a.gu=b.gu)&&(decide (a.gv=b.gv)&&decide (a.gc=b.gc)&&decide (a.gok=b.gok))))))
theorem QY(k1 k2:UInt8)(O P:Int)(t:UInt8)(M:UInt8)(F:UInt32)(L:UInt8)(K:Int)(I:UInt8)(H:UInt32)(A:UInt8)(v:Int)(p:Int)(i:UInt8)(d:UInt32)(c:UInt8)(f:Int)(e:UInt8)(n:UInt32)(z:UInt8)(E:UInt8)(D:UInt32)(C:UInt8)(u:Int)(w:UInt8)(J:UInt32)(G:UInt8)(N:Int)(o:Int)(h:UInt8)(k:UInt32)(q:UInt8)(j:Int)(a:UInt8)(b:UInt32)(c1 c2 Y Z:Int)(U V:UInt8)(R Q:UInt32)(S T:Bool){x y:AV}{l m:List Int}(X:Sl 1 (rows l) x)(W:Sl 1 (rows m) y)(hl:l.length<1000000000) :
 aF env 165 [.agg [a8 k1,aI O,a8 t,a8 M,au F,a8 L,aI K,a8 I,au H,a8 A,aI v,aI p,a8 i,au d,a8 c,aI f,a8 e,au n,x,aI c1,aI Y,a8 U,au R,aB S],.agg [a8 k2,aI P,a8 z,a8 E,au D,a8 C,aI u,a8 w,au J,a8 G,aI N,aI o,a8 h,au k,a8 q,aI j,a8 a,au b,y,aI c2,aI Z,a8 V,au Q,aB T]] =
  some (aB (mJ ⟨k1,O,(⟨t,⟨M,F,L⟩,K,⟨⟨⟨I,H,A⟩,v⟩,p⟩,⟨⟨i,d,c⟩,f⟩,⟨e,n⟩,l⟩:aK),c1,Y,U,R,S⟩ ⟨k2,P,(⟨z,⟨E,D,C⟩,u,⟨⟨⟨w,J,G⟩,N⟩,o⟩,⟨⟨h,k,q⟩,j⟩,⟨a,b⟩,m⟩:aK),c2,Z,V,Q,T⟩)):=by
 refine aG rfl (by kernel_rfl) (F5 _ _ _ _ λg=>?_)
 have hq:=Tu t M F L K I H A v p i d c f e n z E D C u w J G N o h k q j a b X W hl
 have hr:=X.r
 have hr2:=W.r
 unfold mJ
 cases e1:decide (k1=k2) with
 | false=>simp[af,ah,ad,ae,aa, *,mv,fJ,bU]
 | true=>
 cases e2:decide (O=P) with
 | false=>simp[af,ah,ad,ae,aa, *,mv,fJ,bU]
 | true=>
 cases e3:od (⟨t,⟨M,F,L⟩,K,⟨⟨⟨I,H,A⟩,v⟩,p⟩,⟨⟨i,d,c⟩,f⟩,⟨e,n⟩,l⟩:aK) (⟨z,⟨E,D,C⟩,u,⟨⟨⟨w,J,G⟩,N⟩,o⟩,⟨⟨h,k,q⟩,j⟩,⟨a,b⟩,m⟩:aK) with
 | false=>simp[af,ah,ad,ae,aa, *,mv,fJ,bU]
 | true=>
 cases e4:decide (c1=c2) with
 | false=>simp[af,ah,ad,ae,aa, *,mv,fJ,bU]
 | true=>simp[af,ah,ad,ae,aa, *,mv,fJ,bU]
def zD:aK:=⟨0,⟨0,0,0⟩,0,⟨⟨⟨0,0,0⟩,0⟩,0⟩,⟨⟨0,0,0⟩,0⟩,⟨0,0⟩,[]⟩
def FT(r:cH):cH:=if r.kind=1 then ⟨1,r.user, { zD with h:=r.op.h},0,0,0,0,false⟩ else if r.kind=2 then ⟨2,0,r.op,r.code,0,0,0,false⟩ else ⟨r.kind,0,zD,0,r.gu,r.gv,r.gc,r.gok⟩
def cT(r:cH):Bool:=if r.kind=1 then (decide (0<=r.user)&&decide (r.user<=255))&&(gU r.op.h&&mJ r (FT r)) else if r.kind=2 then (!decide (-1∈r.op.l)&&decide (0<=r.code)&&decide (r.code<65536))&&(m0 r.op&&mJ r (FT r)) else if r.kind=3 then wW r.gu r.gv r.gc r.gok&&mJ r (FT r) else false
def HP(r:cH):AV:=if r.kind=1 then .bW 1 (jX (r.kind :: ((if gU r.op.h then jO r.op.h else [])++[u8 r.user]))) none
 else if r.kind=2 then .bW 1 (jX (r.kind :: ([u8 (r.code / 256),u8 r.code]++(if m0 r.op then uv r.op else [])))) none
 else if r.kind=3 then (if wW r.gu r.gv r.gc r.gok then .bW 1 (jX (r.kind :: G5 r.gu r.gv r.gc r.gok)) none else .bW 1 [a8 r.kind] (some 1)) else .bW 1 [a8 r.kind] (some 1)
set_option maxHeartbeats 800000 in
theorem Od(k:UInt8)(u:Int)(t:UInt8)(q:UInt8)(n:UInt32)(p:UInt8)(E:Int)(D:UInt8)(C:UInt32)(A:UInt8)(z:Int)(j:Int)(f:UInt8)(b:UInt32)(a:UInt8)(e:Int)(d:UInt8)(i:UInt32)(c F:Int)(v:UInt8)(w:UInt32)(o:Bool){x:AV}{l:List Int}(P:Sl 1 (rows l) x)(hl:l.length<2000000) :
 aF env 101 [.agg [a8 k,aI u,a8 t,a8 q,au n,a8 p,aI E,a8 D,au C,a8 A,aI z,aI j,a8 f,au b,a8 a,aI e,a8 d,au i,x,aI c,aI F,a8 v,au w,aB o]]=some (.tup [HP ⟨k,u,(⟨t,⟨q,n,p⟩,E,⟨⟨⟨D,C,A⟩,z⟩,j⟩,⟨⟨f,b,a⟩,e⟩,⟨d,i⟩,l⟩:aK),c,F,v,w,o⟩,aB (cT ⟨k,u,(⟨t,⟨q,n,p⟩,E,⟨⟨⟨D,C,A⟩,z⟩,j⟩,⟨⟨f,b,a⟩,e⟩,⟨d,i⟩,l⟩:aK),c,F,v,w,o⟩)]):=by
 refine aG rfl (by kernel_rfl) (qN _ _ _ λg=>?_)
 have hr:=P.r
 have G:=λk' u' (V:UInt8) (Z:UInt8) (Y:UInt32) (X:UInt8) (T:Int) (U:UInt8) (b_7:UInt32) (b_8:UInt8) (b_9:Int) (R:Int) (N:UInt8) (Q:UInt32) (S:UInt8) (O:Int) (K:UInt8) (L:UInt32) c' g' v' w' o' (y:AV) (m:List Int) (hy:Sl 1 (rows m) y)=>QY k k' u u' t q n p E D C A z j f b a e d i V Z Y X T U b_7 b_8 b_9 R N Q S O K L c c' F g' v v' w w' o o' P hy (by omega)
 by_cases k1:k=1
 ·subst k1
  have hs:=G 1 u 0 q n p 0 0 0 0 0 0 0 0 0 0 0 0 0 0 0 0 false ct [] (.inl ⟨rfl,rfl⟩)
  have J:cT ⟨1,u,(⟨t,⟨q,n,p⟩,E,⟨⟨⟨D,C,A⟩,z⟩,j⟩,⟨⟨f,b,a⟩,e⟩,⟨d,i⟩,l⟩:aK),c,F,v,w,o⟩=((decide (0<=u)&&decide (u<=255))&&(gU ⟨q,n,p⟩&&mJ ⟨1,u,(⟨t,⟨q,n,p⟩,E,⟨⟨⟨D,C,A⟩,z⟩,j⟩,⟨⟨f,b,a⟩,e⟩,⟨d,i⟩,l⟩:aK),c,F,v,w,o⟩ ⟨1,u,⟨0,⟨q,n,p⟩,0,⟨⟨⟨0,0,0⟩,0⟩,0⟩,⟨⟨0,0,0⟩,0⟩,⟨0,0⟩,[]⟩,0,0,0,0,false⟩)):=rfl
  have I:HP ⟨1,u,(⟨t,⟨q,n,p⟩,E,⟨⟨⟨D,C,A⟩,z⟩,j⟩,⟨⟨f,b,a⟩,e⟩,⟨d,i⟩,l⟩:aK),c,F,v,w,o⟩ = .bW 1 (jX (1 :: ((if gU ⟨q,n,p⟩ then jO ⟨q,n,p⟩ else [])++[u8 u]))) none:=rfl
  rw[J,I]
  clear G J I
  generalize mJ ⟨1,u,(⟨t,⟨q,n,p⟩,E,⟨⟨⟨D,C,A⟩,z⟩,j⟩,⟨⟨f,b,a⟩,e⟩,⟨d,i⟩,l⟩:aK),c,F,v,w,o⟩ ⟨1,u,⟨0,⟨q,n,p⟩,0,⟨⟨⟨0,0,0⟩,0⟩,0⟩,⟨⟨0,0,0⟩,0⟩,⟨0,0⟩,[]⟩,0,0,0,0,false⟩=sm at *
  cases M:gU ⟨q,n,p⟩<;>by_cases c0:0<=u<;>by_cases c2:u<=255
  all_goals simp[af,ah,ad,ae,aa, *,cC,jO,jX,Pn]
 ·by_cases k2:k=2
  ·subst k2
   have hs:=G 2 0 t q n p E D C A z j f b a e d i c 0 0 0 false x l P
   have J:cT ⟨2,u,(⟨t,⟨q,n,p⟩,E,⟨⟨⟨D,C,A⟩,z⟩,j⟩,⟨⟨f,b,a⟩,e⟩,⟨d,i⟩,l⟩:aK),c,F,v,w,o⟩=((!decide (-1∈l)&&decide (0<=c)&&decide (c<65536))&&(m0 (⟨t,⟨q,n,p⟩,E,⟨⟨⟨D,C,A⟩,z⟩,j⟩,⟨⟨f,b,a⟩,e⟩,⟨d,i⟩,l⟩:aK)&&mJ ⟨2,u,(⟨t,⟨q,n,p⟩,E,⟨⟨⟨D,C,A⟩,z⟩,j⟩,⟨⟨f,b,a⟩,e⟩,⟨d,i⟩,l⟩:aK),c,F,v,w,o⟩ ⟨2,0,(⟨t,⟨q,n,p⟩,E,⟨⟨⟨D,C,A⟩,z⟩,j⟩,⟨⟨f,b,a⟩,e⟩,⟨d,i⟩,l⟩:aK),c,0,0,0,false⟩)):=rfl
   have I:HP ⟨2,u,(⟨t,⟨q,n,p⟩,E,⟨⟨⟨D,C,A⟩,z⟩,j⟩,⟨⟨f,b,a⟩,e⟩,⟨d,i⟩,l⟩:aK),c,F,v,w,o⟩ = .bW 1 (jX (2 :: ([u8 (c / 256),u8 c]++(if m0 (⟨t,⟨q,n,p⟩,E,⟨⟨⟨D,C,A⟩,z⟩,j⟩,⟨⟨f,b,a⟩,e⟩,⟨d,i⟩,l⟩:aK) then uv (⟨t,⟨q,n,p⟩,E,⟨⟨⟨D,C,A⟩,z⟩,j⟩,⟨⟨f,b,a⟩,e⟩,⟨d,i⟩,l⟩:aK) else [])))) none:=rfl
   have hP:=Q9 t q n p E D C A z j f b a e d i P (by omega)
   have W:=Ww t q n p E D C A z j f b a e d i P hl
   rw[J,I]
   unfold ZJ at W
   have H:m0 (⟨t,⟨q,n,p⟩,E,⟨⟨⟨D,C,A⟩,z⟩,j⟩,⟨⟨f,b,a⟩,e⟩,⟨d,i⟩,l⟩:aK)=true->(uv (⟨t,⟨q,n,p⟩,E,⟨⟨⟨D,C,A⟩,z⟩,j⟩,⟨⟨f,b,a⟩,e⟩,⟨d,i⟩,l⟩:aK)).length<=293/\24<=(uv (⟨t,⟨q,n,p⟩,E,⟨⟨⟨D,C,A⟩,z⟩,j⟩,⟨⟨f,b,a⟩,e⟩,⟨d,i⟩,l⟩:aK)).length:=λh=>by rw[L1 h];exact⟨(Lh h).2,(Lh h).1⟩
   clear G J I
   generalize mJ ⟨2,u,(⟨t,⟨q,n,p⟩,E,⟨⟨⟨D,C,A⟩,z⟩,j⟩,⟨⟨f,b,a⟩,e⟩,⟨d,i⟩,l⟩:aK),c,F,v,w,o⟩ ⟨2,0,(⟨t,⟨q,n,p⟩,E,⟨⟨⟨D,C,A⟩,z⟩,j⟩,⟨⟨f,b,a⟩,e⟩,⟨d,i⟩,l⟩:aK),c,0,0,0,false⟩=sm at *
   generalize uv (⟨t,⟨q,n,p⟩,E,⟨⟨⟨D,C,A⟩,z⟩,j⟩,⟨⟨f,b,a⟩,e⟩,⟨d,i⟩,l⟩:aK)=bs at *
   generalize decide (-1∈l)=pl at *
   cases M:m0 (⟨t,⟨q,n,p⟩,E,⟨⟨⟨D,C,A⟩,z⟩,j⟩,⟨⟨f,b,a⟩,e⟩,⟨d,i⟩,l⟩:aK) with
   | false=>
    rw[M,if_neg (by decide)]at W
    clear H
    cases pl<;>by_cases c0:0<=c<;>by_cases c2:c<65536
    all_goals simp[af,ah,ad,ae,aa, *,cC,jX,gm,fw]
   | true=>
    rw[M,if_pos rfl]at W
    have hl2:=H M
    have f1:bs.length+1<=140737488355328/\bs.length+1+1<=140737488355328/\bs.length+1+1+1<=140737488355328:=by omega
    have f0:2+bs.length=bs.length+1+1:=by omega
    have f3:1+(bs.length+1+1)<=140737488355328/\1+(bs.length+1+1)=bs.length+1+1+1:=by omega
    have f2:2+bs.length<=140737488355328/\1+(2+bs.length)<=140737488355328/\2<2+bs.length/\0<bs.length:=by omega
    have hne:bs≠[]:=by rintro rfl;simp at f2
    clear H
    cases pl<;>by_cases c0:0<=c<;>by_cases c2:c<65536
    all_goals simp[af,ah,ad,ae,aa, *,cC,jX,gm,fw]
  ·by_cases k3:k=3
   ·subst k3
    have hs:=G 3 0 0 0 0 0 0 0 0 0 0 0 0 0 0 0 0 0 0 F v w o ct [] (.inl ⟨rfl,rfl⟩)
    have J:cT ⟨3,u,(⟨t,⟨q,n,p⟩,E,⟨⟨⟨D,C,A⟩,z⟩,j⟩,⟨⟨f,b,a⟩,e⟩,⟨d,i⟩,l⟩:aK),c,F,v,w,o⟩=(wW F v w o&&mJ ⟨3,u,(⟨t,⟨q,n,p⟩,E,⟨⟨⟨D,C,A⟩,z⟩,j⟩,⟨⟨f,b,a⟩,e⟩,⟨d,i⟩,l⟩:aK),c,F,v,w,o⟩ ⟨3,0,⟨0,⟨0,0,0⟩,0,⟨⟨⟨0,0,0⟩,0⟩,0⟩,⟨⟨0,0,0⟩,0⟩,⟨0,0⟩,[]⟩,0,F,v,w,o⟩):=rfl
    have I:HP ⟨3,u,(⟨t,⟨q,n,p⟩,E,⟨⟨⟨D,C,A⟩,z⟩,j⟩,⟨⟨f,b,a⟩,e⟩,⟨d,i⟩,l⟩:aK),c,F,v,w,o⟩=if wW F v w o then .bW 1 (jX (3 :: G5 F v w o)) none else .bW 1 [a8 3] (some 1):=rfl
    rw[J,I]
    clear G J I
    generalize mJ ⟨3,u,(⟨t,⟨q,n,p⟩,E,⟨⟨⟨D,C,A⟩,z⟩,j⟩,⟨⟨f,b,a⟩,e⟩,⟨d,i⟩,l⟩:aK),c,F,v,w,o⟩ ⟨3,0,⟨0,⟨0,0,0⟩,0,⟨⟨⟨0,0,0⟩,0⟩,0⟩,⟨⟨0,0,0⟩,0⟩,⟨0,0⟩,[]⟩,0,F,v,w,o⟩=sm at *
    cases M:wW F v w o
    all_goals simp[af,ah,ad,ae,aa, *,cC,G5,jX,Pn]
   ·have J:cT ⟨k,u,(⟨t,⟨q,n,p⟩,E,⟨⟨⟨D,C,A⟩,z⟩,j⟩,⟨⟨f,b,a⟩,e⟩,⟨d,i⟩,l⟩:aK),c,F,v,w,o⟩=false:=by unfold cT;rw[if_neg k1,if_neg k2,if_neg k3]
    have I:HP ⟨k,u,(⟨t,⟨q,n,p⟩,E,⟨⟨⟨D,C,A⟩,z⟩,j⟩,⟨⟨f,b,a⟩,e⟩,⟨d,i⟩,l⟩:aK),c,F,v,w,o⟩ = .bW 1 [a8 k] (some 1):=by unfold HP;rw[if_neg k1,if_neg k2,if_neg k3]
    rw[J,I]
    clear G J I
    simp[af,ah,ad,ae,aa, *,cC]
def cH.val(r:cH)(x:AV):AV := .agg [a8 r.kind,aI r.user,a8 r.op.kind,a8 r.op.h.lv,au r.op.h.cats,a8 r.op.h.num,aI r.op.serial,a8 r.op.s.f.h.lv,au r.op.s.f.h.cats,a8 r.op.s.f.h.num,aI r.op.s.f.n,aI r.op.s.many,
 a8 r.op.a.h.lv,au r.op.a.h.cats,a8 r.op.a.h.num,aI r.op.a.n,a8 r.op.to.lv,au r.op.to.cats,x,aI r.code,aI r.gu,a8 r.gv,au r.gc,aB r.gok]
def z6(p:cH × AV):Prop:=Sl 1 (rows p.1.op.l) p.2/\p.1.op.l.length<1000000
def bY(l:List (cH × AV)):List AV:=l.map λp=>p.1.val p.2
@[simp] theorem ew(l:List (cH × AV)):(bY l).length=l.length:=by simp[bY]
theorem Oc{p:cH × AV}(hp:z6 p):aF env 82 [p.1.val p.2]=some (aI (if cT p.1 then 0 else 8)):=by
 obtain⟨⟨k,u,⟨m,⟨D,n,C⟩,A,⟨⟨⟨y,q,E⟩,t⟩,j⟩,⟨⟨i,d,a⟩,f⟩,⟨e,h⟩,l⟩,c,F,v,w,o⟩,x⟩:=p
 obtain⟨G,I⟩:=hp
 simp only at G I
 refine aG rfl (by kernel_rfl) (EU _ _ _ λg=>?_)
 have K:=Od k u m D n C A y q E t j i d a f e h c F v w o G (by omega)
 have J:=G.r
 have H:HP ⟨k,u,(⟨m,⟨D,n,C⟩,A,⟨⟨⟨y,q,E⟩,t⟩,j⟩,⟨⟨i,d,a⟩,f⟩,⟨e,h⟩,l⟩:aK),c,F,v,w,o⟩ = .bW 1 [a8 k] (some 1) \/∃es,HP ⟨k,u,(⟨m,⟨D,n,C⟩,A,⟨⟨⟨y,q,E⟩,t⟩,j⟩,⟨⟨i,d,a⟩,f⟩,⟨e,h⟩,l⟩:aK),c,F,v,w,o⟩ = .bW 1 es none:=by
  unfold HP
  repeat' (split)
  all_goals (first | exact .inl rfl | exact .inr ⟨_,rfl⟩)
 generalize HP ⟨k,u,(⟨m,⟨D,n,C⟩,A,⟨⟨⟨y,q,E⟩,t⟩,j⟩,⟨⟨i,d,a⟩,f⟩,⟨e,h⟩,l⟩:aK),c,F,v,w,o⟩=z at *
 unfold cH.val
 generalize cT ⟨k,u,(⟨m,⟨D,n,C⟩,A,⟨⟨⟨y,q,E⟩,t⟩,j⟩,⟨⟨i,d,a⟩,f⟩,⟨e,h⟩,l⟩:aK),c,F,v,w,o⟩=b at *
 rcases H with rfl | ⟨es,rfl⟩<;>cases b<;>simp[af,ah,ad,ae,aa, *,zP]
def u4:AV->AV
 | .bW z [] _ => .bW z [] (some 0)
 | .bW z es _ => .bW z es none
 | x=>x
theorem K8(z:Nat){es:List AV}(c:Option Nat)(h:es≠[]):u4 (.bW z es c) = .bW z es none:=by
 cases es with
 | nil=>exact absurd rfl h
 | cons _ _=>rfl
theorem Tt(j:UInt8)(t:UInt8)(k:UInt32)(q:UInt8)(p:Int)(o:UInt8)(m:UInt32)(u:UInt8)(n:Int)(i:Int)(f:UInt8)(b:UInt32)(a:UInt8)(d:Int)(c:UInt8)(e:UInt32){x:AV}{l:List Int}(C:Sl 1 (rows l) x)(E:l.length<1000000) : ∃y,y=u4 x/\Sl 1 (rows l) y/\aF env 108 [.agg [a8 j,a8 t,au k,a8 q,aI p,a8 o,au m,a8 u,aI n,aI i,a8 f,au b,a8 a,aI d,a8 c,au e,x]]=some (.agg [a8 j,a8 t,au k,a8 q,aI p,a8 o,au m,a8 u,aI n,aI i,a8 f,au b,a8 a,aI d,a8 c,au e,y]):=by
 have v:=IF C (by omega) (by omega)
 rcases C with ⟨rfl,h⟩ | ⟨A,rfl,w⟩
 ·refine⟨ct,rfl,.inl ⟨rfl,h⟩,?_⟩
  refine aG rfl (by kernel_rfl) (BO _ _ _ λg=>?_)
  rw[Vi]at v
  simp[af,ah,ad,ae,aa, *,zq]
 ·by_cases z:rows l=[]
  ·rw[z]at v w ⊢
   refine⟨.bW 1 [] (some 0),rfl,.inr ⟨_,rfl,by simp⟩,?_⟩
   refine aG rfl (by kernel_rfl) (BO _ _ _ λg=>?_)
   rw[Pe]at v
   simp[af,ah,ad,ae,aa, *,zq]
  ·refine⟨.bW 1 (rows l) none,(K8 1 A z).symm,Sl.mk _ _,?_⟩
   rw[sW 1 A z]at v
   have D:(rows l).length=l.length:=by simp
   generalize rows l=rw' at *
   refine aG rfl (by kernel_rfl) (BO _ _ _ λg=>?_)
   simp[af,ah,ad,ae,aa, *,zq]
theorem Wr{p:cH × AV}(hp:z6 p) : ∃y,y=u4 p.2/\Sl 1 (rows p.1.op.l) y/\aF env 161 [p.1.val p.2]=some (p.1.val y):=by
 obtain⟨⟨k,u,⟨j,⟨D,m,C⟩,A,⟨⟨⟨t,n,E⟩,q⟩,i⟩,⟨⟨h,b,a⟩,e⟩,⟨d,f⟩,l⟩,c,L,v,w,o⟩,x⟩:=p
 obtain⟨z,H⟩:=hp
 simp only at z H
 obtain⟨y,G,F,J⟩:=Tt j D m C A t n E q i h b a e d f z H
 refine⟨y,G,F,?_⟩
 clear G
 refine aG rfl (by kernel_rfl) (F4 _ _ _ λg=>?_)
 unfold cH.val
 have K:=z.r
 have I:=F.r
 simp[af,ah,ad,ae,aa, *,AJ]
end Go.Proofs.YtmkmimgokagimaaGreat
namespace Go.Proofs.YtmkmimgokagimaaGreat
open Go.Ab Go.ChangeShapes Go.WideShapes Go.RowKit
theorem aeG:env.Ok (D7 env):=Qk (ia ldAlive.alive Ma) (by kernel_rfl) O8 (λf t h=>by cases h) (λf args H y H' h=>by cases h)
theorem WH:Nq env.P 58 (λ_=>True) (λp:UInt8 × UInt32 × Bool=>[a8 p.1,au p.2.1,aB p.2.2]):=by
 intro n xs h
 have h:=mg (P:=env.P) EJ h
 obtain⟨m,x,r,rfl,a,y,r',rfl,c,rfl⟩:=h
 obtain⟨q,_,rfl⟩:=A4 _ _ a
 obtain⟨b,_,rfl⟩:=LB (P:=env.P) (t:=4) (by simp) _ _ c
 exact⟨(q.1,q.2,b),trivial,rfl⟩
def ahj(p:cH × AV):List AV:=[a8 p.1.kind,aI p.1.user]++(YX (p.1.op,p.2)++[aI p.1.code,aI p.1.gu,a8 p.1.gv,au p.1.gc,aB p.1.gok])
theorem Zt:Nq env.P 58 (λ_=>True) Clear.enc:=by
 intro n xs h
 have h:=mg (P:=env.P) EJ h
 obtain⟨m,x,r,rfl,a,y,r',rfl,c,rfl⟩:=h
 obtain⟨p,_,rfl⟩:=A4 _ _ a
 obtain⟨b,_,rfl⟩:=LB (P:=env.P) (t:=4) (by simp) _ _ c
 exact⟨⟨p.1,p.2,b⟩,trivial,rfl⟩
theorem Zs:Nq env.P 81 (λ_=>True) ax.enc:=by
 intro n xs h
 have h:=mg (P:=env.P) MG h
 obtain⟨m,x,r,rfl,b,y,r',rfl,d,z,a,rfl,c,w,r3,rfl,e,rfl⟩:=h
 obtain⟨p,_,rfl⟩:=A4 _ _ b
 obtain⟨i,_,rfl⟩:=ra (P:=env.P) (t:=3) (by simp) _ _ d
 obtain⟨j,_,rfl⟩:=ra (P:=env.P) (t:=3) (by simp) _ _ c
 obtain⟨k,_,rfl⟩:=ra (P:=env.P) (t:=3) (by simp) _ _ e
 exact⟨⟨p.1,p.2,i,j,k⟩,trivial,rfl⟩
theorem Ze{n:Nat}{x:AV}(h:Sg env.P n 25 x) : ∃(us:List Clear) (qs:List ax) (gr:Int) (b a:AV),x = .agg [b,a,aI gr]/\Sl 3 (bZ us) b/\Sl 5 (bS qs) a:=by
 obtain⟨o,rfl,e⟩:=h.agg (by simp)
 have l:=mg (P:=env.P) MO e
 obtain⟨m,u,r,rfl,c,q,r',rfl,d,g,i,rfl,f,rfl⟩:=l
 have c:=Cx (P:=env.P) SU SO Wg Zt c
 obtain⟨us,b,_,rfl,j⟩:=c
 have d:=Cx (P:=env.P) SS SM We Zs d
 obtain⟨qs,a,_,rfl,k⟩:=d
 obtain⟨gr,_,rfl⟩:=ra (P:=env.P) (t:=3) (by simp) _ _ f
 exact⟨us,qs,gr,b,a,rfl,j,k⟩
end Go.Proofs.YtmkmimgokagimaaGreat
namespace Go.Proofs.YtmkmimgokagimaaGreat
open Go.Ab
attribute [local simp] aW aJ aH aV aU cr ld bf aQ aT cz cw bI bg aC bH gh
def aah(h:sj):Value := .agg #[.int .u8 h.lv.toNat,.int .u32 h.cats.toNat,.int .u8 h.num.toNat]
def aae(i:bV):Value := .agg #[.int .u8 i.h.lv.toNat,.int .u32 i.h.cats.toNat,.int .u8 i.h.num.toNat,.int .i64 i.n]
def ZZ(v:jy):Value := .agg #[.int .u8 v.lv.toNat,.int .u32 v.cats.toNat]
def z9(h:sj):AV := .agg [a8 h.lv,au h.cats,a8 h.num]
def z8(i:bV):AV := .agg [a8 i.h.lv,au i.h.cats,a8 i.h.num,aI i.n]
def xV(v:jy):AV := .agg [a8 v.lv,au v.cats]
theorem G3(h:sj):gJ (z9 h)=some (aah h):=rfl
theorem Mu(i:bV):gJ (z8 i)=some (aae i):=rfl
theorem GV(v:jy):gJ (xV v)=some (ZZ v):=rfl
theorem XH:(λ(e:Bool)(a b c:Int)(n:Int)=>bn env.P (Instr.checkKey e 10000 33 (.agg #[.int .u8 a,.int .u32 b,.int .u8 c,.int .i64 n])))=λ_ _ _ _ _=>some ():=by kernel_rfl
theorem XI:(λ(e:Bool)(a b c:Int)=>bn env.P (Instr.checkKey e 10000 31 (.agg #[.int .u8 a,.int .u32 b,.int .u8 c])))=λ_ _ _ _=>some ():=by kernel_rfl
theorem XG:(λ(e:Bool)(a b:Int)=>bn env.P (Instr.checkKey e 10000 29 (.agg #[.int .u8 a,.int .u32 b])))=λ_ _ _=>some ():=by kernel_rfl
theorem J8(d:TypeDesc)(u v:Array Value):Instr.sameNow d (.agg u) (.agg v)=none:=by
 unfold Instr.sameNow
 cases d<;>rfl
theorem U8{t:TypeId}{xs ys:List AV}{us f:List Value}{b:Bool}(e:E4 env.P 8 t=true)(h:fJ env.P 8 t xs ys=some b)(g:q9 xs=some us)(j:q9 ys=some f)(k:xs.length=env.P.cellsOf t)(d:ys.length=env.P.cellsOf t)(l:dI env.P t=some true) :
 bn env.P (Op.equal t (.agg us.toArray) (.agg f.toArray))=some b:=by
 obtain⟨u,v,a,c,i⟩:=U9 8 9992 t xs ys us f b e h g j k d
 unfold Ab.valOf at a c
 rw[l]at a c
 dsimp only at a c
 cases a
 cases c
 exact i
theorem P6:VI env.P 33 aae where
 chk:=λe a=>congrFun (congrFun (congrFun (congrFun (congrFun XH e) _) _) _) _
 eq:=λa b=>by
  have h:=U8 (t:=33) (xs:=[a8 a.h.lv,au a.h.cats,a8 a.h.num,aI a.n]) (ys:=[a8 b.h.lv,au b.h.cats,a8 b.h.num,aI b.n]) (b:=decide (a=b)) (by kernel_rfl)
   (by obtain⟨⟨a1,a2,a3⟩,a4⟩:=a;obtain⟨⟨b1,b2,b3⟩,b4⟩:=b;simp[fJ,bU,and_assoc,zE]) rfl rfl (by kernel_rfl) (by kernel_rfl) (by kernel_rfl)
  exact h
 now:=λd _ a b=>J8 d _ _
 und:=by kernel_rfl
 bits:=λa=>by simp[aae,Instr.sameBits]
theorem Ki:VI env.P 31 aah where
 chk:=λe a=>congrFun (congrFun (congrFun (congrFun XI e) _) _) _
 eq:=λa b=>by
  have h:=U8 (t:=31) (xs:=[a8 a.lv,au a.cats,a8 a.num]) (ys:=[a8 b.lv,au b.cats,a8 b.num]) (b:=decide (a=b)) (by kernel_rfl)
   (by obtain⟨a1,a2,a3⟩:=a;obtain⟨b1,b2,b3⟩:=b;simp[fJ,bU,and_assoc,zE]) rfl rfl (by kernel_rfl) (by kernel_rfl) (by kernel_rfl)
  exact h
 now:=λd _ a b=>J8 d _ _
 und:=by kernel_rfl
 bits:=λa=>by simp[aah,Instr.sameBits]
theorem Kh:VI env.P 29 ZZ where
 chk:=λe a=>congrFun (congrFun (congrFun XG e) _) _
 eq:=λa b=>by
  have h:=U8 (t:=29) (xs:=[a8 a.lv,au a.cats]) (ys:=[a8 b.lv,au b.cats]) (b:=decide (a=b)) (by kernel_rfl)
   (by obtain⟨a1,a2⟩:=a;obtain⟨b1,b2⟩:=b;simp[fJ,bU,and_assoc,zE]) rfl rfl (by kernel_rfl) (by kernel_rfl) (by kernel_rfl)
  exact h
 now:=λd _ a b=>J8 d _ _
 und:=by kernel_rfl
 bits:=λa=>by simp[ZZ,Instr.sameBits]
end Go.Proofs.YtmkmimgokagimaaGreat
namespace Go.Proofs.YtmkmimgokagimaaGreat
open Go.Ab
attribute [local simp] aW aJ aH aV aU cr ld bf aQ aT cz cw bI bg aC bH gh
structure bF (H H':ai):Prop where
 fr:Fr H'
 old : ∀q b,H.get q=some b->H'.get q=some b
theorem bF.refl{H:ai}(h:Fr H):bF H H:=⟨h,λ_ _ h=>h⟩
theorem bF.trans{H H' a:ai}(h:bF H H')(c:bF H' a):bF H a:=⟨c.fr,λq b d=>c.old q b (h.old q b d)⟩
theorem bF.cons{H:ai}(hF:Fr H)(d t:Nat)(b:bz):bF H ((⟨d,t,H.gen d t,0⟩,some b) :: H):=
 ⟨by simp(maxDischargeDepth:=12) [ai.get_put,aq,aj,Fr.nil,aw,af,ah,ad,ae,ao,ak,aa, *],λq c a=>by rw[ai.tK,if_neg (pZ hF (by rw[a];rfl) _ _ _)];exact a⟩
theorem lO{f:FuncId}(hm:(env.mode f == 2)=true){dep:Nat}{H:ai}{r:Ref}{first args captured:List AV}{y:AV}{K:AV->ai->Prop}{m:Mk K}
 (h : ∃H',cg env dep (.fn f) (first++args++captured) H=some (y,H')/\bF H H') (c : ∀H',bF H H'->K y H') :
 m4 (bJ env true (aF env) (cg env dep) H r (some (.fn (.func f) first captured)) args) K m:=by
 obtain⟨H',a,b⟩:=h
 refine D9 (v:=y) (H:=H') ?_ (c H' b)
 rw[Eb hm]
 exact a
theorem eR{f:FuncId}{fn:Func}{c:Code}{dep:Nat}{args:List AV}{H:ai}{y:AV}(hm:env.mode f=2)(d:env.allowed f=true)(j:env.P.funcs[f]?=some fn)(e:fn.body=some c)(hl:Nat.ble args.length fn.ntmps=true)
 (h:bN env fn (dep+1) [.code c] (rL 0 args) H λx a=>x=y/\bF H a) (b:env.thrSpec f args H=none:=by rfl) : ∃H',cg env dep (.fn f) args H=some (y,H')/\bF H H':=by
 obtain⟨k,H',g,rfl,i⟩:=lB (Q:=λx a=>x=y/\bF H a) hm d j e hl h b
 exact⟨H',g,i⟩
structure AR (H:ai) (rh:Ref) (ops:List (aK × AV)) (ents:List (bV × AV)):Prop where
 box : ∃xo vo rm,H.get rh=some ⟨2,[.agg [xo,.mp rm]],false,false⟩/\kB 17 (cI ops) H xo vo/\H.get rm=some (bj (cF z8 ents))
theorem AR.grow{H H':ai}{rh:Ref}{ops:List (aK × AV)}{ents:List (bV × AV)}(h:AR H rh ops ents)(g:bF H H'):AR H' rh ops ents:=by
 obtain⟨k,e,rm,i,a,j⟩:=h.box
 refine⟨k,e,rm,g.old _ _ i,?_,g.old _ _ j⟩
 rcases a with a | ⟨r,c,fz,d,b,f⟩
 ·exact .inl a
 ·exact .inr ⟨r,c,fz,d,g.old _ _ b,f⟩
def fC(ents:List (bV × AV))(i:bV):Bool:=match bT i ents with | some (.v (.bool b))=>b | _=>false
def nJ(ents:List (bV × AV)):Prop :=∀p∈ents,p.2=aB true
theorem RH{ents:List (bV × AV)}(h:nJ ents)(i:bV):(bT i ents).getD (aB false)=aB (fC ents i):=by
 unfold fC
 induction ents with
 | nil=>rfl
 | cons p l b=>
  unfold bT
  split
  ·rename_i hp;rw[h p jn];rfl
  ·exact b λq a=>h q (il _ a)
def u6(ents:List (bV × AV))(o:aK)(i:bV):Bool:=fC ents i&&tU (Np i) (Ku o)
theorem P0{g:da}{rm:Ref}{ents:List (bV × AV)}(hb:nJ ents)(e:g rm=some (bj (cF z8 ents)))(c:UInt8)(b:UInt32)(a:UInt8)(d:Int):eU env.P g 264 (some (.mp rm)) (some (.agg [a8 c,au b,a8 a,aI d])) false=some (aB (fC ents (⟨⟨c,b,a⟩,d⟩:bV)),[]):=by
 have h:=As P6 Mu (t:=264) (et:=4) (by kernel_rfl) (z:=aB false) (by kernel_rfl) e (⟨⟨c,b,a⟩,d⟩:bV) false
 rw[RH hb]at h
 exact h
section
variable(dep:Nat){H:ai}(hF:Fr H){rh:Ref}{ops:List (aK × AV)}{ents:List (bV × AV)}(hh:AR H rh ops ents)(hb:nJ ents)
include hF hh hb
theorem PF(v:UInt8)(E:UInt8)(w:UInt32)(D:UInt8)(C:Int)(A:UInt8)(y:UInt32)(G:UInt8)(z:Int)(u:Int)(t:UInt8)(k:UInt32)(j:UInt8)(n:Int)(m:UInt8)(o:UInt32)(f:UInt8)(e:UInt32)(d:UInt8)(i:Int){x:AV}{I:List Int}(hx:Sl 1 (rows I) x) : ∃H',cg env dep (.fn 230) [.ptr rh 0 0,.agg [a8 v,a8 E,au w,a8 D,aI C,a8 A,au y,a8 G,aI z,aI u,a8 t,au k,a8 j,aI n,a8 m,au o,x],.agg [a8 f,au e,a8 d,aI i]] H=some (aB (u6 ents (⟨v,⟨E,w,D⟩,C,⟨⟨⟨A,y,G⟩,z⟩,u⟩,⟨⟨t,k,j⟩,n⟩,⟨m,o⟩,I⟩:aK) (⟨⟨f,e,d⟩,i⟩:bV)),H')/\bF H H':=by
 refine eR (fn:=Tryz.f230) (c:=qU) (by kernel_rfl) (by kernel_rfl) (by kernel_rfl) (by kernel_rfl) (by kernel_rfl) ?_
 refine qP _ _ _ _ _ _ λg=>?_
 obtain⟨V,U,rm,M,Q,N⟩:=hh.box
 have T:(H.get rh).isSome=true:=by rw[M];rfl
 have S:(H.get rm).isSome=true:=by rw[N];rfl
 have R:=λ(H':ai)(h:H'.get rm=some (bj (cF z8 ents)))=>P0 (g:=H'.get) hb h f e d i
 have O:=Q.r
 have L : ∀H',Fr H'->(∀q b,H.get q=some b->H'.get q=some b)->bF H H':=λH' a b=>⟨a,b⟩
 have J : ∀b1 b2:bz,bF H ((⟨dep+1,5,H.gen (dep+1) 5,0⟩,some b2) :: (⟨dep+1,4,H.gen (dep+1) 4,0⟩,some b1) :: H):=λb1 b2=>⟨by simp(maxDischargeDepth:=12) [ai.get_put,aq,aj,Fr.nil,aw,af,ah,ad,ae,ao,ak,aa, *],λq c K=>by
  have P:(H.get q).isSome=true:=by rw[K];rfl
  simp[af hF P,K]⟩
 unfold u6
 cases W:fC ents (⟨⟨f,e,d⟩,i⟩:bV) with
 | false=>
  simp[af,ah,ad,ae,aa, *,gC,hx.r]
 | true=>
  simp[af,ah,ad,ae,aa, *,gC,hx.r]
  all_goals rfl
theorem UW(d:UInt8)(b:UInt32)(a:UInt8)(e:Int){q:Ref}(j:H.get q=some ⟨1,[.ptr rh 0 0],false,false⟩) : ∃H',cg env dep (.fn 233) [.agg [a8 d,au b,a8 a,aI e],.ptr q 0 0] H=some (aB (fC ents (⟨⟨d,b,a⟩,e⟩:bV)),H')/\bF H H':=by
 refine eR (fn:=Tryz.f233) (c:=oO) (by kernel_rfl) (by kernel_rfl) (by kernel_rfl) (by kernel_rfl) (by kernel_rfl) ?_
 refine oG _ _ _ _ _ λg=>?_
 obtain⟨x,u,rm,k,n,m⟩:=hh.box
 have v:(H.get rh).isSome=true:=by rw[k];rfl
 have w:(H.get q).isSome=true:=by rw[j];rfl
 have t:(H.get rm).isSome=true:=by rw[m];rfl
 have o:=λ(H':ai)(h:H'.get rm=some (bj (cF z8 ents)))=>P0 (g:=H'.get) hb h d b a e
 have i:=n.r
 have f : ∀b1:bz,bF H ((⟨dep+1,2,H.gen (dep+1) 2,0⟩,some b1) :: H):=λb1=>bF.cons hF _ _ _
 simp[af,ah,ad,ae,aa, *,jK]
theorem Vz(k:UInt8)(y:UInt8)(n:UInt32)(w:UInt8)(v:Int)(u:UInt8)(o:UInt32)(A:UInt8)(t:Int)(i:Int)(h:UInt8)(b:UInt32)(a:UInt8)(e:Int)(d:UInt8)(f:UInt32)(z:UInt8)(m:UInt32)(j:UInt8)(C:Int){x:AV}{G:List Int}(hx:Sl 1 (rows G) x){q p:Ref}(K:H.get q=some ⟨1,[.ptr rh 0 0],false,false⟩)(hp:H.get p=some ⟨17,[.agg [a8 k,a8 y,au n,a8 w,aI v,a8 u,au o,a8 A,aI t,aI i,a8 h,au b,a8 a,aI e,a8 d,au f,x]],false,false⟩) :
 ∃H',cg env dep (.fn 242) [.agg [a8 z,au m,a8 j,aI C],.ptr q 0 0,.ptr p 0 0] H=some (aB (!u6 ents (⟨k,⟨y,n,w⟩,v,⟨⟨⟨u,o,A⟩,t⟩,i⟩,⟨⟨h,b,a⟩,e⟩,⟨d,f⟩,G⟩:aK) (⟨⟨z,m,j⟩,C⟩:bV)),H')/\bF H H':=by
 refine eR (fn:=Tryz.f242) (c:=qc) (by kernel_rfl) (by kernel_rfl) (by kernel_rfl) (by kernel_rfl) (by kernel_rfl) ?_
 refine p6 _ _ _ _ _ _ λg=>?_
 have N:(H.get q).isSome=true:=by rw[K];rfl
 have L:(H.get p).isSome=true:=by rw[hp];rfl
 have E : ∀b1:bz,bF H ((⟨dep+1,3,H.gen (dep+1) 3,0⟩,some b1) :: H):=λb1=>bF.cons hF _ _ _
 have J:=λb1=>PF (dep+1) (E b1).fr (hh.grow (E b1)) hb k y n w v u o A t i h b a e d f z m j C hx
 simp[af,ah,ad,ae,aa, *,kN,hx.r]
 refine lO (by kernel_rfl) (J _) λM I=>?_
 have D:=(E _).trans I
 simp[D]
end
def nI(l:List bV):List AV:=l.map z8
@[simp] theorem acf(l:List bV):(nI l).length=l.length:=by simp[nI]
def OW(p:bV->Bool):List bV->Nat->Int
 | [],_ => -1
 | i :: l,k=>if p i then k else OW p l (k+1)
theorem Ms(p:bV->Bool) : ∀(l:List bV)(k:Nat),decide (0<=OW p l k)=l.any p
 | [],k=>rfl
 | i :: l,k=>by
  unfold OW
  rw[FD]
  cases h:p i with
  | true=>simp
  | false=>simpa using Ms p l (k+1)
section
variable(dep:Nat){F:FuncId}(hm:(env.mode F == 2)=true){caps:List AV}{l:List bV}{x0:AV}(hx:Sl 4 (nI l) x0)(hl:l.length<100000){H0:ai}{p:bV->Bool}
include hm hx hl
theorem RY(hp : ∀i H,bF H0 H ->∃H',cg env (dep+1) (.fn F) ([]++[z8 i]++caps) H=some (aB (p i),H')/\bF H H'){Q:AV->ai->Prop} : ∀(s:List bV)(k:Nat)(i:Int)(H:ai),l.drop k=s->k<=l.length->i=k->bF H0 H->(∀y H',y=aI (OW p s k)->bF H0 H'->Q y H') ->
 bN env Tryz.f241 (dep+1) bC [(8,aI i),(0,x0),(1,.fn (.func F) [] caps),(7,aI l.length)] H Q:=by
 intro s
 induction s with
 | nil=>
  rintro k i H hs hk rfl hG hQ
  obtain rfl:=drop_nil hs hk
  have d:=hQ _ H rfl hG
  refine dx _ _ _ _ _ _ _ λg=>?_
  clear hp hQ
  simp[af,ah,ad,ae,aa, *,cp]
  all_goals exact d
 | cons a s o=>
  rintro k i H hs hk rfl hG hQ
  obtain⟨x,q,e,b⟩:=drop_cons hs
  have A:=IntWalk.i64_in ((k:Int)+1) (by omega)
  have w:bX (nI l) k 0 4 true=some (z8 a):=by simp[nI,b,z8]
  have u:=hp a H hG
  have j:=λH' v=>o (k+1) ((k:Int)+1) H' e (by omega) (by simp) v
  have n:(k:Int)<l.length:=by omega
  clear o hp hs e q b
  refine dx _ _ _ _ _ _ _ λg=>?_
  simp[af,ah,ad,ae,aa, *,cp,hx.r,hx.idx]
  refine lO hm u λt m=>?_
  have f:=hG.trans m
  unfold OW at hQ
  cases c:p a with
  | true=>
   rw[c]at hQ
   simp
   exact hQ _ _ (by simp) f
  | false=>
   rw[c]at hQ
   simp[A]
   exact j t f (λy H' z h=>hQ y H' (by simpa using z) h)
theorem EM{H:ai}(hF:Fr H)(hp : ∀i H',bF H H' ->∃a,cg env (dep+2) (.fn F) ([]++[z8 i]++caps) H'=some (aB (p i),a)/\bF H' a) :
 ∃H',cg env dep (.fn 232) [x0,.fn (.func F) [] caps] H=some (aB (l.any p),H')/\bF H H':=by
 have f : ∃H',cg env (dep+1) (.fn 241) ([]++[x0,.fn (.func F) [] caps]++[]) H=some (aI (OW p l 0),H')/\bF H H':=by
  refine eR (fn:=Tryz.f241) (c:=iT) (by kernel_rfl) (by kernel_rfl) (by kernel_rfl) (by kernel_rfl) (by kernel_rfl) ?_
  refine iP _ _ _ _ _ λg=>?_
  have b:=RY (dep+1) hm hx hl (p:=p) hp (Q:=λx d=>x=aI (OW p l 0)/\bF H d) l 0 0 H rfl (by omega) rfl (bF.refl hF) (λy H' e h=>⟨e,h⟩)
  clear hp
  simp[af,ah,ad,ae,aa, *,dT,hx.r]
  all_goals exact b
 refine eR (fn:=Tryz.f232) (c:=ik) (by kernel_rfl) (by kernel_rfl) (by kernel_rfl) (by kernel_rfl) (by kernel_rfl) ?_
 refine ij _ _ _ _ _ λg=>?_
 unfold dt
 refine lO (by kernel_rfl) f λd j=>?_
 have:=Ms p l 0
 simp[j,<-this]
end
end Go.Proofs.YtmkmimgokagimaaGreat
namespace Go.Proofs.YtmkmimgokagimaaGreat
open Go.Ab
attribute [local simp] aW aJ aH aV aU cr ld bf aQ aT cz cw bI bg aC bH gh
def cB(s:vE):List bV:=(List.range s.many.toNat).map λk=>zO s.f (k:Nat)
theorem OM(b:UInt8)(f:UInt32)(c:UInt8)(e:Int)(a:Int)(v:eP (⟨⟨⟨b,f,c⟩,e⟩,a⟩:vE)=true){Q:AV->ai->Prop} : ∀(d k:Nat)(i:Int)(p:AV)(H:ai),k+d=a.toNat->i=k->Fr H->H.get ⟨0,1,0,0⟩=some ⟨5,[.agg [a8 b,au f,a8 c,aI e,aI a]],false,false⟩->tP [20] 4 (nI ((List.range k).map λ(k:Nat)=>zO ⟨⟨b,f,c⟩,e⟩ k)) H p ->
 (∀y H',tP [20] 4 (nI (cB (⟨⟨⟨b,f,c⟩,e⟩,a⟩:vE))) H' y->Q y H') ->
 bN env Tryz.f213 0 oy [(8,aI i),(2,p),(1,.ptr ⟨0,1,0,0⟩ 0 0),(7,aI a)] H Q:=by
 have D:=gz v
 simp only at D
 intro d
 induction d with
 | zero=>
  rintro k i p H hk rfl hF hb hO hQ
  have o:=hQ p H (by unfold cB;simp only;rw[show a.toNat=k by omega];exact hO)
  have q : ¬(k:Int)<a:=by omega
  refine Aj _ _ _ _ _ _ λg=>?_
  clear hQ hO
  simp[af,ah,ad,ae,aa, *,rU]
  all_goals exact o
 | succ d w=>
  rintro k i p H hk rfl hF hb hO hQ
  have L:=IntWalk.i64_in ((k:Int)+1) (by omega)
  have q:(k:Int)<a:=by omega
  have u:VV (⟨⟨⟨b,f,c⟩,e⟩,a⟩:vE) (k:Int)=0:=by
   unfold VV
   rw[if_pos v,if_neg]
   simp only
   omega
  have G:=adI b f c e a (k:Int)
  rw[if_pos u]at G
  have I:(H.get ⟨0,1,0,0⟩).isSome=true:=by rw[hb];rfl
  have l : ∀(g:Nat)(m:Nat)(n:ai),m=k+1->Fr n->n.get ⟨0,1,0,0⟩=some ⟨5,[.agg [a8 b,au f,a8 c,aI e,aI a]],false,false⟩->n.get ⟨0,20,g,0⟩=some ⟨4,nI ((List.range k).map λ(k:Nat)=>zO ⟨⟨b,f,c⟩,e⟩ k)++[.agg [a8 b,au f,a8 c,aI (e+k)]],true,false⟩ ->
   bN env Tryz.f213 0 oy [(8,aI ((k:Int)+1)),(2,.cL ⟨0,20,g,0⟩ 0 m none),(1,.ptr ⟨0,1,0,0⟩ 0 0),(7,aI a)] n Q:=by
   intro g m n C A z F
   subst C
   refine w (k+1) ((k:Int)+1) _ n (by omega) (by simp) A z (.inr ⟨20,g,by simp,by simp,?_⟩) hQ
   rw[F]
   simp[nI,List.range_succ,z8,zO]
  clear w hQ
  refine Aj _ _ _ _ _ _ λg=>?_
  generalize he:nI ((List.range k).map λ(k:Nat)=>zO ⟨⟨b,f,c⟩,e⟩ k)=es at *
  have j:es.length=k:=by rw[<-he];simp
  clear he u
  rcases hO with ⟨rfl,rfl⟩ | ⟨t,gg,x,rfl,E⟩
  ·have h:=λn=>l (H.gen 0 20) 1 n (by simp at j;omega)
   clear l j
   simp[af,ah,ad,ae,aa, *,rU]
   refine h _ ?_ ?_ ?_
   ·exact by simp(maxDischargeDepth:=12) [ai.get_put,aq,aj,Fr.nil,aw,af,ah,ad,ae,ao,ak,aa, *]
   ·exact by simp(maxDischargeDepth:=12) [ai.get_put,aq,aj,Fr.nil,aw,af,ah,ad,ae,ao,ak,aa, *]
   ·exact by simp(maxDischargeDepth:=12) [ai.get_put,aq,aj,Fr.nil,aw,af,ah,ad,ae,ao,ak,aa, *]
  ·rw[uP]at x
   subst x
   rw[j]
   have h:=l (H.gen 0 20) (k+1)
   clear l
   have J:(H.get ⟨0,20,gg,0⟩).isSome=true:=by rw[E];rfl
   have K:mY 4 24 k true none (some ⟨4,es,true,false⟩) (some [.agg [a8 b,au f,a8 c,aI (e+k)]]):=by
    simp[j];omega
   simp[af,ah,ad,ae,aa, *,rU]
   refine h _ rfl ?_ ?_ ?_
   ·exact by simp(maxDischargeDepth:=12) [ai.get_put,aq,aj,Fr.nil,aw,af,ah,ad,ae,ao,ak,aa, *]
   ·exact by simp(maxDischargeDepth:=12) [ai.get_put,aq,aj,Fr.nil,aw,af,ah,ad,ae,ao,ak,aa, *]
   ·exact by simp(maxDischargeDepth:=12) [ai.get_put,aq,aj,Fr.nil,aw,af,ah,ad,ae,ao,ak,aa, *]
theorem JS(d:UInt8)(c:UInt32)(f:UInt8)(b:Int)(a:Int)(k:eP (⟨⟨⟨d,c,f⟩,b⟩,a⟩:vE)=true):aF env 213 [.agg [a8 d,au c,a8 f,aI b,aI a]]=some (.bW 4 (nI (cB (⟨⟨⟨d,c,f⟩,b⟩,a⟩:vE))) none):=by
 have l:=gz k
 simp only at l
 have j:nI (cB (⟨⟨⟨d,c,f⟩,b⟩,a⟩:vE))≠[]:=by
  intro e
  have:=congrArg List.length e
  simp[cB]at this
  omega
 refine aG rfl (by kernel_rfl) (JL _ _ _ λg=>?_)
 have i:=λH m n=>OM d c f b a k (Q:=λy H'=>view H'.get 8 y=some (.bW 4 (nI (cB (⟨⟨⟨d,c,f⟩,b⟩,a⟩:vE))) none)) a.toNat 0 0 ct H (by omega) rfl m n (.inl ⟨rfl,by simp[nI]⟩) (λy H' h=>by
  rcases h with ⟨_,h⟩ | ⟨t,g,_,rfl,o⟩
  ·exact absurd h j
  ·rw[It o rfl])
 simp[af,ah,ad,ae,aa, *,Dk]
 exact i _ (by simp(maxDischargeDepth:=12) [ai.get_put,aq,aj,Fr.nil,aw,af,ah,ad,ae,ao,ak,aa, *]) rfl
theorem L6(s:vE):Sl 4 (nI (cB s)) (.bW 4 (nI (cB s)) none):=Sl.mk _ _
theorem DU{s:vE}(h:eP s=true):(cB s).length<100000:=by
 have a:=gz h
 simp[cB]
 omega
def rD(ents:List (bV × AV))(o:aK):Bool := !(cB o.s).any λi => !u6 ents o i
section
variable(dep:Nat){H:ai}(hF:Fr H){rh:Ref}{ops:List (aK × AV)}{ents:List (bV × AV)}(hh:AR H rh ops ents)(hb:nJ ents)
include hF hh hb
theorem Vy(u:UInt8)(z:UInt8)(v:UInt32)(y:UInt8)(w:Int)(e:UInt8)(b:UInt32)(f:UInt8)(d:Int)(a:Int)(t:UInt8)(k:UInt32)(j:UInt8)(m:Int)(l:UInt8)(o:UInt32){x:AV}{E:List Int}(I:Sl 1 (rows E) x)(G:eP ⟨⟨⟨e,b,f⟩,d⟩,a⟩=true) :
 ∃H',cg env dep (.fn 234) [.ptr rh 0 0,.agg [a8 u,a8 z,au v,a8 y,aI w,a8 e,au b,a8 f,aI d,aI a,a8 t,au k,a8 j,aI m,a8 l,au o,x]] H=some (aB (rD ents (⟨u,⟨z,v,y⟩,w,⟨⟨⟨e,b,f⟩,d⟩,a⟩,⟨⟨t,k,j⟩,m⟩,⟨l,o⟩,E⟩:aK)),H')/\bF H H':=by
 refine eR (fn:=Tryz.f234) (c:=rK) (by kernel_rfl) (by kernel_rfl) (by kernel_rfl) (by kernel_rfl) (by kernel_rfl) ?_
 refine q7 _ _ _ _ _ λg=>?_
 have N:=JS e b f d a G
 have A : ∀b1 b2:bz,bF H ((⟨dep+1,3,H.gen (dep+1) 3,0⟩,some b2) :: (⟨dep+1,2,H.gen (dep+1) 2,0⟩,some b1) :: H):=λb1 b2=>⟨by simp(maxDischargeDepth:=12) [ai.get_put,aq,aj,Fr.nil,aw,af,ah,ad,ae,ao,ak,aa, *],λq c J=>by
  have L:(H.get q).isSome=true:=by rw[J];rfl
  simp[af hF L,J]⟩
 have K : ∃H',cg env (dep+1) (.fn 232) ([]++[.bW 4 (nI (cB ⟨⟨⟨e,b,f⟩,d⟩,a⟩)) none,.fn (.func 242) [] [.ptr ⟨dep+1,2,H.gen (dep+1) 2,0⟩ 0 0,.ptr ⟨dep+1,3,H.gen (dep+1) 3,0⟩ 0 0]]++[])
  ((⟨dep+1,3,H.gen (dep+1) 3,0⟩,some ⟨17,[.agg [a8 u,a8 z,au v,a8 y,aI w,a8 e,au b,a8 f,aI d,aI a,a8 t,au k,a8 j,aI m,a8 l,au o,x]],false,false⟩) :: (⟨dep+1,2,H.gen (dep+1) 2,0⟩,some ⟨1,[.ptr rh 0 0],false,false⟩) :: H)=some (aB ((cB ⟨⟨⟨e,b,f⟩,d⟩,a⟩).any λi => !u6 ents (⟨u,⟨z,v,y⟩,w,⟨⟨⟨e,b,f⟩,d⟩,a⟩,⟨⟨t,k,j⟩,m⟩,⟨l,o⟩,E⟩:aK) i),H')/\bF _ H':=
  EM (dep+1) (F:=242) (by kernel_rfl) (L6 _) (DU G) (p:=λi => !u6 ents (⟨u,⟨z,v,y⟩,w,⟨⟨⟨e,b,f⟩,d⟩,a⟩,⟨⟨t,k,j⟩,m⟩,⟨l,o⟩,E⟩:aK) i) (A _ _).fr (λi H' C=>by
   have:=Vz (dep+3) C.fr ((hh.grow (A _ _)).grow C) hb u z v y w e b f d a t k j m l o i.h.lv i.h.cats i.h.num i.n I (q:=⟨dep+1,2,H.gen (dep+1) 2,0⟩) (p:=⟨dep+1,3,H.gen (dep+1) 3,0⟩) (C.old _ _ (by simp)) (C.old _ _ (by simp))
   exact this)
 simp[af,ah,ad,ae,aa, *,lH,I.r]
 refine lO (by kernel_rfl) K λM C=>?_
 have D:=(A _ _).trans C
 simp[D,rD]
end
end Go.Proofs.YtmkmimgokagimaaGreat
namespace Go.Proofs.YtmkmimgokagimaaGreat
open Go.Ab
attribute [local simp] aW aJ aH aV aU cr ld bf aQ aT cz cw bI bg aC bH gh
theorem P3{g:da}{r rm:Ref}{ents:List (bV × AV)}(b:g rm=some (bj (cF z8 ents))):cO env.P false g r .len #[264] [.mp rm]=some (aI ents.length,[]):=by
 have a:(HO env.P 264).isSome=true:=by kernel_rfl
 obtain⟨p,hp⟩:=gI.1 a
 have e:cO env.P false g r .len #[264] [.mp rm]=wb env.P g (some 264) rm:=rfl
 rw[e]
 unfold wb
 rw[vd b,fH,hp]
 simp[cF]
def fG(ents:List (bV × AV))(o:aK):Int:=
 if (!gf o.a && !u6 ents o o.a)=true then 6 else if HA o≠0\/(cB o.s).any (fC ents)=true then 2 else if 8192<(ents.length:Int)+o.s.many then 4 else 0
def yT(ents:List (bV × AV))(o:aK):Int:=if rD ents o=false then 6 else if (decide (o.s.f.h.lv=o.h.lv)&&decide (o.s.f.h.cats=o.h.cats))=false then 2 else 0
def yU(ops:List (aK × AV))(ents:List (bV × AV))(o:aK):Int:=if rD ents o=false then 6 else if qa (opsOf ops)=0/\kI (opsOf ops) o=true then 0 else 2
def uf(ops:List (aK × AV))(ents:List (bV × AV))(o:aK):Int:=if o.kind=1 then fG ents o else if o.kind=2 then yT ents o else yU ops ents o
def vm(ops:List (aK × AV))(ents:List (bV × AV))(o:aK):Int:=if uf ops ents o=0/\2048<=ops.length then 4 else uf ops ents o
section
variable(dep:Nat){H:ai}(hF:Fr H){rh:Ref}{ops:List (aK × AV)}{ents:List (bV × AV)}(hh:AR H rh ops ents)(hb:nJ ents)
include hF hh hb
theorem Ro(p:UInt8)(n:UInt8)(l:UInt32)(u:UInt8)(t:Int)(k:UInt8)(j:UInt32)(o:UInt8)(m:Int)(a:Int)(i:UInt8)(d:UInt32)(b:UInt8)(f:Int)(e:UInt8)(h:UInt32){x:AV}{z:List Int}(y:Sl 1 (rows z) x)(D:eP ⟨⟨⟨k,j,o⟩,m⟩,a⟩=true) :
 ∃H',cg env dep (.fn 219) [.ptr rh 0 0,.agg [a8 p,a8 n,au l,a8 u,aI t,a8 k,au j,a8 o,aI m,aI a,a8 i,au d,a8 b,aI f,a8 e,au h,x]] H=some (aI (yT ents (⟨p,⟨n,l,u⟩,t,⟨⟨⟨k,j,o⟩,m⟩,a⟩,⟨⟨i,d,b⟩,f⟩,⟨e,h⟩,z⟩:aK)),H')/\bF H H':=by
 refine eR (fn:=Tryz.f219) (c:=pL) (by kernel_rfl) (by kernel_rfl) (by kernel_rfl) (by kernel_rfl) (by kernel_rfl) ?_
 refine pq _ _ _ _ _ λg=>?_
 have v : ∀b1:bz,bF H ((⟨dep+1,3,H.gen (dep+1) 3,0⟩,some b1) :: H):=λb1=>bF.cons hF _ _ _
 have E:=Vy (dep+1) (v ⟨17,[.agg [a8 p,a8 n,au l,a8 u,aI t,a8 k,au j,a8 o,aI m,aI a,a8 i,au d,a8 b,aI f,a8 e,au h,x]],false,false⟩).fr (hh.grow (v _)) hb p n l u t k j o m a i d b f e h y D
 simp[af,ah,ad,ae,aa, *,kA,y.r]
 refine lO (by kernel_rfl) E λF A=>?_
 have q:=(v _).trans A
 have w:=A.old ⟨dep+1,3,H.gen (dep+1) 3,0⟩ _ (by simp;rfl)
 unfold yT
 cases rD ents (⟨p,⟨n,l,u⟩,t,⟨⟨⟨k,j,o⟩,m⟩,a⟩,⟨⟨i,d,b⟩,f⟩,⟨e,h⟩,z⟩:aK) with
 | false=>simp[q]
 | true=>
  cases C:(decide (k=n)&&decide (j=l)) with
  | false=>simp[w,q,y.r,fJ,bU,C]
  | true=>simp[w,q,y.r,fJ,bU,C]
theorem raise_at(E : ∀p∈ops,HW p)(O:ops.length<100000)(j:UInt8)(u:UInt8)(k:UInt32)(t:UInt8)(q:Int)(n:UInt8)(l:UInt32)(v:UInt8)(m:Int)(i:Int)(h:UInt8)(b:UInt32)(a:UInt8)(e:Int)(d:UInt8)(f:UInt32){x:AV}{C:List Int}(D:Sl 1 (rows C) x)(I:C.length<2000000)(K:m0 (⟨j,⟨u,k,t⟩,q,⟨⟨⟨n,l,v⟩,m⟩,i⟩,⟨⟨h,b,a⟩,e⟩,⟨d,f⟩,C⟩:aK)=true) :
 ∃H',cg env dep (.fn 220) [.ptr rh 0 0,.agg [a8 j,a8 u,au k,a8 t,aI q,a8 n,au l,a8 v,aI m,aI i,a8 h,au b,a8 a,aI e,a8 d,au f,x]] H=some (aI (yU ops ents (⟨j,⟨u,k,t⟩,q,⟨⟨⟨n,l,v⟩,m⟩,i⟩,⟨⟨h,b,a⟩,e⟩,⟨d,f⟩,C⟩:aK)),H')/\bF H H':=by
 have L:=lz K
 simp only at L
 refine eR (fn:=Tryz.f220) (c:=qb) (by kernel_rfl) (by kernel_rfl) (by kernel_rfl) (by kernel_rfl) (by kernel_rfl) ?_
 refine p5 _ _ _ _ _ λg=>?_
 have y : ∀b1:bz,bF H ((⟨dep+1,3,H.gen (dep+1) 3,0⟩,some b1) :: H):=λb1=>bF.cons hF _ _ _
 have P:=Vy (dep+1) (y ⟨17,[.agg [a8 j,a8 u,au k,a8 t,aI q,a8 n,au l,a8 v,aI m,aI i,a8 h,au b,a8 a,aI e,a8 d,au f,x]],false,false⟩).fr (hh.grow (y _)) hb j u k t q n l v m i h b a e d f D L
 simp[af,ah,ad,ae,aa, *,kM,D.r]
 refine lO (by kernel_rfl) P λQ J=>?_
 have o:=(y _).trans J
 have z:=J.old ⟨dep+1,3,H.gen (dep+1) 3,0⟩ _ (by simp;rfl)
 obtain⟨T,S,rm,G,N,R⟩:=(hh.grow o).box
 have A:=N.r
 have w:=TG N.sl E O j u k t q n l v m i h b a e d f D I
 rw[if_pos K]at w
 unfold yU
 cases rD ents (⟨j,⟨u,k,t⟩,q,⟨⟨⟨n,l,v⟩,m⟩,i⟩,⟨⟨h,b,a⟩,e⟩,⟨d,f⟩,C⟩:aK) with
 | false=>simp[o]
 | true=>
  by_cases F:qa (opsOf ops)=0
  ·rw[if_pos F]at w
   cases M:kI (opsOf ops) (⟨j,⟨u,k,t⟩,q,⟨⟨⟨n,l,v⟩,m⟩,i⟩,⟨⟨h,b,a⟩,e⟩,⟨d,f⟩,C⟩:aK) with
   | false=>
    rw[M]at w
    simp[z,o,G,A,D.r,w]
   | true=>
    rw[M]at w
    simp[z,o,G,A,D.r,w,F]
  ·rw[if_neg F]at w
   simp[z,o,G,A,D.r,w,F]
end
end Go.Proofs.YtmkmimgokagimaaGreat
namespace Go.Proofs.YtmkmimgokagimaaGreat
open Go.Ab
attribute [local simp] aW aJ aH aV aU cr ld bf aQ aT cz cw bI bg aC bH gh
section
variable(dep:Nat){H:ai}(hF:Fr H){rh:Ref}{ops:List (aK × AV)}{ents:List (bV × AV)}(hh:AR H rh ops ents)(hb:nJ ents)(he:ents.length<1000000)
include hF hh hb he
theorem RM(v:UInt8)(A:UInt8)(w:UInt32)(z:UInt8)(y:Int)(u:UInt8)(t:UInt32)(o:UInt8)(m:Int)(a:Int)(j:UInt8)(e:UInt32)(d:UInt8)(f:Int)(k:UInt8)(l:UInt32){x:AV}{D:List Int}(R:Sl 1 (rows D) x)(hal:D.length<1000000)(ho:m0 (⟨v,⟨A,w,z⟩,y,⟨⟨⟨u,t,o⟩,m⟩,a⟩,⟨⟨j,e,d⟩,f⟩,⟨k,l⟩,D⟩:aK)=true) :
 ∃H',cg env dep (.fn 218) [.ptr rh 0 0,.agg [a8 v,a8 A,au w,a8 z,aI y,a8 u,au t,a8 o,aI m,aI a,a8 j,au e,a8 d,aI f,a8 k,au l,x]] H=some (aI (fG ents (⟨v,⟨A,w,z⟩,y,⟨⟨⟨u,t,o⟩,m⟩,a⟩,⟨⟨j,e,d⟩,f⟩,⟨k,l⟩,D⟩:aK)),H')/\bF H H':=by
 have hs:=lz ho
 simp only at hs
 have hn:=gz hs
 simp only at hn
 refine eR (fn:=Tryz.f218) (c:=pM) (by kernel_rfl) (by kernel_rfl) (by kernel_rfl) (by kernel_rfl) (by kernel_rfl) ?_
 refine pr _ _ _ _ _ λg=>?_
 have hN:=JS u t o m a hs
 have Z:=Wo v A w z y u t o m a j e d f k l R hal
 have w1:=IntWalk.i64_in ((ents.length:Int)+a) (by omega)
 have X : ∀b1 b2:bz,bF H ((⟨dep+1,3,H.gen (dep+1) 3,0⟩,some b2) :: (⟨dep+1,2,H.gen (dep+1) 2,0⟩,some b1) :: H):=λb1 b2=>⟨by simp(maxDischargeDepth:=12) [ai.get_put,aq,aj,Fr.nil,aw,af,ah,ad,ae,ao,ak,aa, *],λq c hq=>by
  have lq:(H.get q).isSome=true:=by rw[hq];rfl
  simp[af hF lq,hq]⟩
 have T : ∀(Hs:ai),bF H Hs->Hs.get ⟨dep+1,2,H.gen (dep+1) 2,0⟩=some ⟨1,[.ptr rh 0 0],false,false⟩ ->
  ∃H',cg env (dep+1) (.fn 232) ([]++[.bW 4 (nI (cB ⟨⟨⟨u,t,o⟩,m⟩,a⟩)) none,.fn (.func 233) [] [.ptr ⟨dep+1,2,H.gen (dep+1) 2,0⟩ 0 0]]++[]) Hs=some (aB ((cB ⟨⟨⟨u,t,o⟩,m⟩,a⟩).any (fC ents)),H')/\bF Hs H':=λHs hG hq=>
  EM (dep+1) (F:=233) (by kernel_rfl) (L6 _) (DU hs) (p:=fC ents) hG.fr (λi H' hG'=>by
   have:=UW (dep+3) hG'.fr ((hh.grow hG).grow hG') hb i.h.lv i.h.cats i.h.num i.n (q:=⟨dep+1,2,H.gen (dep+1) 2,0⟩) (hG'.old _ _ hq)
   exact this)
 cases hz:gf (⟨⟨j,e,d⟩,f⟩:bV) with
 | true=>
  have E : ¬((!gf (⟨⟨j,e,d⟩,f⟩:bV) && !u6 ents (⟨v,⟨A,w,z⟩,y,⟨⟨⟨u,t,o⟩,m⟩,a⟩,⟨⟨j,e,d⟩,f⟩,⟨k,l⟩,D⟩:aK) ⟨⟨j,e,d⟩,f⟩)=true):=by simp[hz]
  have P:=hz
  unfold gf at P
  have M : ∀b1 b2 b3:bz,bF H ((⟨dep+1,5,H.gen (dep+1) 5,0⟩,some b3) :: (⟨dep+1,3,H.gen (dep+1) 3,0⟩,some b2) :: (⟨dep+1,2,H.gen (dep+1) 2,0⟩,some b1) :: H):=λb1 b2 b3=>⟨by simp(maxDischargeDepth:=12) [ai.get_put,aq,aj,Fr.nil,aw,af,ah,ad,ae,ao,ak,aa, *],λq c hq=>by
   have lq:(H.get q).isSome=true:=by rw[hq];rfl
   simp[af hF lq,hq]⟩
  by_cases Q:HA (⟨v,⟨A,w,z⟩,y,⟨⟨⟨u,t,o⟩,m⟩,a⟩,⟨⟨j,e,d⟩,f⟩,⟨k,l⟩,D⟩:aK)=0
  rotate_left
  ·rw[if_neg Q]at Z
   have L:fG ents (⟨v,⟨A,w,z⟩,y,⟨⟨⟨u,t,o⟩,m⟩,a⟩,⟨⟨j,e,d⟩,f⟩,⟨k,l⟩,D⟩:aK)=2:=by unfold fG;rw[if_neg E,if_pos (.inl Q)]
   simp[af,ah,ad,ae,aa, *,eb,R.r,fJ,bU,P,R.r,Z,Q]
   all_goals exact M _ _ _
  ·rw[if_pos Q]at Z
   simp[af,ah,ad,ae,aa, *,eb,R.r,fJ,bU,P,R.r,Z,Q,hN]
   refine lO (by kernel_rfl) ((λb=>T _ (M ⟨1,[.ptr rh 0 0],false,false⟩ ⟨17,[.agg [a8 v,a8 A,au w,a8 z,aI y,a8 u,au t,a8 o,aI m,aI a,a8 j,au e,a8 d,aI f,a8 k,au l,x]],false,false⟩ b) (by simp)) _) λH2 N=>?_
   have C:=((λb=>M ⟨1,[.ptr rh 0 0],false,false⟩ ⟨17,[.agg [a8 v,a8 A,au w,a8 z,aI y,a8 u,au t,a8 o,aI m,aI a,a8 j,au e,a8 d,aI f,a8 k,au l,x]],false,false⟩ b) _).trans N
   obtain⟨xo,vo,rm,h1,h2,h3⟩:=(hh.grow C).box
   have V:=P3 (r:=⟨dep+1,37,H2.gen (dep+1) 37,0⟩) h3
   have U:=N.old _ _ ((λ(b:bz)=>(by simp:ai.get ((⟨dep+1,5,H.gen (dep+1) 5,0⟩,some b) :: (⟨dep+1,3,H.gen (dep+1) 3,0⟩,some ⟨17,[.agg [a8 v,a8 A,au w,a8 z,aI y,a8 u,au t,a8 o,aI m,aI a,a8 j,au e,a8 d,aI f,a8 k,au l,x]],false,false⟩) :: (⟨dep+1,2,H.gen (dep+1) 2,0⟩,some ⟨1,[.ptr rh 0 0],false,false⟩) :: H) ⟨dep+1,2,H.gen (dep+1) 2,0⟩=some ⟨1,[.ptr rh 0 0],false,false⟩)) _)
   have S:=N.old _ _ ((λ(b:bz)=>(by simp:ai.get ((⟨dep+1,5,H.gen (dep+1) 5,0⟩,some b) :: (⟨dep+1,3,H.gen (dep+1) 3,0⟩,some ⟨17,[.agg [a8 v,a8 A,au w,a8 z,aI y,a8 u,au t,a8 o,aI m,aI a,a8 j,au e,a8 d,aI f,a8 k,au l,x]],false,false⟩) :: (⟨dep+1,2,H.gen (dep+1) 2,0⟩,some ⟨1,[.ptr rh 0 0],false,false⟩) :: H) ⟨dep+1,3,H.gen (dep+1) 3,0⟩=some ⟨17,[.agg [a8 v,a8 A,au w,a8 z,aI y,a8 u,au t,a8 o,aI m,aI a,a8 j,au e,a8 d,aI f,a8 k,au l,x]],false,false⟩)) _)
   cases K:(cB ⟨⟨⟨u,t,o⟩,m⟩,a⟩).any (fC ents) with
   | true=>
    have L:fG ents (⟨v,⟨A,w,z⟩,y,⟨⟨⟨u,t,o⟩,m⟩,a⟩,⟨⟨j,e,d⟩,f⟩,⟨k,l⟩,D⟩:aK)=2:=by unfold fG;rw[if_neg E,if_pos (.inr K)]
    simp[C,L]
   | false=>
    have G : ¬(HA (⟨v,⟨A,w,z⟩,y,⟨⟨⟨u,t,o⟩,m⟩,a⟩,⟨⟨j,e,d⟩,f⟩,⟨k,l⟩,D⟩:aK)≠0\/(cB ⟨⟨⟨u,t,o⟩,m⟩,a⟩).any (fC ents)=true):=by rw[K];simp[Q]
    by_cases Y:8192<(ents.length:Int)+a
    ·have L:fG ents (⟨v,⟨A,w,z⟩,y,⟨⟨⟨u,t,o⟩,m⟩,a⟩,⟨⟨j,e,d⟩,f⟩,⟨k,l⟩,D⟩:aK)=4:=by unfold fG;rw[if_neg E,if_neg G,if_pos Y]
     simp[C,L,U,S,h1,V,w1,Y,R.r]
    ·have L:fG ents (⟨v,⟨A,w,z⟩,y,⟨⟨⟨u,t,o⟩,m⟩,a⟩,⟨⟨j,e,d⟩,f⟩,⟨k,l⟩,D⟩:aK)=0:=by unfold fG;rw[if_neg E,if_neg G,if_neg Y]
     simp[C,L,U,S,h1,V,w1,Y,R.r]
 | false=>
  have P:=hz
  unfold gf at P
  have hS:=PF (dep+1) (X ⟨1,[.ptr rh 0 0],false,false⟩ ⟨17,[.agg [a8 v,a8 A,au w,a8 z,aI y,a8 u,au t,a8 o,aI m,aI a,a8 j,au e,a8 d,aI f,a8 k,au l,x]],false,false⟩).fr (hh.grow (X _ _)) hb v A w z y u t o m a j e d f k l j e d f R
  simp[af,ah,ad,ae,aa, *,eb,R.r,fJ,bU,P]
  refine lO (by kernel_rfl) hS λH1 hG1=>?_
  have hGa:=(X _ _).trans hG1
  have J:=hGa.fr
  have I:=hG1.old ⟨dep+1,2,H.gen (dep+1) 2,0⟩ _ (by simp;rfl)
  have O:=hG1.old ⟨dep+1,3,H.gen (dep+1) 3,0⟩ _ (by simp;rfl)
  have W:(H1.get ⟨dep+1,2,H.gen (dep+1) 2,0⟩).isSome=true:=by rw[I];rfl
  have l3a:(H1.get ⟨dep+1,3,H.gen (dep+1) 3,0⟩).isSome=true:=by rw[O];rfl
  have M : ∀b3:bz,bF H ((⟨dep+1,5,H1.gen (dep+1) 5,0⟩,some b3) :: H1):=λb3=>hGa.trans (bF.cons J _ _ _)
  clear X
  cases hsb:u6 ents (⟨v,⟨A,w,z⟩,y,⟨⟨⟨u,t,o⟩,m⟩,a⟩,⟨⟨j,e,d⟩,f⟩,⟨k,l⟩,D⟩:aK) ⟨⟨j,e,d⟩,f⟩ with
  | false=>
   have L:fG ents (⟨v,⟨A,w,z⟩,y,⟨⟨⟨u,t,o⟩,m⟩,a⟩,⟨⟨j,e,d⟩,f⟩,⟨k,l⟩,D⟩:aK)=6:=by unfold fG;rw[if_pos (by simp[hz,hsb])]
   simp[L,hGa]
  | true=>
   have E : ¬((!gf (⟨⟨j,e,d⟩,f⟩:bV) && !u6 ents (⟨v,⟨A,w,z⟩,y,⟨⟨⟨u,t,o⟩,m⟩,a⟩,⟨⟨j,e,d⟩,f⟩,⟨k,l⟩,D⟩:aK) ⟨⟨j,e,d⟩,f⟩)=true):=by simp[hsb]
   by_cases Q:HA (⟨v,⟨A,w,z⟩,y,⟨⟨⟨u,t,o⟩,m⟩,a⟩,⟨⟨j,e,d⟩,f⟩,⟨k,l⟩,D⟩:aK)=0
   rotate_left
   ·rw[if_neg Q]at Z
    have L:fG ents (⟨v,⟨A,w,z⟩,y,⟨⟨⟨u,t,o⟩,m⟩,a⟩,⟨⟨j,e,d⟩,f⟩,⟨k,l⟩,D⟩:aK)=2:=by unfold fG;rw[if_neg E,if_pos (.inl Q)]
    simp[I,O,R.r,Z,Q,L,af J W,af J l3a,M]
   ·rw[if_pos Q]at Z
    simp[I,O,R.r,Z,Q,hN,af J W,af J l3a]
    have hc:=λb=>T _ (M b) (by rw[ai.tK,if_neg (pZ J W _ _ _)];exact I)
    refine lO (by kernel_rfl) (hc _) λH2 N=>?_
    have C:=(M _).trans N
    obtain⟨xo,vo,rm,h1,h2,h3⟩:=(hh.grow C).box
    have V:=P3 (r:=⟨dep+1,37,H2.gen (dep+1) 37,0⟩) h3
    have U:=N.old ⟨dep+1,2,H.gen (dep+1) 2,0⟩ _ (by rw[ai.tK,if_neg (pZ J W _ _ _)];exact I)
    have S:=N.old ⟨dep+1,3,H.gen (dep+1) 3,0⟩ _ (by rw[ai.tK,if_neg (pZ J l3a _ _ _)];exact O)
    cases K:(cB ⟨⟨⟨u,t,o⟩,m⟩,a⟩).any (fC ents) with
    | true=>
     have L:fG ents (⟨v,⟨A,w,z⟩,y,⟨⟨⟨u,t,o⟩,m⟩,a⟩,⟨⟨j,e,d⟩,f⟩,⟨k,l⟩,D⟩:aK)=2:=by unfold fG;rw[if_neg E,if_pos (.inr K)]
     simp[C,L]
    | false=>
     have G : ¬(HA (⟨v,⟨A,w,z⟩,y,⟨⟨⟨u,t,o⟩,m⟩,a⟩,⟨⟨j,e,d⟩,f⟩,⟨k,l⟩,D⟩:aK)≠0\/(cB ⟨⟨⟨u,t,o⟩,m⟩,a⟩).any (fC ents)=true):=by rw[K];simp[Q]
     by_cases Y:8192<(ents.length:Int)+a
     ·have L:fG ents (⟨v,⟨A,w,z⟩,y,⟨⟨⟨u,t,o⟩,m⟩,a⟩,⟨⟨j,e,d⟩,f⟩,⟨k,l⟩,D⟩:aK)=4:=by unfold fG;rw[if_neg E,if_neg G,if_pos Y]
      simp[C,L,U,S,h1,V,w1,Y,R.r]
     ·have L:fG ents (⟨v,⟨A,w,z⟩,y,⟨⟨⟨u,t,o⟩,m⟩,a⟩,⟨⟨j,e,d⟩,f⟩,⟨k,l⟩,D⟩:aK)=0:=by unfold fG;rw[if_neg E,if_neg G,if_neg Y]
      simp[C,L,U,S,h1,V,w1,Y,R.r]
omit hF hh hb he in
theorem DL:mP env.P 271 (some [(1,AV.fn (Fn.func 218) [] []),(2,AV.fn (Fn.func 219) [] []),(3,AV.fn (Fn.func 220) [] [])]) =
 some (.agg [.v .nilFunc,.fn (.func 218) [] [],.fn (.func 219) [] [],.fn (.func 220) [] []],[]):=by kernel_rfl
omit hF hh hb he in
theorem SX:rj env.P 271 (some (.agg [.v .nilFunc,.fn (.func 218) [] [],.fn (.func 219) [] [],.fn (.func 220) [] []])) (some (a8 1))=some (.fn (.func 218) [] [],[]):=by kernel_rfl
omit hF hh hb he in
theorem SW:rj env.P 271 (some (.agg [.v .nilFunc,.fn (.func 218) [] [],.fn (.func 219) [] [],.fn (.func 220) [] []])) (some (a8 2))=some (.fn (.func 219) [] [],[]):=by kernel_rfl
omit hF hh hb he in
theorem SV:rj env.P 271 (some (.agg [.v .nilFunc,.fn (.func 218) [] [],.fn (.func 219) [] [],.fn (.func 220) [] []])) (some (a8 3))=some (.fn (.func 220) [] [],[]):=by kernel_rfl
theorem Qf(P : ∀p∈ops,HW p)(U:ops.length<100000)(z:UInt8)(u:UInt8)(l:UInt32)(t:UInt8)(q:Int)(o:UInt8)(m:UInt32)(v:UInt8)(n:Int)(k:Int)(j:UInt8)(b:UInt32)(a:UInt8)(f:Int)(d:UInt8)(i:UInt32){x:AV}{A:List Int}(N:Sl 1 (rows A) x)(R:A.length<1000000)(O:m0 (⟨z,⟨u,l,t⟩,q,⟨⟨⟨o,m,v⟩,n⟩,k⟩,⟨⟨j,b,a⟩,f⟩,⟨d,i⟩,A⟩:aK)=true) :
 ∃H',cg env dep (.fn 193) [.ptr rh 0 0,.agg [a8 z,a8 u,au l,a8 t,aI q,a8 o,au m,a8 v,aI n,aI k,a8 j,au b,a8 a,aI f,a8 d,au i,x]] H=some (aI (vm ops ents (⟨z,⟨u,l,t⟩,q,⟨⟨⟨o,m,v⟩,n⟩,k⟩,⟨⟨j,b,a⟩,f⟩,⟨d,i⟩,A⟩:aK)),H')/\bF H H':=by
 refine eR (fn:=Tryz.f193) (c:=qV) (by kernel_rfl) (by kernel_rfl) (by kernel_rfl) (by kernel_rfl) (by kernel_rfl) ?_
 refine qQ _ _ _ _ _ λg=>?_
 have S:=lz O
 simp only at S
 have y : ∀b1:bz,bF H ((⟨dep+1,3,H.gen (dep+1) 3,0⟩,some b1) :: H):=λb1=>bF.cons hF _ _ _
 have T:z=1\/z=2\/z=3:=by
  simp only[m0,bh]at O
  have h:=O.2.2.2.2
  unfold BV at h
  split at h
  ·exact .inl (by assumption)
  ·split at h
   ·exact .inr (.inl (by assumption))
   ·split at h
    ·exact .inr (.inr (by assumption))
    ·cases h
 have L : ∀(F:ai)(e:Int),bF ((⟨dep+1,3,H.gen (dep+1) 3,0⟩,some ⟨17,[.agg [a8 z,a8 u,au l,a8 t,aI q,a8 o,au m,a8 v,aI n,aI k,a8 j,au b,a8 a,aI f,a8 d,au i,x]],false,false⟩) :: H) F ->∃(M:AV) (rm:Ref),F.get rh=some ⟨2,[.agg [M,.mp rm]],false,false⟩/\wh M=some ops.length/\bF H F:=by
  intro F e G
  obtain⟨M,V,rm,C,D,E⟩:=((hh.grow (y _)).grow G).box
  exact⟨M,rm,C,by rw[D.len];simp,(y _).trans G⟩
 rcases T with rfl | rfl | rfl
 ·have Q:=RM (dep+1) (y ⟨17,[.agg [a8 1,a8 u,au l,a8 t,aI q,a8 o,au m,a8 v,aI n,aI k,a8 j,au b,a8 a,aI f,a8 d,au i,x]],false,false⟩).fr (hh.grow (y _)) hb he _ _ _ _ _ _ _ _ _ _ _ _ _ _ _ _ N R O
  have J:uf ops ents ⟨1,⟨u,l,t⟩,q,⟨⟨⟨o,m,v⟩,n⟩,k⟩,⟨⟨j,b,a⟩,f⟩,⟨d,i⟩,A⟩=fG ents ⟨1,⟨u,l,t⟩,q,⟨⟨⟨o,m,v⟩,n⟩,k⟩,⟨⟨j,b,a⟩,f⟩,⟨d,i⟩,A⟩:=by unfold uf;rfl
  unfold vm
  rw[J]
  clear J
  generalize fG ents ⟨1,⟨u,l,t⟩,q,⟨⟨⟨o,m,v⟩,n⟩,k⟩,⟨⟨j,b,a⟩,f⟩,⟨d,i⟩,A⟩=er at *
  simp[af,ah,ad,ae,aa, *,ep,N.r,DL,SX,SW,SV]
  refine lO (by kernel_rfl) Q λF G=>?_
  obtain⟨M,rm,C,D,E⟩:=L F 0 G
  by_cases K:er=0
  ·subst K
   by_cases I:2048<=ops.length
   ·have w:(2048:Int)<=ops.length:=by omega
    simp[C,D,E,I,w]
   ·have w : ¬(2048:Int)<=ops.length:=by omega
    simp[C,D,E,I,w]
  ·simp[C,D,E,K]
 ·have Q:=Ro (dep+1) (y ⟨17,[.agg [a8 2,a8 u,au l,a8 t,aI q,a8 o,au m,a8 v,aI n,aI k,a8 j,au b,a8 a,aI f,a8 d,au i,x]],false,false⟩).fr (hh.grow (y _)) hb 2 u l t q o m v n k j b a f d i N S
  have J:uf ops ents ⟨2,⟨u,l,t⟩,q,⟨⟨⟨o,m,v⟩,n⟩,k⟩,⟨⟨j,b,a⟩,f⟩,⟨d,i⟩,A⟩=yT ents ⟨2,⟨u,l,t⟩,q,⟨⟨⟨o,m,v⟩,n⟩,k⟩,⟨⟨j,b,a⟩,f⟩,⟨d,i⟩,A⟩:=by unfold uf;rfl
  unfold vm
  rw[J]
  clear J
  generalize yT ents ⟨2,⟨u,l,t⟩,q,⟨⟨⟨o,m,v⟩,n⟩,k⟩,⟨⟨j,b,a⟩,f⟩,⟨d,i⟩,A⟩=er at *
  simp[af,ah,ad,ae,aa, *,ep,N.r,DL,SX,SW,SV]
  refine lO (by kernel_rfl) Q λF G=>?_
  obtain⟨M,rm,C,D,E⟩:=L F 0 G
  by_cases K:er=0
  ·subst K
   by_cases I:2048<=ops.length
   ·have w:(2048:Int)<=ops.length:=by omega
    simp[C,D,E,I,w]
   ·have w : ¬(2048:Int)<=ops.length:=by omega
    simp[C,D,E,I,w]
  ·simp[C,D,E,K]
 ·have Q:=raise_at (dep+1) (y ⟨17,[.agg [a8 3,a8 u,au l,a8 t,aI q,a8 o,au m,a8 v,aI n,aI k,a8 j,au b,a8 a,aI f,a8 d,au i,x]],false,false⟩).fr (hh.grow (y _)) hb P U _ _ _ _ _ _ _ _ _ _ _ _ _ _ _ _ N (by omega) O
  have J:uf ops ents ⟨3,⟨u,l,t⟩,q,⟨⟨⟨o,m,v⟩,n⟩,k⟩,⟨⟨j,b,a⟩,f⟩,⟨d,i⟩,A⟩=yU ops ents ⟨3,⟨u,l,t⟩,q,⟨⟨⟨o,m,v⟩,n⟩,k⟩,⟨⟨j,b,a⟩,f⟩,⟨d,i⟩,A⟩:=by unfold uf;rfl
  unfold vm
  rw[J]
  clear J
  generalize yU ops ents ⟨3,⟨u,l,t⟩,q,⟨⟨⟨o,m,v⟩,n⟩,k⟩,⟨⟨j,b,a⟩,f⟩,⟨d,i⟩,A⟩=er at *
  simp[af,ah,ad,ae,aa, *,ep,N.r,DL,SX,SW,SV]
  refine lO (by kernel_rfl) Q λF G=>?_
  obtain⟨M,rm,C,D,E⟩:=L F 0 G
  by_cases K:er=0
  ·subst K
   by_cases I:2048<=ops.length
   ·have w:(2048:Int)<=ops.length:=by omega
    simp[C,D,E,I,w]
   ·have w : ¬(2048:Int)<=ops.length:=by omega
    simp[C,D,E,I,w]
  ·simp[C,D,E,K]
end
end Go.Proofs.YtmkmimgokagimaaGreat
namespace Go.Proofs.YtmkmimgokagimaaGreat
open Go.Ab
attribute [local simp] aW aJ aH aV aU cr ld bf aQ aT cz cw bI bg aC bH gh
def tX(ents:List (bV × AV))(l:List bV):List (bV × AV):=l.foldl (λe i=>jq i (aB true) e) ents
@[simp] theorem aaQ(ents:List (bV × AV)):tX ents []=ents:=id rfl
@[simp] theorem EO(ents:List (bV × AV))(i:bV)(l:List bV):tX ents (i :: l)=tX (jq i (aB true) ents) l:=id rfl
theorem Lk{K:Type}[DecidableEq K](k:K)(x:AV) : ∀l:List (K × AV),(jq k x l).length<=l.length+1
 | []=>by simp[jq]
 | p :: l=>by
  unfold jq
  split
  ·simp
  ·have:=Lk k x l;simp;omega
theorem B4 : ∀(l:List bV)(ents:List (bV × AV)),(tX ents l).length<=ents.length+l.length
 | [],ents=>by simp
 | i :: l,ents=>by
  have:=B4 l (jq i (aB true) ents)
  have a:=Lk i (aB true) ents
  simp
  omega
theorem AY{i:bV} : ∀ {ents:List (bV × AV)},nJ ents->nJ (jq i (aB true) ents)
 | [],h=>by intro p hp;simp[jq]at hp;rw[hp]
 | q :: l,h=>by
  intro p hp
  unfold jq at hp
  split at hp
  ·rcases m6.1 hp with rfl | hp
   ·rfl
   ·exact h p (il _ hp)
  ·rcases m6.1 hp with rfl | hp
   ·exact h _ jn
   ·exact AY (λp hp=>h p (il _ hp)) p hp
theorem EP : ∀(l:List bV){ents:List (bV × AV)},nJ ents->nJ (tX ents l)
 | [],_,h=>h
 | i :: l,_,h=>EP l (AY h)
def sF:List (aK × AV)->List (bV × AV)->List (aK × AV)->Option (List (aK × AV) × List (bV × AV))
 | ops,ents,[]=>some (ops,ents)
 | ops,ents,p :: l=>if m0 p.1=true/\vm ops ents p.1=0 then sF (ops++[p]) (if p.1.kind=1 then tX ents (cB p.1.s) else ents) l else none
structure E6 (H0 H:ai) (rh rm:Ref) (ops:List (aK × AV)) (ents:List (bV × AV)):Prop where
 fr:Fr H
 box : ∃xo,H.get rh=some ⟨2,[.agg [xo,.mp rm]],false,false⟩/\((xo=ct/\ops=[]) \/∃g,xo = .cL ⟨1,34,g,0⟩ 0 ops.length none/\H.get ⟨1,34,g,0⟩=some ⟨17,cI ops,true,false⟩)
 map:H.get rm=some (bj (cF z8 ents))
 old : ∀q b,q.d=0->H0.get q=some b->H.get q=some b
 ok:nJ ents
theorem E6.eO{H0 H:ai}{rh rm:Ref}{ops:List (aK × AV)}{ents:List (bV × AV)}(h:E6 H0 H rh rm ops ents):AR H rh ops ents:=by
 obtain⟨c,b,a⟩:=h.box
 rcases a with ⟨rfl,rfl⟩ | ⟨g,rfl,a⟩
 ·exact⟨ct,ct,rm,b,kB.of (.inl ⟨rfl,rfl⟩) _,h.map⟩
 ·exact⟨_,.bW 17 (cI ops) none,rm,b,.inr ⟨_,none,false,by rw[jD],a,rfl,dc _⟩,h.map⟩
theorem E6.grow{H0 H H':ai}{rh rm:Ref}{ops:List (aK × AV)}{ents:List (bV × AV)}(h:E6 H0 H rh rm ops ents)(g:bF H H'):E6 H0 H' rh rm ops ents:=by
 obtain⟨k,j,a⟩:=h.box
 refine⟨g.fr,⟨k,g.old _ _ j,?_⟩,g.old _ _ h.map,λq b f i=>g.old _ _ (h.old q b f i),h.ok⟩
 rcases a with a | ⟨c,e,a⟩
 ·exact .inl a
 ·exact .inr ⟨c,e,g.old _ _ a⟩
section
variable{l:List (aK × AV)}{x12:AV}(hx:Sl 17 (cI l) x12)(hall : ∀p∈l,HW p/\p.1.l.length<1000000)(hl:l.length<10000){rh rm:Ref}(th:rh.t=11)(tm:rm.t=9)(dh:rh.d=1)(dm:rm.d=1){H0:ai}{Q:AV->ai->Prop}
include hx hall hl th tm dh dm
theorem UZ{ops:List (aK × AV)}{f:List bV}(Z:f.length<100000){j:Int}{c:List (bV × AV)}
 (x : ∀H,E6 H0 H rh rm ops c->bN env Tryz.f172 (0+1) ox [(4,.ptr rh 0 0),(14,aI (IntKind.i64.wrap (j+1))),(12,x12),(13,aI l.length)] H Q) :
 ∀(s:List bV)(k:Nat)(i:Int)(ents:List (bV × AV)) (H:ai),f.drop k=s->k<=f.length->i=k->E6 H0 H rh rm ops ents->tX ents s=c ->
 bN env Tryz.f172 (0+1) rG [(44,aI i),(4,.ptr rh 0 0),(42,.bW 4 (nI f) none),(12,x12),(13,aI l.length),(14,aI j),(43,aI f.length)] H Q:=by
 have G:Sl 4 (nI f) (.bW 4 (nI f) none):=Sl.mk _ _
 intro s
 induction s with
 | nil=>
  rintro k i ents H hs hk rfl hI he
  obtain rfl:=drop_nil hs hk
  simp at he
  subst he
  have u:=x H hI
  refine Cs _ _ _ _ _ _ _ _ _ _ λg=>?_
  clear x hI hall
  simp[af,ah,ad,ae,aa, *,zu]
  all_goals exact u
 | cons a s L=>
  rintro k i ents H hs hk rfl hI he
  obtain⟨V,R,v,o⟩:=drop_cons hs
  have e3:=IntWalk.i64_in ((k:Int)+1) (by omega)
  obtain⟨⟨a1,a2,a3⟩,a4⟩:=a
  have U:bX (nI f) k 0 4 true=some (.agg [a8 a1,au a2,a8 a3,aI a4]):=by simp[nI,o,z8]
  have J:(k:Int)<f.length:=by omega
  obtain⟨A,⟨M,S,m⟩,T,C,P⟩:=hI
  have Y:(H.get rh).isSome=true:=by rw[S];rfl
  have X:(H.get rm).isSome=true:=by rw[T];rfl
  have z:=λ(H':ai)(h:H'.get rm=some (bj (cF z8 ents)))=>uQ P6 Mu (t:=264) (et:=4) (by kernel_rfl) h ⟨⟨a1,a2,a3⟩,a4⟩ (aB true)
  have n1:rh≠rm:=by rintro rfl;omega
  have n2:=n1.symm
  have E:=λH' h=>L (k+1) ((k:Int)+1) (jq ⟨⟨a1,a2,a3⟩,a4⟩ (aB true) ents) H' v (by omega) (by simp) h (by simpa using he)
  have F : ∀(n:ai),Fr n->n.get rh=some ⟨2,[.agg [M,.mp rm]],false,false⟩->n.get rm=some (bj (cF z8 (jq ⟨⟨a1,a2,a3⟩,a4⟩ (aB true) ents)))->(∀q,q≠rm->(H.get q).isSome=true->n.get q=H.get q)->E6 H0 n rh rm ops (jq ⟨⟨a1,a2,a3⟩,a4⟩ (aB true) ents):=by
   intro n O N W K
   refine⟨O,⟨M,N,?_⟩,W,λq b w I=>?_,AY P⟩
   ·rcases m with m | ⟨g,e,m⟩
    ·exact .inl m
    ·exact .inr ⟨g,e,by rw[K _ (λe=>by have h:=congrArg Ref.t e;rw[tm]at h;exact absurd h (by simp)) (by rw[m];rfl)];exact m⟩
   ·rw[K q (by rintro rfl;omega) (by rw[C q b w I];rfl)];exact C q b w I
  have D:(z8 ⟨⟨a1,a2,a3⟩,a4⟩) = .agg [a8 a1,au a2,a8 a3,aI a4]:=rfl
  rw[D]at z
  clear L x hall C m hs v R o he
  refine Cs _ _ _ _ _ _ _ _ _ _ λg=>?_
  simp[af,ah,ad,ae,aa, *,zu,G.r,G.idx]
  refine E _ (F _ ?_ ?_ ?_ λq w y=>?_)
  ·exact by simp(maxDischargeDepth:=12) [ai.get_put,aq,aj,Fr.nil,aw,af,ah,ad,ae,ao,ak,aa, *]
  ·exact by simp(maxDischargeDepth:=12) [ai.get_put,aq,aj,Fr.nil,aw,af,ah,ad,ae,ao,ak,aa, *]
  ·exact by simp(maxDischargeDepth:=12) [ai.get_put,aq,aj,Fr.nil,aw,af,ah,ad,ae,ao,ak,aa, *]
  ·simp[af A y,ai.get_put,w]
def KC(H0:ai)(rh rm:Ref)(n:Nat)(o:Option (List (aK × AV) × List (bV × AV)))(y:AV)(H:ai):Prop:=
 Fr H/\(∀q b,q.d=0->H0.get q=some b->H.get q=some b)/\match o with
  | none=>y = .tup [.v (.pointer none),aB false]
  | some (ops,ents)=>y = .tup [.ptr rh 0 0,aB true]/\E6 H0 H rh rm ops ents/\ops.length<=n/\ents.length<=64 * ops.length /\∀p∈ops,HW p
theorem Vg : ∀(s:List (aK × AV)) (k:Nat) (i:Int) (ops:List (aK × AV)) (ents:List (bV × AV)) (H:ai),l.drop k=s->k<=l.length->i=k->ops.length<=k->ents.length<=64 * ops.length->(∀p∈ops,HW p)->E6 H0 H rh rm ops ents ->
 (∀y H',KC H0 rh rm l.length (sF ops ents s) y H'->Q y H') ->
 bN env Tryz.f172 (0+1) ox [(4,.ptr rh 0 0),(14,aI i),(12,x12),(13,aI l.length)] H Q:=by
 intro s
 induction s with
 | nil=>
  rintro k i ops ents H hs hk rfl ho he hok hI hQ
  obtain rfl:=drop_nil hs hk
  have O:=hQ _ H ⟨hI.fr,hI.old,rfl,hI,ho,he,hok⟩
  refine Ev _ _ _ _ _ _ _ λg=>?_
  clear hQ hI hall
  simp[af,ah,ad,ae,aa, *,wE]
  all_goals exact O
 | cons p s ih=>
  rintro k i ops ents H hs hk rfl ho he hok hI hQ
  obtain⟨hlt,hg,hs',hg'⟩:=drop_cons hs
  have e3:=IntWalk.i64_in ((k:Int)+1) (by omega)
  have hp:=hall p (hg ▸ lY hlt)
  obtain⟨⟨D,⟨J,F,I⟩,G,⟨⟨⟨C,A,z⟩,w⟩,a⟩,⟨⟨o,f,c⟩,n⟩,⟨j,u⟩,V⟩,x⟩:=p
  obtain⟨⟨L,X⟩,hal⟩:=hp
  simp only at L hal X
  have hrd:bX (cI l) k 0 17 true=some (.agg [a8 D,a8 J,au F,a8 I,aI G,a8 C,au A,a8 z,aI w,aI a,a8 o,au f,a8 c,aI n,a8 j,au u,x]):=by simp[cI,hg',zh]
  have hlt':(k:Int)<l.length:=by omega
  have hC:=oH D J F I G C A z w a o f c n j u L X
  have hH:=hI.eO
  have hFr:=hI.fr
  have W : ∀b1:bz,bF H ((⟨1,6,H.gen 1 6,0⟩,some b1) :: H):=λb1=>bF.cons hFr _ _ _
  have hcell : ∀ {b:aK × AV},(cI l).length=l.length:=jD l
  refine Ev _ _ _ _ _ _ _ λg=>?_
  have hno : ¬(m0 (⟨D,⟨J,F,I⟩,G,⟨⟨⟨C,A,z⟩,w⟩,a⟩,⟨⟨o,f,c⟩,n⟩,⟨j,u⟩,V⟩:aK)=true/\vm ops ents (⟨D,⟨J,F,I⟩,G,⟨⟨⟨C,A,z⟩,w⟩,a⟩,⟨⟨o,f,c⟩,n⟩,⟨j,u⟩,V⟩:aK)=0)->Q (.tup [.v (.pointer none),aB false]) H->True:=λ_ _=>trivial
  clear hno hcell
  cases hb:m0 (⟨D,⟨J,F,I⟩,G,⟨⟨⟨C,A,z⟩,w⟩,a⟩,⟨⟨o,f,c⟩,n⟩,⟨j,u⟩,V⟩:aK) with
  | false=>
   have hd:sF ops ents (((⟨D,⟨J,F,I⟩,G,⟨⟨⟨C,A,z⟩,w⟩,a⟩,⟨⟨o,f,c⟩,n⟩,⟨j,u⟩,V⟩:aK),x) :: s)=none:=by simp[sF,hb]
   rw[hd]at hQ
   have O:=λb1=>hQ (.tup [.v (.pointer none),aB false]) _ ⟨(W b1).fr,λq b S hb=>(W b1).old _ _ (hI.old q b S hb),rfl⟩
   clear hQ ih hI hall hH
   simp[af,ah,ad,ae,aa, *,wE,hx.r,hx.idx,L.r]
   all_goals exact O _
  | true=>
   have Z:=Qf 1 (W ⟨17,[.agg [a8 D,a8 J,au F,a8 I,aI G,a8 C,au A,a8 z,aI w,aI a,a8 o,au f,a8 c,aI n,a8 j,au u,x]],false,false⟩).fr (hH.grow (W _)) hI.ok (by omega) hok (by omega) D J F I G C A z w a o f c n j u L hal hb
   have hsp:=lz hb
   simp only at hsp
   have hN:=JS C A z w a hsp
   simp[af,ah,ad,ae,aa, *,wE,hx.r,hx.idx,L.r]
   refine lO (by kernel_rfl) Z λH4 hG4=>?_
   have hI4:=(hI.grow (W _)).grow hG4
   by_cases hd0:vm ops ents (⟨D,⟨J,F,I⟩,G,⟨⟨⟨C,A,z⟩,w⟩,a⟩,⟨⟨o,f,c⟩,n⟩,⟨j,u⟩,V⟩:aK)=0
   ·have hd:sF ops ents (((⟨D,⟨J,F,I⟩,G,⟨⟨⟨C,A,z⟩,w⟩,a⟩,⟨⟨o,f,c⟩,n⟩,⟨j,u⟩,V⟩:aK),x) :: s)=sF (ops++[((⟨D,⟨J,F,I⟩,G,⟨⟨⟨C,A,z⟩,w⟩,a⟩,⟨⟨o,f,c⟩,n⟩,⟨j,u⟩,V⟩:aK),x)]) (if D=1 then tX ents (cB ⟨⟨⟨C,A,z⟩,w⟩,a⟩) else ents) s:=by
     show(if _ then _ else _)=_
     rw[if_pos ⟨hb,hd0⟩]
    rw[hd]at hQ
    have hnl:=DU hsp
    have hnl2:(cB ⟨⟨⟨C,A,z⟩,w⟩,a⟩).length<=64:=by
     have hn:=gz hsp
     simp only at hn
     simp[cB]
     omega
    have hal2:=B4 (cB ⟨⟨⟨C,A,z⟩,w⟩,a⟩) ents
    have U : ∀p∈ops++[((⟨D,⟨J,F,I⟩,G,⟨⟨⟨C,A,z⟩,w⟩,a⟩,⟨⟨o,f,c⟩,n⟩,⟨j,u⟩,V⟩:aK),x)],HW p:=by
     intro p hp
     rcases nR.1 hp with hp | hp
     ·exact hok p hp
     ·rw[uP]at hp;subst hp;exact⟨L,X⟩
    obtain⟨hF4,⟨xo,h1,h2⟩,h3,h4,h5⟩:=hI4
    have hb6:=hG4.old ⟨1,6,H.gen 1 6,0⟩ _ (by simp;rfl)
    have lh:(H4.get rh).isSome=true:=by rw[h1];rfl
    have lm:(H4.get rm).isSome=true:=by rw[h3];rfl
    have n34 : ∀g,(⟨1,34,g,0⟩:Ref)≠rh:=λg e=>by have h:=congrArg Ref.t e;rw[th]at h;exact absurd h (by simp)
    have n34' : ∀g,rh≠(⟨1,34,g,0⟩:Ref):=λg e=>n34 g e.symm
    have m34 : ∀g,(⟨1,34,g,0⟩:Ref)≠rm:=λg e=>by have h:=congrArg Ref.t e;rw[tm]at h;exact absurd h (by simp)
    have m34' : ∀g,rm≠(⟨1,34,g,0⟩:Ref):=λg e=>m34 g e.symm
    have nhm:rh≠rm:=by rintro rfl;omega
    have nmh:=nhm.symm
    have n6:rh≠⟨1,6,H.gen 1 6,0⟩:=λe=>by have h:=congrArg Ref.t e;rw[th]at h;exact absurd h (by simp)
    have n6':=n6.symm
    have hst : ∀(g m:Nat)(H1:ai),m=ops.length+1->Fr H1->H1.get rh=some ⟨2,[.agg [.cL ⟨1,34,g,0⟩ 0 m none,.mp rm]],false,false⟩->H1.get ⟨1,34,g,0⟩=some ⟨17,cI ops++[.agg [a8 D,a8 J,au F,a8 I,aI G,a8 C,au A,a8 z,aI w,aI a,a8 o,au f,a8 c,aI n,a8 j,au u,x]],true,false⟩->H1.get rm=some (bj (cF z8 ents)) ->
     (∀q,q.d=0->(H4.get q).isSome=true->H1.get q=H4.get q)->E6 H0 H1 rh rm (ops++[((⟨D,⟨J,F,I⟩,G,⟨⟨⟨C,A,z⟩,w⟩,a⟩,⟨⟨o,f,c⟩,n⟩,⟨j,u⟩,V⟩:aK),x)]) ents:=by
     intro g m H1 hm f1 f2 f3 f4 f5
     subst hm
     refine⟨f1,⟨_,f2,.inr ⟨g,by simp,by rw[f3];simp[cI,zh]⟩⟩,f4,λq b S hb=>?_,h5⟩
     rw[f5 q S (by rw[h4 q b S hb];rfl)]
     exact h4 q b S hb
    have E : ∀(R:ai),E6 H0 R rh rm (ops++[((⟨D,⟨J,F,I⟩,G,⟨⟨⟨C,A,z⟩,w⟩,a⟩,⟨⟨o,f,c⟩,n⟩,⟨j,u⟩,V⟩:aK),x)]) ents->(if D=1 then bN env Tryz.f172 (0+1) rG [(44,aI 0),(4,.ptr rh 0 0),(42,.bW 4 (nI (cB ⟨⟨⟨C,A,z⟩,w⟩,a⟩)) none),(12,x12),(13,aI l.length),(14,aI k),(43,aI (cB ⟨⟨⟨C,A,z⟩,w⟩,a⟩).length)] R Q
     else bN env Tryz.f172 (0+1) ox [(4,.ptr rh 0 0),(14,aI ((k:Int)+1)),(12,x12),(13,aI l.length)] R Q):=by
     intro R hI7
     split
     ·rename_i M
      rw[if_pos M]at hQ
      exact UZ hx hall hl th tm dh dm hnl (λH' hI'=>by rw[e3];exact ih (k+1) _ _ _ H' hs' (by omega) (by simp) (by simp;omega) (by simp;omega) U hI' hQ) _ 0 0 ents R rfl (by omega) rfl hI7 rfl
     ·rename_i M
      rw[if_neg M]at hQ
      exact ih (k+1) _ _ _ R hs' (by omega) (by simp) (by simp;omega) (by simp;omega) U hI7 hQ
    clear hall hQ ih hI hH Z hC hok U hal2 hs hs' hg hg' h4 h5 hG4 hrd hd
    rcases h2 with ⟨rfl,rfl⟩ | ⟨g,rfl,h2⟩
    ·have N:=hst (H4.gen 1 34) 1
     clear hst
     have heo:cI []=[]:=rfl
     by_cases M:D=1
     ·subst M
      have T:=λR h=>E R h
      simp only[if_true]at T
      clear E
      simp[af,ah,ad,ae,aa, *,L.r]
      refine T _ (N _ rfl ?_ ?_ ?_ ?_ λq S P=>?_)
      ·exact by simp(maxDischargeDepth:=12) [ai.get_put,aq,aj,Fr.nil,aw,af,ah,ad,ae,ao,ak,aa, *]
      ·exact by simp(maxDischargeDepth:=12) [ai.get_put,aq,aj,Fr.nil,aw,af,ah,ad,ae,ao,ak,aa, *]
      ·exact by simp(maxDischargeDepth:=12) [ai.get_put,aq,aj,Fr.nil,aw,af,ah,ad,ae,ao,ak,aa, *]
      ·exact by simp(maxDischargeDepth:=12) [ai.get_put,aq,aj,Fr.nil,aw,af,ah,ad,ae,ao,ak,aa, *]
      ·have Y:q≠rh:=by rintro rfl;omega
       have K : ∀g,q≠(⟨1,34,g,0⟩:Ref):=λg e=>by have h:=congrArg Ref.d e;rw[S]at h;exact absurd h (by simp)
       simp[af hF4 P,ai.get_put,Y,K,Y.symm,λg=>(K g).symm]
     ·have T:=λR h=>E R h
      simp only[M,if_false]at T
      clear E
      simp[af,ah,ad,ae,aa, *,L.r]
      refine T _ (N _ rfl ?_ ?_ ?_ ?_ λq S P=>?_)
      ·exact by simp(maxDischargeDepth:=12) [ai.get_put,aq,aj,Fr.nil,aw,af,ah,ad,ae,ao,ak,aa, *]
      ·exact by simp(maxDischargeDepth:=12) [ai.get_put,aq,aj,Fr.nil,aw,af,ah,ad,ae,ao,ak,aa, *]
      ·exact by simp(maxDischargeDepth:=12) [ai.get_put,aq,aj,Fr.nil,aw,af,ah,ad,ae,ao,ak,aa, *]
      ·exact by simp(maxDischargeDepth:=12) [ai.get_put,aq,aj,Fr.nil,aw,af,ah,ad,ae,ao,ak,aa, *]
      ·have Y:q≠rh:=by rintro rfl;omega
       have K : ∀g,q≠(⟨1,34,g,0⟩:Ref):=λg e=>by have h:=congrArg Ref.d e;rw[S]at h;exact absurd h (by simp)
       simp[af hF4 P,ai.get_put,Y,K,Y.symm,λg=>(K g).symm]
    ·have N:=hst (H4.gen 1 34) (ops.length+1)
     clear hst
     have l34:(H4.get ⟨1,34,g,0⟩).isSome=true:=by rw[h2];rfl
     have f4:mY 17 112 ops.length true none (some ⟨17,cI ops,true,false⟩) (some [.agg [a8 D,a8 J,au F,a8 I,aI G,a8 C,au A,a8 z,aI w,aI a,a8 o,au f,a8 c,aI n,a8 j,au u,x]]):=by
      simp;omega
     by_cases M:D=1
     ·subst M
      have T:=λR h=>E R h
      simp only[if_true]at T
      clear E
      simp[af,ah,ad,ae,aa, *,L.r]
      refine T _ (N _ rfl ?_ ?_ ?_ ?_ λq S P=>?_)
      ·exact by simp(maxDischargeDepth:=12) [ai.get_put,aq,aj,Fr.nil,aw,af,ah,ad,ae,ao,ak,aa, *]
      ·exact by simp(maxDischargeDepth:=12) [ai.get_put,aq,aj,Fr.nil,aw,af,ah,ad,ae,ao,ak,aa, *]
      ·exact by simp(maxDischargeDepth:=12) [ai.get_put,aq,aj,Fr.nil,aw,af,ah,ad,ae,ao,ak,aa, *]
      ·exact by simp(maxDischargeDepth:=12) [ai.get_put,aq,aj,Fr.nil,aw,af,ah,ad,ae,ao,ak,aa, *]
      ·have Y:q≠rh:=by rintro rfl;omega
       have K : ∀g,q≠(⟨1,34,g,0⟩:Ref):=λg e=>by have h:=congrArg Ref.d e;rw[S]at h;exact absurd h (by simp)
       simp[af hF4 P,ai.get_put,Y,K,Y.symm,λg=>(K g).symm]
     ·have T:=λR h=>E R h
      simp only[M,if_false]at T
      clear E
      simp[af,ah,ad,ae,aa, *,L.r]
      refine T _ (N _ rfl ?_ ?_ ?_ ?_ λq S P=>?_)
      ·exact by simp(maxDischargeDepth:=12) [ai.get_put,aq,aj,Fr.nil,aw,af,ah,ad,ae,ao,ak,aa, *]
      ·exact by simp(maxDischargeDepth:=12) [ai.get_put,aq,aj,Fr.nil,aw,af,ah,ad,ae,ao,ak,aa, *]
      ·exact by simp(maxDischargeDepth:=12) [ai.get_put,aq,aj,Fr.nil,aw,af,ah,ad,ae,ao,ak,aa, *]
      ·exact by simp(maxDischargeDepth:=12) [ai.get_put,aq,aj,Fr.nil,aw,af,ah,ad,ae,ao,ak,aa, *]
      ·have Y:q≠rh:=by rintro rfl;omega
       have K : ∀g,q≠(⟨1,34,g,0⟩:Ref):=λg e=>by have h:=congrArg Ref.d e;rw[S]at h;exact absurd h (by simp)
       simp[af hF4 P,ai.get_put,Y,K,Y.symm,λg=>(K g).symm]
   ·have hd:sF ops ents (((⟨D,⟨J,F,I⟩,G,⟨⟨⟨C,A,z⟩,w⟩,a⟩,⟨⟨o,f,c⟩,n⟩,⟨j,u⟩,V⟩:aK),x) :: s)=none:=by
     show(if _ then _ else _)=_
     rw[if_neg (λh=>hd0 h.2)]
    rw[hd]at hQ
    have O:=hQ (.tup [.v (.pointer none),aB false]) H4 ⟨hI4.fr,hI4.old,rfl⟩
    simp[hd0]
    all_goals exact O
end
end Go.Proofs.YtmkmimgokagimaaGreat
namespace Go.Proofs.YtmkmimgokagimaaGreat
open Go.Ab
attribute [local simp] aW aJ aH aV aU cr ld bf aQ aT cz cw bI bg aC bH gh
@[simp] theorem adY(r:Ref):(AV.mp r).cells=[.mp r]:=id rfl
@[simp] theorem ahq(r:Ref):(AV.mp r).one=true:=id rfl
section
variable{l:List (aK × AV)}{x0:AV}(hx:Sl 17 (cI l) x0)(hall : ∀p∈l,HW p/\p.1.l.length<1000000)(hl:l.length<10000)
include hx hall hl
theorem Vf{H:ai}(e:Fr H) : ∃y H',cg env 0 (.fn 172) [x0] H=some (y,H') /\∃rh rm,KC H rh rm l.length (sF [] [] l) y H':=by
 refine lB (Q:=λy H' =>∃rh rm,KC H rh rm l.length (sF [] [] l) y H') (fn:=Tryz.f172) (c:=Sa) (by kernel_rfl) (by kernel_rfl) (by kernel_rfl) (by kernel_rfl) (by kernel_rfl) ?_
 refine QC _ _ _ _ λg=>?_
 have a:=λj f=>Vg hx hall hl (rh:=⟨1,11,H.gen 1 11,0⟩) (rm:=⟨1,9,H.gen 1 9,0⟩) rfl rfl rfl rfl (H0:=H) (Q:=λy H' =>∃rh rm,KC H rh rm l.length (sF [] [] l) y H') l 0 0 [] [] j rfl (by omega) rfl (by simp) (by simp) (by intro p hp;cases hp) f (λy H' h=>⟨_,_,h⟩)
 clear hall
 simp[af,ah,ad,ae,aa, *,Ji,hx.r]
 refine a _ ⟨?_,⟨ct,?_,.inl ⟨rfl,rfl⟩⟩,?_,λq b k d=>?_,λp hp=>nomatch hp⟩
 ·exact by simp(maxDischargeDepth:=12) [ai.get_put,aq,aj,Fr.nil,aw,af,ah,ad,ae,ao,ak,aa, *]
 ·simp
 ·simp[cF]
 ·have i:(H.get q).isSome=true:=by rw[d];rfl
  simp[af e i,d]
def pI(l:List (aK × AV))(o:aK):Int:=match sF [] [] l with
 | none=>8
 | some (ops,ents)=>if m0 o then vm ops ents o else 8
theorem Re(i:UInt8)(u:UInt8)(m:UInt32)(t:UInt8)(q:Int)(o:UInt8)(n:UInt32)(k:UInt8)(j:Int)(h:Int)(e:UInt8)(b:UInt32)(a:UInt8)(d:Int)(c:UInt8)(f:UInt32){x:AV}{z:List Int}(v:Sl 1 (rows z) x)(C:z.length<1000000):aF env 137 [x0,.agg [a8 i,a8 u,au m,a8 t,aI q,a8 o,au n,a8 k,aI j,aI h,a8 e,au b,a8 a,aI d,a8 c,au f,x]]=some (aI (pI l (⟨i,⟨u,m,t⟩,q,⟨⟨⟨o,n,k⟩,j⟩,h⟩,⟨⟨e,b,a⟩,d⟩,⟨c,f⟩,z⟩:aK))):=by
 refine aG rfl (by kernel_rfl) (K4 _ _ _ _ λg=>?_)
 have N:=oH i u m t q o n k j h e b a d c f v (by omega)
 obtain⟨y,J,K,rh,rm,E,hold,hm⟩:=Vf hx hall hl (H:=[(⟨0,3,0,0⟩,some ⟨17,[.agg [a8 i,a8 u,au m,a8 t,aI q,a8 o,au n,a8 k,aI j,aI h,a8 e,au b,a8 a,aI d,a8 c,au f,x]],false,false⟩)]) (by simp[aq,aj,Fr.nil])
 have I:=hold ⟨0,3,0,0⟩ _ rfl rfl
 have D:bJ env true (aF env) (cg env 0) [(⟨0,3,0,0⟩,some ⟨17,[.agg [a8 i,a8 u,au m,a8 t,aI q,a8 o,au n,a8 k,aI j,aI h,a8 e,au b,a8 a,aI d,a8 c,au f,x]],false,false⟩)] ⟨0,10,0,0⟩ (some (.fn (.func 172) [] [])) [x0]=some (y,J):=by
  rw[Eb (by kernel_rfl)]
  exact K
 unfold pI
 cases F:sF [] [] l with
 | none=>
  rw[F]at hm
  dsimp only at hm
  subst hm
  clear hold hall
  simp[af,ah,ad,ae,aa, *,wF,hx.r,v.r,D]
 | some p=>
  obtain⟨ops,ents⟩:=p
  rw[F]at hm
  dsimp only at hm
  obtain⟨rfl,w,M,he,A⟩:=hm
  clear hold
  cases G:m0 (⟨i,⟨u,m,t⟩,q,⟨⟨⟨o,n,k⟩,j⟩,h⟩,⟨⟨e,b,a⟩,d⟩,⟨c,f⟩,z⟩:aK) with
  | false=>
   clear hall w
   simp[af,ah,ad,ae,aa, *,wF,hx.r,v.r,D]
  | true=>
   have L:=Qf 0 E w.eO w.ok (by omega) A (by omega) i u m t q o n k j h e b a d c f v C G
   clear hall w
   simp[af,ah,ad,ae,aa, *,wF,hx.r,v.r,D]
   refine lO (by kernel_rfl) L λP O=>?_
   simp
end
end Go.Proofs.YtmkmimgokagimaaGreat
