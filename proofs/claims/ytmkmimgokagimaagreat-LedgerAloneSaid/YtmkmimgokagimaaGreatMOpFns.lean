/-
  Operations: what the functions compute. No statement of a seat is proved here.
-/
import Derived.Test.YtmkmimgokagimaaGreatMLePol
import Derived.Test.YtmkmimgokagimaaGreatMRunBytes
import Derived.Test.YtmkmimgokagimaaGreatLeVc2
import Derived.Test.YtmkmimgokagimaaGreatAbsCond
set_option linter.unusedVariables false
set_option linter.unusedSimpArgs false
set_option linter.unusedSectionVars false
set_option linter.unnecessarySimpa false
namespace Go.Ab
structure Lab where
 lv:UInt8
 cats:UInt32
deriving DecidableEq
structure Opn where
 kind:UInt8
 h:Han
 serial:Int
 s:Spn
 a:Idd
 to:Lab
 l:List Int
deriving DecidableEq
def kW(a:Idd):Bool:=decide (a.h.lv=0)&&decide (a.h.cats=0)&&decide (a.h.num=0)&&decide (a.n=0)
def Cr(t:Lab):Bool:=decide (t.lv=0)&&decide (t.cats=0)
def Gv(a b:Han):Bool:=decide (a.lv=b.lv)&&decide (a.cats=b.cats)&&decide (a.num=b.num)
theorem xS(a:Idd):kW a=true↔a=Cs:=by
 obtain⟨⟨a,b,c⟩,d⟩:=a
 simp[kW,Cs,and_assoc]
theorem HZ(a b:Han):Gv a b=true↔a=b:=by
 obtain⟨a1,a2,a3⟩:=a
 obtain⟨b1,b2,b3⟩:=b
 simp[Gv,and_assoc]
def Fa(o:Opn):Bool:=kW o.a&&decide (o.l=[])
def insB(o:Opn):Bool:=Cr o.to&&((kW o.a||idB o.a)&&(Gv o.s.f.h o.h&&(decide ((o.l.length:Int)=o.s.many)&&rowB o.l)))
def delB(o:Opn):Bool:=Cr o.to&&Fa o
def raiB(o:Opn):Bool:=Fa o&&decide (o.to.lv≤15)
def mayB(o:Opn):Bool:=if o.kind=1 then insB o else if o.kind=2 then delB o else if o.kind=3 then raiB o else false
def opB(o:Opn):Bool:=mX o.h&&(decide (1≤o.serial)&&(decide (o.serial<16777216)&&(lz o.s&&mayB o)))
theorem BM{P:Program}{t:TypeId}(h1:(tagg P t).isSome=true)(h2:(aX P t).isSome=true)(cs:List AV)(off:Nat):wK P t cs off=Ls cs off ((aX P t).getD 0) ((tagg P t).getD false):=by
 obtain⟨b,hb⟩:=Option.isSome_iff_exists.1 h1
 obtain⟨n,hn⟩:=Option.isSome_iff_exists.1 h2
 simp only[wK,hb,hn,Option.getD_some]
 cases b<;>rfl
theorem yw{P:Program}{t:TypeId}(h1:((tarr P t).bind fun p=>aX P p.2).isSome=true)(cs:List AV)(k:UInt8)(hk:k.toNat<((tarr P t).getD (0,0)).1) :
 ov P t (some (.agg cs)) (some (a8 k))=qVal (wK P ((tarr P t).getD (0,0)).2 cs (k.toNat * (aX P ((tarr P t).getD (0,0)).2).getD 0)):=by
 cases ht:tarr P t with
 | none=>rw[ht]at h1;simp at h1
 | some p =>
  obtain⟨n,e⟩:=p
  rw[ht]at h1 hk
  simp only[Option.bind_some,Option.getD_some]at h1 hk
  obtain⟨s,hs⟩:=Option.isSome_iff_exists.1 h1
  unfold ov a8
  simp only[Option.bind_some,uR,ht,hs,Option.getD_some]
  rw[if_pos (by omega)]
  simp
@[simp] theorem RQ(r:Ref)(n:Nat)(f:Fn)(a b:List AV)(bs:List Blk):aA r n (.fn f a b) bs=(.fn f a b,bs):=by cases n<;>rfl
end Go.Ab
set_option maxRecDepth 100000
namespace Go.Proofs.YtmkmimgokagimaaGreat
open Go.Ab
attribute [local simp] bm aP aG bh bg keep thr bF aY bf dw dv cV bG aC cd List.take_of_length_le
def FL:AV := .agg [.v .nilFunc,.v .nilFunc,.fn (.func 186) [] [.iptr 1 [.fn (.func 184) [] []] 0 0],.fn (.func 188) [] [],
 .fn (.func 189) [] [.iptr 1 [.fn (.func 184) [] []] 0 0,.iptr 1 [.fn (.func 183) [] []] 0 0],.fn (.func 190) [] [],.fn (.func 191) [] [.iptr 1 [.fn (.func 183) [] []] 0 0],.fn (.func 192) [] []]
theorem NJ:limf env 136 []=some FL:=yR (n:=2000) (by kernel_rfl)
@[simp] theorem NP:limf env 185 []=some (.agg [a8 0,a32 0]):=by
 refine az (fn:=Tryz.f185) (c:=oX) rfl (by kernel_rfl) (by kernel_rfl) (by kernel_rfl) (by kernel_rfl) ?_;refine sM _ _ fun g=>?_
 simp[af,ah,ad,ae,ab, *,o6]
section
variable(a_1:UInt8)(a_2:UInt8)(a_3:UInt32)(a_4:UInt8)(a_5:Int)(a_6:UInt8)(a_7:UInt32)(a_8:UInt8)(a_9:Int)(a_10:Int)(a_11:UInt8)(a_12:UInt32)(a_13:UInt8)(a_14:Int)(a_15:UInt8)(a_16:UInt32){x:AV}{l:List Int}(hx:Sl 1 (rows l) x)(hl:l.length<2000000)
include hx hl
theorem Mx:limf env 183 [.agg [a8 a_1,a8 a_2,a32 a_3,a8 a_4,aI a_5,a8 a_6,a32 a_7,a8 a_8,aI a_9,aI a_10,a8 a_11,a32 a_12,a8 a_13,aI a_14,a8 a_15,a32 a_16,x]]=some (aB (Fa (⟨a_1,⟨a_2,a_3,a_4⟩,a_5,⟨⟨⟨a_6,a_7,a_8⟩,a_9⟩,a_10⟩,⟨⟨a_11,a_12,a_13⟩,a_14⟩,⟨a_15,a_16⟩,l⟩:Opn))):=by
 refine az (fn:=Tryz.f183) (c:=vg) rfl (by kernel_rfl) (by kernel_rfl) (by kernel_rfl) (by kernel_rfl) ?_;refine Bu _ _ _ fun g=>?_
 unfold Fa
 cases hz:kW (⟨⟨a_11,a_12,a_13⟩,a_14⟩:Idd) with
 | true =>
  unfold kW at hz
  simp[af,ah,ad,ae,ab, *,qx,hx.r,eqA,eqFs]
 | false =>
  unfold kW at hz
  simp[af,ah,ad,ae,ab, *,qx,hx.r,eqA,eqFs]
theorem Ig:limf env 184 [.agg [a8 a_1,a8 a_2,a32 a_3,a8 a_4,aI a_5,a8 a_6,a32 a_7,a8 a_8,aI a_9,aI a_10,a8 a_11,a32 a_12,a8 a_13,aI a_14,a8 a_15,a32 a_16,x]]=some (aB (Cr (⟨a_15,a_16⟩:Lab))):=by
 refine az (fn:=Tryz.f184) (c:=vf) rfl (by kernel_rfl) (by kernel_rfl) (by kernel_rfl) (by kernel_rfl) ?_;refine Bt _ _ _ fun g=>?_
 simp[af,ah,ad,ae,ab, *,vt,hx.r,eqA,eqFs,Cr]
theorem KT:limf env 189 [.agg [a8 a_1,a8 a_2,a32 a_3,a8 a_4,aI a_5,a8 a_6,a32 a_7,a8 a_8,aI a_9,aI a_10,a8 a_11,a32 a_12,a8 a_13,aI a_14,a8 a_15,a32 a_16,x],.iptr 1 [.fn (.func 184) [] []] 0 0,.iptr 1 [.fn (.func 183) [] []] 0 0]=some (aB (delB (⟨a_1,⟨a_2,a_3,a_4⟩,a_5,⟨⟨⟨a_6,a_7,a_8⟩,a_9⟩,a_10⟩,⟨⟨a_11,a_12,a_13⟩,a_14⟩,⟨a_15,a_16⟩,l⟩:Opn))):=by
 refine az (fn:=Tryz.f189) (c:=vc) rfl (by kernel_rfl) (by kernel_rfl) (by kernel_rfl) (by kernel_rfl) ?_;refine Br _ _ _ _ _ fun g=>?_
 have h1:=Mx a_1 a_2 a_3 a_4 a_5 a_6 a_7 a_8 a_9 a_10 a_11 a_12 a_13 a_14 a_15 a_16 hx hl
 have h2:=Ig a_1 a_2 a_3 a_4 a_5 a_6 a_7 a_8 a_9 a_10 a_11 a_12 a_13 a_14 a_15 a_16 hx hl
 unfold delB
 cases hz:Cr (⟨a_15,a_16⟩:Lab)<;>simp[af,ah,ad,ae,ab, *,vq,hx.r]
theorem NI:limf env 191 [.agg [a8 a_1,a8 a_2,a32 a_3,a8 a_4,aI a_5,a8 a_6,a32 a_7,a8 a_8,aI a_9,aI a_10,a8 a_11,a32 a_12,a8 a_13,aI a_14,a8 a_15,a32 a_16,x],.iptr 1 [.fn (.func 183) [] []] 0 0]=some (aB (raiB (⟨a_1,⟨a_2,a_3,a_4⟩,a_5,⟨⟨⟨a_6,a_7,a_8⟩,a_9⟩,a_10⟩,⟨⟨a_11,a_12,a_13⟩,a_14⟩,⟨a_15,a_16⟩,l⟩:Opn))):=by
 refine az (fn:=Tryz.f191) (c:=u9) rfl (by kernel_rfl) (by kernel_rfl) (by kernel_rfl) (by kernel_rfl) ?_;refine Bq _ _ _ _ fun g=>?_
 have h1:=Mx a_1 a_2 a_3 a_4 a_5 a_6 a_7 a_8 a_9 a_10 a_11 a_12 a_13 a_14 a_15 a_16 hx hl
 unfold raiB
 cases hz:Fa (⟨a_1,⟨a_2,a_3,a_4⟩,a_5,⟨⟨⟨a_6,a_7,a_8⟩,a_9⟩,a_10⟩,⟨⟨a_11,a_12,a_13⟩,a_14⟩,⟨a_15,a_16⟩,l⟩:Opn)<;>simp[af,ah,ad,ae,ab, *,vp,hx.r]
theorem KR:limf env 186 [.agg [a8 a_1,a8 a_2,a32 a_3,a8 a_4,aI a_5,a8 a_6,a32 a_7,a8 a_8,aI a_9,aI a_10,a8 a_11,a32 a_12,a8 a_13,aI a_14,a8 a_15,a32 a_16,x],.iptr 1 [.fn (.func 184) [] []] 0 0]=some (aB (insB (⟨a_1,⟨a_2,a_3,a_4⟩,a_5,⟨⟨⟨a_6,a_7,a_8⟩,a_9⟩,a_10⟩,⟨⟨a_11,a_12,a_13⟩,a_14⟩,⟨a_15,a_16⟩,l⟩:Opn))):=by
 refine az (fn:=Tryz.f186) (c:=vd) rfl (by kernel_rfl) (by kernel_rfl) (by kernel_rfl) (by kernel_rfl) ?_;refine Bs _ _ _ _ fun g=>?_
 have h2:=Ig a_1 a_2 a_3 a_4 a_5 a_6 a_7 a_8 a_9 a_10 a_11 a_12 a_13 a_14 a_15 a_16 hx hl
 have h3:=yl hx (by omega)
 have h4:=CX l
 unfold insB
 cases hz:Cr (⟨a_15,a_16⟩:Lab) with
 | false =>
  cases hA:kW (⟨⟨a_11,a_12,a_13⟩,a_14⟩:Idd) with
  | false =>
   unfold kW at hA
   simp[af,ah,ad,ae,ab, *,fx,hx.r,eqA,eqFs]
  | true =>
   unfold kW at hA
   simp[af,ah,ad,ae,ab, *,fx,hx.r,eqA,eqFs]
 | true =>
  have key : ∀b:Bool,(kW (⟨⟨a_11,a_12,a_13⟩,a_14⟩:Idd)||idB (⟨⟨a_11,a_12,a_13⟩,a_14⟩:Idd))=b→True:=fun _ _=>trivial
  cases hS:Gv ⟨a_6,a_7,a_8⟩ ⟨a_2,a_3,a_4⟩ with
  | false =>
   unfold Gv at hS
   cases hA:kW (⟨⟨a_11,a_12,a_13⟩,a_14⟩:Idd) with
   | false =>
    unfold kW at hA
    cases hI:idB (⟨⟨a_11,a_12,a_13⟩,a_14⟩:Idd)<;>simp[af,ah,ad,ae,ab, *,fx,hx.r,eqA,eqFs]
   | true =>
    unfold kW at hA
    simp[af,ah,ad,ae,ab, *,fx,hx.r,eqA,eqFs]
  | true =>
   unfold Gv at hS
   by_cases hL:(l.length:Int)=a_10
   ·cases hA:kW (⟨⟨a_11,a_12,a_13⟩,a_14⟩:Idd) with
    | false =>
     unfold kW at hA
     cases hI:idB (⟨⟨a_11,a_12,a_13⟩,a_14⟩:Idd)<;>simp[af,ah,ad,ae,ab, *,fx,hx.r,eqA,eqFs]
    | true =>
     unfold kW at hA
     simp[af,ah,ad,ae,ab, *,fx,hx.r,eqA,eqFs]
   ·cases hA:kW (⟨⟨a_11,a_12,a_13⟩,a_14⟩:Idd) with
    | false =>
     unfold kW at hA
     cases hI:idB (⟨⟨a_11,a_12,a_13⟩,a_14⟩:Idd)<;>simp[af,ah,ad,ae,ab, *,fx,hx.r,eqA,eqFs]
    | true =>
     unfold kW at hA
     simp[af,ah,ad,ae,ab, *,fx,hx.r,eqA,eqFs]
theorem jX:limf env 70 [.agg [a8 a_1,a8 a_2,a32 a_3,a8 a_4,aI a_5,a8 a_6,a32 a_7,a8 a_8,aI a_9,aI a_10,a8 a_11,a32 a_12,a8 a_13,aI a_14,a8 a_15,a32 a_16,x]]=some (aI (bad (opB (⟨a_1,⟨a_2,a_3,a_4⟩,a_5,⟨⟨⟨a_6,a_7,a_8⟩,a_9⟩,a_10⟩,⟨⟨a_11,a_12,a_13⟩,a_14⟩,⟨a_15,a_16⟩,l⟩:Opn)))):=by
 refine az (fn:=Tryz.f70) (c:=zH) rfl (by kernel_rfl) (by kernel_rfl) (by kernel_rfl) (by kernel_rfl) ?_;refine DV _ _ _ fun g=>?_
 have h1:=KR a_1 a_2 a_3 a_4 a_5 a_6 a_7 a_8 a_9 a_10 a_11 a_12 a_13 a_14 a_15 a_16 hx hl
 have h2:=KT a_1 a_2 a_3 a_4 a_5 a_6 a_7 a_8 a_9 a_10 a_11 a_12 a_13 a_14 a_15 a_16 hx hl
 have h3:=NI a_1 a_2 a_3 a_4 a_5 a_6 a_7 a_8 a_9 a_10 a_11 a_12 a_13 a_14 a_15 a_16 hx hl
 have h4:=NJ
 unfold opB mayB
 by_cases k0:a_1=0
 ·subst k0
  simp[af,ah,ad,ae,ab, *,gE,hx.r]
 by_cases k4:4≤a_1
 ·have n1 : ¬a_1=1:=by rintro rfl;exact absurd k4 (by decide)
  have n2 : ¬a_1=2:=by rintro rfl;exact absurd k4 (by decide)
  have n3 : ¬a_1=3:=by rintro rfl;exact absurd k4 (by decide)
  simp[af,ah,ad,ae,ab, *,gE,hx.r]
 cases c1:mX ⟨a_2,a_3,a_4⟩ with
 | false=>simp[af,ah,ad,ae,ab, *,gE,hx.r]
 | true =>
 rcases Int.lt_or_le a_5 1 with c2' | c2
 ·have c2 : ¬1≤a_5:=by omega
  simp[af,ah,ad,ae,ab, *,gE,hx.r]
 have c2' : ¬a_5<1:=by omega
 rcases Int.lt_or_le a_5 16777216 with c3 | c3'
 rotate_left
 ·have c3 : ¬a_5<16777216:=by omega
  simp[af,ah,ad,ae,ab, *,gE,hx.r]
 have c3' : ¬16777216≤a_5:=by omega
 cases c4:lz ⟨⟨⟨a_6,a_7,a_8⟩,a_9⟩,a_10⟩ with
 | false=>simp[af,ah,ad,ae,ab, *,gE,hx.r]
 | true =>
 have hk:a_1=1∨a_1=2∨a_1=3:=by
  have e:a_1.toNat<4:=by have:=UInt8.not_le.1 k4;exact this
  have e0:a_1.toNat≠0:=fun h=>k0 (UInt8.toNat_inj.1 h)
  rcases(show a_1.toNat=1∨a_1.toNat=2∨a_1.toNat=3 by omega)with h | h | h
  ·exact .inl (UInt8.toNat_inj.1 h)
  ·exact .inr (.inl (UInt8.toNat_inj.1 h))
  ·exact .inr (.inr (UInt8.toNat_inj.1 h))
 rcases hk with rfl | rfl | rfl
 ·cases c5:insB (⟨1,⟨a_2,a_3,a_4⟩,a_5,⟨⟨⟨a_6,a_7,a_8⟩,a_9⟩,a_10⟩,⟨⟨a_11,a_12,a_13⟩,a_14⟩,⟨a_15,a_16⟩,l⟩:Opn)<;>simp[af,ah,ad,ae,ab, *,gE,hx.r,FL,yw,BM]
 ·cases c5:delB (⟨2,⟨a_2,a_3,a_4⟩,a_5,⟨⟨⟨a_6,a_7,a_8⟩,a_9⟩,a_10⟩,⟨⟨a_11,a_12,a_13⟩,a_14⟩,⟨a_15,a_16⟩,l⟩:Opn)<;>simp[af,ah,ad,ae,ab, *,gE,hx.r,FL,yw,BM]
 ·cases c5:raiB (⟨3,⟨a_2,a_3,a_4⟩,a_5,⟨⟨⟨a_6,a_7,a_8⟩,a_9⟩,a_10⟩,⟨⟨a_11,a_12,a_13⟩,a_14⟩,⟨a_15,a_16⟩,l⟩:Opn)<;>simp[af,ah,ad,ae,ab, *,gE,hx.r,FL,yw,BM]
end
end Go.Proofs.YtmkmimgokagimaaGreat
