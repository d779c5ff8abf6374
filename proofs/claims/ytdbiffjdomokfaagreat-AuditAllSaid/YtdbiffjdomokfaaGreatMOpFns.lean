/-
  Operations: what the functions compute. No statement of a seat is proved here.
-/
import Derived.Test.YtdbiffjdomokfaaGreatMLePol
import Derived.Test.YtdbiffjdomokfaaGreatMRunBytes
import Derived.Test.YtdbiffjdomokfaaGreatAuVc2
import Derived.Test.YtdbiffjdomokfaaGreatAbsCond
set_option linter.unusedVariables false
set_option linter.unusedSimpArgs false
set_option linter.unusedSectionVars false
set_option linter.unnecessarySimpa false
namespace Go.Ab
structure mL where
 lv:UInt8
 cats:UInt32
deriving DecidableEq
structure bR where
 kind:UInt8
 h:AO
 serial:Int
 s:Aq
 a:fl
 to:mL
 l:List Int
deriving DecidableEq
def iM(a:fl):Bool:=decide (a.h.lv=0)&&decide (a.h.cats=0)&&decide (a.h.num=0)&&decide (a.n=0)
def zY(t:mL):Bool:=decide (t.lv=0)&&decide (t.cats=0)
def Js(a b:AO):Bool:=decide (a.lv=b.lv)&&decide (a.cats=b.cats)&&decide (a.num=b.num)
theorem y9(a:fl):iM a=true↔a=zZ:=by
 obtain⟨⟨a,b,c⟩,d⟩:=a
 simp[iM,zZ,and_assoc]
def CG(o:bR):Bool:=iM o.a&&decide (o.l=[])
def Ld(o:bR):Bool:=zY o.to&&((iM o.a||Ed o.a)&&(Js o.s.f.h o.h&&(decide ((o.l.length:Int)=o.s.many)&&Ge o.l)))
def N1(o:bR):Bool:=zY o.to&&CG o
def KJ(o:bR):Bool:=CG o&&decide (o.to.lv≤15)
def K0(o:bR):Bool:=if o.kind=1 then Ld o else if o.kind=2 then N1 o else if o.kind=3 then KJ o else false
def qy(o:bR):Bool:=lV o.h&&(decide (1≤o.serial)&&(decide (o.serial<16777216)&&(je o.s&&K0 o)))
theorem BI{P:Program}{t:TypeId}(h1:(dA P t).isSome=true)(h2:(aU P t).isSome=true)(cs:List AV)(off:Nat):uG P t cs off=JF cs off ((aU P t).getD 0) ((dA P t).getD false):=by
 obtain⟨b,hb⟩:=Option.isSome_iff_exists.1 h1
 obtain⟨n,hn⟩:=Option.isSome_iff_exists.1 h2
 simp only[uG,hb,hn,Option.getD_some]
 cases b<;>rfl
theorem zm{P:Program}{t:TypeId}(h1:((iv P t).bind fun p=>aU P p.2).isSome=true)(cs:List AV)(k:UInt8)(hk:k.toNat<((iv P t).getD (0,0)).1) :
 nC P t (some (.agg cs)) (some (a8 k))=cf (uG P ((iv P t).getD (0,0)).2 cs (k.toNat * (aU P ((iv P t).getD (0,0)).2).getD 0)):=by
 cases ht:iv P t with
 | none=>rw[ht]at h1;simp at h1
 | some p =>
  obtain⟨n,e⟩:=p
  rw[ht]at h1 hk
  simp only[Option.bind_some,Option.getD_some]at h1 hk
  obtain⟨s,hs⟩:=Option.isSome_iff_exists.1 h1
  unfold nC a8
  simp only[Option.bind_some,intOf,ht,hs,Option.getD_some]
  rw[if_pos (by omega)]
  simp
@[simp] theorem UQ(r:Ref)(n:Nat)(f:Fn)(a b:List AV)(bs:List bM):aN r n (.fn f a b) bs=(.fn f a b,bs):=by cases n<;>rfl
end Go.Ab
set_option maxRecDepth 100000
namespace Go.Proofs.YtdbiffjdomokfaaGreat
open Go.Ab
attribute [local simp] bD bq bo bF bE cZ ld bQ bx bA dx dw cg bT aY ct List.take_of_length_le
def EP:AV := .agg [.v .nilFunc,.v .nilFunc,.fn (.func 148) [] [.iptr 1 [.fn (.func 147) [] []] 0 0],.fn (.func 149) [] [],
 .fn (.func 150) [] [.iptr 1 [.fn (.func 147) [] []] 0 0,.iptr 1 [.fn (.func 146) [] []] 0 0],.fn (.func 151) [] [],.fn (.func 152) [] [.iptr 1 [.fn (.func 146) [] []] 0 0],.fn (.func 153) [] []]
theorem Pn:bj env 132 []=some EP:=Ac (n:=2000) (by kernel_rfl)
@[simp] theorem Pu:bj env 91 []=some (.agg [a8 0,aF 0]):=by
 refine aL (fn:=Tryz.f91) (c:=qf) rfl (by kernel_rfl) (by kernel_rfl) (by kernel_rfl) (by kernel_rfl) ?_;refine ui _ _ fun g=>?_
 simp[ah,ai,ae,af,ad, *,qq]
section
variable(bh:UInt8)(aQ:UInt8)(aP:UInt32)(aT:UInt8)(aX:Int)(bc:UInt8)(ba:UInt32)(bf:UInt8)(bg:Int)(au:Int)(az:UInt8)(ay:UInt32)(ax:UInt8)(aw:Int)(aC:UInt8)(aA:UInt32){x:AV}{l:List Int}(hx:Sl 1 (rows l) x)(hl:l.length<2000000)
include hx hl
theorem Ml:bj env 146 [.agg [a8 bh,a8 aQ,aF aP,a8 aT,aI aX,a8 bc,aF ba,a8 bf,aI bg,aI au,a8 az,aF ay,a8 ax,aI aw,a8 aC,aF aA,x]]=some (aB (CG (⟨bh,⟨aQ,aP,aT⟩,aX,⟨⟨⟨bc,ba,bf⟩,bg⟩,au⟩,⟨⟨az,ay,ax⟩,aw⟩,⟨aC,aA⟩,l⟩:bR))):=by
 refine aL (fn:=Tryz.f146) (c:=wE) rfl (by kernel_rfl) (by kernel_rfl) (by kernel_rfl) (by kernel_rfl) ?_;refine CY _ _ _ fun g=>?_
 unfold CG
 cases hz:iM (⟨⟨az,ay,ax⟩,aw⟩:fl) with
 | true =>
  unfold iM at hz
  simp[ah,ai,ae,af,ad, *,rT,hx.r,mf,gb]
 | false =>
  unfold iM at hz
  simp[ah,ai,ae,af,ad, *,rT,hx.r,mf,gb]
theorem Jv:bj env 147 [.agg [a8 bh,a8 aQ,aF aP,a8 aT,aI aX,a8 bc,aF ba,a8 bf,aI bg,aI au,a8 az,aF ay,a8 ax,aI aw,a8 aC,aF aA,x]]=some (aB (zY (⟨aC,aA⟩:mL))):=by
 refine aL (fn:=Tryz.f147) (c:=wD) rfl (by kernel_rfl) (by kernel_rfl) (by kernel_rfl) (by kernel_rfl) ?_;refine CX _ _ _ fun g=>?_
 simp[ah,ai,ae,af,ad, *,wL,hx.r,mf,gb,zY]
theorem Mj:bj env 150 [.agg [a8 bh,a8 aQ,aF aP,a8 aT,aI aX,a8 bc,aF ba,a8 bf,aI bg,aI au,a8 az,aF ay,a8 ax,aI aw,a8 aC,aF aA,x],.iptr 1 [.fn (.func 147) [] []] 0 0,.iptr 1 [.fn (.func 146) [] []] 0 0]=some (aB (N1 (⟨bh,⟨aQ,aP,aT⟩,aX,⟨⟨⟨bc,ba,bf⟩,bg⟩,au⟩,⟨⟨az,ay,ax⟩,aw⟩,⟨aC,aA⟩,l⟩:bR))):=by
 refine aL (fn:=Tryz.f150) (c:=wB) rfl (by kernel_rfl) (by kernel_rfl) (by kernel_rfl) (by kernel_rfl) ?_;refine CV _ _ _ _ _ fun g=>?_
 have h1:=Ml bh aQ aP aT aX bc ba bf bg au az ay ax aw aC aA hx hl
 have h2:=Jv bh aQ aP aT aX bc ba bf bg au az ay ax aw aC aA hx hl
 unfold N1
 cases hz:zY (⟨aC,aA⟩:mL)<;>simp[ah,ai,ae,af,ad, *,wK,hx.r]
theorem Pm:bj env 152 [.agg [a8 bh,a8 aQ,aF aP,a8 aT,aI aX,a8 bc,aF ba,a8 bf,aI bg,aI au,a8 az,aF ay,a8 ax,aI aw,a8 aC,aF aA,x],.iptr 1 [.fn (.func 146) [] []] 0 0]=some (aB (KJ (⟨bh,⟨aQ,aP,aT⟩,aX,⟨⟨⟨bc,ba,bf⟩,bg⟩,au⟩,⟨⟨az,ay,ax⟩,aw⟩,⟨aC,aA⟩,l⟩:bR))):=by
 refine aL (fn:=Tryz.f152) (c:=wA) rfl (by kernel_rfl) (by kernel_rfl) (by kernel_rfl) (by kernel_rfl) ?_;refine CU _ _ _ _ fun g=>?_
 have h1:=Ml bh aQ aP aT aX bc ba bf bg au az ay ax aw aC aA hx hl
 unfold KJ
 cases hz:CG (⟨bh,⟨aQ,aP,aT⟩,aX,⟨⟨⟨bc,ba,bf⟩,bg⟩,au⟩,⟨⟨az,ay,ax⟩,aw⟩,⟨aC,aA⟩,l⟩:bR)<;>simp[ah,ai,ae,af,ad, *,wJ,hx.r]
theorem Mf:bj env 148 [.agg [a8 bh,a8 aQ,aF aP,a8 aT,aI aX,a8 bc,aF ba,a8 bf,aI bg,aI au,a8 az,aF ay,a8 ax,aI aw,a8 aC,aF aA,x],.iptr 1 [.fn (.func 147) [] []] 0 0]=some (aB (Ld (⟨bh,⟨aQ,aP,aT⟩,aX,⟨⟨⟨bc,ba,bf⟩,bg⟩,au⟩,⟨⟨az,ay,ax⟩,aw⟩,⟨aC,aA⟩,l⟩:bR))):=by
 refine aL (fn:=Tryz.f148) (c:=wC) rfl (by kernel_rfl) (by kernel_rfl) (by kernel_rfl) (by kernel_rfl) ?_;refine CW _ _ _ _ fun g=>?_
 have h2:=Jv bh aQ aP aT aX bc ba bf bg au az ay ax aw aC aA hx hl
 have h3:=zk hx (by omega)
 have h4:=DV l
 unfold Ld
 cases hz:zY (⟨aC,aA⟩:mL) with
 | false =>
  cases hA:iM (⟨⟨az,ay,ax⟩,aw⟩:fl) with
  | false =>
   unfold iM at hA
   simp[ah,ai,ae,af,ad, *,gy,hx.r,mf,gb]
  | true =>
   unfold iM at hA
   simp[ah,ai,ae,af,ad, *,gy,hx.r,mf,gb]
 | true =>
  have key : ∀b:Bool,(iM (⟨⟨az,ay,ax⟩,aw⟩:fl)||Ed (⟨⟨az,ay,ax⟩,aw⟩:fl))=b→True:=fun _ _=>trivial
  cases hS:Js ⟨bc,ba,bf⟩ ⟨aQ,aP,aT⟩ with
  | false =>
   unfold Js at hS
   cases hA:iM (⟨⟨az,ay,ax⟩,aw⟩:fl) with
   | false =>
    unfold iM at hA
    cases hI:Ed (⟨⟨az,ay,ax⟩,aw⟩:fl)<;>simp[ah,ai,ae,af,ad, *,gy,hx.r,mf,gb]
   | true =>
    unfold iM at hA
    simp[ah,ai,ae,af,ad, *,gy,hx.r,mf,gb]
  | true =>
   unfold Js at hS
   by_cases hL:(l.length:Int)=au
   ·cases hA:iM (⟨⟨az,ay,ax⟩,aw⟩:fl) with
    | false =>
     unfold iM at hA
     cases hI:Ed (⟨⟨az,ay,ax⟩,aw⟩:fl)<;>simp[ah,ai,ae,af,ad, *,gy,hx.r,mf,gb]
    | true =>
     unfold iM at hA
     simp[ah,ai,ae,af,ad, *,gy,hx.r,mf,gb]
   ·cases hA:iM (⟨⟨az,ay,ax⟩,aw⟩:fl) with
    | false =>
     unfold iM at hA
     cases hI:Ed (⟨⟨az,ay,ax⟩,aw⟩:fl)<;>simp[ah,ai,ae,af,ad, *,gy,hx.r,mf,gb]
    | true =>
     unfold iM at hA
     simp[ah,ai,ae,af,ad, *,gy,hx.r,mf,gb]
theorem lG:bj env 115 [.agg [a8 bh,a8 aQ,aF aP,a8 aT,aI aX,a8 bc,aF ba,a8 bf,aI bg,aI au,a8 az,aF ay,a8 ax,aI aw,a8 aC,aF aA,x]]=some (aI (bad (qy (⟨bh,⟨aQ,aP,aT⟩,aX,⟨⟨⟨bc,ba,bf⟩,bg⟩,au⟩,⟨⟨az,ay,ax⟩,aw⟩,⟨aC,aA⟩,l⟩:bR)))):=by
 refine aL (fn:=Tryz.f115) (c:=Al) rfl (by kernel_rfl) (by kernel_rfl) (by kernel_rfl) (by kernel_rfl) ?_;refine FL _ _ _ fun g=>?_
 have h1:=Mf bh aQ aP aT aX bc ba bf bg au az ay ax aw aC aA hx hl
 have h2:=Mj bh aQ aP aT aX bc ba bf bg au az ay ax aw aC aA hx hl
 have h3:=Pm bh aQ aP aT aX bc ba bf bg au az ay ax aw aC aA hx hl
 have h4:=Pn
 unfold qy K0
 by_cases k0:bh=0
 ·subst k0
  simp[ah,ai,ae,af,ad, *,iq,hx.r]
 by_cases k4:4≤bh
 ·have n1 : ¬bh=1:=by rintro rfl;exact absurd k4 (by decide)
  have n2 : ¬bh=2:=by rintro rfl;exact absurd k4 (by decide)
  have n3 : ¬bh=3:=by rintro rfl;exact absurd k4 (by decide)
  simp[ah,ai,ae,af,ad, *,iq,hx.r]
 cases c1:lV ⟨aQ,aP,aT⟩ with
 | false=>simp[ah,ai,ae,af,ad, *,iq,hx.r]
 | true =>
 rcases Int.lt_or_le aX 1 with c2' | c2
 ·have c2 : ¬1≤aX:=by omega
  simp[ah,ai,ae,af,ad, *,iq,hx.r]
 have c2' : ¬aX<1:=by omega
 rcases Int.lt_or_le aX 16777216 with c3 | c3'
 rotate_left
 ·have c3 : ¬aX<16777216:=by omega
  simp[ah,ai,ae,af,ad, *,iq,hx.r]
 have c3' : ¬16777216≤aX:=by omega
 cases c4:je ⟨⟨⟨bc,ba,bf⟩,bg⟩,au⟩ with
 | false=>simp[ah,ai,ae,af,ad, *,iq,hx.r]
 | true =>
 have hk:bh=1∨bh=2∨bh=3:=by
  have e:bh.toNat<4:=by have:=UInt8.not_le.1 k4;exact this
  have e0:bh.toNat≠0:=fun h=>k0 (UInt8.toNat_inj.1 h)
  rcases(show bh.toNat=1∨bh.toNat=2∨bh.toNat=3 by omega)with h | h | h
  ·exact .inl (UInt8.toNat_inj.1 h)
  ·exact .inr (.inl (UInt8.toNat_inj.1 h))
  ·exact .inr (.inr (UInt8.toNat_inj.1 h))
 rcases hk with rfl | rfl | rfl
 ·cases c5:Ld (⟨1,⟨aQ,aP,aT⟩,aX,⟨⟨⟨bc,ba,bf⟩,bg⟩,au⟩,⟨⟨az,ay,ax⟩,aw⟩,⟨aC,aA⟩,l⟩:bR)<;>simp[ah,ai,ae,af,ad, *,iq,hx.r,EP,zm,BI]
 ·cases c5:N1 (⟨2,⟨aQ,aP,aT⟩,aX,⟨⟨⟨bc,ba,bf⟩,bg⟩,au⟩,⟨⟨az,ay,ax⟩,aw⟩,⟨aC,aA⟩,l⟩:bR)<;>simp[ah,ai,ae,af,ad, *,iq,hx.r,EP,zm,BI]
 ·cases c5:KJ (⟨3,⟨aQ,aP,aT⟩,aX,⟨⟨⟨bc,ba,bf⟩,bg⟩,au⟩,⟨⟨az,ay,ax⟩,aw⟩,⟨aC,aA⟩,l⟩:bR)<;>simp[ah,ai,ae,af,ad, *,iq,hx.r,EP,zm,BI]
end
end Go.Proofs.YtdbiffjdomokfaaGreat
