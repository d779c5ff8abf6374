/-
  Operations: what the functions compute. No statement of a seat is proved here.
-/
import Derived.Test.YtdbiffjdomokfaaGreatMLePol
import Derived.Test.YtdbiffjdomokfaaGreatMRunBytes
import Derived.Test.YtdbiffjdomokfaaGreatAuVc2
import Derived.Test.YtdbiffjdomokfaaGreatAbsCond
set_option linter.unusedVariables false
set_option linter.unusedSimpArgs false
set_option linter.unusedSectionVars false
set_option linter.unnecessarySimpa false
namespace Go.Ab
structure nw where
 lv:UInt8
 cats:UInt32
deriving DecidableEq
structure bQ where
 kind:UInt8
 h:zU
 serial:Int
 s:zL
 a:eY
 to:nw
 l:List Int
deriving DecidableEq
def iv(a:eY):Bool:=decide (a.h.lv=0)&&decide (a.h.cats=0)&&decide (a.h.num=0)&&decide (a.n=0)
def yW(t:nw):Bool:=decide (t.lv=0)&&decide (t.cats=0)
def HZ(a b:zU):Bool:=decide (a.lv=b.lv)&&decide (a.cats=b.cats)&&decide (a.num=b.num)
theorem xW(a:eY):iv a=true↔a=yX:=by
 obtain⟨⟨a,b,c⟩,d⟩:=a
 simp[iv,yX,and_assoc]
def BF(o:bQ):Bool:=iv o.a&&decide (o.l=[])
def JW(o:bQ):Bool:=yW o.to&&((iv o.a||C9 o.a)&&(HZ o.s.f.h o.h&&(decide ((o.l.length:Int)=o.s.many)&&Fe o.l)))
def Mi(o:bQ):Bool:=yW o.to&&BF o
def Js(o:bQ):Bool:=BF o&&decide (o.to.lv≤15)
def JJ(o:bQ):Bool:=if o.kind=1 then JW o else if o.kind=2 then Mi o else if o.kind=3 then Js o else false
def pW(o:bQ):Bool:=mm o.h&&(decide (1≤o.serial)&&(decide (o.serial<16777216)&&(iO o.s&&JJ o)))
theorem AI{P:Program}{t:TypeId}(h1:(dR P t).isSome=true)(h2:(aU P t).isSome=true)(cs:List AV)(off:Nat):tB P t cs off=Io cs off ((aU P t).getD 0) ((dR P t).getD false):=by
 obtain⟨b,hb⟩:=Option.isSome_iff_exists.1 h1
 obtain⟨n,hn⟩:=Option.isSome_iff_exists.1 h2
 simp only[tB,hb,hn,Option.getD_some]
 cases b<;>rfl
theorem yi{P:Program}{t:TypeId}(h1:((gZ P t).bind fun p=>aU P p.2).isSome=true)(cs:List AV)(k:UInt8)(hk:k.toNat<((gZ P t).getD (0,0)).1) :
 mU P t (some (.agg cs)) (some (a8 k))=cJ (tB P ((gZ P t).getD (0,0)).2 cs (k.toNat * (aU P ((gZ P t).getD (0,0)).2).getD 0)):=by
 cases ht:gZ P t with
 | none=>rw[ht]at h1;simp at h1
 | some p =>
  obtain⟨n,e⟩:=p
  rw[ht]at h1 hk
  simp only[Option.bind_some,Option.getD_some]at h1 hk
  obtain⟨s,hs⟩:=Option.isSome_iff_exists.1 h1
  unfold mU a8
  simp only[Option.bind_some,intOf,ht,hs,Option.getD_some]
  rw[if_pos (by omega)]
  simp
@[simp] theorem SO(r:Ref)(n:Nat)(f:Fn)(a b:List AV)(bs:List bJ):aL r n (.fn f a b) bs=(.fn f a b,bs):=by cases n<;>rfl
end Go.Ab
set_option maxRecDepth 100000
namespace Go.Proofs.YtdbiffjdomokfaaGreat
open Go.Ab
attribute [local simp] bK bw bo bM bL dc kS bU bx bH dJ dI cp bX bh cC List.take_of_length_le
def DP:AV := .agg [.v .nilFunc,.v .nilFunc,.fn (.func 148) [] [.iptr 1 [.fn (.func 147) [] []] 0 0],.fn (.func 149) [] [],
 .fn (.func 150) [] [.iptr 1 [.fn (.func 147) [] []] 0 0,.iptr 1 [.fn (.func 146) [] []] 0 0],.fn (.func 151) [] [],.fn (.func 152) [] [.iptr 1 [.fn (.func 146) [] []] 0 0],.fn (.func 153) [] []]
theorem Nz:bj env 132 []=some DP:=y7 (n:=2000) (by kernel_rfl)
@[simp] theorem NG:bj env 91 []=some (.agg [a8 0,aF 0]):=by
 refine aJ (fn:=Tryz.f91) (c:=pH) rfl (by kernel_rfl) (by kernel_rfl) (by kernel_rfl) (by kernel_rfl) ?_;refine te _ _ fun g=>?_
 simp[ah,ai,ae,af,ad, *,pQ]
section
variable(bg:UInt8)(aP:UInt8)(aO:UInt32)(aT:UInt8)(aW:Int)(ba:UInt8)(aZ:UInt32)(bc:UInt8)(bf:Int)(au:Int)(az:UInt8)(ay:UInt32)(ax:UInt8)(aw:Int)(aC:UInt8)(aA:UInt32){x:AV}{l:List Int}(hx:Sl 1 (rows l) x)(hl:l.length<2000000)
include hx hl
theorem KO:bj env 146 [.agg [a8 bg,a8 aP,aF aO,a8 aT,aI aW,a8 ba,aF aZ,a8 bc,aI bf,aI au,a8 az,aF ay,a8 ax,aI aw,a8 aC,aF aA,x]]=some (aB (BF (⟨bg,⟨aP,aO,aT⟩,aW,⟨⟨⟨ba,aZ,bc⟩,bf⟩,au⟩,⟨⟨az,ay,ax⟩,aw⟩,⟨aC,aA⟩,l⟩:bQ))):=by
 refine aJ (fn:=Tryz.f146) (c:=vv) rfl (by kernel_rfl) (by kernel_rfl) (by kernel_rfl) (by kernel_rfl) ?_;refine BX _ _ _ fun g=>?_
 unfold BF
 cases hz:iv (⟨⟨az,ay,ax⟩,aw⟩:eY) with
 | true =>
  unfold iv at hz
  simp[ah,ai,ae,af,ad, *,qY,hx.r,lC,fL]
 | false =>
  unfold iv at hz
  simp[ah,ai,ae,af,ad, *,qY,hx.r,lC,fL]
theorem Ie:bj env 147 [.agg [a8 bg,a8 aP,aF aO,a8 aT,aI aW,a8 ba,aF aZ,a8 bc,aI bf,aI au,a8 az,aF ay,a8 ax,aI aw,a8 aC,aF aA,x]]=some (aB (yW (⟨aC,aA⟩:nw))):=by
 refine aJ (fn:=Tryz.f147) (c:=vu) rfl (by kernel_rfl) (by kernel_rfl) (by kernel_rfl) (by kernel_rfl) ?_;refine BW _ _ _ fun g=>?_
 simp[ah,ai,ae,af,ad, *,vE,hx.r,lC,fL,yW]
theorem KN:bj env 150 [.agg [a8 bg,a8 aP,aF aO,a8 aT,aI aW,a8 ba,aF aZ,a8 bc,aI bf,aI au,a8 az,aF ay,a8 ax,aI aw,a8 aC,aF aA,x],.iptr 1 [.fn (.func 147) [] []] 0 0,.iptr 1 [.fn (.func 146) [] []] 0 0]=some (aB (Mi (⟨bg,⟨aP,aO,aT⟩,aW,⟨⟨⟨ba,aZ,bc⟩,bf⟩,au⟩,⟨⟨az,ay,ax⟩,aw⟩,⟨aC,aA⟩,l⟩:bQ))):=by
 refine aJ (fn:=Tryz.f150) (c:=vq) rfl (by kernel_rfl) (by kernel_rfl) (by kernel_rfl) (by kernel_rfl) ?_;refine BU _ _ _ _ _ fun g=>?_
 have h1:=KO bg aP aO aT aW ba aZ bc bf au az ay ax aw aC aA hx hl
 have h2:=Ie bg aP aO aT aW ba aZ bc bf au az ay ax aw aC aA hx hl
 unfold Mi
 cases hz:yW (⟨aC,aA⟩:nw)<;>simp[ah,ai,ae,af,ad, *,vD,hx.r]
theorem Ny:bj env 152 [.agg [a8 bg,a8 aP,aF aO,a8 aT,aI aW,a8 ba,aF aZ,a8 bc,aI bf,aI au,a8 az,aF ay,a8 ax,aI aw,a8 aC,aF aA,x],.iptr 1 [.fn (.func 146) [] []] 0 0]=some (aB (Js (⟨bg,⟨aP,aO,aT⟩,aW,⟨⟨⟨ba,aZ,bc⟩,bf⟩,au⟩,⟨⟨az,ay,ax⟩,aw⟩,⟨aC,aA⟩,l⟩:bQ))):=by
 refine aJ (fn:=Tryz.f152) (c:=vp) rfl (by kernel_rfl) (by kernel_rfl) (by kernel_rfl) (by kernel_rfl) ?_;refine BT _ _ _ _ fun g=>?_
 have h1:=KO bg aP aO aT aW ba aZ bc bf au az ay ax aw aC aA hx hl
 unfold Js
 cases hz:BF (⟨bg,⟨aP,aO,aT⟩,aW,⟨⟨⟨ba,aZ,bc⟩,bf⟩,au⟩,⟨⟨az,ay,ax⟩,aw⟩,⟨aC,aA⟩,l⟩:bQ)<;>simp[ah,ai,ae,af,ad, *,vC,hx.r]
theorem KJ:bj env 148 [.agg [a8 bg,a8 aP,aF aO,a8 aT,aI aW,a8 ba,aF aZ,a8 bc,aI bf,aI au,a8 az,aF ay,a8 ax,aI aw,a8 aC,aF aA,x],.iptr 1 [.fn (.func 147) [] []] 0 0]=some (aB (JW (⟨bg,⟨aP,aO,aT⟩,aW,⟨⟨⟨ba,aZ,bc⟩,bf⟩,au⟩,⟨⟨az,ay,ax⟩,aw⟩,⟨aC,aA⟩,l⟩:bQ))):=by
 refine aJ (fn:=Tryz.f148) (c:=vt) rfl (by kernel_rfl) (by kernel_rfl) (by kernel_rfl) (by kernel_rfl) ?_;refine BV _ _ _ _ fun g=>?_
 have h2:=Ie bg aP aO aT aW ba aZ bc bf au az ay ax aw aC aA hx hl
 have h3:=yg hx (by omega)
 have h4:=CS l
 unfold JW
 cases hz:yW (⟨aC,aA⟩:nw) with
 | false =>
  cases hA:iv (⟨⟨az,ay,ax⟩,aw⟩:eY) with
  | false =>
   unfold iv at hA
   simp[ah,ai,ae,af,ad, *,fX,hx.r,lC,fL]
  | true =>
   unfold iv at hA
   simp[ah,ai,ae,af,ad, *,fX,hx.r,lC,fL]
 | true =>
  have key : ∀b:Bool,(iv (⟨⟨az,ay,ax⟩,aw⟩:eY)||C9 (⟨⟨az,ay,ax⟩,aw⟩:eY))=b→True:=fun _ _=>trivial
  cases hS:HZ ⟨ba,aZ,bc⟩ ⟨aP,aO,aT⟩ with
  | false =>
   unfold HZ at hS
   cases hA:iv (⟨⟨az,ay,ax⟩,aw⟩:eY) with
   | false =>
    unfold iv at hA
    cases hI:C9 (⟨⟨az,ay,ax⟩,aw⟩:eY)<;>simp[ah,ai,ae,af,ad, *,fX,hx.r,lC,fL]
   | true =>
    unfold iv at hA
    simp[ah,ai,ae,af,ad, *,fX,hx.r,lC,fL]
  | true =>
   unfold HZ at hS
   by_cases hL:(l.length:Int)=au
   ·cases hA:iv (⟨⟨az,ay,ax⟩,aw⟩:eY) with
    | false =>
     unfold iv at hA
     cases hI:C9 (⟨⟨az,ay,ax⟩,aw⟩:eY)<;>simp[ah,ai,ae,af,ad, *,fX,hx.r,lC,fL]
    | true =>
     unfold iv at hA
     simp[ah,ai,ae,af,ad, *,fX,hx.r,lC,fL]
   ·cases hA:iv (⟨⟨az,ay,ax⟩,aw⟩:eY) with
    | false =>
     unfold iv at hA
     cases hI:C9 (⟨⟨az,ay,ax⟩,aw⟩:eY)<;>simp[ah,ai,ae,af,ad, *,fX,hx.r,lC,fL]
    | true =>
     unfold iv at hA
     simp[ah,ai,ae,af,ad, *,fX,hx.r,lC,fL]
theorem kV:bj env 115 [.agg [a8 bg,a8 aP,aF aO,a8 aT,aI aW,a8 ba,aF aZ,a8 bc,aI bf,aI au,a8 az,aF ay,a8 ax,aI aw,a8 aC,aF aA,x]]=some (aI (bad (pW (⟨bg,⟨aP,aO,aT⟩,aW,⟨⟨⟨ba,aZ,bc⟩,bf⟩,au⟩,⟨⟨az,ay,ax⟩,aw⟩,⟨aC,aA⟩,l⟩:bQ)))):=by
 refine aJ (fn:=Tryz.f115) (c:=zg) rfl (by kernel_rfl) (by kernel_rfl) (by kernel_rfl) (by kernel_rfl) ?_;refine EM _ _ _ fun g=>?_
 have h1:=KJ bg aP aO aT aW ba aZ bc bf au az ay ax aw aC aA hx hl
 have h2:=KN bg aP aO aT aW ba aZ bc bf au az ay ax aw aC aA hx hl
 have h3:=Ny bg aP aO aT aW ba aZ bc bf au az ay ax aw aC aA hx hl
 have h4:=Nz
 unfold pW JJ
 by_cases k0:bg=0
 ·subst k0
  simp[ah,ai,ae,af,ad, *,gV,hx.r]
 by_cases k4:4≤bg
 ·have n1 : ¬bg=1:=by rintro rfl;exact absurd k4 (by decide)
  have n2 : ¬bg=2:=by rintro rfl;exact absurd k4 (by decide)
  have n3 : ¬bg=3:=by rintro rfl;exact absurd k4 (by decide)
  simp[ah,ai,ae,af,ad, *,gV,hx.r]
 cases c1:mm ⟨aP,aO,aT⟩ with
 | false=>simp[ah,ai,ae,af,ad, *,gV,hx.r]
 | true =>
 rcases Int.lt_or_le aW 1 with c2' | c2
 ·have c2 : ¬1≤aW:=by omega
  simp[ah,ai,ae,af,ad, *,gV,hx.r]
 have c2' : ¬aW<1:=by omega
 rcases Int.lt_or_le aW 16777216 with c3 | c3'
 rotate_left
 ·have c3 : ¬aW<16777216:=by omega
  simp[ah,ai,ae,af,ad, *,gV,hx.r]
 have c3' : ¬16777216≤aW:=by omega
 cases c4:iO ⟨⟨⟨ba,aZ,bc⟩,bf⟩,au⟩ with
 | false=>simp[ah,ai,ae,af,ad, *,gV,hx.r]
 | true =>
 have hk:bg=1∨bg=2∨bg=3:=by
  have e:bg.toNat<4:=by have:=UInt8.not_le.1 k4;exact this
  have e0:bg.toNat≠0:=fun h=>k0 (UInt8.toNat_inj.1 h)
  rcases(show bg.toNat=1∨bg.toNat=2∨bg.toNat=3 by omega)with h | h | h
  ·exact .inl (UInt8.toNat_inj.1 h)
  ·exact .inr (.inl (UInt8.toNat_inj.1 h))
  ·exact .inr (.inr (UInt8.toNat_inj.1 h))
 rcases hk with rfl | rfl | rfl
 ·cases c5:JW (⟨1,⟨aP,aO,aT⟩,aW,⟨⟨⟨ba,aZ,bc⟩,bf⟩,au⟩,⟨⟨az,ay,ax⟩,aw⟩,⟨aC,aA⟩,l⟩:bQ)<;>simp[ah,ai,ae,af,ad, *,gV,hx.r,DP,yi,AI]
 ·cases c5:Mi (⟨2,⟨aP,aO,aT⟩,aW,⟨⟨⟨ba,aZ,bc⟩,bf⟩,au⟩,⟨⟨az,ay,ax⟩,aw⟩,⟨aC,aA⟩,l⟩:bQ)<;>simp[ah,ai,ae,af,ad, *,gV,hx.r,DP,yi,AI]
 ·cases c5:Js (⟨3,⟨aP,aO,aT⟩,aW,⟨⟨⟨ba,aZ,bc⟩,bf⟩,au⟩,⟨⟨az,ay,ax⟩,aw⟩,⟨aC,aA⟩,l⟩:bQ)<;>simp[ah,ai,ae,af,ad, *,gV,hx.r,DP,yi,AI]
end
end Go.Proofs.YtdbiffjdomokfaaGreat
