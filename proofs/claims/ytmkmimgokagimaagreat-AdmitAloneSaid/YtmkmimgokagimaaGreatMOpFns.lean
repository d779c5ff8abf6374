/-
  Operations: what the functions compute. No statement of a seat is proved here.
-/
import Derived.Test.YtmkmimgokagimaaGreatMLePol
import Derived.Test.YtmkmimgokagimaaGreatMRunBytes
import Derived.Test.YtmkmimgokagimaaGreatLeVc2
import Derived.Test.YtmkmimgokagimaaGreatAbsCond
set_option linter.unusedVariables false
set_option linter.unusedSimpArgs false
set_option linter.unusedSectionVars false
set_option linter.unnecessarySimpa false
namespace Go.Ab
structure jS where
 lv:UInt8
 cats:UInt32
deriving DecidableEq
structure bz where
 kind:UInt8
 h:nY
 serial:Int
 s:CZ
 a:eJ
 to:jS
 l:List Int
deriving DecidableEq
def jd(a:eJ):Bool:=decide (a.h.lv=0)&&decide (a.h.cats=0)&&decide (a.h.num=0)&&decide (a.n=0)
def C3(t:jS):Bool:=decide (t.lv=0)&&decide (t.cats=0)
def Hq(a b:nY):Bool:=decide (a.lv=b.lv)&&decide (a.cats=b.cats)&&decide (a.num=b.num)
theorem Ca(a:eJ):jd a=true↔a=Ar:=by
 obtain⟨⟨a,b,c⟩,d⟩:=a
 simp[jd,Ar,and_assoc]
theorem N6(a b:nY):Hq a b=true↔a=b:=by
 obtain⟨a1,a2,a3⟩:=a
 obtain⟨b1,b2,b3⟩:=b
 simp[Hq,and_assoc]
def Gb(o:bz):Bool:=jd o.a&&decide (o.l=[])
def Kz(o:bz):Bool:=C3 o.to&&((jd o.a||G0 o.a)&&(Hq o.s.f.h o.h&&(decide ((o.l.length:Int)=o.s.many)&&JU o.l)))
def RH(o:bz):Bool:=C3 o.to&&Gb o
def Ow(o:bz):Bool:=Gb o&&decide (o.to.lv≤15)
def Kl(o:bz):Bool:=if o.kind=1 then Kz o else if o.kind=2 then RH o else if o.kind=3 then Ow o else false
def la(o:bz):Bool:=fL o.h&&(decide (1≤o.serial)&&(decide (o.serial<16777216)&&(jz o.s&&Kl o)))
theorem E5{P:Program}{t:TypeId}(h1:(dt P t).isSome=true)(h2:(bm P t).isSome=true)(cs:List AV)(off:Nat):xR P t cs off=Nj cs off ((bm P t).getD 0) ((dt P t).getD false):=by
 obtain⟨b,hb⟩:=Option.isSome_iff_exists.1 h1
 obtain⟨n,hn⟩:=Option.isSome_iff_exists.1 h2
 simp only[xR,hb,hn,Option.getD_some]
 cases b<;>rfl
theorem Cp{P:Program}{t:TypeId}(h1:((jy P t).bind fun p=>bm P p.2).isSome=true)(cs:List AV)(k:UInt8)(hk:k.toNat<((jy P t).getD (0,0)).1) :
 o5 P t (some (.agg cs)) (some (a8 k))=cz (xR P ((jy P t).getD (0,0)).2 cs (k.toNat * (bm P ((jy P t).getD (0,0)).2).getD 0)):=by
 cases ht:jy P t with
 | none=>rw[ht]at h1;simp at h1
 | some p =>
  obtain⟨n,e⟩:=p
  rw[ht]at h1 hk
  simp only[Option.bind_some,Option.getD_some]at h1 hk
  obtain⟨s,hs⟩:=Option.isSome_iff_exists.1 h1
  unfold o5 a8
  simp only[Option.bind_some,tF,ht,hs,Option.getD_some]
  rw[if_pos (by omega)]
  simp
@[simp] theorem YA(r:Ref)(n:Nat)(f:Fn)(a b:List AV)(bs:List bP):bf r n (.fn f a b) bs=(.fn f a b,bs):=by cases n<;>rfl
end Go.Ab
set_option maxRecDepth 100000
namespace Go.Proofs.YtmkmimgokagimaaGreat
open Go.Ab
attribute [local simp] bJ bw bt bG bF cL kN bX bx bD cR cQ cr bY bh ct List.take_of_length_le
def Iv:AV := .agg [.v .nilFunc,.v .nilFunc,.fn (.func 186) [] [.iptr 1 [.fn (.func 184) [] []] 0 0],.fn (.func 188) [] [],
 .fn (.func 189) [] [.iptr 1 [.fn (.func 184) [] []] 0 0,.iptr 1 [.fn (.func 183) [] []] 0 0],.fn (.func 190) [] [],.fn (.func 191) [] [.iptr 1 [.fn (.func 183) [] []] 0 0],.fn (.func 192) [] []]
theorem SO:bj env 136 []=some Iv:=Df (n:=2000) (by kernel_rfl)
@[simp] theorem SW:bj env 185 []=some (.agg [a8 0,aF 0]):=by
 refine aG (fn:=Tryz.f185) (c:=si) rfl (by kernel_rfl) (by kernel_rfl) (by kernel_rfl) (by kernel_rfl) ?_;refine xD _ _ fun g=>?_
 simp[ah,ai,ae,af,ab, *,sI]
section
variable(ba:UInt8)(aO:UInt8)(aN:UInt32)(aT:UInt8)(aV:Int)(aX:UInt8)(aW:UInt32)(aY:UInt8)(aZ:Int)(an:Int)(ay:UInt8)(ax:UInt32)(aw:UInt8)(au:Int)(aA:UInt8)(az:UInt32){x:AV}{l:List Int}(hx:Sl 1 (rows l) x)(hl:l.length<2000000)
include hx hl
theorem Qf:bj env 183 [.agg [a8 ba,a8 aO,aF aN,a8 aT,aI aV,a8 aX,aF aW,a8 aY,aI aZ,aI an,a8 ay,aF ax,a8 aw,aI au,a8 aA,aF az,x]]=some (aB (Gb (⟨ba,⟨aO,aN,aT⟩,aV,⟨⟨⟨aX,aW,aY⟩,aZ⟩,an⟩,⟨⟨ay,ax,aw⟩,au⟩,⟨aA,az⟩,l⟩:bz))):=by
 refine aG (fn:=Tryz.f183) (c:=zJ) rfl (by kernel_rfl) (by kernel_rfl) (by kernel_rfl) (by kernel_rfl) ?_;refine Gy _ _ _ fun g=>?_
 unfold Gb
 cases hz:jd (⟨⟨ay,ax,aw⟩,au⟩:eJ) with
 | true =>
  unfold jd at hz
  simp[ah,ai,ae,af,ab, *,uU,hx.r,ke,eE]
 | false =>
  unfold jd at hz
  simp[ah,ai,ae,af,ab, *,uU,hx.r,ke,eE]
theorem M8:bj env 184 [.agg [a8 ba,a8 aO,aF aN,a8 aT,aI aV,a8 aX,aF aW,a8 aY,aI aZ,aI an,a8 ay,aF ax,a8 aw,aI au,a8 aA,aF az,x]]=some (aB (C3 (⟨aA,az⟩:jS))):=by
 refine aG (fn:=Tryz.f184) (c:=zI) rfl (by kernel_rfl) (by kernel_rfl) (by kernel_rfl) (by kernel_rfl) ?_;refine Gx _ _ _ fun g=>?_
 simp[ah,ai,ae,af,ab, *,zR,hx.r,ke,eE,C3]
theorem Qe:bj env 189 [.agg [a8 ba,a8 aO,aF aN,a8 aT,aI aV,a8 aX,aF aW,a8 aY,aI aZ,aI an,a8 ay,aF ax,a8 aw,aI au,a8 aA,aF az,x],.iptr 1 [.fn (.func 184) [] []] 0 0,.iptr 1 [.fn (.func 183) [] []] 0 0]=some (aB (RH (⟨ba,⟨aO,aN,aT⟩,aV,⟨⟨⟨aX,aW,aY⟩,aZ⟩,an⟩,⟨⟨ay,ax,aw⟩,au⟩,⟨aA,az⟩,l⟩:bz))):=by
 refine aG (fn:=Tryz.f189) (c:=zG) rfl (by kernel_rfl) (by kernel_rfl) (by kernel_rfl) (by kernel_rfl) ?_;refine Gv _ _ _ _ _ fun g=>?_
 have h1:=Qf ba aO aN aT aV aX aW aY aZ an ay ax aw au aA az hx hl
 have h2:=M8 ba aO aN aT aV aX aW aY aZ an ay ax aw au aA az hx hl
 unfold RH
 cases hz:C3 (⟨aA,az⟩:jS)<;>simp[ah,ai,ae,af,ab, *,zQ,hx.r]
theorem SN:bj env 191 [.agg [a8 ba,a8 aO,aF aN,a8 aT,aI aV,a8 aX,aF aW,a8 aY,aI aZ,aI an,a8 ay,aF ax,a8 aw,aI au,a8 aA,aF az,x],.iptr 1 [.fn (.func 183) [] []] 0 0]=some (aB (Ow (⟨ba,⟨aO,aN,aT⟩,aV,⟨⟨⟨aX,aW,aY⟩,aZ⟩,an⟩,⟨⟨ay,ax,aw⟩,au⟩,⟨aA,az⟩,l⟩:bz))):=by
 refine aG (fn:=Tryz.f191) (c:=zF) rfl (by kernel_rfl) (by kernel_rfl) (by kernel_rfl) (by kernel_rfl) ?_;refine Gu _ _ _ _ fun g=>?_
 have h1:=Qf ba aO aN aT aV aX aW aY aZ an ay ax aw au aA az hx hl
 unfold Ow
 cases hz:Gb (⟨ba,⟨aO,aN,aT⟩,aV,⟨⟨⟨aX,aW,aY⟩,aZ⟩,an⟩,⟨⟨ay,ax,aw⟩,au⟩,⟨aA,az⟩,l⟩:bz)<;>simp[ah,ai,ae,af,ab, *,zP,hx.r]
theorem P8:bj env 186 [.agg [a8 ba,a8 aO,aF aN,a8 aT,aI aV,a8 aX,aF aW,a8 aY,aI aZ,aI an,a8 ay,aF ax,a8 aw,aI au,a8 aA,aF az,x],.iptr 1 [.fn (.func 184) [] []] 0 0]=some (aB (Kz (⟨ba,⟨aO,aN,aT⟩,aV,⟨⟨⟨aX,aW,aY⟩,aZ⟩,an⟩,⟨⟨ay,ax,aw⟩,au⟩,⟨aA,az⟩,l⟩:bz))):=by
 refine aG (fn:=Tryz.f186) (c:=zH) rfl (by kernel_rfl) (by kernel_rfl) (by kernel_rfl) (by kernel_rfl) ?_;refine Gw _ _ _ _ fun g=>?_
 have h2:=M8 ba aO aN aT aV aX aW aY aZ an ay ax aw au aA az hx hl
 have h3:=Cn hx (by omega)
 have h4:=Hv l
 unfold Kz
 cases hz:C3 (⟨aA,az⟩:jS) with
 | false =>
  cases hA:jd (⟨⟨ay,ax,aw⟩,au⟩:eJ) with
  | false =>
   unfold jd at hA
   simp[ah,ai,ae,af,ab, *,gK,hx.r,ke,eE]
  | true =>
   unfold jd at hA
   simp[ah,ai,ae,af,ab, *,gK,hx.r,ke,eE]
 | true =>
  have key : ∀b:Bool,(jd (⟨⟨ay,ax,aw⟩,au⟩:eJ)||G0 (⟨⟨ay,ax,aw⟩,au⟩:eJ))=b→True:=fun _ _=>trivial
  cases hS:Hq ⟨aX,aW,aY⟩ ⟨aO,aN,aT⟩ with
  | false =>
   unfold Hq at hS
   cases hA:jd (⟨⟨ay,ax,aw⟩,au⟩:eJ) with
   | false =>
    unfold jd at hA
    cases hI:G0 (⟨⟨ay,ax,aw⟩,au⟩:eJ)<;>simp[ah,ai,ae,af,ab, *,gK,hx.r,ke,eE]
   | true =>
    unfold jd at hA
    simp[ah,ai,ae,af,ab, *,gK,hx.r,ke,eE]
  | true =>
   unfold Hq at hS
   by_cases hL:(l.length:Int)=an
   ·cases hA:jd (⟨⟨ay,ax,aw⟩,au⟩:eJ) with
    | false =>
     unfold jd at hA
     cases hI:G0 (⟨⟨ay,ax,aw⟩,au⟩:eJ)<;>simp[ah,ai,ae,af,ab, *,gK,hx.r,ke,eE]
    | true =>
     unfold jd at hA
     simp[ah,ai,ae,af,ab, *,gK,hx.r,ke,eE]
   ·cases hA:jd (⟨⟨ay,ax,aw⟩,au⟩:eJ) with
    | false =>
     unfold jd at hA
     cases hI:G0 (⟨⟨ay,ax,aw⟩,au⟩:eJ)<;>simp[ah,ai,ae,af,ab, *,gK,hx.r,ke,eE]
    | true =>
     unfold jd at hA
     simp[ah,ai,ae,af,ab, *,gK,hx.r,ke,eE]
theorem ko:bj env 70 [.agg [a8 ba,a8 aO,aF aN,a8 aT,aI aV,a8 aX,aF aW,a8 aY,aI aZ,aI an,a8 ay,aF ax,a8 aw,aI au,a8 aA,aF az,x]]=some (aI (bad (la (⟨ba,⟨aO,aN,aT⟩,aV,⟨⟨⟨aX,aW,aY⟩,aZ⟩,an⟩,⟨⟨ay,ax,aw⟩,au⟩,⟨aA,az⟩,l⟩:bz)))):=by
 refine aG (fn:=Tryz.f70) (c:=Dp) rfl (by kernel_rfl) (by kernel_rfl) (by kernel_rfl) (by kernel_rfl) ?_;refine Jt _ _ _ fun g=>?_
 have h1:=P8 ba aO aN aT aV aX aW aY aZ an ay ax aw au aA az hx hl
 have h2:=Qe ba aO aN aT aV aX aW aY aZ an ay ax aw au aA az hx hl
 have h3:=SN ba aO aN aT aV aX aW aY aZ an ay ax aw au aA az hx hl
 have h4:=SO
 unfold la Kl
 by_cases k0:ba=0
 ·subst k0
  simp[ah,ai,ae,af,ab, *,iN,hx.r]
 by_cases k4:4≤ba
 ·have n1 : ¬ba=1:=by rintro rfl;exact absurd k4 (by decide)
  have n2 : ¬ba=2:=by rintro rfl;exact absurd k4 (by decide)
  have n3 : ¬ba=3:=by rintro rfl;exact absurd k4 (by decide)
  simp[ah,ai,ae,af,ab, *,iN,hx.r]
 cases c1:fL ⟨aO,aN,aT⟩ with
 | false=>simp[ah,ai,ae,af,ab, *,iN,hx.r]
 | true =>
 rcases Int.lt_or_le aV 1 with c2' | c2
 ·have c2 : ¬1≤aV:=by omega
  simp[ah,ai,ae,af,ab, *,iN,hx.r]
 have c2' : ¬aV<1:=by omega
 rcases Int.lt_or_le aV 16777216 with c3 | c3'
 rotate_left
 ·have c3 : ¬aV<16777216:=by omega
  simp[ah,ai,ae,af,ab, *,iN,hx.r]
 have c3' : ¬16777216≤aV:=by omega
 cases c4:jz ⟨⟨⟨aX,aW,aY⟩,aZ⟩,an⟩ with
 | false=>simp[ah,ai,ae,af,ab, *,iN,hx.r]
 | true =>
 have hk:ba=1∨ba=2∨ba=3:=by
  have e:ba.toNat<4:=by have:=UInt8.not_le.1 k4;exact this
  have e0:ba.toNat≠0:=fun h=>k0 (UInt8.toNat_inj.1 h)
  rcases(show ba.toNat=1∨ba.toNat=2∨ba.toNat=3 by omega)with h | h | h
  ·exact .inl (UInt8.toNat_inj.1 h)
  ·exact .inr (.inl (UInt8.toNat_inj.1 h))
  ·exact .inr (.inr (UInt8.toNat_inj.1 h))
 rcases hk with rfl | rfl | rfl
 ·cases c5:Kz (⟨1,⟨aO,aN,aT⟩,aV,⟨⟨⟨aX,aW,aY⟩,aZ⟩,an⟩,⟨⟨ay,ax,aw⟩,au⟩,⟨aA,az⟩,l⟩:bz)<;>simp[ah,ai,ae,af,ab, *,iN,hx.r,Iv,Cp,E5]
 ·cases c5:RH (⟨2,⟨aO,aN,aT⟩,aV,⟨⟨⟨aX,aW,aY⟩,aZ⟩,an⟩,⟨⟨ay,ax,aw⟩,au⟩,⟨aA,az⟩,l⟩:bz)<;>simp[ah,ai,ae,af,ab, *,iN,hx.r,Iv,Cp,E5]
 ·cases c5:Ow (⟨3,⟨aO,aN,aT⟩,aV,⟨⟨⟨aX,aW,aY⟩,aZ⟩,an⟩,⟨⟨ay,ax,aw⟩,au⟩,⟨aA,az⟩,l⟩:bz)<;>simp[ah,ai,ae,af,ab, *,iN,hx.r,Iv,Cp,E5]
end
end Go.Proofs.YtmkmimgokagimaaGreat
