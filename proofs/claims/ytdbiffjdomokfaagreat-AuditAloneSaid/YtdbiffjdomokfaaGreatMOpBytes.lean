/-
  Operations: what the functions compute. No statement of a seat is proved here.
-/
import Derived.Test.YtdbiffjdomokfaaGreatMLePol
import Derived.Test.YtdbiffjdomokfaaGreatMRunBytes
import Derived.Test.YtdbiffjdomokfaaGreatAuVc2
import Derived.Test.YtdbiffjdomokfaaGreatAbsCond
import Derived.Test.YtdbiffjdomokfaaGreatCatFns
set_option linter.unusedVariables false
set_option linter.unusedSimpArgs false
set_option linter.unusedSectionVars false
set_option linter.unnecessarySimpa false
namespace Go.Ab
structure jz where
 lv:UInt8
 cats:UInt32
deriving DecidableEq
structure bG where
 kind:UInt8
 h:vU
 serial:Int
 s:Ao
 a:eE
 to:jz
 l:List Int
deriving DecidableEq
def iM(a:eE):Bool:=decide (a.h.lv=0)&&decide (a.h.cats=0)&&decide (a.h.num=0)&&decide (a.n=0)
def At(t:jz):Bool:=decide (t.lv=0)&&decide (t.cats=0)
def Er(a b:vU):Bool:=decide (a.lv=b.lv)&&decide (a.cats=b.cats)&&decide (a.num=b.num)
theorem zA(a:eE):iM a=true↔a=Au:=by
 obtain⟨⟨a,b,c⟩,d⟩:=a
 simp[iM,Au,and_assoc]
theorem Le(a b:vU):Er a b=true↔a=b:=by
 obtain⟨a1,a2,a3⟩:=a
 obtain⟨b1,b2,b3⟩:=b
 simp[Er,and_assoc]
def Dc(o:bG):Bool:=iM o.a&&decide (o.l=[])
def Jz(o:bG):Bool:=At o.to&&((iM o.a||EP o.a)&&(Er o.s.f.h o.h&&(decide ((o.l.length:Int)=o.s.many)&&GU o.l)))
def OP(o:bG):Bool:=At o.to&&Dc o
def Lz(o:bG):Bool:=Dc o&&decide (o.to.lv≤15)
def Jp(o:bG):Bool:=if o.kind=1 then Jz o else if o.kind=2 then OP o else if o.kind=3 then Lz o else false
def mT(o:bG):Bool:=m8 o.h&&(decide (1≤o.serial)&&(decide (o.serial<16777216)&&(jg o.s&&Jp o)))
theorem B9{P:Program}{t:TypeId}(h1:(dD P t).isSome=true)(h2:(aU P t).isSome=true)(cs:List AV)(off:Nat):u6 P t cs off=Kr cs off ((aU P t).getD 0) ((dD P t).getD false):=by
 obtain⟨b,hb⟩:=Option.isSome_iff_exists.1 h1
 obtain⟨n,hn⟩:=Option.isSome_iff_exists.1 h2
 simp only[u6,hb,hn,Option.getD_some]
 cases b<;>rfl
theorem zM{P:Program}{t:TypeId}(h1:((iy P t).bind fun p=>aU P p.2).isSome=true)(cs:List AV)(k:UInt8)(hk:k.toNat<((iy P t).getD (0,0)).1) :
 nL P t (some (.agg cs)) (some (a8 k))=cF (u6 P ((iy P t).getD (0,0)).2 cs (k.toNat * (aU P ((iy P t).getD (0,0)).2).getD 0)):=by
 cases ht:iy P t with
 | none=>rw[ht]at h1;simp at h1
 | some p =>
  obtain⟨n,e⟩:=p
  rw[ht]at h1 hk
  simp only[Option.bind_some,Option.getD_some]at h1 hk
  obtain⟨s,hs⟩:=Option.isSome_iff_exists.1 h1
  unfold nL a8
  simp only[Option.bind_some,intOf,ht,hs,Option.getD_some]
  rw[if_pos (by omega)]
  simp
@[simp] theorem Vu(r:Ref)(n:Nat)(f:Fn)(a b:List AV)(bs:List bN):aN r n (.fn f a b) bs=(.fn f a b,bs):=by cases n<;>rfl
end Go.Ab
set_option maxRecDepth 100000
namespace Go.Proofs.YtdbiffjdomokfaaGreat
open Go.Ab
attribute [local simp] bD bp bl bC bB cV lj bP bt bA dc db cg bR aV cm List.take_of_length_le
def Fs:AV := .agg [.v .nilFunc,.v .nilFunc,.fn (.func 148) [] [.iptr 1 [.fn (.func 147) [] []] 0 0],.fn (.func 149) [] [],
 .fn (.func 150) [] [.iptr 1 [.fn (.func 147) [] []] 0 0,.iptr 1 [.fn (.func 146) [] []] 0 0],.fn (.func 151) [] [],.fn (.func 152) [] [.iptr 1 [.fn (.func 146) [] []] 0 0],.fn (.func 153) [] []]
theorem P6:bj env 132 []=some Fs:=AE (n:=2000) (by kernel_rfl)
@[simp] theorem Qd:bj env 91 []=some (.agg [a8 0,aG 0]):=by
 refine aK (fn:=Tryz.f91) (c:=qB) rfl (by kernel_rfl) (by kernel_rfl) (by kernel_rfl) (by kernel_rfl) ?_;refine uN _ _ fun g=>?_
 simp[ah,ai,ae,af,ad, *,qK]
section
variable(bh:UInt8)(aQ:UInt8)(aP:UInt32)(aW:UInt8)(aY:Int)(bc:UInt8)(ba:UInt32)(bf:UInt8)(bg:Int)(au:Int)(az:UInt8)(ay:UInt32)(ax:UInt8)(aw:Int)(aC:UInt8)(aA:UInt32){x:AV}{l:List Int}(hx:Sl 1 (rows l) x)(hl:l.length<2000000)
include hx hl
theorem Ng:bj env 146 [.agg [a8 bh,a8 aQ,aG aP,a8 aW,aI aY,a8 bc,aG ba,a8 bf,aI bg,aI au,a8 az,aG ay,a8 ax,aI aw,a8 aC,aG aA,x]]=some (aB (Dc (⟨bh,⟨aQ,aP,aW⟩,aY,⟨⟨⟨bc,ba,bf⟩,bg⟩,au⟩,⟨⟨az,ay,ax⟩,aw⟩,⟨aC,aA⟩,l⟩:bG))):=by
 refine aK (fn:=Tryz.f146) (c:=xb) rfl (by kernel_rfl) (by kernel_rfl) (by kernel_rfl) (by kernel_rfl) ?_;refine Du _ _ _ fun g=>?_
 unfold Dc
 cases hz:iM (⟨⟨az,ay,ax⟩,aw⟩:eE) with
 | true =>
  unfold iM at hz
  simp[ah,ai,ae,af,ad, *,si,hx.r,lZ,gb]
 | false =>
  unfold iM at hz
  simp[ah,ai,ae,af,ad, *,si,hx.r,lZ,gb]
theorem Kh:bj env 147 [.agg [a8 bh,a8 aQ,aG aP,a8 aW,aI aY,a8 bc,aG ba,a8 bf,aI bg,aI au,a8 az,aG ay,a8 ax,aI aw,a8 aC,aG aA,x]]=some (aB (At (⟨aC,aA⟩:jz))):=by
 refine aK (fn:=Tryz.f147) (c:=xa) rfl (by kernel_rfl) (by kernel_rfl) (by kernel_rfl) (by kernel_rfl) ?_;refine Dt _ _ _ fun g=>?_
 simp[ah,ai,ae,af,ad, *,xj,hx.r,lZ,gb,At]
theorem Nf:bj env 150 [.agg [a8 bh,a8 aQ,aG aP,a8 aW,aI aY,a8 bc,aG ba,a8 bf,aI bg,aI au,a8 az,aG ay,a8 ax,aI aw,a8 aC,aG aA,x],.iptr 1 [.fn (.func 147) [] []] 0 0,.iptr 1 [.fn (.func 146) [] []] 0 0]=some (aB (OP (⟨bh,⟨aQ,aP,aW⟩,aY,⟨⟨⟨bc,ba,bf⟩,bg⟩,au⟩,⟨⟨az,ay,ax⟩,aw⟩,⟨aC,aA⟩,l⟩:bG))):=by
 refine aK (fn:=Tryz.f150) (c:=w8) rfl (by kernel_rfl) (by kernel_rfl) (by kernel_rfl) (by kernel_rfl) ?_;refine Dr _ _ _ _ _ fun g=>?_
 have h1:=Ng bh aQ aP aW aY bc ba bf bg au az ay ax aw aC aA hx hl
 have h2:=Kh bh aQ aP aW aY bc ba bf bg au az ay ax aw aC aA hx hl
 unfold OP
 cases hz:At (⟨aC,aA⟩:jz)<;>simp[ah,ai,ae,af,ad, *,xi,hx.r]
theorem P5:bj env 152 [.agg [a8 bh,a8 aQ,aG aP,a8 aW,aI aY,a8 bc,aG ba,a8 bf,aI bg,aI au,a8 az,aG ay,a8 ax,aI aw,a8 aC,aG aA,x],.iptr 1 [.fn (.func 146) [] []] 0 0]=some (aB (Lz (⟨bh,⟨aQ,aP,aW⟩,aY,⟨⟨⟨bc,ba,bf⟩,bg⟩,au⟩,⟨⟨az,ay,ax⟩,aw⟩,⟨aC,aA⟩,l⟩:bG))):=by
 refine aK (fn:=Tryz.f152) (c:=w7) rfl (by kernel_rfl) (by kernel_rfl) (by kernel_rfl) (by kernel_rfl) ?_;refine Dq _ _ _ _ fun g=>?_
 have h1:=Ng bh aQ aP aW aY bc ba bf bg au az ay ax aw aC aA hx hl
 unfold Lz
 cases hz:Dc (⟨bh,⟨aQ,aP,aW⟩,aY,⟨⟨⟨bc,ba,bf⟩,bg⟩,au⟩,⟨⟨az,ay,ax⟩,aw⟩,⟨aC,aA⟩,l⟩:bG)<;>simp[ah,ai,ae,af,ad, *,xg,hx.r]
theorem Na:bj env 148 [.agg [a8 bh,a8 aQ,aG aP,a8 aW,aI aY,a8 bc,aG ba,a8 bf,aI bg,aI au,a8 az,aG ay,a8 ax,aI aw,a8 aC,aG aA,x],.iptr 1 [.fn (.func 147) [] []] 0 0]=some (aB (Jz (⟨bh,⟨aQ,aP,aW⟩,aY,⟨⟨⟨bc,ba,bf⟩,bg⟩,au⟩,⟨⟨az,ay,ax⟩,aw⟩,⟨aC,aA⟩,l⟩:bG))):=by
 refine aK (fn:=Tryz.f148) (c:=w9) rfl (by kernel_rfl) (by kernel_rfl) (by kernel_rfl) (by kernel_rfl) ?_;refine Ds _ _ _ _ fun g=>?_
 have h2:=Kh bh aQ aP aW aY bc ba bf bg au az ay ax aw aC aA hx hl
 have h3:=zK hx (by omega)
 have h4:=Ex l
 unfold Jz
 cases hz:At (⟨aC,aA⟩:jz) with
 | false =>
  cases hA:iM (⟨⟨az,ay,ax⟩,aw⟩:eE) with
  | false =>
   unfold iM at hA
   simp[ah,ai,ae,af,ad, *,gy,hx.r,lZ,gb]
  | true =>
   unfold iM at hA
   simp[ah,ai,ae,af,ad, *,gy,hx.r,lZ,gb]
 | true =>
  have key : ∀b:Bool,(iM (⟨⟨az,ay,ax⟩,aw⟩:eE)||EP (⟨⟨az,ay,ax⟩,aw⟩:eE))=b→True:=fun _ _=>trivial
  cases hS:Er ⟨bc,ba,bf⟩ ⟨aQ,aP,aW⟩ with
  | false =>
   unfold Er at hS
   cases hA:iM (⟨⟨az,ay,ax⟩,aw⟩:eE) with
   | false =>
    unfold iM at hA
    cases hI:EP (⟨⟨az,ay,ax⟩,aw⟩:eE)<;>simp[ah,ai,ae,af,ad, *,gy,hx.r,lZ,gb]
   | true =>
    unfold iM at hA
    simp[ah,ai,ae,af,ad, *,gy,hx.r,lZ,gb]
  | true =>
   unfold Er at hS
   by_cases hL:(l.length:Int)=au
   ·cases hA:iM (⟨⟨az,ay,ax⟩,aw⟩:eE) with
    | false =>
     unfold iM at hA
     cases hI:EP (⟨⟨az,ay,ax⟩,aw⟩:eE)<;>simp[ah,ai,ae,af,ad, *,gy,hx.r,lZ,gb]
    | true =>
     unfold iM at hA
     simp[ah,ai,ae,af,ad, *,gy,hx.r,lZ,gb]
   ·cases hA:iM (⟨⟨az,ay,ax⟩,aw⟩:eE) with
    | false =>
     unfold iM at hA
     cases hI:EP (⟨⟨az,ay,ax⟩,aw⟩:eE)<;>simp[ah,ai,ae,af,ad, *,gy,hx.r,lZ,gb]
    | true =>
     unfold iM at hA
     simp[ah,ai,ae,af,ad, *,gy,hx.r,lZ,gb]
theorem lO:bj env 115 [.agg [a8 bh,a8 aQ,aG aP,a8 aW,aI aY,a8 bc,aG ba,a8 bf,aI bg,aI au,a8 az,aG ay,a8 ax,aI aw,a8 aC,aG aA,x]]=some (aI (bad (mT (⟨bh,⟨aQ,aP,aW⟩,aY,⟨⟨⟨bc,ba,bf⟩,bg⟩,au⟩,⟨⟨az,ay,ax⟩,aw⟩,⟨aC,aA⟩,l⟩:bG)))):=by
 refine aK (fn:=Tryz.f115) (c:=AN) rfl (by kernel_rfl) (by kernel_rfl) (by kernel_rfl) (by kernel_rfl) ?_;refine Gt _ _ _ fun g=>?_
 have h1:=Na bh aQ aP aW aY bc ba bf bg au az ay ax aw aC aA hx hl
 have h2:=Nf bh aQ aP aW aY bc ba bf bg au az ay ax aw aC aA hx hl
 have h3:=P5 bh aQ aP aW aY bc ba bf bg au az ay ax aw aC aA hx hl
 have h4:=P6
 unfold mT Jp
 by_cases k0:bh=0
 ·subst k0
  simp[ah,ai,ae,af,ad, *,iu,hx.r]
 by_cases k4:4≤bh
 ·have n1 : ¬bh=1:=by rintro rfl;exact absurd k4 (by decide)
  have n2 : ¬bh=2:=by rintro rfl;exact absurd k4 (by decide)
  have n3 : ¬bh=3:=by rintro rfl;exact absurd k4 (by decide)
  simp[ah,ai,ae,af,ad, *,iu,hx.r]
 cases c1:m8 ⟨aQ,aP,aW⟩ with
 | false=>simp[ah,ai,ae,af,ad, *,iu,hx.r]
 | true =>
 rcases Int.lt_or_le aY 1 with c2' | c2
 ·have c2 : ¬1≤aY:=by omega
  simp[ah,ai,ae,af,ad, *,iu,hx.r]
 have c2' : ¬aY<1:=by omega
 rcases Int.lt_or_le aY 16777216 with c3 | c3'
 rotate_left
 ·have c3 : ¬aY<16777216:=by omega
  simp[ah,ai,ae,af,ad, *,iu,hx.r]
 have c3' : ¬16777216≤aY:=by omega
 cases c4:jg ⟨⟨⟨bc,ba,bf⟩,bg⟩,au⟩ with
 | false=>simp[ah,ai,ae,af,ad, *,iu,hx.r]
 | true =>
 have hk:bh=1∨bh=2∨bh=3:=by
  have e:bh.toNat<4:=by have:=UInt8.not_le.1 k4;exact this
  have e0:bh.toNat≠0:=fun h=>k0 (UInt8.toNat_inj.1 h)
  rcases(show bh.toNat=1∨bh.toNat=2∨bh.toNat=3 by omega)with h | h | h
  ·exact .inl (UInt8.toNat_inj.1 h)
  ·exact .inr (.inl (UInt8.toNat_inj.1 h))
  ·exact .inr (.inr (UInt8.toNat_inj.1 h))
 rcases hk with rfl | rfl | rfl
 ·cases c5:Jz (⟨1,⟨aQ,aP,aW⟩,aY,⟨⟨⟨bc,ba,bf⟩,bg⟩,au⟩,⟨⟨az,ay,ax⟩,aw⟩,⟨aC,aA⟩,l⟩:bG)<;>simp[ah,ai,ae,af,ad, *,iu,hx.r,Fs,zM,B9]
 ·cases c5:OP (⟨2,⟨aQ,aP,aW⟩,aY,⟨⟨⟨bc,ba,bf⟩,bg⟩,au⟩,⟨⟨az,ay,ax⟩,aw⟩,⟨aC,aA⟩,l⟩:bG)<;>simp[ah,ai,ae,af,ad, *,iu,hx.r,Fs,zM,B9]
 ·cases c5:Lz (⟨3,⟨aQ,aP,aW⟩,aY,⟨⟨⟨bc,ba,bf⟩,bg⟩,au⟩,⟨⟨az,ay,ax⟩,aw⟩,⟨aC,aA⟩,l⟩:bG)<;>simp[ah,ai,ae,af,ad, *,iu,hx.r,Fs,zM,B9]
end
end Go.Proofs.YtdbiffjdomokfaaGreat
namespace Go.Proofs.YtdbiffjdomokfaaGreat
open Go.Ab
attribute [local simp] bD bp bl bC bB cV lj bP bt bA dc db cg bR aV cm List.take_of_length_le
def bsO(z:Nat)(zz:AV)(H:ab)(r:Ref)(n:Nat)(ws:List (Nat × AV))(refs:List Ref):dz:=match fZ (List.replicate n zz) ws with
 | some es=>some (.cM r 0 n (some n),(r,some ⟨z,es,true,false⟩) :: cq H refs)
 | none=>none
theorem Mn{P:Program}{draw:Bool}{t:TypeId}(hT:nV P t=true)(H:ab)(d tt gn:Nat)(n:Nat)(ps:List (Nat × AV))(hsz:n * lK P t≤16777216)(hv:(eT H.get ps).isSome=true)
 (hc:((eT H.get ps).getD []).all (fun p=>p.2.cells.length == lK P t&&p.2.cells.all AV.one)=true) (hf:(fZ (List.replicate n (iG P t)) ((eT H.get ps).getD [])).isSome=true) (hfz:ic H.get (ck H.get (ps.map (·.2)))=false) :
 fa P draw true H ⟨d,tt,gn,0⟩ t n (some ps)=bsO (lK P t) (iG P t) H ⟨d,tt,gn,0⟩ n ((eT H.get ps).getD []) (ck H.get (ps.map (·.2))):=by
 obtain⟨ws,hw⟩:=Option.isSome_iff_exists.1 hv
 rw[hw,Option.getD_some]at hc hf ⊢
 obtain⟨es,hf⟩:=Option.isSome_iff_exists.1 hf
 unfold nV at hT
 obtain⟨e,zz,h1,h2,h3,h4,h5,h6,h7,h8⟩:=jk hT
 have hz':iG P t=zz:=by unfold iG;rw[h1,Option.bind_some,h4];rfl
 rw[hz']at hf ⊢
 have hmk:mkSlice P H.get t n ps=some ⟨lK P t,es,true,false⟩:=by
  simp only[mkSlice,h1,hw,h4,h2]
  rw[if_pos ⟨Nat.pos_of_ne_zero h7,hsz,h5,h6,by simpa using hc⟩,hf]
  rfl
 have hq:fG P draw H.get ⟨d,tt,gn,0⟩ t n (some ps)=none:=by
  simp only[fG,hfz,Bool.false_eq_true,if_false]
 unfold fa bsO
 rw[hq,hf]
 simp only[bm,A3,cond_true,ig,hmk,Option.map_some]
attribute [local simp] Mn bsO eT
def pX(o:bG):List UInt8:=[o.kind]++(gU o.h++(be 3 o.serial++(iD o.s.f++[u8 o.s.many])))
theorem aa3(n:Int):be 3 n=[u8 (n / 65536),u8 (n / 256),u8 n]:=by simp[F9]
theorem BY(bh:UInt8)(h:vU)(aY:Int)(f:eE)(au:Int):bj env 120 [.cw 1 [.cw 1 [a8 bh] (some 1),.cw 1 (ia (gU h)) none,.cw 1 [a8 (u8 (aY / 65536)),a8 (u8 (aY / 256)),a8 (u8 aY)] (some 3),.cw 1 (ia (iD f)) none,.cw 1 [a8 (u8 au)] (some 1)] (some 5)] =
 some (.fsl 1 (ia ([bh]++(gU h++(be 3 aY++(iD f++[u8 au]))))) none):=by
 have e:ji [([bh],AV.cw 1 [a8 bh] (some 1)),(gU h,.cw 1 (ia (gU h)) none),(be 3 aY,.cw 1 [a8 (u8 (aY / 65536)),a8 (u8 (aY / 256)),a8 (u8 aY)] (some 3)),(iD f,.cw 1 (ia (iD f)) none),([u8 au],.cw 1 [a8 (u8 au)] (some 1))]=[bh]++(gU h++(be 3 aY++(iD f++[u8 au]))):=by
  simp only[ji,List.flatMap_cons,List.flatMap_nil,List.append_nil]
 rw[←e]
 refine GQ (ps:=[([bh],AV.cw 1 [a8 bh] (some 1)),(gU h,.cw 1 (ia (gU h)) none),(be 3 aY,.cw 1 [a8 (u8 (aY / 65536)),a8 (u8 (aY / 256)),a8 (u8 aY)] (some 3)),(iD f,.cw 1 (ia (iD f)) none),([u8 au],.cw 1 [a8 (u8 au)] (some 1))]) (.inr ⟨some 5,rfl,by simp⟩) ?_ (by simp) (by rw[e];simp) (by rw[e];simp)
 intro p hp
 simp only[List.mem_cons,List.not_mem_nil,or_false]at hp
 rcases hp with rfl | rfl | rfl | rfl | rfl
 ·exact .inr ⟨some 1,rfl,by simp⟩
 ·exact Sl.mk _ _
 ·exact .inr ⟨some 3,by rw[aa3];rfl,by simp⟩
 ·exact Sl.mk _ _
 ·exact .inr ⟨some 1,rfl,by simp⟩
theorem No(bh:UInt8)(aQ:UInt8)(aP:UInt32)(aW:UInt8)(aY:Int)(bc:UInt8)(ba:UInt32)(bf:UInt8)(bg:Int)(au:Int)(az:UInt8)(ay:UInt32)(ax:UInt8)(aw:Int)(aC:UInt8)(aA:UInt32){x:AV}{l:List Int}(hx:Sl 1 (rows l) x)(hl:l.length<2000000)(ho:mT (⟨bh,⟨aQ,aP,aW⟩,aY,⟨⟨⟨bc,ba,bf⟩,bg⟩,au⟩,⟨⟨az,ay,ax⟩,aw⟩,⟨aC,aA⟩,l⟩:bG)=true)(h2:bh=2):bj env 99 [.agg [a8 bh,a8 aQ,aG aP,a8 aW,aI aY,a8 bc,aG ba,a8 bf,aI bg,aI au,a8 az,aG ay,a8 ax,aI aw,a8 aC,aG aA,x]]=some (.tup [.cw 1 (ia (pX (⟨bh,⟨aQ,aP,aW⟩,aY,⟨⟨⟨bc,ba,bf⟩,bg⟩,au⟩,⟨⟨az,ay,ax⟩,aw⟩,⟨aC,aA⟩,l⟩:bG))) none,aI 0]):=by
 refine aK (fn:=Tryz.f99) (c:=sX) rfl (by kernel_rfl) (by kernel_rfl) (by kernel_rfl) (by kernel_rfl) ?_;refine vV _ _ _ fun g=>?_
 have hc:=lO bh aQ aP aW aY bc ba bf bg au az ay ax aw aC aA hx hl
 rw[ho]at hc
 have hh:m8 ⟨aQ,aP,aW⟩=true:=by simp only[mT,Bool.and_eq_true]at ho;exact ho.1
 have hs:EP ⟨⟨bc,ba,bf⟩,bg⟩=true:=by
  simp only[mT,Bool.and_eq_true]at ho
  have:=ho.2.2.2.1
  simp only[jg,Bool.and_eq_true]at this
  exact this.1
 clear ho
 subst h2
 have hC:=BY 2 ⟨aQ,aP,aW⟩ aY ⟨⟨bc,ba,bf⟩,bg⟩ au
 unfold pX
 simp[ah,ai,ae,af,ad, *,p9,hx.r,bad,fq,eO]
theorem Nn(bh:UInt8)(aQ:UInt8)(aP:UInt32)(aW:UInt8)(aY:Int)(bc:UInt8)(ba:UInt32)(bf:UInt8)(bg:Int)(au:Int)(az:UInt8)(ay:UInt32)(ax:UInt8)(aw:Int)(aC:UInt8)(aA:UInt32){x:AV}{l:List Int}(hx:Sl 1 (rows l) x)(hl:l.length<2000000)(ho:mT (⟨bh,⟨aQ,aP,aW⟩,aY,⟨⟨⟨bc,ba,bf⟩,bg⟩,au⟩,⟨⟨az,ay,ax⟩,aw⟩,⟨aC,aA⟩,l⟩:bG)=true)(h2:bh=3):bj env 99 [.agg [a8 bh,a8 aQ,aG aP,a8 aW,aI aY,a8 bc,aG ba,a8 bf,aI bg,aI au,a8 az,aG ay,a8 ax,aI aw,a8 aC,aG aA,x]]=some (.tup [.cw 1 (ia (pX (⟨bh,⟨aQ,aP,aW⟩,aY,⟨⟨⟨bc,ba,bf⟩,bg⟩,au⟩,⟨⟨az,ay,ax⟩,aw⟩,⟨aC,aA⟩,l⟩:bG)++(aC :: be 4 aA.toNat))) none,aI 0]):=by
 refine aK (fn:=Tryz.f99) (c:=sX) rfl (by kernel_rfl) (by kernel_rfl) (by kernel_rfl) (by kernel_rfl) ?_;refine vV _ _ _ fun g=>?_
 have hc:=lO bh aQ aP aW aY bc ba bf bg au az ay ax aw aC aA hx hl
 rw[ho]at hc
 subst h2
 have hh:m8 ⟨aQ,aP,aW⟩=true:=by simp only[mT,Bool.and_eq_true]at ho;exact ho.1
 have hs:EP ⟨⟨bc,ba,bf⟩,bg⟩=true:=by
  simp only[mT,Bool.and_eq_true]at ho
  have:=ho.2.2.2.1
  simp only[jg,Bool.and_eq_true]at this
  exact this.1
 have h3:m8 ⟨aC,aA,0⟩=true:=by
  simp only[mT,Bool.and_eq_true]at ho
  have:=ho.2.2.2.2
  simp only[Jp,Lz]at this
  simp at this
  simp[m8,this]
 clear ho
 have hC:=BY 3 ⟨aQ,aP,aW⟩ aY ⟨⟨bc,ba,bf⟩,bg⟩ au
 unfold pX
 have hb:gU ⟨aC,aA,0⟩=aC :: (be 4 aA.toNat++[0]):=rfl
 have hlen:(ia ([(3:UInt8)]++(gU ⟨aQ,aP,aW⟩++(be 3 aY++(iD ⟨⟨bc,ba,bf⟩,bg⟩++[u8 au]))))).length=24:=by simp
 have hput:=GL aC aA 0
 rw[if_pos h3,hb,J3]at hput
 rw[J3]
 rw[show ia (([(3:UInt8)]++(gU ⟨aQ,aP,aW⟩++(be 3 aY++(iD ⟨⟨bc,ba,bf⟩,bg⟩++[u8 au]))))++[aC,u8 (↑aA.toNat / 16777216),u8 (↑aA.toNat / 65536),u8 (↑aA.toNat / 256),u8 ↑aA.toNat])=ia ([(3:UInt8)]++(gU ⟨aQ,aP,aW⟩++(be 3 aY++(iD ⟨⟨bc,ba,bf⟩,bg⟩++[u8 au]))))++[a8 aC,a8 (u8 (↑aA.toNat / 16777216)),a8 (u8 (↑aA.toNat / 65536)),a8 (u8 (↑aA.toNat / 256)),a8 (u8 ↑aA.toNat)] from List.map_append ..]
 have hne:ia ([(3:UInt8)]++(gU ⟨aQ,aP,aW⟩++(be 3 aY++(iD ⟨⟨bc,ba,bf⟩,bg⟩++[u8 au]))))≠[]:=by intro e;rw[e]at hlen;cases hlen
 generalize ia ([(3:UInt8)]++(gU ⟨aQ,aP,aW⟩++(be 3 aY++(iD ⟨⟨bc,ba,bf⟩,bg⟩++[u8 au]))))=C at *
 clear h3 hb
 simp[ah,ai,ae,af,ad, *,p9,hx.r,bad,fq,eO]
 rfl
theorem Kg(C A R:List UInt8)(cA:Option Nat)(hA:A.length≤cA.getD A.length)(h0:0<C.length)(h1:C.length+A.length+R.length<1000000):bj env 120 [.cw 1 [.cw 1 (ia C) none,.cw 1 (ia A) cA,.cw 1 (ia R) none] (some 3)]=some (.fsl 1 (ia (C++(A++R))) none):=by
 have e:ji [(C,AV.cw 1 (ia C) none),(A,.cw 1 (ia A) cA),(R,.cw 1 (ia R) none)]=C++(A++R):=by
  simp only[ji,List.flatMap_cons,List.flatMap_nil,List.append_nil]
 rw[←e]
 refine GQ (ps:=[(C,AV.cw 1 (ia C) none),(A,.cw 1 (ia A) cA),(R,.cw 1 (ia R) none)]) (.inr ⟨some 3,rfl,by simp⟩) ?_ (by simp) (by rw[e];simp;omega) (by rw[e];simp;omega)
 intro p hp
 simp only[List.mem_cons,List.not_mem_nil,or_false]at hp
 rcases hp with rfl | rfl | rfl
 ·exact Sl.mk _ _
 ·exact .inr ⟨cA,rfl,by simpa using hA⟩
 ·exact Sl.mk _ _
theorem Nm(bh:UInt8)(aQ:UInt8)(aP:UInt32)(aW:UInt8)(aY:Int)(bc:UInt8)(ba:UInt32)(bf:UInt8)(bg:Int)(au:Int)(az:UInt8)(ay:UInt32)(ax:UInt8)(aw:Int)(aC:UInt8)(aA:UInt32){x:AV}{l:List Int}(hx:Sl 1 (rows l) x)(hl:l.length<2000000)(ho:mT (⟨bh,⟨aQ,aP,aW⟩,aY,⟨⟨⟨bc,ba,bf⟩,bg⟩,au⟩,⟨⟨az,ay,ax⟩,aw⟩,⟨aC,aA⟩,l⟩:bG)=false):bj env 99 [.agg [a8 bh,a8 aQ,aG aP,a8 aW,aI aY,a8 bc,aG ba,a8 bf,aI bg,aI au,a8 az,aG ay,a8 ax,aI aw,a8 aC,aG aA,x]]=some (.tup [cP,aI 8]):=by
 refine aK (fn:=Tryz.f99) (c:=sX) rfl (by kernel_rfl) (by kernel_rfl) (by kernel_rfl) (by kernel_rfl) ?_;refine vV _ _ _ fun g=>?_
 have hc:=lO bh aQ aP aW aY bc ba bf bg au az ay ax aw aC aA hx hl
 rw[ho]at hc
 clear ho
 simp[ah,ai,ae,af,ad, *,p9,hx.r,bad]
@[simp] theorem aaJ(r:Ref):u4 env.P r 137 (some (.v (.int .i64 13))) (some (.v (.int .i64 13)))=some (.cM r 0 13 none,[⟨1,[a8 0,a8 0,a8 0,a8 0,a8 0,a8 0,a8 0,a8 0,a8 0,a8 0,a8 0,a8 0,a8 0],true,false⟩]):=by kernel_rfl
theorem LL{o:bG}(h:mT o=true):jg o.s=true:=by
 simp only[mT,Bool.and_eq_true]at h
 exact h.2.2.2.1
theorem SR{l:List Int}(h:GU l=true):Dz l=0∧l.length≤64 ∧∀n∈l, -2147483648≤n∧n≤2147483647:=by
 simp only[GU,Bool.and_eq_true,decide_eq_true_eq]at h
 refine⟨by unfold Dz;rw[if_neg (by omega),if_pos h.2],h.1,fun n hn=>?_⟩
 have:=List.all_eq_true.1 h.2 n hn
 simp only[qj,Bool.or_eq_true,Bool.and_eq_true,decide_eq_true_eq]at this
 omega
def vL(a:eE):List UInt8:=if iM a then List.replicate 13 0 else iD a
theorem Np(bh:UInt8)(aQ:UInt8)(aP:UInt32)(aW:UInt8)(aY:Int)(bc:UInt8)(ba:UInt32)(bf:UInt8)(bg:Int)(au:Int)(az:UInt8)(ay:UInt32)(ax:UInt8)(aw:Int)(aC:UInt8)(aA:UInt32){x:AV}{l:List Int}(hx:Sl 1 (rows l) x)(hl:l.length<2000000)(ho:mT (⟨bh,⟨aQ,aP,aW⟩,aY,⟨⟨⟨bc,ba,bf⟩,bg⟩,au⟩,⟨⟨az,ay,ax⟩,aw⟩,⟨aC,aA⟩,l⟩:bG)=true)(h2:bh=1):bj env 99 [.agg [a8 bh,a8 aQ,aG aP,a8 aW,aI aY,a8 bc,aG ba,a8 bf,aI bg,aI au,a8 az,aG ay,a8 ax,aI aw,a8 aC,aG aA,x]]=some (.tup [.cw 1 (ia (pX (⟨bh,⟨aQ,aP,aW⟩,aY,⟨⟨⟨bc,ba,bf⟩,bg⟩,au⟩,⟨⟨az,ay,ax⟩,aw⟩,⟨aC,aA⟩,l⟩:bG)++(vL ⟨⟨az,ay,ax⟩,aw⟩++eP l))) none,aI 0]):=by
 refine aK (fn:=Tryz.f99) (c:=sX) rfl (by kernel_rfl) (by kernel_rfl) (by kernel_rfl) (by kernel_rfl) ?_;refine vV _ _ _ fun g=>?_
 have hc:=lO bh aQ aP aW aY bc ba bf bg au az ay ax aw aC aA hx hl
 rw[ho]at hc
 subst h2
 have hh:m8 ⟨aQ,aP,aW⟩=true:=by simp only[mT,Bool.and_eq_true]at ho;exact ho.1
 have hsp:=LL ho
 have hs:EP ⟨⟨bc,ba,bf⟩,bg⟩=true:=by
  have:=hsp
  simp only[jg,Bool.and_eq_true]at this
  exact this.1
 obtain⟨hz,hlen,hrow⟩:(iM ⟨⟨az,ay,ax⟩,aw⟩||EP ⟨⟨az,ay,ax⟩,aw⟩)=true∧(l.length:Int)=au∧GU l=true:=by
  simp only[mT,Bool.and_eq_true]at ho
  have:=ho.2.2.2.2
  simp[Jp,Jz]at this
  refine⟨by simpa using this.2.1,this.2.2.2.1,this.2.2.2.2⟩
 obtain⟨hE,h64,hR⟩:=SR hrow
 have hn:=ko hsp
 simp only at hn
 have hput:=Qa hx (by omega) hR
 rw[if_pos hE]at hput
 have hrl:=tv l
 have hne:ia (eP l)≠[]:=by
  intro e
  have:=congrArg List.length e
  have h3:(ia (eP l)).length=(eP l).length:=by simp
  simp only[List.length_nil]at this
  omega
 rw[Kt 1 hne]at hput
 clear ho hrow hE hR hn
 have hC:=BY 1 ⟨aQ,aP,aW⟩ aY ⟨⟨bc,ba,bf⟩,bg⟩ au
 unfold pX
 have hCl:([(1:UInt8)]++(gU ⟨aQ,aP,aW⟩++(be 3 aY++(iD ⟨⟨bc,ba,bf⟩,bg⟩++[u8 au])))).length=24:=by simp
 generalize ([(1:UInt8)]++(gU ⟨aQ,aP,aW⟩++(be 3 aY++(iD ⟨⟨bc,ba,bf⟩,bg⟩++[u8 au]))))=C at *
 generalize eP l=R at *
 cases hza:iM ⟨⟨az,ay,ax⟩,aw⟩ with
 | true =>
  have hT:=Kg C (List.replicate 13 0) R none (by simp) (by omega) (by simp;omega)
  rw[show vL ⟨⟨az,ay,ax⟩,aw⟩=List.replicate 13 0 by unfold vL;rw[if_pos hza]]
  obtain⟨⟨⟨rfl,rfl⟩,rfl⟩,rfl⟩:((az=0∧ay=0)∧ax=0)∧aw=0:=by simpa [iM] using hza
  have hr13:ia (List.replicate 13 0)=[a8 0,a8 0,a8 0,a8 0,a8 0,a8 0,a8 0,a8 0,a8 0,a8 0,a8 0,a8 0,a8 0]:=rfl
  rw[hr13]at hT
  generalize ia (C++(List.replicate 13 0++R))=W at *
  clear hza hz hlen
  simp[ah,ai,ae,af,ad, *,p9,hx.r,bad,fq,eO,lZ,gb]
 | false =>
  rw[hza,Bool.false_or]at hz
  have hT:=Kg C (iD ⟨⟨az,ay,ax⟩,aw⟩) R none (by simp) (by omega) (by simp;omega)
  rw[show vL ⟨⟨az,ay,ax⟩,aw⟩=iD ⟨⟨az,ay,ax⟩,aw⟩ by unfold vL;rw[if_neg (by rw[hza];decide)]]
  generalize ia (C++(iD ⟨⟨az,ay,ax⟩,aw⟩++R))=W at *
  have hnz:(decide (az=0)&&decide (ay=0)&&decide (ax=0)&&decide (aw=0))=false:=hza
  clear hza hlen
  simp[ah,ai,ae,af,ad, *,p9,hx.r,bad,fq,eO,lZ,gb]
end Go.Proofs.YtdbiffjdomokfaaGreat
