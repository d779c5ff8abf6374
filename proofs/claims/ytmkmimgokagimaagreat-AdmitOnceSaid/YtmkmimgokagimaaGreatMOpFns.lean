/-
  Operations: what the functions compute. No statement of a seat is proved here.
-/
import Derived.Test.YtmkmimgokagimaaGreatMLePol
import Derived.Test.YtmkmimgokagimaaGreatMRunBytes
import Derived.Test.YtmkmimgokagimaaGreatLeVc2
import Derived.Test.YtmkmimgokagimaaGreatAbsCond
set_option linter.unusedVariables false
set_option linter.unusedSimpArgs false
set_option linter.unusedSectionVars false
set_option linter.unnecessarySimpa false
namespace Go.Ab
structure Lab where
 lv:UInt8
 cats:UInt32
deriving DecidableEq
structure Opn where
 kind:UInt8
 h:Han
 serial:Int
 s:Spn
 a:Idd
 to:Lab
 l:List Int
deriving DecidableEq
def kD(a:Idd):Bool:=decide (a.h.lv=0)&&decide (a.h.cats=0)&&decide (a.h.num=0)&&decide (a.n=0)
def C1(t:Lab):Bool:=decide (t.lv=0)&&decide (t.cats=0)
def K5(a b:Han):Bool:=decide (a.lv=b.lv)&&decide (a.cats=b.cats)&&decide (a.num=b.num)
theorem yF(a:Idd):kD a=true↔a=C2:=by
 obtain⟨⟨a,b,c⟩,d⟩:=a
 simp[kD,C2,and_assoc]
def FC(o:Opn):Bool:=kD o.a&&decide (o.l=[])
def insB(o:Opn):Bool:=C1 o.to&&((kD o.a||idB o.a)&&(K5 o.s.f.h o.h&&(decide ((o.l.length:Int)=o.s.many)&&rowB o.l)))
def delB(o:Opn):Bool:=C1 o.to&&FC o
def raiB(o:Opn):Bool:=FC o&&decide (o.to.lv≤15)
def mayB(o:Opn):Bool:=if o.kind=1 then insB o else if o.kind=2 then delB o else if o.kind=3 then raiB o else false
def opB(o:Opn):Bool:=hY o.h&&(decide (1≤o.serial)&&(decide (o.serial<16777216)&&(kR o.s&&mayB o)))
theorem Cj{P:Program}{t:TypeId}(h1:(tagg P t).isSome=true)(h2:(aP P t).isSome=true)(cs:List AV)(off:Nat):xm P t cs off=LN cs off ((aP P t).getD 0) ((tagg P t).getD false):=by
 obtain⟨b,hb⟩:=Option.isSome_iff_exists.1 h1
 obtain⟨n,hn⟩:=Option.isSome_iff_exists.1 h2
 simp only[xm,hb,hn,Option.getD_some]
 cases b<;>rfl
theorem zi{P:Program}{t:TypeId}(h1:((tarr P t).bind fun p=>aP P p.2).isSome=true)(cs:List AV)(k:UInt8)(hk:k.toNat<((tarr P t).getD (0,0)).1) :
 nN P t (some (.agg cs)) (some (a8 k))=qVal (xm P ((tarr P t).getD (0,0)).2 cs (k.toNat * (aP P ((tarr P t).getD (0,0)).2).getD 0)):=by
 cases ht:tarr P t with
 | none=>rw[ht]at h1;simp at h1
 | some p =>
  obtain⟨n,e⟩:=p
  rw[ht]at h1 hk
  simp only[Option.bind_some,Option.getD_some]at h1 hk
  obtain⟨s,hs⟩:=Option.isSome_iff_exists.1 h1
  unfold nN a8
  simp only[Option.bind_some,vg,ht,hs,Option.getD_some]
  rw[if_pos (by omega)]
  simp
@[simp] theorem SJ(r:Ref)(n:Nat)(f:Fn)(a b:List AV)(bs:List Blk):aE r n (.fn f a b) bs=(.fn f a b,bs):=by cases n<;>rfl
end Go.Ab
set_option maxRecDepth 100000
namespace Go.Proofs.YtmkmimgokagimaaGreat
open Go.Ab
attribute [local simp] bj aL aF bg bf keep thr bx aT bc da cZ cJ bD aD bM List.take_of_length_le
def Gc:AV := .agg [.v .nilFunc,.v .nilFunc,.fn (.func 186) [] [.iptr 1 [.fn (.func 184) [] []] 0 0],.fn (.func 188) [] [],
 .fn (.func 189) [] [.iptr 1 [.fn (.func 184) [] []] 0 0,.iptr 1 [.fn (.func 183) [] []] 0 0],.fn (.func 190) [] [],.fn (.func 191) [] [.iptr 1 [.fn (.func 183) [] []] 0 0],.fn (.func 192) [] []]
theorem Ol:limf env 136 []=some Gc:=zI (n:=2000) (by kernel_rfl)
@[simp] theorem Ov:limf env 185 []=some (.agg [a8 0,a32 0]):=by
 refine aw (fn:=Tryz.f185) (c:=oB) rfl (by kernel_rfl) (by kernel_rfl) (by kernel_rfl) (by kernel_rfl) ?_;refine te _ _ fun g=>?_
 simp[af,ah,ad,ae,ab, *,oI]
section
variable(a_1:UInt8)(a_2:UInt8)(a_3:UInt32)(a_4:UInt8)(a_5:Int)(a_6:UInt8)(a_7:UInt32)(a_8:UInt8)(a_9:Int)(a_10:Int)(a_11:UInt8)(a_12:UInt32)(a_13:UInt8)(a_14:Int)(a_15:UInt8)(a_16:UInt32){x:AV}{l:List Int}(hx:Sl 1 (rows l) x)(hl:l.length<2000000)
include hx hl
theorem MR:limf env 183 [.agg [a8 a_1,a8 a_2,a32 a_3,a8 a_4,aI a_5,a8 a_6,a32 a_7,a8 a_8,aI a_9,aI a_10,a8 a_11,a32 a_12,a8 a_13,aI a_14,a8 a_15,a32 a_16,x]]=some (aB (FC (⟨a_1,⟨a_2,a_3,a_4⟩,a_5,⟨⟨⟨a_6,a_7,a_8⟩,a_9⟩,a_10⟩,⟨⟨a_11,a_12,a_13⟩,a_14⟩,⟨a_15,a_16⟩,l⟩:Opn))):=by
 refine aw (fn:=Tryz.f183) (c:=vB) rfl (by kernel_rfl) (by kernel_rfl) (by kernel_rfl) (by kernel_rfl) ?_;refine B1 _ _ _ fun g=>?_
 unfold FC
 cases hz:kD (⟨⟨a_11,a_12,a_13⟩,a_14⟩:Idd) with
 | true =>
  unfold kD at hz
  simp[af,ah,ad,ae,ab, *,qC,hx.r,eqA,eqFs]
 | false =>
  unfold kD at hz
  simp[af,ah,ad,ae,ab, *,qC,hx.r,eqA,eqFs]
theorem IG:limf env 184 [.agg [a8 a_1,a8 a_2,a32 a_3,a8 a_4,aI a_5,a8 a_6,a32 a_7,a8 a_8,aI a_9,aI a_10,a8 a_11,a32 a_12,a8 a_13,aI a_14,a8 a_15,a32 a_16,x]]=some (aB (C1 (⟨a_15,a_16⟩:Lab))):=by
 refine aw (fn:=Tryz.f184) (c:=vA) rfl (by kernel_rfl) (by kernel_rfl) (by kernel_rfl) (by kernel_rfl) ?_;refine B0 _ _ _ fun g=>?_
 simp[af,ah,ad,ae,ab, *,vK,hx.r,eqA,eqFs,C1]
theorem La:limf env 189 [.agg [a8 a_1,a8 a_2,a32 a_3,a8 a_4,aI a_5,a8 a_6,a32 a_7,a8 a_8,aI a_9,aI a_10,a8 a_11,a32 a_12,a8 a_13,aI a_14,a8 a_15,a32 a_16,x],.iptr 1 [.fn (.func 184) [] []] 0 0,.iptr 1 [.fn (.func 183) [] []] 0 0]=some (aB (delB (⟨a_1,⟨a_2,a_3,a_4⟩,a_5,⟨⟨⟨a_6,a_7,a_8⟩,a_9⟩,a_10⟩,⟨⟨a_11,a_12,a_13⟩,a_14⟩,⟨a_15,a_16⟩,l⟩:Opn))):=by
 refine aw (fn:=Tryz.f189) (c:=vw) rfl (by kernel_rfl) (by kernel_rfl) (by kernel_rfl) (by kernel_rfl) ?_;refine BY _ _ _ _ _ fun g=>?_
 have h1:=MR a_1 a_2 a_3 a_4 a_5 a_6 a_7 a_8 a_9 a_10 a_11 a_12 a_13 a_14 a_15 a_16 hx hl
 have h2:=IG a_1 a_2 a_3 a_4 a_5 a_6 a_7 a_8 a_9 a_10 a_11 a_12 a_13 a_14 a_15 a_16 hx hl
 unfold delB
 cases hz:C1 (⟨a_15,a_16⟩:Lab)<;>simp[af,ah,ad,ae,ab, *,vJ,hx.r]
theorem Oj:limf env 191 [.agg [a8 a_1,a8 a_2,a32 a_3,a8 a_4,aI a_5,a8 a_6,a32 a_7,a8 a_8,aI a_9,aI a_10,a8 a_11,a32 a_12,a8 a_13,aI a_14,a8 a_15,a32 a_16,x],.iptr 1 [.fn (.func 183) [] []] 0 0]=some (aB (raiB (⟨a_1,⟨a_2,a_3,a_4⟩,a_5,⟨⟨⟨a_6,a_7,a_8⟩,a_9⟩,a_10⟩,⟨⟨a_11,a_12,a_13⟩,a_14⟩,⟨a_15,a_16⟩,l⟩:Opn))):=by
 refine aw (fn:=Tryz.f191) (c:=vv) rfl (by kernel_rfl) (by kernel_rfl) (by kernel_rfl) (by kernel_rfl) ?_;refine BX _ _ _ _ fun g=>?_
 have h1:=MR a_1 a_2 a_3 a_4 a_5 a_6 a_7 a_8 a_9 a_10 a_11 a_12 a_13 a_14 a_15 a_16 hx hl
 unfold raiB
 cases hz:FC (⟨a_1,⟨a_2,a_3,a_4⟩,a_5,⟨⟨⟨a_6,a_7,a_8⟩,a_9⟩,a_10⟩,⟨⟨a_11,a_12,a_13⟩,a_14⟩,⟨a_15,a_16⟩,l⟩:Opn)<;>simp[af,ah,ad,ae,ab, *,vI,hx.r]
theorem K6:limf env 186 [.agg [a8 a_1,a8 a_2,a32 a_3,a8 a_4,aI a_5,a8 a_6,a32 a_7,a8 a_8,aI a_9,aI a_10,a8 a_11,a32 a_12,a8 a_13,aI a_14,a8 a_15,a32 a_16,x],.iptr 1 [.fn (.func 184) [] []] 0 0]=some (aB (insB (⟨a_1,⟨a_2,a_3,a_4⟩,a_5,⟨⟨⟨a_6,a_7,a_8⟩,a_9⟩,a_10⟩,⟨⟨a_11,a_12,a_13⟩,a_14⟩,⟨a_15,a_16⟩,l⟩:Opn))):=by
 refine aw (fn:=Tryz.f186) (c:=vx) rfl (by kernel_rfl) (by kernel_rfl) (by kernel_rfl) (by kernel_rfl) ?_;refine BZ _ _ _ _ fun g=>?_
 have h2:=IG a_1 a_2 a_3 a_4 a_5 a_6 a_7 a_8 a_9 a_10 a_11 a_12 a_13 a_14 a_15 a_16 hx hl
 have h3:=za hx (by omega)
 have h4:=Du l
 unfold insB
 cases hz:C1 (⟨a_15,a_16⟩:Lab) with
 | false =>
  cases hA:kD (⟨⟨a_11,a_12,a_13⟩,a_14⟩:Idd) with
  | false =>
   unfold kD at hA
   simp[af,ah,ad,ae,ab, *,fb,hx.r,eqA,eqFs]
  | true =>
   unfold kD at hA
   simp[af,ah,ad,ae,ab, *,fb,hx.r,eqA,eqFs]
 | true =>
  have key : ∀b:Bool,(kD (⟨⟨a_11,a_12,a_13⟩,a_14⟩:Idd)||idB (⟨⟨a_11,a_12,a_13⟩,a_14⟩:Idd))=b→True:=fun _ _=>trivial
  cases hS:K5 ⟨a_6,a_7,a_8⟩ ⟨a_2,a_3,a_4⟩ with
  | false =>
   unfold K5 at hS
   cases hA:kD (⟨⟨a_11,a_12,a_13⟩,a_14⟩:Idd) with
   | false =>
    unfold kD at hA
    cases hI:idB (⟨⟨a_11,a_12,a_13⟩,a_14⟩:Idd)<;>simp[af,ah,ad,ae,ab, *,fb,hx.r,eqA,eqFs]
   | true =>
    unfold kD at hA
    simp[af,ah,ad,ae,ab, *,fb,hx.r,eqA,eqFs]
  | true =>
   unfold K5 at hS
   by_cases hL:(l.length:Int)=a_10
   ·cases hA:kD (⟨⟨a_11,a_12,a_13⟩,a_14⟩:Idd) with
    | false =>
     unfold kD at hA
     cases hI:idB (⟨⟨a_11,a_12,a_13⟩,a_14⟩:Idd)<;>simp[af,ah,ad,ae,ab, *,fb,hx.r,eqA,eqFs]
    | true =>
     unfold kD at hA
     simp[af,ah,ad,ae,ab, *,fb,hx.r,eqA,eqFs]
   ·cases hA:kD (⟨⟨a_11,a_12,a_13⟩,a_14⟩:Idd) with
    | false =>
     unfold kD at hA
     cases hI:idB (⟨⟨a_11,a_12,a_13⟩,a_14⟩:Idd)<;>simp[af,ah,ad,ae,ab, *,fb,hx.r,eqA,eqFs]
    | true =>
     unfold kD at hA
     simp[af,ah,ad,ae,ab, *,fb,hx.r,eqA,eqFs]
theorem iN:limf env 70 [.agg [a8 a_1,a8 a_2,a32 a_3,a8 a_4,aI a_5,a8 a_6,a32 a_7,a8 a_8,aI a_9,aI a_10,a8 a_11,a32 a_12,a8 a_13,aI a_14,a8 a_15,a32 a_16,x]]=some (aI (bad (opB (⟨a_1,⟨a_2,a_3,a_4⟩,a_5,⟨⟨⟨a_6,a_7,a_8⟩,a_9⟩,a_10⟩,⟨⟨a_11,a_12,a_13⟩,a_14⟩,⟨a_15,a_16⟩,l⟩:Opn)))):=by
 refine aw (fn:=Tryz.f70) (c:=Ap) rfl (by kernel_rfl) (by kernel_rfl) (by kernel_rfl) (by kernel_rfl) ?_;refine Ek _ _ _ fun g=>?_
 have h1:=K6 a_1 a_2 a_3 a_4 a_5 a_6 a_7 a_8 a_9 a_10 a_11 a_12 a_13 a_14 a_15 a_16 hx hl
 have h2:=La a_1 a_2 a_3 a_4 a_5 a_6 a_7 a_8 a_9 a_10 a_11 a_12 a_13 a_14 a_15 a_16 hx hl
 have h3:=Oj a_1 a_2 a_3 a_4 a_5 a_6 a_7 a_8 a_9 a_10 a_11 a_12 a_13 a_14 a_15 a_16 hx hl
 have h4:=Ol
 unfold opB mayB
 by_cases k0:a_1=0
 ·subst k0
  simp[af,ah,ad,ae,ab, *,ga,hx.r]
 by_cases k4:4≤a_1
 ·have n1 : ¬a_1=1:=by rintro rfl;exact absurd k4 (by decide)
  have n2 : ¬a_1=2:=by rintro rfl;exact absurd k4 (by decide)
  have n3 : ¬a_1=3:=by rintro rfl;exact absurd k4 (by decide)
  simp[af,ah,ad,ae,ab, *,ga,hx.r]
 cases c1:hY ⟨a_2,a_3,a_4⟩ with
 | false=>simp[af,ah,ad,ae,ab, *,ga,hx.r]
 | true =>
 rcases Int.lt_or_le a_5 1 with c2' | c2
 ·have c2 : ¬1≤a_5:=by omega
  simp[af,ah,ad,ae,ab, *,ga,hx.r]
 have c2' : ¬a_5<1:=by omega
 rcases Int.lt_or_le a_5 16777216 with c3 | c3'
 rotate_left
 ·have c3 : ¬a_5<16777216:=by omega
  simp[af,ah,ad,ae,ab, *,ga,hx.r]
 have c3' : ¬16777216≤a_5:=by omega
 cases c4:kR ⟨⟨⟨a_6,a_7,a_8⟩,a_9⟩,a_10⟩ with
 | false=>simp[af,ah,ad,ae,ab, *,ga,hx.r]
 | true =>
 have hk:a_1=1∨a_1=2∨a_1=3:=by
  have e:a_1.toNat<4:=by have:=UInt8.not_le.1 k4;exact this
  have e0:a_1.toNat≠0:=fun h=>k0 (UInt8.toNat_inj.1 h)
  rcases(show a_1.toNat=1∨a_1.toNat=2∨a_1.toNat=3 by omega)with h | h | h
  ·exact .inl (UInt8.toNat_inj.1 h)
  ·exact .inr (.inl (UInt8.toNat_inj.1 h))
  ·exact .inr (.inr (UInt8.toNat_inj.1 h))
 rcases hk with rfl | rfl | rfl
 ·cases c5:insB (⟨1,⟨a_2,a_3,a_4⟩,a_5,⟨⟨⟨a_6,a_7,a_8⟩,a_9⟩,a_10⟩,⟨⟨a_11,a_12,a_13⟩,a_14⟩,⟨a_15,a_16⟩,l⟩:Opn)<;>simp[af,ah,ad,ae,ab, *,ga,hx.r,Gc,zi,Cj]
 ·cases c5:delB (⟨2,⟨a_2,a_3,a_4⟩,a_5,⟨⟨⟨a_6,a_7,a_8⟩,a_9⟩,a_10⟩,⟨⟨a_11,a_12,a_13⟩,a_14⟩,⟨a_15,a_16⟩,l⟩:Opn)<;>simp[af,ah,ad,ae,ab, *,ga,hx.r,Gc,zi,Cj]
 ·cases c5:raiB (⟨3,⟨a_2,a_3,a_4⟩,a_5,⟨⟨⟨a_6,a_7,a_8⟩,a_9⟩,a_10⟩,⟨⟨a_11,a_12,a_13⟩,a_14⟩,⟨a_15,a_16⟩,l⟩:Opn)<;>simp[af,ah,ad,ae,ab, *,ga,hx.r,Gc,zi,Cj]
end
end Go.Proofs.YtmkmimgokagimaaGreat
