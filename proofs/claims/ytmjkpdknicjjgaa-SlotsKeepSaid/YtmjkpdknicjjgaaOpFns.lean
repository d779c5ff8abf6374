/-
  Operations: whether they may be. No statement of a seat is proved here.
-/
import Derived.Test.YtmjkpdknicjjgaaRunesFns
import Derived.Test.YtmjkpdknicjjgaaLgVc2
import Derived.Test.YtmjkpdknicjjgaaMOpMath
import Derived.Test.YtmjkpdknicjjgaaAbsCond
set_option linter.unusedVariables false
set_option linter.unusedSimpArgs false
set_option linter.unusedSectionVars false
set_option linter.unnecessarySimpa false
set_option maxRecDepth 100000
namespace Go.Proofs.Ytmjkpdknicjjgaa
open Go.Ab
attribute [local simp] cb bC bG bF keep thr cy bB bH eF eE bX cx aO cZ List.take_of_length_le
def EH:AV := .agg [.v .nilFunc,.v .nilFunc,.fn (.func 101) [] [.iptr 1 [.fn (.func 100) [] []] 0 0],.fn (.func 102) [] [],
 .fn (.func 103) [] [.iptr 1 [.fn (.func 100) [] []] 0 0,.iptr 1 [.fn (.func 99) [] []] 0 0],.fn (.func 104) [] [],.fn (.func 105) [] [.iptr 1 [.fn (.func 99) [] []] 0 0],.fn (.func 106) [] []]
theorem Nl:limf env 87 []=some EH:=DA (n:=2000) (by kernel_rfl)
@[simp] theorem Ur:limf env 91 []=some (.agg [a8 0,a32 0]):=by
 refine aG (fn:=Try.f91) (c:=nL) rfl (by kernel_rfl) (by kernel_rfl) (by kernel_rfl) (by kernel_rfl) ?_;refine xB _ _ fun g=>?_
 simp [af,ah,ad,ae,aa, *,nU]
section
variable (a_1:UInt8) (a_2:UInt8) (a_3:UInt32) (a_4:UInt8) (a_5:Int) (a_6:UInt8) (a_7:UInt32) (a_8:UInt8) (a_9:Int) (a_10:Int) (a_11:UInt8) (a_12:UInt32) (a_13:UInt8) (a_14:Int) (a_15:UInt8) (a_16:UInt32) {x:AV} {l:List Int} (hx:Sl 1 (rows l) x) (hl:l.length<2000000)
include hx hl
theorem L8:limf env 99 [.agg [a8 a_1,a8 a_2,a32 a_3,a8 a_4,aI a_5,a8 a_6,a32 a_7,a8 a_8,aI a_9,aI a_10,a8 a_11,a32 a_12,a8 a_13,aI a_14,a8 a_15,a32 a_16,x]]=some (aB (Ed (⟨a_1,⟨a_2,a_3,a_4⟩,a_5,⟨⟨⟨a_6,a_7,a_8⟩,a_9⟩,a_10⟩,⟨⟨a_11,a_12,a_13⟩,a_14⟩,⟨a_15,a_16⟩,l⟩:Opn))):=by
 refine aG (fn:=Try.f99) (c:=pr) rfl (by kernel_rfl) (by kernel_rfl) (by kernel_rfl) (by kernel_rfl) ?_;refine zE _ _ _ fun g=>?_
 unfold Ed
 cases hz:ly (⟨⟨a_11,a_12,a_13⟩,a_14⟩:Idd) with
 | true =>
  unfold ly at hz
  simp [af,ah,ad,ae,aa, *,mi,hx.r,eqA,eqFs]
 | false =>
  unfold ly at hz
  simp [af,ah,ad,ae,aa, *,mi,hx.r,eqA,eqFs]
theorem Hj:limf env 100 [.agg [a8 a_1,a8 a_2,a32 a_3,a8 a_4,aI a_5,a8 a_6,a32 a_7,a8 a_8,aI a_9,aI a_10,a8 a_11,a32 a_12,a8 a_13,aI a_14,a8 a_15,a32 a_16,x]]=some (aB (AN (⟨a_15,a_16⟩:Lab))):=by
 refine aG (fn:=Try.f100) (c:=pq) rfl (by kernel_rfl) (by kernel_rfl) (by kernel_rfl) (by kernel_rfl) ?_;refine zD _ _ _ fun g=>?_
 simp [af,ah,ad,ae,aa, *,pD,hx.r,eqA,eqFs,AN]
theorem Kf:limf env 103 [.agg [a8 a_1,a8 a_2,a32 a_3,a8 a_4,aI a_5,a8 a_6,a32 a_7,a8 a_8,aI a_9,aI a_10,a8 a_11,a32 a_12,a8 a_13,aI a_14,a8 a_15,a32 a_16,x],.iptr 1 [.fn (.func 100) [] []] 0 0,.iptr 1 [.fn (.func 99) [] []] 0 0]=some (aB (delB (⟨a_1,⟨a_2,a_3,a_4⟩,a_5,⟨⟨⟨a_6,a_7,a_8⟩,a_9⟩,a_10⟩,⟨⟨a_11,a_12,a_13⟩,a_14⟩,⟨a_15,a_16⟩,l⟩:Opn))):=by
 refine aG (fn:=Try.f103) (c:=pn) rfl (by kernel_rfl) (by kernel_rfl) (by kernel_rfl) (by kernel_rfl) ?_;refine zB _ _ _ _ _ fun g=>?_
 have h1:=L8 a_1 a_2 a_3 a_4 a_5 a_6 a_7 a_8 a_9 a_10 a_11 a_12 a_13 a_14 a_15 a_16 hx hl
 have h2:=Hj a_1 a_2 a_3 a_4 a_5 a_6 a_7 a_8 a_9 a_10 a_11 a_12 a_13 a_14 a_15 a_16 hx hl
 unfold delB
 cases hz:AN (⟨a_15,a_16⟩:Lab)<;>simp [af,ah,ad,ae,aa, *,pC,hx.r]
theorem Nk:limf env 105 [.agg [a8 a_1,a8 a_2,a32 a_3,a8 a_4,aI a_5,a8 a_6,a32 a_7,a8 a_8,aI a_9,aI a_10,a8 a_11,a32 a_12,a8 a_13,aI a_14,a8 a_15,a32 a_16,x],.iptr 1 [.fn (.func 99) [] []] 0 0]=some (aB (raiB (⟨a_1,⟨a_2,a_3,a_4⟩,a_5,⟨⟨⟨a_6,a_7,a_8⟩,a_9⟩,a_10⟩,⟨⟨a_11,a_12,a_13⟩,a_14⟩,⟨a_15,a_16⟩,l⟩:Opn))):=by
 refine aG (fn:=Try.f105) (c:=pk) rfl (by kernel_rfl) (by kernel_rfl) (by kernel_rfl) (by kernel_rfl) ?_;refine zA _ _ _ _ fun g=>?_
 have h1:=L8 a_1 a_2 a_3 a_4 a_5 a_6 a_7 a_8 a_9 a_10 a_11 a_12 a_13 a_14 a_15 a_16 hx hl
 unfold raiB
 cases hz:Ed (⟨a_1,⟨a_2,a_3,a_4⟩,a_5,⟨⟨⟨a_6,a_7,a_8⟩,a_9⟩,a_10⟩,⟨⟨a_11,a_12,a_13⟩,a_14⟩,⟨a_15,a_16⟩,l⟩:Opn)<;>simp [af,ah,ad,ae,aa, *,pB,hx.r]
theorem Kd:limf env 101 [.agg [a8 a_1,a8 a_2,a32 a_3,a8 a_4,aI a_5,a8 a_6,a32 a_7,a8 a_8,aI a_9,aI a_10,a8 a_11,a32 a_12,a8 a_13,aI a_14,a8 a_15,a32 a_16,x],.iptr 1 [.fn (.func 100) [] []] 0 0]=some (aB (insB (⟨a_1,⟨a_2,a_3,a_4⟩,a_5,⟨⟨⟨a_6,a_7,a_8⟩,a_9⟩,a_10⟩,⟨⟨a_11,a_12,a_13⟩,a_14⟩,⟨a_15,a_16⟩,l⟩:Opn))):=by
 refine aG (fn:=Try.f101) (c:=po) rfl (by kernel_rfl) (by kernel_rfl) (by kernel_rfl) (by kernel_rfl) ?_;refine zC _ _ _ _ fun g=>?_
 have h2:=Hj a_1 a_2 a_3 a_4 a_5 a_6 a_7 a_8 a_9 a_10 a_11 a_12 a_13 a_14 a_15 a_16 hx hl
 have h3:=vT hx (by omega)
 have h4:=Bz l
 unfold insB
 cases hz:AN (⟨a_15,a_16⟩:Lab) with
 | false =>
  cases hA:ly (⟨⟨a_11,a_12,a_13⟩,a_14⟩:Idd) with
  | false =>
   unfold ly at hA
   simp [af,ah,ad,ae,aa, *,ep,hx.r,eqA,eqFs]
  | true =>
   unfold ly at hA
   simp [af,ah,ad,ae,aa, *,ep,hx.r,eqA,eqFs]
 | true =>
  have key : ∀b:Bool,(ly (⟨⟨a_11,a_12,a_13⟩,a_14⟩:Idd)||idB (⟨⟨a_11,a_12,a_13⟩,a_14⟩:Idd))=b→True:=fun _ _=>trivial
  cases hS:Kc ⟨a_6,a_7,a_8⟩ ⟨a_2,a_3,a_4⟩ with
  | false =>
   unfold Kc at hS
   cases hA:ly (⟨⟨a_11,a_12,a_13⟩,a_14⟩:Idd) with
   | false =>
    unfold ly at hA
    cases hI:idB (⟨⟨a_11,a_12,a_13⟩,a_14⟩:Idd)<;>simp [af,ah,ad,ae,aa, *,ep,hx.r,eqA,eqFs]
   | true =>
    unfold ly at hA
    simp [af,ah,ad,ae,aa, *,ep,hx.r,eqA,eqFs]
  | true =>
   unfold Kc at hS
   by_cases hL:(l.length:Int)=a_10
   ·cases hA:ly (⟨⟨a_11,a_12,a_13⟩,a_14⟩:Idd) with
    | false =>
     unfold ly at hA
     cases hI:idB (⟨⟨a_11,a_12,a_13⟩,a_14⟩:Idd)<;>simp [af,ah,ad,ae,aa, *,ep,hx.r,eqA,eqFs]
    | true =>
     unfold ly at hA
     simp [af,ah,ad,ae,aa, *,ep,hx.r,eqA,eqFs]
   ·cases hA:ly (⟨⟨a_11,a_12,a_13⟩,a_14⟩:Idd) with
    | false =>
     unfold ly at hA
     cases hI:idB (⟨⟨a_11,a_12,a_13⟩,a_14⟩:Idd)<;>simp [af,ah,ad,ae,aa, *,ep,hx.r,eqA,eqFs]
    | true =>
     unfold ly at hA
     simp [af,ah,ad,ae,aa, *,ep,hx.r,eqA,eqFs]
theorem my:limf env 73 [.agg [a8 a_1,a8 a_2,a32 a_3,a8 a_4,aI a_5,a8 a_6,a32 a_7,a8 a_8,aI a_9,aI a_10,a8 a_11,a32 a_12,a8 a_13,aI a_14,a8 a_15,a32 a_16,x]]=some (aI (bad (opB (⟨a_1,⟨a_2,a_3,a_4⟩,a_5,⟨⟨⟨a_6,a_7,a_8⟩,a_9⟩,a_10⟩,⟨⟨a_11,a_12,a_13⟩,a_14⟩,⟨a_15,a_16⟩,l⟩:Opn)))):=by
 refine aG (fn:=Try.f73) (c:=rU) rfl (by kernel_rfl) (by kernel_rfl) (by kernel_rfl) (by kernel_rfl) ?_;refine CQ _ _ _ fun g=>?_
 have h1:=Kd a_1 a_2 a_3 a_4 a_5 a_6 a_7 a_8 a_9 a_10 a_11 a_12 a_13 a_14 a_15 a_16 hx hl
 have h2:=Kf a_1 a_2 a_3 a_4 a_5 a_6 a_7 a_8 a_9 a_10 a_11 a_12 a_13 a_14 a_15 a_16 hx hl
 have h3:=Nk a_1 a_2 a_3 a_4 a_5 a_6 a_7 a_8 a_9 a_10 a_11 a_12 a_13 a_14 a_15 a_16 hx hl
 have h4:=Nl
 unfold opB mayB
 by_cases k0:a_1=0
 ·subst k0
  simp [af,ah,ad,ae,aa, *,fp,hx.r]
 by_cases k4:4≤a_1
 ·have n1 : ¬a_1=1:=by rintro rfl;exact absurd k4 (by decide)
  have n2 : ¬a_1=2:=by rintro rfl;exact absurd k4 (by decide)
  have n3 : ¬a_1=3:=by rintro rfl;exact absurd k4 (by decide)
  simp [af,ah,ad,ae,aa, *,fp,hx.r]
 cases c1:gS ⟨a_2,a_3,a_4⟩ with
 | false=>simp [af,ah,ad,ae,aa, *,fp,hx.r]
 | true =>
 rcases Int.lt_or_le a_5 1 with c2' | c2
 ·have c2 : ¬1≤a_5:=by omega
  simp [af,ah,ad,ae,aa, *,fp,hx.r]
 have c2' : ¬a_5<1:=by omega
 rcases Int.lt_or_le a_5 16777216 with c3 | c3'
 rotate_left
 ·have c3 : ¬a_5<16777216:=by omega
  simp [af,ah,ad,ae,aa, *,fp,hx.r]
 have c3' : ¬16777216≤a_5:=by omega
 cases c4:pS ⟨⟨⟨a_6,a_7,a_8⟩,a_9⟩,a_10⟩ with
 | false=>simp [af,ah,ad,ae,aa, *,fp,hx.r]
 | true =>
 have hk:a_1=1∨a_1=2∨a_1=3:=by
  have e:a_1.toNat<4:=by have:=UInt8.not_le.1 k4;exact this
  have e0:a_1.toNat≠0:=fun h=>k0 (UInt8.toNat_inj.1 h)
  rcases (show a_1.toNat=1∨a_1.toNat=2∨a_1.toNat=3 by omega) with h | h | h
  ·exact .inl (UInt8.toNat_inj.1 h)
  ·exact .inr (.inl (UInt8.toNat_inj.1 h))
  ·exact .inr (.inr (UInt8.toNat_inj.1 h))
 rcases hk with rfl | rfl | rfl
 ·cases c5:insB (⟨1,⟨a_2,a_3,a_4⟩,a_5,⟨⟨⟨a_6,a_7,a_8⟩,a_9⟩,a_10⟩,⟨⟨a_11,a_12,a_13⟩,a_14⟩,⟨a_15,a_16⟩,l⟩:Opn)<;>simp [af,ah,ad,ae,aa, *,fp,hx.r,EH,wb,z0]
 ·cases c5:delB (⟨2,⟨a_2,a_3,a_4⟩,a_5,⟨⟨⟨a_6,a_7,a_8⟩,a_9⟩,a_10⟩,⟨⟨a_11,a_12,a_13⟩,a_14⟩,⟨a_15,a_16⟩,l⟩:Opn)<;>simp [af,ah,ad,ae,aa, *,fp,hx.r,EH,wb,z0]
 ·cases c5:raiB (⟨3,⟨a_2,a_3,a_4⟩,a_5,⟨⟨⟨a_6,a_7,a_8⟩,a_9⟩,a_10⟩,⟨⟨a_11,a_12,a_13⟩,a_14⟩,⟨a_15,a_16⟩,l⟩:Opn)<;>simp [af,ah,ad,ae,aa, *,fp,hx.r,EH,wb,z0]
end
end Go.Proofs.Ytmjkpdknicjjgaa
