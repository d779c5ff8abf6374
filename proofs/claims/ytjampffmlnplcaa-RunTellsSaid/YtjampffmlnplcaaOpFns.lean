/-
  Operations: whether they may be. No statement of a seat is proved here.
-/
import Derived.Test.YtjampffmlnplcaaRunesFns
import Derived.Test.YtjampffmlnplcaaRnVc2
import Derived.Test.YtjampffmlnplcaaOpMath
import Derived.Test.YtjampffmlnplcaaAbsCond
set_option linter.unusedVariables false
set_option linter.unusedSimpArgs false
set_option linter.unusedSectionVars false
set_option linter.unnecessarySimpa false
set_option maxRecDepth 100000
namespace Go.Proofs.Ytjampffmlnplcaa
open Go.Ab
attribute [local simp] fK ek eo keep thr fL ew eu ky ku dJ List.take_of_length_le
def sQ:AV := .agg [.v .nilFunc,.v .nilFunc,.fn (.func 143) [] [.iptr 1 [.fn (.func 141) [] []] 0 0],.fn (.func 144) [] [],
 .fn (.func 145) [] [.iptr 1 [.fn (.func 141) [] []] 0 0,.iptr 1 [.fn (.func 140) [] []] 0 0],.fn (.func 146) [] [],.fn (.func 147) [] [.iptr 1 [.fn (.func 140) [] []] 0 0],.fn (.func 148) [] []]
theorem zl:limf env 117 []=some sQ:=rY (n:=2000) (by kernel_rfl)
@[simp] theorem DH:limf env 142 []=some (.agg [a8 0,a32 0]):=by
 refine aC (fn:=Try.f142) (c:=kY) rfl (by kernel_rfl) (by kernel_rfl) (by kernel_rfl) (by kernel_rfl) ?_;refine nT _ _ fun g=>?_
 simp[ar,au,ae,af,ab, *,k5]
section
variable(a_1:UInt8)(a_2:UInt8)(a_3:UInt32)(a_4:UInt8)(a_5:Int)(a_6:UInt8)(a_7:UInt32)(a_8:UInt8)(a_9:Int)(a_10:Int)(a_11:UInt8)(a_12:UInt32)(a_13:UInt8)(a_14:Int)(a_15:UInt8)(a_16:UInt32){x:AV}{l:List Int}(hx:Sl 1 (rows l) x)(hl:l.length<2000000)
include hx hl
theorem yH:limf env 140 [.agg [a8 a_1,a8 a_2,a32 a_3,a8 a_4,aI a_5,a8 a_6,a32 a_7,a8 a_8,aI a_9,aI a_10,a8 a_11,a32 a_12,a8 a_13,aI a_14,a8 a_15,a32 a_16,x]]=some (aB (pI (⟨a_1,⟨a_2,a_3,a_4⟩,a_5,⟨⟨⟨a_6,a_7,a_8⟩,a_9⟩,a_10⟩,⟨⟨a_11,a_12,a_13⟩,a_14⟩,⟨a_15,a_16⟩,l⟩:Opn))):=by
 refine aC (fn:=Try.f140) (c:=mb) rfl (by kernel_rfl) (by kernel_rfl) (by kernel_rfl) (by kernel_rfl) ?_;refine oU _ _ _ fun g=>?_
 unfold pI
 cases hz:eQ (⟨⟨a_11,a_12,a_13⟩,a_14⟩:Idd) with
 | true =>
  unfold eQ at hz
  simp[ar,au,ae,af,ab, *,jC,hx.r,eqA,eqFs]
 | false =>
  unfold eQ at hz
  simp[ar,au,ae,af,ab, *,jC,hx.r,eqA,eqFs]
theorem u5:limf env 141 [.agg [a8 a_1,a8 a_2,a32 a_3,a8 a_4,aI a_5,a8 a_6,a32 a_7,a8 a_8,aI a_9,aI a_10,a8 a_11,a32 a_12,a8 a_13,aI a_14,a8 a_15,a32 a_16,x]]=some (aB (mM (⟨a_15,a_16⟩:Lab))):=by
 refine aC (fn:=Try.f141) (c:=ma) rfl (by kernel_rfl) (by kernel_rfl) (by kernel_rfl) (by kernel_rfl) ?_;refine oT _ _ _ fun g=>?_
 simp[ar,au,ae,af,ab, *,me,hx.r,eqA,eqFs,mM]
theorem xg:limf env 145 [.agg [a8 a_1,a8 a_2,a32 a_3,a8 a_4,aI a_5,a8 a_6,a32 a_7,a8 a_8,aI a_9,aI a_10,a8 a_11,a32 a_12,a8 a_13,aI a_14,a8 a_15,a32 a_16,x],.iptr 1 [.fn (.func 141) [] []] 0 0,.iptr 1 [.fn (.func 140) [] []] 0 0]=some (aB (delB (⟨a_1,⟨a_2,a_3,a_4⟩,a_5,⟨⟨⟨a_6,a_7,a_8⟩,a_9⟩,a_10⟩,⟨⟨a_11,a_12,a_13⟩,a_14⟩,⟨a_15,a_16⟩,l⟩:Opn))):=by
 refine aC (fn:=Try.f145) (c:=l8) rfl (by kernel_rfl) (by kernel_rfl) (by kernel_rfl) (by kernel_rfl) ?_;refine oR _ _ _ _ _ fun g=>?_
 have h1:=yH a_1 a_2 a_3 a_4 a_5 a_6 a_7 a_8 a_9 a_10 a_11 a_12 a_13 a_14 a_15 a_16 hx hl
 have h2:=u5 a_1 a_2 a_3 a_4 a_5 a_6 a_7 a_8 a_9 a_10 a_11 a_12 a_13 a_14 a_15 a_16 hx hl
 unfold delB
 cases hz:mM (⟨a_15,a_16⟩:Lab)<;>simp[ar,au,ae,af,ab, *,md,hx.r]
theorem zk:limf env 147 [.agg [a8 a_1,a8 a_2,a32 a_3,a8 a_4,aI a_5,a8 a_6,a32 a_7,a8 a_8,aI a_9,aI a_10,a8 a_11,a32 a_12,a8 a_13,aI a_14,a8 a_15,a32 a_16,x],.iptr 1 [.fn (.func 140) [] []] 0 0]=some (aB (raiB (⟨a_1,⟨a_2,a_3,a_4⟩,a_5,⟨⟨⟨a_6,a_7,a_8⟩,a_9⟩,a_10⟩,⟨⟨a_11,a_12,a_13⟩,a_14⟩,⟨a_15,a_16⟩,l⟩:Opn))):=by
 refine aC (fn:=Try.f147) (c:=l7) rfl (by kernel_rfl) (by kernel_rfl) (by kernel_rfl) (by kernel_rfl) ?_;refine oQ _ _ _ _ fun g=>?_
 have h1:=yH a_1 a_2 a_3 a_4 a_5 a_6 a_7 a_8 a_9 a_10 a_11 a_12 a_13 a_14 a_15 a_16 hx hl
 unfold raiB
 cases hz:pI (⟨a_1,⟨a_2,a_3,a_4⟩,a_5,⟨⟨⟨a_6,a_7,a_8⟩,a_9⟩,a_10⟩,⟨⟨a_11,a_12,a_13⟩,a_14⟩,⟨a_15,a_16⟩,l⟩:Opn)<;>simp[ar,au,ae,af,ab, *,mc,hx.r]
theorem xf:limf env 143 [.agg [a8 a_1,a8 a_2,a32 a_3,a8 a_4,aI a_5,a8 a_6,a32 a_7,a8 a_8,aI a_9,aI a_10,a8 a_11,a32 a_12,a8 a_13,aI a_14,a8 a_15,a32 a_16,x],.iptr 1 [.fn (.func 141) [] []] 0 0]=some (aB (insB (⟨a_1,⟨a_2,a_3,a_4⟩,a_5,⟨⟨⟨a_6,a_7,a_8⟩,a_9⟩,a_10⟩,⟨⟨a_11,a_12,a_13⟩,a_14⟩,⟨a_15,a_16⟩,l⟩:Opn))):=by
 refine aC (fn:=Try.f143) (c:=l9) rfl (by kernel_rfl) (by kernel_rfl) (by kernel_rfl) (by kernel_rfl) ?_;refine oS _ _ _ _ fun g=>?_
 have h2:=u5 a_1 a_2 a_3 a_4 a_5 a_6 a_7 a_8 a_9 a_10 a_11 a_12 a_13 a_14 a_15 a_16 hx hl
 have h3:=p5 hx (by omega)
 have h4:=lJ l
 unfold insB
 cases hz:mM (⟨a_15,a_16⟩:Lab) with
 | false =>
  cases hA:eQ (⟨⟨a_11,a_12,a_13⟩,a_14⟩:Idd) with
  | false =>
   unfold eQ at hA
   simp[ar,au,ae,af,ab, *,cw,hx.r,eqA,eqFs]
  | true =>
   unfold eQ at hA
   simp[ar,au,ae,af,ab, *,cw,hx.r,eqA,eqFs]
 | true =>
  have key : ∀b:Bool,(eQ (⟨⟨a_11,a_12,a_13⟩,a_14⟩:Idd)||idB (⟨⟨a_11,a_12,a_13⟩,a_14⟩:Idd))=b→True:=fun _ _=>trivial
  cases hS:q0 ⟨a_6,a_7,a_8⟩ ⟨a_2,a_3,a_4⟩ with
  | false =>
   unfold q0 at hS
   cases hA:eQ (⟨⟨a_11,a_12,a_13⟩,a_14⟩:Idd) with
   | false =>
    unfold eQ at hA
    cases hI:idB (⟨⟨a_11,a_12,a_13⟩,a_14⟩:Idd)<;>simp[ar,au,ae,af,ab, *,cw,hx.r,eqA,eqFs]
   | true =>
    unfold eQ at hA
    simp[ar,au,ae,af,ab, *,cw,hx.r,eqA,eqFs]
  | true =>
   unfold q0 at hS
   by_cases hL:(l.length:Int)=a_10
   ·cases hA:eQ (⟨⟨a_11,a_12,a_13⟩,a_14⟩:Idd) with
    | false =>
     unfold eQ at hA
     cases hI:idB (⟨⟨a_11,a_12,a_13⟩,a_14⟩:Idd)<;>simp[ar,au,ae,af,ab, *,cw,hx.r,eqA,eqFs]
    | true =>
     unfold eQ at hA
     simp[ar,au,ae,af,ab, *,cw,hx.r,eqA,eqFs]
   ·cases hA:eQ (⟨⟨a_11,a_12,a_13⟩,a_14⟩:Idd) with
    | false =>
     unfold eQ at hA
     cases hI:idB (⟨⟨a_11,a_12,a_13⟩,a_14⟩:Idd)<;>simp[ar,au,ae,af,ab, *,cw,hx.r,eqA,eqFs]
    | true =>
     unfold eQ at hA
     simp[ar,au,ae,af,ab, *,cw,hx.r,eqA,eqFs]
theorem vd:limf env 80 [.agg [a8 a_1,a8 a_2,a32 a_3,a8 a_4,aI a_5,a8 a_6,a32 a_7,a8 a_8,aI a_9,aI a_10,a8 a_11,a32 a_12,a8 a_13,aI a_14,a8 a_15,a32 a_16,x]]=some (aI (bad (opB (⟨a_1,⟨a_2,a_3,a_4⟩,a_5,⟨⟨⟨a_6,a_7,a_8⟩,a_9⟩,a_10⟩,⟨⟨a_11,a_12,a_13⟩,a_14⟩,⟨a_15,a_16⟩,l⟩:Opn)))):=by
 refine aC (fn:=Try.f80) (c:=nM) rfl (by kernel_rfl) (by kernel_rfl) (by kernel_rfl) (by kernel_rfl) ?_;refine qS _ _ _ fun g=>?_
 have h1:=xf a_1 a_2 a_3 a_4 a_5 a_6 a_7 a_8 a_9 a_10 a_11 a_12 a_13 a_14 a_15 a_16 hx hl
 have h2:=xg a_1 a_2 a_3 a_4 a_5 a_6 a_7 a_8 a_9 a_10 a_11 a_12 a_13 a_14 a_15 a_16 hx hl
 have h3:=zk a_1 a_2 a_3 a_4 a_5 a_6 a_7 a_8 a_9 a_10 a_11 a_12 a_13 a_14 a_15 a_16 hx hl
 have h4:=zl
 unfold opB mayB
 by_cases k0:a_1=0
 ·subst k0
  simp[ar,au,ae,af,ab, *,cQ,hx.r]
 by_cases k4:4≤a_1
 ·have n1 : ¬a_1=1:=by rintro rfl;exact absurd k4 (by decide)
  have n2 : ¬a_1=2:=by rintro rfl;exact absurd k4 (by decide)
  have n3 : ¬a_1=3:=by rintro rfl;exact absurd k4 (by decide)
  simp[ar,au,ae,af,ab, *,cQ,hx.r]
 cases c1:qp ⟨a_2,a_3,a_4⟩ with
 | false=>simp[ar,au,ae,af,ab, *,cQ,hx.r]
 | true =>
 rcases Int.lt_or_le a_5 1 with c2' | c2
 ·have c2 : ¬1≤a_5:=by omega
  simp[ar,au,ae,af,ab, *,cQ,hx.r]
 have c2' : ¬a_5<1:=by omega
 rcases Int.lt_or_le a_5 16777216 with c3 | c3'
 rotate_left
 ·have c3 : ¬a_5<16777216:=by omega
  simp[ar,au,ae,af,ab, *,cQ,hx.r]
 have c3' : ¬16777216≤a_5:=by omega
 cases c4:fm ⟨⟨⟨a_6,a_7,a_8⟩,a_9⟩,a_10⟩ with
 | false=>simp[ar,au,ae,af,ab, *,cQ,hx.r]
 | true =>
 have hk:a_1=1∨a_1=2∨a_1=3:=by
  have e:a_1.toNat<4:=by have:=UInt8.not_le.1 k4;exact this
  have e0:a_1.toNat≠0:=fun h=>k0 (UInt8.toNat_inj.1 h)
  rcases(show a_1.toNat=1∨a_1.toNat=2∨a_1.toNat=3 by omega)with h | h | h
  ·exact .inl (UInt8.toNat_inj.1 h)
  ·exact .inr (.inl (UInt8.toNat_inj.1 h))
  ·exact .inr (.inr (UInt8.toNat_inj.1 h))
 rcases hk with rfl | rfl | rfl
 ·cases c5:insB (⟨1,⟨a_2,a_3,a_4⟩,a_5,⟨⟨⟨a_6,a_7,a_8⟩,a_9⟩,a_10⟩,⟨⟨a_11,a_12,a_13⟩,a_14⟩,⟨a_15,a_16⟩,l⟩:Opn)<;>simp[ar,au,ae,af,ab, *,cQ,hx.r,sQ,nf,o8]
 ·cases c5:delB (⟨2,⟨a_2,a_3,a_4⟩,a_5,⟨⟨⟨a_6,a_7,a_8⟩,a_9⟩,a_10⟩,⟨⟨a_11,a_12,a_13⟩,a_14⟩,⟨a_15,a_16⟩,l⟩:Opn)<;>simp[ar,au,ae,af,ab, *,cQ,hx.r,sQ,nf,o8]
 ·cases c5:raiB (⟨3,⟨a_2,a_3,a_4⟩,a_5,⟨⟨⟨a_6,a_7,a_8⟩,a_9⟩,a_10⟩,⟨⟨a_11,a_12,a_13⟩,a_14⟩,⟨a_15,a_16⟩,l⟩:Opn)<;>simp[ar,au,ae,af,ab, *,cQ,hx.r,sQ,nf,o8]
end
end Go.Proofs.Ytjampffmlnplcaa
