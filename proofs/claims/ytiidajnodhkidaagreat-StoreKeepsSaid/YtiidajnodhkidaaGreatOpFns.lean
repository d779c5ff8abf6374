/-
  Operations: whether they may be. No statement of a seat is proved here.
-/
import Derived.Test.YtiidajnodhkidaaGreatRunesFns
import Derived.Test.YtiidajnodhkidaaGreatStVc2
import Derived.Test.YtiidajnodhkidaaGreatMOpMath
import Derived.Test.YtiidajnodhkidaaGreatAbsCond
set_option linter.unusedVariables false
set_option linter.unusedSimpArgs false
set_option linter.unusedSectionVars false
set_option linter.unnecessarySimpa false
set_option maxRecDepth 100000
namespace Go.Proofs.YtiidajnodhkidaaGreat
open Go.Ab
attribute [local simp] ct bK bO bN keep thr cC bD bP eE eD cN cB aV dk List.take_of_length_le
def F0:AV := .agg [.v .nilFunc,.v .nilFunc,.fn (.func 180) [] [.iptr 1 [.fn (.func 179) [] []] 0 0],.fn (.func 181) [] [],
 .fn (.func 182) [] [.iptr 1 [.fn (.func 179) [] []] 0 0,.iptr 1 [.fn (.func 178) [] []] 0 0],.fn (.func 183) [] [],.fn (.func 184) [] [.iptr 1 [.fn (.func 178) [] []] 0 0],.fn (.func 185) [] []]
theorem OR:limf env 157 []=some F0:=EH (n:=2000) (by kernel_rfl)
@[simp] theorem WM:limf env 161 []=some (.agg [a8 0,a32 0]):=by
 refine aH (fn:=Tryz.f161) (c:=sk) rfl (by kernel_rfl) (by kernel_rfl) (by kernel_rfl) (by kernel_rfl) ?_;refine yQ _ _ fun g=>?_
 simp[af,ah,ad,ae,aa, *,sG]
section
variable(a_1:UInt8)(a_2:UInt8)(a_3:UInt32)(a_4:UInt8)(a_5:Int)(a_6:UInt8)(a_7:UInt32)(a_8:UInt8)(a_9:Int)(a_10:Int)(a_11:UInt8)(a_12:UInt32)(a_13:UInt8)(a_14:Int)(a_15:UInt8)(a_16:UInt32){x:AV}{l:List Int}(hx:Sl 1 (rows l) x)(hl:l.length<2000000)
include hx hl
theorem Ny:limf env 178 [.agg [a8 a_1,a8 a_2,a32 a_3,a8 a_4,aI a_5,a8 a_6,a32 a_7,a8 a_8,aI a_9,aI a_10,a8 a_11,a32 a_12,a8 a_13,aI a_14,a8 a_15,a32 a_16,x]]=some (aB (Fq (⟨a_1,⟨a_2,a_3,a_4⟩,a_5,⟨⟨⟨a_6,a_7,a_8⟩,a_9⟩,a_10⟩,⟨⟨a_11,a_12,a_13⟩,a_14⟩,⟨a_15,a_16⟩,l⟩:Opn))):=by
 refine aH (fn:=Tryz.f178) (c:=uA) rfl (by kernel_rfl) (by kernel_rfl) (by kernel_rfl) (by kernel_rfl) ?_;refine AH _ _ _ fun g=>?_
 unfold Fq
 cases hz:ma (⟨⟨a_11,a_12,a_13⟩,a_14⟩:Idd) with
 | true =>
  unfold ma at hz
  simp[af,ah,ad,ae,aa, *,pQ,hx.r,eqA,eqFs]
 | false =>
  unfold ma at hz
  simp[af,ah,ad,ae,aa, *,pQ,hx.r,eqA,eqFs]
theorem IS:limf env 179 [.agg [a8 a_1,a8 a_2,a32 a_3,a8 a_4,aI a_5,a8 a_6,a32 a_7,a8 a_8,aI a_9,aI a_10,a8 a_11,a32 a_12,a8 a_13,aI a_14,a8 a_15,a32 a_16,x]]=some (aB (Ca (⟨a_15,a_16⟩:Lab))):=by
 refine aH (fn:=Tryz.f179) (c:=uy) rfl (by kernel_rfl) (by kernel_rfl) (by kernel_rfl) (by kernel_rfl) ?_;refine AG _ _ _ fun g=>?_
 simp[af,ah,ad,ae,aa, *,uI,hx.r,eqA,eqFs,Ca]
theorem Ly:limf env 182 [.agg [a8 a_1,a8 a_2,a32 a_3,a8 a_4,aI a_5,a8 a_6,a32 a_7,a8 a_8,aI a_9,aI a_10,a8 a_11,a32 a_12,a8 a_13,aI a_14,a8 a_15,a32 a_16,x],.iptr 1 [.fn (.func 179) [] []] 0 0,.iptr 1 [.fn (.func 178) [] []] 0 0]=some (aB (delB (⟨a_1,⟨a_2,a_3,a_4⟩,a_5,⟨⟨⟨a_6,a_7,a_8⟩,a_9⟩,a_10⟩,⟨⟨a_11,a_12,a_13⟩,a_14⟩,⟨a_15,a_16⟩,l⟩:Opn))):=by
 refine aH (fn:=Tryz.f182) (c:=uv) rfl (by kernel_rfl) (by kernel_rfl) (by kernel_rfl) (by kernel_rfl) ?_;refine AE _ _ _ _ _ fun g=>?_
 have h1:=Ny a_1 a_2 a_3 a_4 a_5 a_6 a_7 a_8 a_9 a_10 a_11 a_12 a_13 a_14 a_15 a_16 hx hl
 have h2:=IS a_1 a_2 a_3 a_4 a_5 a_6 a_7 a_8 a_9 a_10 a_11 a_12 a_13 a_14 a_15 a_16 hx hl
 unfold delB
 cases hz:Ca (⟨a_15,a_16⟩:Lab)<;>simp[af,ah,ad,ae,aa, *,uH,hx.r]
theorem OQ:limf env 184 [.agg [a8 a_1,a8 a_2,a32 a_3,a8 a_4,aI a_5,a8 a_6,a32 a_7,a8 a_8,aI a_9,aI a_10,a8 a_11,a32 a_12,a8 a_13,aI a_14,a8 a_15,a32 a_16,x],.iptr 1 [.fn (.func 178) [] []] 0 0]=some (aB (raiB (⟨a_1,⟨a_2,a_3,a_4⟩,a_5,⟨⟨⟨a_6,a_7,a_8⟩,a_9⟩,a_10⟩,⟨⟨a_11,a_12,a_13⟩,a_14⟩,⟨a_15,a_16⟩,l⟩:Opn))):=by
 refine aH (fn:=Tryz.f184) (c:=uu) rfl (by kernel_rfl) (by kernel_rfl) (by kernel_rfl) (by kernel_rfl) ?_;refine AD _ _ _ _ fun g=>?_
 have h1:=Ny a_1 a_2 a_3 a_4 a_5 a_6 a_7 a_8 a_9 a_10 a_11 a_12 a_13 a_14 a_15 a_16 hx hl
 unfold raiB
 cases hz:Fq (⟨a_1,⟨a_2,a_3,a_4⟩,a_5,⟨⟨⟨a_6,a_7,a_8⟩,a_9⟩,a_10⟩,⟨⟨a_11,a_12,a_13⟩,a_14⟩,⟨a_15,a_16⟩,l⟩:Opn)<;>simp[af,ah,ad,ae,aa, *,uG,hx.r]
theorem Lw:limf env 180 [.agg [a8 a_1,a8 a_2,a32 a_3,a8 a_4,aI a_5,a8 a_6,a32 a_7,a8 a_8,aI a_9,aI a_10,a8 a_11,a32 a_12,a8 a_13,aI a_14,a8 a_15,a32 a_16,x],.iptr 1 [.fn (.func 179) [] []] 0 0]=some (aB (insB (⟨a_1,⟨a_2,a_3,a_4⟩,a_5,⟨⟨⟨a_6,a_7,a_8⟩,a_9⟩,a_10⟩,⟨⟨a_11,a_12,a_13⟩,a_14⟩,⟨a_15,a_16⟩,l⟩:Opn))):=by
 refine aH (fn:=Tryz.f180) (c:=uw) rfl (by kernel_rfl) (by kernel_rfl) (by kernel_rfl) (by kernel_rfl) ?_;refine AF _ _ _ _ fun g=>?_
 have h2:=IS a_1 a_2 a_3 a_4 a_5 a_6 a_7 a_8 a_9 a_10 a_11 a_12 a_13 a_14 a_15 a_16 hx hl
 have h3:=xn hx (by omega)
 have h4:=CN l
 unfold insB
 cases hz:Ca (⟨a_15,a_16⟩:Lab) with
 | false =>
  cases hA:ma (⟨⟨a_11,a_12,a_13⟩,a_14⟩:Idd) with
  | false =>
   unfold ma at hA
   simp[af,ah,ad,ae,aa, *,fS,hx.r,eqA,eqFs]
  | true =>
   unfold ma at hA
   simp[af,ah,ad,ae,aa, *,fS,hx.r,eqA,eqFs]
 | true =>
  have key : ∀b:Bool,(ma (⟨⟨a_11,a_12,a_13⟩,a_14⟩:Idd)||idB (⟨⟨a_11,a_12,a_13⟩,a_14⟩:Idd))=b→True:=fun _ _=>trivial
  cases hS:Lv ⟨a_6,a_7,a_8⟩ ⟨a_2,a_3,a_4⟩ with
  | false =>
   unfold Lv at hS
   cases hA:ma (⟨⟨a_11,a_12,a_13⟩,a_14⟩:Idd) with
   | false =>
    unfold ma at hA
    cases hI:idB (⟨⟨a_11,a_12,a_13⟩,a_14⟩:Idd)<;>simp[af,ah,ad,ae,aa, *,fS,hx.r,eqA,eqFs]
   | true =>
    unfold ma at hA
    simp[af,ah,ad,ae,aa, *,fS,hx.r,eqA,eqFs]
  | true =>
   unfold Lv at hS
   by_cases hL:(l.length:Int)=a_10
   ·cases hA:ma (⟨⟨a_11,a_12,a_13⟩,a_14⟩:Idd) with
    | false =>
     unfold ma at hA
     cases hI:idB (⟨⟨a_11,a_12,a_13⟩,a_14⟩:Idd)<;>simp[af,ah,ad,ae,aa, *,fS,hx.r,eqA,eqFs]
    | true =>
     unfold ma at hA
     simp[af,ah,ad,ae,aa, *,fS,hx.r,eqA,eqFs]
   ·cases hA:ma (⟨⟨a_11,a_12,a_13⟩,a_14⟩:Idd) with
    | false =>
     unfold ma at hA
     cases hI:idB (⟨⟨a_11,a_12,a_13⟩,a_14⟩:Idd)<;>simp[af,ah,ad,ae,aa, *,fS,hx.r,eqA,eqFs]
    | true =>
     unfold ma at hA
     simp[af,ah,ad,ae,aa, *,fS,hx.r,eqA,eqFs]
theorem mZ:limf env 122 [.agg [a8 a_1,a8 a_2,a32 a_3,a8 a_4,aI a_5,a8 a_6,a32 a_7,a8 a_8,aI a_9,aI a_10,a8 a_11,a32 a_12,a8 a_13,aI a_14,a8 a_15,a32 a_16,x]]=some (aI (bad (opB (⟨a_1,⟨a_2,a_3,a_4⟩,a_5,⟨⟨⟨a_6,a_7,a_8⟩,a_9⟩,a_10⟩,⟨⟨a_11,a_12,a_13⟩,a_14⟩,⟨a_15,a_16⟩,l⟩:Opn)))):=by
 refine aH (fn:=Tryz.f122) (c:=yq) rfl (by kernel_rfl) (by kernel_rfl) (by kernel_rfl) (by kernel_rfl) ?_;refine DX _ _ _ fun g=>?_
 have h1:=Lw a_1 a_2 a_3 a_4 a_5 a_6 a_7 a_8 a_9 a_10 a_11 a_12 a_13 a_14 a_15 a_16 hx hl
 have h2:=Ly a_1 a_2 a_3 a_4 a_5 a_6 a_7 a_8 a_9 a_10 a_11 a_12 a_13 a_14 a_15 a_16 hx hl
 have h3:=OQ a_1 a_2 a_3 a_4 a_5 a_6 a_7 a_8 a_9 a_10 a_11 a_12 a_13 a_14 a_15 a_16 hx hl
 have h4:=OR
 unfold opB mayB
 by_cases k0:a_1=0
 ·subst k0
  simp[af,ah,ad,ae,aa, *,gP,hx.r]
 by_cases k4:4≤a_1
 ·have n1 : ¬a_1=1:=by rintro rfl;exact absurd k4 (by decide)
  have n2 : ¬a_1=2:=by rintro rfl;exact absurd k4 (by decide)
  have n3 : ¬a_1=3:=by rintro rfl;exact absurd k4 (by decide)
  simp[af,ah,ad,ae,aa, *,gP,hx.r]
 cases c1:iN ⟨a_2,a_3,a_4⟩ with
 | false=>simp[af,ah,ad,ae,aa, *,gP,hx.r]
 | true =>
 rcases Int.lt_or_le a_5 1 with c2' | c2
 ·have c2 : ¬1≤a_5:=by omega
  simp[af,ah,ad,ae,aa, *,gP,hx.r]
 have c2' : ¬a_5<1:=by omega
 rcases Int.lt_or_le a_5 16777216 with c3 | c3'
 rotate_left
 ·have c3 : ¬a_5<16777216:=by omega
  simp[af,ah,ad,ae,aa, *,gP,hx.r]
 have c3' : ¬16777216≤a_5:=by omega
 cases c4:qp ⟨⟨⟨a_6,a_7,a_8⟩,a_9⟩,a_10⟩ with
 | false=>simp[af,ah,ad,ae,aa, *,gP,hx.r]
 | true =>
 have hk:a_1=1∨a_1=2∨a_1=3:=by
  have e:a_1.toNat<4:=by have:=UInt8.not_le.1 k4;exact this
  have e0:a_1.toNat≠0:=fun h=>k0 (UInt8.toNat_inj.1 h)
  rcases(show a_1.toNat=1∨a_1.toNat=2∨a_1.toNat=3 by omega)with h | h | h
  ·exact .inl (UInt8.toNat_inj.1 h)
  ·exact .inr (.inl (UInt8.toNat_inj.1 h))
  ·exact .inr (.inr (UInt8.toNat_inj.1 h))
 rcases hk with rfl | rfl | rfl
 ·cases c5:insB (⟨1,⟨a_2,a_3,a_4⟩,a_5,⟨⟨⟨a_6,a_7,a_8⟩,a_9⟩,a_10⟩,⟨⟨a_11,a_12,a_13⟩,a_14⟩,⟨a_15,a_16⟩,l⟩:Opn)<;>simp[af,ah,ad,ae,aa, *,gP,hx.r,F0,xz,A9]
 ·cases c5:delB (⟨2,⟨a_2,a_3,a_4⟩,a_5,⟨⟨⟨a_6,a_7,a_8⟩,a_9⟩,a_10⟩,⟨⟨a_11,a_12,a_13⟩,a_14⟩,⟨a_15,a_16⟩,l⟩:Opn)<;>simp[af,ah,ad,ae,aa, *,gP,hx.r,F0,xz,A9]
 ·cases c5:raiB (⟨3,⟨a_2,a_3,a_4⟩,a_5,⟨⟨⟨a_6,a_7,a_8⟩,a_9⟩,a_10⟩,⟨⟨a_11,a_12,a_13⟩,a_14⟩,⟨a_15,a_16⟩,l⟩:Opn)<;>simp[af,ah,ad,ae,aa, *,gP,hx.r,F0,xz,A9]
end
end Go.Proofs.YtiidajnodhkidaaGreat
