/-
  Operations: whether they may be. No statement of a seat is proved here.
-/
import Derived.Test.YtmjkpdknicjjgaaRunesFns
import Derived.Test.YtmjkpdknicjjgaaLgVc2
import Derived.Test.YtmjkpdknicjjgaaMLgVl7
import Derived.Test.YtmjkpdknicjjgaaAbsCond
set_option linter.unusedVariables false
set_option linter.unusedSimpArgs false
set_option linter.unusedSectionVars false
set_option linter.unnecessarySimpa false
set_option maxRecDepth 100000
namespace Go.Proofs.Ytmjkpdknicjjgaa
open Go.Ab
attribute [local simp] bU bB bD bC keep thr cg bA bE ek ej bW cf aO cW List.take_of_length_le
def Ej:AV := .agg [.v .nilFunc,.v .nilFunc,.fn (.func 101) [] [.iptr 1 [.fn (.func 100) [] []] 0 0],.fn (.func 102) [] [],
 .fn (.func 103) [] [.iptr 1 [.fn (.func 100) [] []] 0 0,.iptr 1 [.fn (.func 99) [] []] 0 0],.fn (.func 104) [] [],.fn (.func 105) [] [.iptr 1 [.fn (.func 99) [] []] 0 0],.fn (.func 106) [] []]
theorem MI:limf env 87 []=some Ej:=Dm (n:=2000) (by kernel_rfl)
@[simp] theorem TZ:limf env 91 []=some (.agg [a8 0,a32 0]):=by
 refine aG (fn:=Try.f91) (c:=nJ) rfl (by kernel_rfl) (by kernel_rfl) (by kernel_rfl) (by kernel_rfl) ?_;refine xn _ _ fun g=>?_
 simp [af,ah,ad,ae,aa, *,nS]
section
variable (a_1:UInt8) (a_2:UInt8) (a_3:UInt32) (a_4:UInt8) (a_5:Int) (a_6:UInt8) (a_7:UInt32) (a_8:UInt8) (a_9:Int) (a_10:Int) (a_11:UInt8) (a_12:UInt32) (a_13:UInt8) (a_14:Int) (a_15:UInt8) (a_16:UInt32) {x:AV} {l:List Int} (hx:Sl 1 (rows l) x) (hl:l.length<2000000)
include hx hl
theorem Ly:limf env 99 [.agg [a8 a_1,a8 a_2,a32 a_3,a8 a_4,aI a_5,a8 a_6,a32 a_7,a8 a_8,aI a_9,aI a_10,a8 a_11,a32 a_12,a8 a_13,aI a_14,a8 a_15,a32 a_16,x]]=some (aB (DQ (⟨a_1,⟨a_2,a_3,a_4⟩,a_5,⟨⟨⟨a_6,a_7,a_8⟩,a_9⟩,a_10⟩,⟨⟨a_11,a_12,a_13⟩,a_14⟩,⟨a_15,a_16⟩,l⟩:Opn))):=by
 refine aG (fn:=Try.f99) (c:=pg) rfl (by kernel_rfl) (by kernel_rfl) (by kernel_rfl) (by kernel_rfl) ?_;refine zn _ _ _ fun g=>?_
 unfold DQ
 cases hz:k9 (⟨⟨a_11,a_12,a_13⟩,a_14⟩:Idd) with
 | true =>
  unfold k9 at hz
  simp [af,ah,ad,ae,aa, *,md,hx.r,eqA,eqFs]
 | false =>
  unfold k9 at hz
  simp [af,ah,ad,ae,aa, *,md,hx.r,eqA,eqFs]
theorem GW:limf env 100 [.agg [a8 a_1,a8 a_2,a32 a_3,a8 a_4,aI a_5,a8 a_6,a32 a_7,a8 a_8,aI a_9,aI a_10,a8 a_11,a32 a_12,a8 a_13,aI a_14,a8 a_15,a32 a_16,x]]=some (aB (AA (⟨a_15,a_16⟩:Lab))):=by
 refine aG (fn:=Try.f100) (c:=pf) rfl (by kernel_rfl) (by kernel_rfl) (by kernel_rfl) (by kernel_rfl) ?_;refine zm _ _ _ fun g=>?_
 simp [af,ah,ad,ae,aa, *,pw,hx.r,eqA,eqFs,AA]
theorem JI:limf env 103 [.agg [a8 a_1,a8 a_2,a32 a_3,a8 a_4,aI a_5,a8 a_6,a32 a_7,a8 a_8,aI a_9,aI a_10,a8 a_11,a32 a_12,a8 a_13,aI a_14,a8 a_15,a32 a_16,x],.iptr 1 [.fn (.func 100) [] []] 0 0,.iptr 1 [.fn (.func 99) [] []] 0 0]=some (aB (delB (⟨a_1,⟨a_2,a_3,a_4⟩,a_5,⟨⟨⟨a_6,a_7,a_8⟩,a_9⟩,a_10⟩,⟨⟨a_11,a_12,a_13⟩,a_14⟩,⟨a_15,a_16⟩,l⟩:Opn))):=by
 refine aG (fn:=Try.f103) (c:=pd) rfl (by kernel_rfl) (by kernel_rfl) (by kernel_rfl) (by kernel_rfl) ?_;refine zk _ _ _ _ _ fun g=>?_
 have h1:=Ly a_1 a_2 a_3 a_4 a_5 a_6 a_7 a_8 a_9 a_10 a_11 a_12 a_13 a_14 a_15 a_16 hx hl
 have h2:=GW a_1 a_2 a_3 a_4 a_5 a_6 a_7 a_8 a_9 a_10 a_11 a_12 a_13 a_14 a_15 a_16 hx hl
 unfold delB
 cases hz:AA (⟨a_15,a_16⟩:Lab)<;>simp [af,ah,ad,ae,aa, *,pv,hx.r]
theorem MH:limf env 105 [.agg [a8 a_1,a8 a_2,a32 a_3,a8 a_4,aI a_5,a8 a_6,a32 a_7,a8 a_8,aI a_9,aI a_10,a8 a_11,a32 a_12,a8 a_13,aI a_14,a8 a_15,a32 a_16,x],.iptr 1 [.fn (.func 99) [] []] 0 0]=some (aB (raiB (⟨a_1,⟨a_2,a_3,a_4⟩,a_5,⟨⟨⟨a_6,a_7,a_8⟩,a_9⟩,a_10⟩,⟨⟨a_11,a_12,a_13⟩,a_14⟩,⟨a_15,a_16⟩,l⟩:Opn))):=by
 refine aG (fn:=Try.f105) (c:=pb) rfl (by kernel_rfl) (by kernel_rfl) (by kernel_rfl) (by kernel_rfl) ?_;refine zj _ _ _ _ fun g=>?_
 have h1:=Ly a_1 a_2 a_3 a_4 a_5 a_6 a_7 a_8 a_9 a_10 a_11 a_12 a_13 a_14 a_15 a_16 hx hl
 unfold raiB
 cases hz:DQ (⟨a_1,⟨a_2,a_3,a_4⟩,a_5,⟨⟨⟨a_6,a_7,a_8⟩,a_9⟩,a_10⟩,⟨⟨a_11,a_12,a_13⟩,a_14⟩,⟨a_15,a_16⟩,l⟩:Opn)<;>simp [af,ah,ad,ae,aa, *,pt,hx.r]
theorem JG:limf env 101 [.agg [a8 a_1,a8 a_2,a32 a_3,a8 a_4,aI a_5,a8 a_6,a32 a_7,a8 a_8,aI a_9,aI a_10,a8 a_11,a32 a_12,a8 a_13,aI a_14,a8 a_15,a32 a_16,x],.iptr 1 [.fn (.func 100) [] []] 0 0]=some (aB (insB (⟨a_1,⟨a_2,a_3,a_4⟩,a_5,⟨⟨⟨a_6,a_7,a_8⟩,a_9⟩,a_10⟩,⟨⟨a_11,a_12,a_13⟩,a_14⟩,⟨a_15,a_16⟩,l⟩:Opn))):=by
 refine aG (fn:=Try.f101) (c:=pe) rfl (by kernel_rfl) (by kernel_rfl) (by kernel_rfl) (by kernel_rfl) ?_;refine zl _ _ _ _ fun g=>?_
 have h2:=GW a_1 a_2 a_3 a_4 a_5 a_6 a_7 a_8 a_9 a_10 a_11 a_12 a_13 a_14 a_15 a_16 hx hl
 have h3:=vK hx (by omega)
 have h4:=Bp l
 unfold insB
 cases hz:AA (⟨a_15,a_16⟩:Lab) with
 | false =>
  cases hA:k9 (⟨⟨a_11,a_12,a_13⟩,a_14⟩:Idd) with
  | false =>
   unfold k9 at hA
   simp [af,ah,ad,ae,aa, *,eg,hx.r,eqA,eqFs]
  | true =>
   unfold k9 at hA
   simp [af,ah,ad,ae,aa, *,eg,hx.r,eqA,eqFs]
 | true =>
  have key : ∀b:Bool,(k9 (⟨⟨a_11,a_12,a_13⟩,a_14⟩:Idd)||idB (⟨⟨a_11,a_12,a_13⟩,a_14⟩:Idd))=b→True:=fun _ _=>trivial
  cases hS:JF ⟨a_6,a_7,a_8⟩ ⟨a_2,a_3,a_4⟩ with
  | false =>
   unfold JF at hS
   cases hA:k9 (⟨⟨a_11,a_12,a_13⟩,a_14⟩:Idd) with
   | false =>
    unfold k9 at hA
    cases hI:idB (⟨⟨a_11,a_12,a_13⟩,a_14⟩:Idd)<;>simp [af,ah,ad,ae,aa, *,eg,hx.r,eqA,eqFs]
   | true =>
    unfold k9 at hA
    simp [af,ah,ad,ae,aa, *,eg,hx.r,eqA,eqFs]
  | true =>
   unfold JF at hS
   by_cases hL:(l.length:Int)=a_10
   ·cases hA:k9 (⟨⟨a_11,a_12,a_13⟩,a_14⟩:Idd) with
    | false =>
     unfold k9 at hA
     cases hI:idB (⟨⟨a_11,a_12,a_13⟩,a_14⟩:Idd)<;>simp [af,ah,ad,ae,aa, *,eg,hx.r,eqA,eqFs]
    | true =>
     unfold k9 at hA
     simp [af,ah,ad,ae,aa, *,eg,hx.r,eqA,eqFs]
   ·cases hA:k9 (⟨⟨a_11,a_12,a_13⟩,a_14⟩:Idd) with
    | false =>
     unfold k9 at hA
     cases hI:idB (⟨⟨a_11,a_12,a_13⟩,a_14⟩:Idd)<;>simp [af,ah,ad,ae,aa, *,eg,hx.r,eqA,eqFs]
    | true =>
     unfold k9 at hA
     simp [af,ah,ad,ae,aa, *,eg,hx.r,eqA,eqFs]
theorem mo:limf env 73 [.agg [a8 a_1,a8 a_2,a32 a_3,a8 a_4,aI a_5,a8 a_6,a32 a_7,a8 a_8,aI a_9,aI a_10,a8 a_11,a32 a_12,a8 a_13,aI a_14,a8 a_15,a32 a_16,x]]=some (aI (bad (opB (⟨a_1,⟨a_2,a_3,a_4⟩,a_5,⟨⟨⟨a_6,a_7,a_8⟩,a_9⟩,a_10⟩,⟨⟨a_11,a_12,a_13⟩,a_14⟩,⟨a_15,a_16⟩,l⟩:Opn)))):=by
 refine aG (fn:=Try.f73) (c:=rL) rfl (by kernel_rfl) (by kernel_rfl) (by kernel_rfl) (by kernel_rfl) ?_;refine CH _ _ _ fun g=>?_
 have h1:=JG a_1 a_2 a_3 a_4 a_5 a_6 a_7 a_8 a_9 a_10 a_11 a_12 a_13 a_14 a_15 a_16 hx hl
 have h2:=JI a_1 a_2 a_3 a_4 a_5 a_6 a_7 a_8 a_9 a_10 a_11 a_12 a_13 a_14 a_15 a_16 hx hl
 have h3:=MH a_1 a_2 a_3 a_4 a_5 a_6 a_7 a_8 a_9 a_10 a_11 a_12 a_13 a_14 a_15 a_16 hx hl
 have h4:=MI
 unfold opB mayB
 by_cases k0:a_1=0
 ·subst k0
  simp [af,ah,ad,ae,aa, *,fk,hx.r]
 by_cases k4:4≤a_1
 ·have n1 : ¬a_1=1:=by rintro rfl;exact absurd k4 (by decide)
  have n2 : ¬a_1=2:=by rintro rfl;exact absurd k4 (by decide)
  have n3 : ¬a_1=3:=by rintro rfl;exact absurd k4 (by decide)
  simp [af,ah,ad,ae,aa, *,fk,hx.r]
 cases c1:gN ⟨a_2,a_3,a_4⟩ with
 | false=>simp [af,ah,ad,ae,aa, *,fk,hx.r]
 | true =>
 rcases Int.lt_or_le a_5 1 with c2' | c2
 ·have c2 : ¬1≤a_5:=by omega
  simp [af,ah,ad,ae,aa, *,fk,hx.r]
 have c2' : ¬a_5<1:=by omega
 rcases Int.lt_or_le a_5 16777216 with c3 | c3'
 rotate_left
 ·have c3 : ¬a_5<16777216:=by omega
  simp [af,ah,ad,ae,aa, *,fk,hx.r]
 have c3' : ¬16777216≤a_5:=by omega
 cases c4:pL ⟨⟨⟨a_6,a_7,a_8⟩,a_9⟩,a_10⟩ with
 | false=>simp [af,ah,ad,ae,aa, *,fk,hx.r]
 | true =>
 have hk:a_1=1∨a_1=2∨a_1=3:=by
  have e:a_1.toNat<4:=by have:=UInt8.not_le.1 k4;exact this
  have e0:a_1.toNat≠0:=fun h=>k0 (UInt8.toNat_inj.1 h)
  rcases (show a_1.toNat=1∨a_1.toNat=2∨a_1.toNat=3 by omega) with h | h | h
  ·exact .inl (UInt8.toNat_inj.1 h)
  ·exact .inr (.inl (UInt8.toNat_inj.1 h))
  ·exact .inr (.inr (UInt8.toNat_inj.1 h))
 rcases hk with rfl | rfl | rfl
 ·cases c5:insB (⟨1,⟨a_2,a_3,a_4⟩,a_5,⟨⟨⟨a_6,a_7,a_8⟩,a_9⟩,a_10⟩,⟨⟨a_11,a_12,a_13⟩,a_14⟩,⟨a_15,a_16⟩,l⟩:Opn)<;>simp [af,ah,ad,ae,aa, *,fk,hx.r,Ej,vS,zO]
 ·cases c5:delB (⟨2,⟨a_2,a_3,a_4⟩,a_5,⟨⟨⟨a_6,a_7,a_8⟩,a_9⟩,a_10⟩,⟨⟨a_11,a_12,a_13⟩,a_14⟩,⟨a_15,a_16⟩,l⟩:Opn)<;>simp [af,ah,ad,ae,aa, *,fk,hx.r,Ej,vS,zO]
 ·cases c5:raiB (⟨3,⟨a_2,a_3,a_4⟩,a_5,⟨⟨⟨a_6,a_7,a_8⟩,a_9⟩,a_10⟩,⟨⟨a_11,a_12,a_13⟩,a_14⟩,⟨a_15,a_16⟩,l⟩:Opn)<;>simp [af,ah,ad,ae,aa, *,fk,hx.r,Ej,vS,zO]
end
end Go.Proofs.Ytmjkpdknicjjgaa
