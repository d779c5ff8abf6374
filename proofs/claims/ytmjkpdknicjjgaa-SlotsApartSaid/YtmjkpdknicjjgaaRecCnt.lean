/-
  How many blocks a record has. No statement of a seat is proved here.
-/
import Derived.Test.YtmjkpdknicjjgaaRecFns
set_option linter.unusedVariables false
set_option linter.unusedSimpArgs false
set_option linter.unusedSectionVars false
set_option linter.unnecessarySimpa false
set_option maxRecDepth 100000
namespace Go.Proofs.Ytmjkpdknicjjgaa
open Go.Ab
attribute [local simp] bU bB bD bC keep thr cg bA bE ek ej bW cf aO cW List.take_of_length_le
theorem He {r:Rcd} (h:eY r=true):recZ r = .isl 1 (by8 (recB r)) none:=by
 unfold eY at h
 unfold recZ recB
 split at h
 ·rename_i k1
  simp only [Bool.and_eq_true] at h
  rw [if_pos k1,if_pos k1,if_pos h.2.1]
 ·rename_i k1
  rw [if_neg k1,if_neg k1]
  split at h
  ·rename_i k2
   simp only [Bool.and_eq_true] at h
   rw [if_pos k2,if_pos k2,if_pos h.2.1]
  ·rename_i k2
   rw [if_neg k2,if_neg k2]
   split at h
   ·rename_i k3
    simp only [Bool.and_eq_true] at h
    rw [if_pos k3,if_pos h.1]
   ·cases h
theorem zJ {r:Rcd} (h:eY r=true):(r.kind=1∧(recB r).length=8)∨(r.kind=2∧(recB r).length=3+xv r.op∧opB r.op=true)∨(r.kind=3∧(recB r).length=8):=by
 unfold eY at h
 unfold recB
 split at h
 ·rename_i k1
  refine .inl ⟨k1,?_⟩
  rw [if_pos k1];simp
 ·rename_i k1
  rw [if_neg k1]
  split at h
  ·rename_i k2
   simp only [Bool.and_eq_true] at h
   refine .inr (.inl ⟨k2,?_,h.2.1⟩)
   rw [if_pos k2]
   simp [rB h.2.1];omega
  ·rename_i k2
   rw [if_neg k2]
   split at h
   ·rename_i k3
    refine .inr (.inr ⟨k3,?_⟩)
    simp [kX]
   ·cases h
def recN (r:Rcd):Nat:=((recB r).length+118) / 119
theorem rA {r:Rcd} (h:eY r=true):1≤recN r∧recN r≤3∧(r.kind=2∨recN r=1):=by
 unfold recN
 rcases zJ h with ⟨k,e⟩ | ⟨k,e,ho⟩ | ⟨k,e⟩
 ·rw [e];simp
 ·rw [e];have:=si ho;exact ⟨by omega,by omega,.inl k⟩
 ·rw [e];simp
theorem yf (k:UInt8) (u:Int) (a_1:UInt8) (a_2:UInt8) (a_3:UInt32) (a_4:UInt8) (a_5:Int) (a_6:UInt8) (a_7:UInt32) (a_8:UInt8) (a_9:Int) (a_10:Int) (a_11:UInt8) (a_12:UInt32) (a_13:UInt8) (a_14:Int) (a_15:UInt8) (a_16:UInt32) (c g1:Int) (v:UInt8) (w:UInt32) (o:Bool) {x:AV} {l:List Int} (hx:Sl 1 (rows l) x) (hl:l.length<2000000) :
 limf env 20 [.agg [a8 k,aI u,a8 a_1,a8 a_2,a32 a_3,a8 a_4,aI a_5,a8 a_6,a32 a_7,a8 a_8,aI a_9,aI a_10,a8 a_11,a32 a_12,a8 a_13,aI a_14,a8 a_15,a32 a_16,x,aI c,aI g1,a8 v,a32 w,aB o]]=some (if eY ⟨k,u,(⟨a_1,⟨a_2,a_3,a_4⟩,a_5,⟨⟨⟨a_6,a_7,a_8⟩,a_9⟩,a_10⟩,⟨⟨a_11,a_12,a_13⟩,a_14⟩,⟨a_15,a_16⟩,l⟩:Opn),c,g1,v,w,o⟩ then .tup [aI (recN ⟨k,u,(⟨a_1,⟨a_2,a_3,a_4⟩,a_5,⟨⟨⟨a_6,a_7,a_8⟩,a_9⟩,a_10⟩,⟨⟨a_11,a_12,a_13⟩,a_14⟩,⟨a_15,a_16⟩,l⟩:Opn),c,g1,v,w,o⟩),aI 0] else .tup [aI 0,aI 8]):=by
 refine aG (fn:=Try.f20) (c:=mK) rfl (by kernel_rfl) (by kernel_rfl) (by kernel_rfl) (by kernel_rfl) ?_;refine vA _ _ _ fun g=>?_
 have hB:=yg k u a_1 a_2 a_3 a_4 a_5 a_6 a_7 a_8 a_9 a_10 a_11 a_12 a_13 a_14 a_15 a_16 c g1 v w o hx hl
 have hr:=hx.r
 have hz := @He ⟨k,u,(⟨a_1,⟨a_2,a_3,a_4⟩,a_5,⟨⟨⟨a_6,a_7,a_8⟩,a_9⟩,a_10⟩,⟨⟨a_11,a_12,a_13⟩,a_14⟩,⟨a_15,a_16⟩,l⟩:Opn),c,g1,v,w,o⟩
 have hlen := @zJ ⟨k,u,(⟨a_1,⟨a_2,a_3,a_4⟩,a_5,⟨⟨⟨a_6,a_7,a_8⟩,a_9⟩,a_10⟩,⟨⟨a_11,a_12,a_13⟩,a_14⟩,⟨a_15,a_16⟩,l⟩:Opn),c,g1,v,w,o⟩
 have hN:recN ⟨k,u,(⟨a_1,⟨a_2,a_3,a_4⟩,a_5,⟨⟨⟨a_6,a_7,a_8⟩,a_9⟩,a_10⟩,⟨⟨a_11,a_12,a_13⟩,a_14⟩,⟨a_15,a_16⟩,l⟩:Opn),c,g1,v,w,o⟩=((recB ⟨k,u,(⟨a_1,⟨a_2,a_3,a_4⟩,a_5,⟨⟨⟨a_6,a_7,a_8⟩,a_9⟩,a_10⟩,⟨⟨a_11,a_12,a_13⟩,a_14⟩,⟨a_15,a_16⟩,l⟩:Opn),c,g1,v,w,o⟩).length+118) / 119:=rfl
 cases hI:eY ⟨k,u,(⟨a_1,⟨a_2,a_3,a_4⟩,a_5,⟨⟨⟨a_6,a_7,a_8⟩,a_9⟩,a_10⟩,⟨⟨a_11,a_12,a_13⟩,a_14⟩,⟨a_15,a_16⟩,l⟩:Opn),c,g1,v,w,o⟩ with
 | false =>
  rw [hI] at hB
  generalize hzz:recZ ⟨k,u,(⟨a_1,⟨a_2,a_3,a_4⟩,a_5,⟨⟨⟨a_6,a_7,a_8⟩,a_9⟩,a_10⟩,⟨⟨a_11,a_12,a_13⟩,a_14⟩,⟨a_15,a_16⟩,l⟩:Opn),c,g1,v,w,o⟩=z at *
  clear hz hlen hN
  have hc:z = .isl 1 [a8 k] (some 1) ∨ ∃es,z = .isl 1 es none:=by
   rw [←hzz];unfold recZ
   split
   ·exact .inr ⟨_,rfl⟩
   ·split
    ·exact .inr ⟨_,rfl⟩
    ·split
     ·split
      ·exact .inr ⟨_,rfl⟩
      ·exact .inl rfl
     ·exact .inl rfl
  clear hzz
  rcases hc with rfl | ⟨es,rfl⟩<;>simp [af,ah,ad,ae,aa, *,j4]
 | true =>
  rw [hz hI,hI] at hB
  have hb:(recB ⟨k,u,(⟨a_1,⟨a_2,a_3,a_4⟩,a_5,⟨⟨⟨a_6,a_7,a_8⟩,a_9⟩,a_10⟩,⟨⟨a_11,a_12,a_13⟩,a_14⟩,⟨a_15,a_16⟩,l⟩:Opn),c,g1,v,w,o⟩).length≤1000:=by
   rcases hlen hI with ⟨_,e⟩ | ⟨_,e,ho⟩ | ⟨_,e⟩
   ·omega
   ·have:=si ho;omega
   ·omega
  rw [hN]
  clear hz hlen hN
  generalize recB ⟨k,u,(⟨a_1,⟨a_2,a_3,a_4⟩,a_5,⟨⟨⟨a_6,a_7,a_8⟩,a_9⟩,a_10⟩,⟨⟨a_11,a_12,a_13⟩,a_14⟩,⟨a_15,a_16⟩,l⟩:Opn),c,g1,v,w,o⟩=bs at *
  have w1:=IntWalk.i64_in ((bs.length:Int)+119) (by omega)
  have w2:=IntWalk.i64_in ((bs.length:Int)+119 - 1) (by omega)
  have e1:((bs.length:Int)+119 - 1)=bs.length+118:=by omega
  have hq:=fun t xo yo=>Kc env.P t xo yo .i64 ((bs.length:Int)+118) 119 (by decide)
  have e2:((bs.length:Int)+118).tdiv 119=(((bs.length+118) / 119:Nat):Int):=by
   rw [Int.tdiv_eq_ediv_of_nonneg (by omega)];omega
  rw [e2,IntWalk.i64_in _ (by omega)] at hq
  rw [e1] at w2
  simp [af,ah,ad,ae,aa, *,j4]
end Go.Proofs.Ytmjkpdknicjjgaa
