/-
  Chains: lists checked, what is shown. No statement of a seat is proved here.
-/
import Derived.Test.YtmkmimgokagimaaGreatChFns
set_option linter.unusedVariables false
set_option linter.unusedSimpArgs false
set_option linter.unusedSectionVars false
set_option linter.unnecessarySimpa false
set_option maxRecDepth 100000
namespace Go.Proofs.YtmkmimgokagimaaGreat
open Go.Ab
attribute [local simp] bx aZ aL bw bu keep thr bD bh bq dC dB cP bF aE cC List.take_of_length_le
theorem Ms(out:List Lab):Sl 2 (labs out) (.isl 2 (labs out) (capM out)):=by
 refine .inr ⟨_,rfl,?_⟩
 unfold capM
 split
 ·rename_i h;simp[h]
 ·simp
def m4(l:List Opn)(o:Opn):Nat→Nat→Bool
 | 0,_=>true
 | n+1,k=>decide (byL o∈xi l ⟨o.s.f.h,o.s.f.n+(k:Int)⟩ (byL o))&&m4 l o n (k+1)
theorem Gb(l:List Opn)(i:Idd)(v:Lab):(xi l i v).length≤1+l.length:=Gc l i v [ofI i]
theorem GK{l:List (Opn × AV)}{x0:AV}(hx:Sl 17 (fO l) x0)(hall : ∀p∈l,okO p)(hl:l.length<100000)(a_1:UInt8)(a_2:UInt8)(a_3:UInt32)(a_4:UInt8)(a_5:Int)(a_6:UInt8)(a_7:UInt32)(a_8:UInt8)(a_9:Int)(a_10:Int)(a_11:UInt8)(a_12:UInt32)(a_13:UInt8)(a_14:Int)(a_15:UInt8)(a_16:UInt32){al:List Int}{x:AV}(hax:Sl 1 (rows al) x)(hs:jZ ⟨⟨⟨a_6,a_7,a_8⟩,a_9⟩,a_10⟩=true){Q:AV→Heap→Prop}{r3:Ref} :
 ∀(n k:Nat)(i:Int)(right:Bool)(H:Heap),(k:Int)+n=a_10→i=k→Fr H→H.get r3=some ⟨17,[.agg [a8 a_1,a8 a_2,a32 a_3,a8 a_4,aI a_5,a8 a_6,a32 a_7,a8 a_8,aI a_9,aI a_10,a8 a_11,a32 a_12,a8 a_13,aI a_14,a8 a_15,a32 a_16,x]],false,false⟩→(k=0∨right=true) →
 (∀y H',y=aB (right&&m4 (opsOf l) (⟨a_1,⟨a_2,a_3,a_4⟩,a_5,⟨⟨⟨a_6,a_7,a_8⟩,a_9⟩,a_10⟩,⟨⟨a_11,a_12,a_13⟩,a_14⟩,⟨a_15,a_16⟩,al⟩:Opn) n k)→Q y H') →
 GoL env Tryz.f244 0 ky [(21,aI i),(3,.ptr r3 0 0),(0,x0),(5,aB right),(20,aI a_10)] H Q:=by
 have hn:=k8 hs
 simp only at hn
 intro n
 induction n with
 | zero =>
  rintro k i right H hk rfl hF hB hr hQ
  refine pz _ _ _ _ _ _ _ fun g=>?_
  have hk' : ¬(k:Int)<a_10:=by omega
  simp[af,ah,ad,ae,ab, *,iE]
  all_goals exact hQ _ _ (by simp[m4])
 | succ n ih =>
  rintro k i right H hk rfl hF hB hr hQ
  refine pz _ _ _ _ _ _ _ fun g=>?_
  have hk':(k:Int)<a_10:=by omega
  have e3:=IntWalk.i64_in ((k:Int)+1) (by omega)
  have eA:atE ⟨⟨⟨a_6,a_7,a_8⟩,a_9⟩,a_10⟩ (k:Int)=0:=by
   unfold atE
   rw[if_pos hs,if_neg]
   simp only
   omega
  have h1:=N7 hx hall hl a_6 a_7 a_8 (a_9+k) (by omega) (by omega) a_2 a_3
  have ml:=Gb (opsOf l) ⟨⟨a_6,a_7,a_8⟩,a_9+k⟩ ⟨a_2,a_3⟩
  have h2:=rA (Ms (xi (opsOf l) ⟨⟨a_6,a_7,a_8⟩,a_9+k⟩ ⟨a_2,a_3⟩)) (by rw[show(opsOf l).length=l.length from List.length_map _]at ml;omega) a_2 a_3
  have hf:m4 (opsOf l) (⟨a_1,⟨a_2,a_3,a_4⟩,a_5,⟨⟨⟨a_6,a_7,a_8⟩,a_9⟩,a_10⟩,⟨⟨a_11,a_12,a_13⟩,a_14⟩,⟨a_15,a_16⟩,al⟩:Opn) (n+1) k=(decide ((⟨a_2,a_3⟩:Lab)∈xi (opsOf l) ⟨⟨a_6,a_7,a_8⟩,a_9+k⟩ ⟨a_2,a_3⟩)&&m4 (opsOf l) (⟨a_1,⟨a_2,a_3,a_4⟩,a_5,⟨⟨⟨a_6,a_7,a_8⟩,a_9⟩,a_10⟩,⟨⟨a_11,a_12,a_13⟩,a_14⟩,⟨a_15,a_16⟩,al⟩:Opn) n (k+1)):=rfl
  rw[hf]at hQ
  clear hf hn
  cases right with
  | false =>
   simp[af,ah,ad,ae,ab, *,iE,hx.r,hax.r]
   all_goals exact hQ _ _ (by simp)
  | true =>
   by_cases hm:(⟨a_2,a_3⟩:Lab)∈xi (opsOf l) ⟨⟨a_6,a_7,a_8⟩,a_9+k⟩ ⟨a_2,a_3⟩
   ·simp[af,ah,ad,ae,ab, *,iE,hx.r,hax.r]
    exact ih (k+1) _ true _ (by omega) (by simp) (by simp(maxDischargeDepth:=12) [aq,aj,Fr.nil,au,af,ah,ad,ae,ao,ak,ab, *]) (by simp(maxDischargeDepth:=12) [aq,aj,Fr.nil,au,af,ah,ad,ae,ao,ak,ab, *]) (.inr rfl) (fun y H' e=>hQ y H' (by rw[e];simp[hm]))
   ·simp[af,ah,ad,ae,ab, *,iE,hx.r,hax.r]
    all_goals exact hQ _ _ (by simp[hm])
theorem I6(l:List Opn)(o:Opn)(h3:o.kind=3):uO l o=(leqL (byL o) o.to&&m4 l o o.s.many.toNat 0):=by
 unfold uO
 rw[if_pos h3]
 congr 1
 have key : ∀n k,m4 l o n k=(List.range n).all (fun j=>decide (byL o∈xi l ⟨o.s.f.h,o.s.f.n+((k+j:Nat):Int)⟩ (byL o))):=by
  intro n
  induction n with
  | zero=>intro k;rfl
  | succ n ih =>
   intro k
   rw[m4,ih,List.range_succ_eq_map,List.all_cons,List.all_map]
   congr 1
   congr 1
   funext j
   simp only[Function.comp,Nat.succ_eq_add_one]
   rw[show k+1+j=k+(j+1) by omega]
 rw[key]
 simp
theorem JE{l:List (Opn × AV)}{x0:AV}(hx:Sl 17 (fO l) x0)(hall : ∀p∈l,okO p)(hl:l.length<100000)(a_1:UInt8)(a_2:UInt8)(a_3:UInt32)(a_4:UInt8)(a_5:Int)(a_6:UInt8)(a_7:UInt32)(a_8:UInt8)(a_9:Int)(a_10:Int)(a_11:UInt8)(a_12:UInt32)(a_13:UInt8)(a_14:Int)(a_15:UInt8)(a_16:UInt32){al:List Int}{x:AV}(hax:Sl 1 (rows al) x)(hs:jZ ⟨⟨⟨a_6,a_7,a_8⟩,a_9⟩,a_10⟩=true) :
 limf env 244 [x0,.agg [a8 a_1,a8 a_2,a32 a_3,a8 a_4,aI a_5,a8 a_6,a32 a_7,a8 a_8,aI a_9,aI a_10,a8 a_11,a32 a_12,a8 a_13,aI a_14,a8 a_15,a32 a_16,x]]=some (aB (uO (opsOf l) (⟨a_1,⟨a_2,a_3,a_4⟩,a_5,⟨⟨⟨a_6,a_7,a_8⟩,a_9⟩,a_10⟩,⟨⟨a_11,a_12,a_13⟩,a_14⟩,⟨a_15,a_16⟩,al⟩:Opn))):=by
 refine aA (fn:=Tryz.f244) (c:=oZ) rfl (by kernel_rfl) (by kernel_rfl) (by kernel_rfl) (by kernel_rfl) ?_;refine yQ _ _ _ _ fun g=>?_
 by_cases h3:a_1=3
 ·subst h3
  rw[I6 _ _ rfl]
  have hn:=k8 hs
  simp only at hn
  simp[af,ah,ad,ae,ab, *,o8,hx.r,hax.r]
  exact GK hx hall hl 3 a_2 a_3 a_4 a_5 a_6 a_7 a_8 a_9 a_10 a_11 a_12 a_13 a_14 a_15 a_16 hax hs a_10.toNat 0 _ _ _ (by omega) rfl (by simp(maxDischargeDepth:=12) [aq,aj,Fr.nil,au,af,ah,ad,ae,ao,ak,ab, *]) (by simp) (.inl rfl) (fun y H' e=>by rw[e];simp[byL])
 ·have e:uO (opsOf l) (⟨a_1,⟨a_2,a_3,a_4⟩,a_5,⟨⟨⟨a_6,a_7,a_8⟩,a_9⟩,a_10⟩,⟨⟨a_11,a_12,a_13⟩,a_14⟩,⟨a_15,a_16⟩,al⟩:Opn)=true:=by unfold uO;rw[if_neg h3]
  simp[af,ah,ad,ae,ab, *,o8,hax.r]
theorem qz{o:Opn}(h:opB o=true):jZ o.s=true:=by
 simp only[opB,Bool.and_eq_true]at h
 exact h.2.2.2.1
theorem Ey{l:List (Opn × AV)}{x0:AV}(hx:Sl 17 (fO l) x0)(hall : ∀p∈l,okO p)(hl:l.length<100000){Q:AV→Heap→Prop} :
 ∀(s:List (Opn × AV)) (k:Nat) (i:Int) (H:Heap),l.drop k=s→k≤l.length→i=k→Fr H →
 (∀y H',y=aI (bad (vB (opsOf (l.take k)) (opsOf s)))→Q y H') →
 GoL env Tryz.f243 0 jm [(10,aI i),(0,x0),(8,x0),(9,aI l.length)] H Q:=by
 intro s
 induction s with
 | nil =>
  rintro k i H hs hk rfl hF hQ
  obtain rfl:=drop_nil hs hk
  refine o9 _ _ _ _ _ _ fun g=>?_
  simp[af,ah,ad,ae,ab, *,gR]
  all_goals exact hQ _ _ rfl
 | cons p s ih =>
  rintro k i H hs hk rfl hF hQ
  obtain⟨hlt,hg,hs',hg'⟩:=drop_cons hs
  have hp:=hall p (by rw[←hg];exact List.getElem_mem _)
  obtain⟨⟨a_1,⟨a_2,a_3,a_4⟩,a_5,⟨⟨⟨a_6,a_7,a_8⟩,a_9⟩,a_10⟩,⟨⟨a_11,a_12,a_13⟩,a_14⟩,⟨a_15,a_16⟩,al⟩,x⟩:=p
  obtain⟨hpx,hpl⟩:=hp
  simp only at hpx hpl
  refine o9 _ _ _ _ _ _ fun g=>?_
  have e3:=IntWalk.i64_in ((k:Int)+1) (by omega)
  have hc:=kb a_1 a_2 a_3 a_4 a_5 a_6 a_7 a_8 a_9 a_10 a_11 a_12 a_13 a_14 a_15 a_16 hpx hpl
  have hst:Sl 17 (fO (l.take k)) (.isl 17 (fO (l.take k)) none):=Sl.mk _ _
  obtain⟨c,rfl,hcap⟩:=hx.islN (by intro e;have:=congrArg List.length e;simp at this;subst this;simp at hlt)
  have htk:l.take (k+1)=l.take k++[((⟨a_1,⟨a_2,a_3,a_4⟩,a_5,⟨⟨⟨a_6,a_7,a_8⟩,a_9⟩,a_10⟩,⟨⟨a_11,a_12,a_13⟩,a_14⟩,⟨a_15,a_16⟩,al⟩:Opn),x)]:=by rw[List.take_succ_eq_append_getElem hlt,hg]
  have hr:vB (opsOf (l.take k)) (opsOf (((⟨a_1,⟨a_2,a_3,a_4⟩,a_5,⟨⟨⟨a_6,a_7,a_8⟩,a_9⟩,a_10⟩,⟨⟨a_11,a_12,a_13⟩,a_14⟩,⟨a_15,a_16⟩,al⟩:Opn),x) :: s))=(opB (⟨a_1,⟨a_2,a_3,a_4⟩,a_5,⟨⟨⟨a_6,a_7,a_8⟩,a_9⟩,a_10⟩,⟨⟨a_11,a_12,a_13⟩,a_14⟩,⟨a_15,a_16⟩,al⟩:Opn)&&uO (opsOf (l.take k)) (⟨a_1,⟨a_2,a_3,a_4⟩,a_5,⟨⟨⟨a_6,a_7,a_8⟩,a_9⟩,a_10⟩,⟨⟨a_11,a_12,a_13⟩,a_14⟩,⟨a_15,a_16⟩,al⟩:Opn)&&vB (opsOf (l.take (k+1))) (opsOf s)):=by
   rw[htk]
   show(_&&vB (opsOf (l.take k)++[_]) (opsOf s))=_
   simp only[opsOf,List.map_append,List.map_cons,List.map_nil]
  rw[hr]at hQ
  have hlen:(l.take k).length<100000:=by rw[List.length_take];omega
  have htl:(fO l).take k=fO (l.take k):=by simp[fO,List.map_take]
  have k1:(k:Int)≤l.length:=by omega
  have k2:(0:Int)≤k:=by omega
  have hrd:fk (fO l) k 0 17 true=some (.agg [a8 a_1,a8 a_2,a32 a_3,a8 a_4,aI a_5,a8 a_6,a32 a_7,a8 a_8,aI a_9,aI a_10,a8 a_11,a32 a_12,a8 a_13,aI a_14,a8 a_15,a32 a_16,x]):=by simp[fO,encO,hg']
  clear hr htk
  cases ho:opB (⟨a_1,⟨a_2,a_3,a_4⟩,a_5,⟨⟨⟨a_6,a_7,a_8⟩,a_9⟩,a_10⟩,⟨⟨a_11,a_12,a_13⟩,a_14⟩,⟨a_15,a_16⟩,al⟩:Opn) with
  | false =>
   simp[af,ah,ad,ae,ab, *,gR,hx.r,hx.idx,hpx.r]
   all_goals exact hQ _ _ (by simp[ho,bad])
  | true =>
   have hck:k≤c.getD k:=by
    cases c with
    | none=>exact Nat.le_refl _
    | some c=>simp only[Option.getD_some,pN]at hcap ⊢;omega
   have hf : ∀c':Option Nat,k≤c'.getD k→limf env 244 [.isl 17 (fO (l.take k)) c',.agg [a8 a_1,a8 a_2,a32 a_3,a8 a_4,aI a_5,a8 a_6,a32 a_7,a8 a_8,aI a_9,aI a_10,a8 a_11,a32 a_12,a8 a_13,aI a_14,a8 a_15,a32 a_16,x]]=some (aB (uO (opsOf (l.take k)) (⟨a_1,⟨a_2,a_3,a_4⟩,a_5,⟨⟨⟨a_6,a_7,a_8⟩,a_9⟩,a_10⟩,⟨⟨a_11,a_12,a_13⟩,a_14⟩,⟨a_15,a_16⟩,al⟩:Opn))):=by
    intro c' hc'
    have hkl:(fO (l.take k)).length=k:=by rw[pN,List.length_take];omega
    exact JE (.inr ⟨c',rfl,by rw[hkl];exact hc'⟩) (fun p hp=>hall p (List.mem_of_mem_take hp)) hlen a_1 a_2 a_3 a_4 a_5 a_6 a_7 a_8 a_9 a_10 a_11 a_12 a_13 a_14 a_15 a_16 hpx (qz ho)
   cases hq:uO (opsOf (l.take k)) (⟨a_1,⟨a_2,a_3,a_4⟩,a_5,⟨⟨⟨a_6,a_7,a_8⟩,a_9⟩,a_10⟩,⟨⟨a_11,a_12,a_13⟩,a_14⟩,⟨a_15,a_16⟩,al⟩:Opn) with
   | false =>
    simp[af,ah,ad,ae,ab, *,gR,hx.r,hx.idx,hpx.r]
    all_goals exact hQ _ _ (by simp[ho,hq,bad])
   | true =>
    simp[af,ah,ad,ae,ab, *,gR,hx.r,hx.idx,hpx.r]
    exact ih (k+1) _ _ hs' (by omega) (by simp) (by simp(maxDischargeDepth:=12) [aq,aj,Fr.nil,au,af,ah,ad,ae,ao,ak,ab, *]) (fun y H' e=>hQ y H' (by rw[e];simp[ho,hq]))
section
variable{l:List (Opn × AV)}{x0:AV}(hx:Sl 17 (fO l) x0)(hall : ∀p∈l,okO p)(hl:l.length<100000)
include hx hall hl
theorem Fu:limf env 243 [x0]=some (aI (qU (opsOf l))):=by
 refine aA (fn:=Tryz.f243) (c:=nA) rfl (by kernel_rfl) (by kernel_rfl) (by kernel_rfl) (by kernel_rfl) ?_;refine xa _ _ _ fun g=>?_
 have hn:=hx.len
 have ho:(opsOf l).length=l.length:=List.length_map _
 by_cases h:2048<l.length
 ·have h':(2048:Int)<l.length:=by omega
  have e:qU (opsOf l)=4:=by unfold qU;rw[if_pos (by rw[ho];exact h)]
  simp[af,ah,ad,ae,ab, *,nG,hx.r]
 ·have h' : ¬(2048:Int)<l.length:=by omega
  have e:qU (opsOf l)=bad (vB [] (opsOf l)):=by unfold qU bad;rw[if_neg (by rw[ho];exact h)]
  simp[af,ah,ad,ae,ab, *,nG,hx.r]
  exact Ey hx hall hl l 0 _ _ rfl (by omega) rfl Fr.nil (fun y H' ey=>by rw[ey];simp[opsOf])
theorem Ie(a_1:UInt8)(a_2:UInt8)(a_3:UInt32)(a_4:UInt8)(a_5:Int)(a_6:UInt8)(a_7:UInt32)(a_8:UInt8)(a_9:Int)(a_10:Int)(a_11:UInt8)(a_12:UInt32)(a_13:UInt8)(a_14:Int)(a_15:UInt8)(a_16:UInt32){al:List Int}{x:AV}(hax:Sl 1 (rows al) x)(hal:al.length<2000000):limf env 235 [x0,.agg [a8 a_1,a8 a_2,a32 a_3,a8 a_4,aI a_5,a8 a_6,a32 a_7,a8 a_8,aI a_9,aI a_10,a8 a_11,a32 a_12,a8 a_13,aI a_14,a8 a_15,a32 a_16,x]] =
 some (if qU (opsOf l)=0 then (if opB (⟨a_1,⟨a_2,a_3,a_4⟩,a_5,⟨⟨⟨a_6,a_7,a_8⟩,a_9⟩,a_10⟩,⟨⟨a_11,a_12,a_13⟩,a_14⟩,⟨a_15,a_16⟩,al⟩:Opn) then .tup [aB (uO (opsOf l) (⟨a_1,⟨a_2,a_3,a_4⟩,a_5,⟨⟨⟨a_6,a_7,a_8⟩,a_9⟩,a_10⟩,⟨⟨a_11,a_12,a_13⟩,a_14⟩,⟨a_15,a_16⟩,al⟩:Opn)),aI 0] else .tup [aB false,aI 8]) else .tup [aB false,aI (qU (opsOf l))]):=by
 refine aA (fn:=Tryz.f235) (c:=sO) rfl (by kernel_rfl) (by kernel_rfl) (by kernel_rfl) (by kernel_rfl) ?_;refine yR _ _ _ _ fun g=>?_
 have h1:=Fu hx hall hl
 have h2:=kb a_1 a_2 a_3 a_4 a_5 a_6 a_7 a_8 a_9 a_10 a_11 a_12 a_13 a_14 a_15 a_16 hax hal
 by_cases h:qU (opsOf l)=0
 ·rw[if_pos h]
  cases ho:opB (⟨a_1,⟨a_2,a_3,a_4⟩,a_5,⟨⟨⟨a_6,a_7,a_8⟩,a_9⟩,a_10⟩,⟨⟨a_11,a_12,a_13⟩,a_14⟩,⟨a_15,a_16⟩,al⟩:Opn) with
  | false=>simp[af,ah,ad,ae,ab, *,mf,hx.r,hax.r]
  | true =>
   have h3:=JE hx hall hl a_1 a_2 a_3 a_4 a_5 a_6 a_7 a_8 a_9 a_10 a_11 a_12 a_13 a_14 a_15 a_16 hax (qz ho)
   simp[af,ah,ad,ae,ab, *,mf,hx.r,hax.r]
 ·rw[if_neg h]
  simp[af,ah,ad,ae,ab, *,mf,hx.r,hax.r]
end
end Go.Proofs.YtmkmimgokagimaaGreat
