/-
  Chains: lists checked, what is shown. No statement of a seat is proved here.
-/
import Derived.Test.YtmkmimgokagimaaGreatChFns
set_option linter.unusedVariables false
set_option linter.unusedSimpArgs false
set_option linter.unusedSectionVars false
set_option linter.unnecessarySimpa false
set_option maxRecDepth 100000
namespace Go.Proofs.YtmkmimgokagimaaGreat
open Go.Ab
attribute [local simp] bj aL aF bg bf keep thr bx aT bc da cZ cJ bD aD bM List.take_of_length_le
theorem PT(out:List Lab):Sl 2 (labs out) (.isl 2 (labs out) (capM out)):=by
 refine .inr ⟨_,rfl,?_⟩
 unfold capM
 split
 ·rename_i h;simp[h]
 ·simp
def nU(l:List Opn)(o:Opn):Nat→Nat→Bool
 | 0,_=>true
 | n+1,k=>decide (byL o∈AO l ⟨o.s.f.h,o.s.f.n+(k:Int)⟩ (byL o))&&nU l o n (k+1)
theorem Jx(l:List Opn)(i:Idd)(v:Lab):(AO l i v).length≤1+l.length:=Jy l i v [ofI i]
theorem J6{l:List (Opn × AV)}{x0:AV}(hx:Sl 17 (fZ l) x0)(hall : ∀p∈l,okO p)(hl:l.length<100000)(a_1:UInt8)(a_2:UInt8)(a_3:UInt32)(a_4:UInt8)(a_5:Int)(a_6:UInt8)(a_7:UInt32)(a_8:UInt8)(a_9:Int)(a_10:Int)(a_11:UInt8)(a_12:UInt32)(a_13:UInt8)(a_14:Int)(a_15:UInt8)(a_16:UInt32){al:List Int}{x:AV}(hax:Sl 1 (rows al) x)(hs:kR ⟨⟨⟨a_6,a_7,a_8⟩,a_9⟩,a_10⟩=true){Q:AV→Heap→Prop}{r3:Ref} :
 ∀(n k:Nat)(i:Int)(right:Bool)(H:Heap),(k:Int)+n=a_10→i=k→Fr H→H.get r3=some ⟨17,[.agg [a8 a_1,a8 a_2,a32 a_3,a8 a_4,aI a_5,a8 a_6,a32 a_7,a8 a_8,aI a_9,aI a_10,a8 a_11,a32 a_12,a8 a_13,aI a_14,a8 a_15,a32 a_16,x]],false,false⟩→(k=0∨right=true) →
 (∀y H',y=aB (right&&nU (opsOf l) (⟨a_1,⟨a_2,a_3,a_4⟩,a_5,⟨⟨⟨a_6,a_7,a_8⟩,a_9⟩,a_10⟩,⟨⟨a_11,a_12,a_13⟩,a_14⟩,⟨a_15,a_16⟩,al⟩:Opn) n k)→Q y H') →
 GoL env Tryz.f244 0 lb [(21,aI i),(3,.ptr r3 0 0),(0,x0),(5,aB right),(20,aI a_10)] H Q:=by
 have hn:=lX hs
 simp only at hn
 intro n
 induction n with
 | zero =>
  rintro k i right H hk rfl hF hB hr hQ
  refine re _ _ _ _ _ _ _ fun g=>?_
  have hk' : ¬(k:Int)<a_10:=by omega
  simp[af,ah,ad,ae,ab, *,iY]
  all_goals exact hQ _ _ (by simp[nU])
 | succ n ih =>
  rintro k i right H hk rfl hF hB hr hQ
  refine re _ _ _ _ _ _ _ fun g=>?_
  have hk':(k:Int)<a_10:=by omega
  have e3:=IntWalk.i64_in ((k:Int)+1) (by omega)
  have eA:atE ⟨⟨⟨a_6,a_7,a_8⟩,a_9⟩,a_10⟩ (k:Int)=0:=by
   unfold atE
   rw[if_pos hs,if_neg]
   simp only
   omega
  have h1:=RJ hx hall hl a_6 a_7 a_8 (a_9+k) (by omega) (by omega) a_2 a_3
  have ml:=Jx (opsOf l) ⟨⟨a_6,a_7,a_8⟩,a_9+k⟩ ⟨a_2,a_3⟩
  have h2:=tY (PT (AO (opsOf l) ⟨⟨a_6,a_7,a_8⟩,a_9+k⟩ ⟨a_2,a_3⟩)) (by rw[show(opsOf l).length=l.length from List.length_map _]at ml;omega) a_2 a_3
  have hf:nU (opsOf l) (⟨a_1,⟨a_2,a_3,a_4⟩,a_5,⟨⟨⟨a_6,a_7,a_8⟩,a_9⟩,a_10⟩,⟨⟨a_11,a_12,a_13⟩,a_14⟩,⟨a_15,a_16⟩,al⟩:Opn) (n+1) k=(decide ((⟨a_2,a_3⟩:Lab)∈AO (opsOf l) ⟨⟨a_6,a_7,a_8⟩,a_9+k⟩ ⟨a_2,a_3⟩)&&nU (opsOf l) (⟨a_1,⟨a_2,a_3,a_4⟩,a_5,⟨⟨⟨a_6,a_7,a_8⟩,a_9⟩,a_10⟩,⟨⟨a_11,a_12,a_13⟩,a_14⟩,⟨a_15,a_16⟩,al⟩:Opn) n (k+1)):=rfl
  rw[hf]at hQ
  clear hf hn
  cases right with
  | false =>
   simp[af,ah,ad,ae,ab, *,iY,hx.r,hax.r]
   all_goals exact hQ _ _ (by simp)
  | true =>
   by_cases hm:(⟨a_2,a_3⟩:Lab)∈AO (opsOf l) ⟨⟨a_6,a_7,a_8⟩,a_9+k⟩ ⟨a_2,a_3⟩
   ·simp[af,ah,ad,ae,ab, *,iY,hx.r,hax.r]
    exact ih (k+1) _ true _ (by omega) (by simp) (by simp(maxDischargeDepth:=12) [au,ak,Fr.nil,az,af,ah,ad,ae,ar,ao,ab, *]) (by simp(maxDischargeDepth:=12) [au,ak,Fr.nil,az,af,ah,ad,ae,ar,ao,ab, *]) (.inr rfl) (fun y H' e=>hQ y H' (by rw[e];simp[hm]))
   ·simp[af,ah,ad,ae,ab, *,iY,hx.r,hax.r]
    all_goals exact hQ _ _ (by simp[hm])
theorem Mf(l:List Opn)(o:Opn)(h3:o.kind=3):yd l o=(leqL (byL o) o.to&&nU l o o.s.many.toNat 0):=by
 unfold yd
 rw[if_pos h3]
 congr 1
 have key : ∀n k,nU l o n k=(List.range n).all (fun j=>decide (byL o∈AO l ⟨o.s.f.h,o.s.f.n+((k+j:Nat):Int)⟩ (byL o))):=by
  intro n
  induction n with
  | zero=>intro k;rfl
  | succ n ih =>
   intro k
   rw[nU,ih,List.range_succ_eq_map,List.all_cons,List.all_map]
   congr 1
   congr 1
   funext j
   simp only[Function.comp,Nat.succ_eq_add_one]
   rw[show k+1+j=k+(j+1) by omega]
 rw[key]
 simp
theorem MP{l:List (Opn × AV)}{x0:AV}(hx:Sl 17 (fZ l) x0)(hall : ∀p∈l,okO p)(hl:l.length<100000)(a_1:UInt8)(a_2:UInt8)(a_3:UInt32)(a_4:UInt8)(a_5:Int)(a_6:UInt8)(a_7:UInt32)(a_8:UInt8)(a_9:Int)(a_10:Int)(a_11:UInt8)(a_12:UInt32)(a_13:UInt8)(a_14:Int)(a_15:UInt8)(a_16:UInt32){al:List Int}{x:AV}(hax:Sl 1 (rows al) x)(hs:kR ⟨⟨⟨a_6,a_7,a_8⟩,a_9⟩,a_10⟩=true) :
 limf env 244 [x0,.agg [a8 a_1,a8 a_2,a32 a_3,a8 a_4,aI a_5,a8 a_6,a32 a_7,a8 a_8,aI a_9,aI a_10,a8 a_11,a32 a_12,a8 a_13,aI a_14,a8 a_15,a32 a_16,x]]=some (aB (yd (opsOf l) (⟨a_1,⟨a_2,a_3,a_4⟩,a_5,⟨⟨⟨a_6,a_7,a_8⟩,a_9⟩,a_10⟩,⟨⟨a_11,a_12,a_13⟩,a_14⟩,⟨a_15,a_16⟩,al⟩:Opn))):=by
 refine aw (fn:=Tryz.f244) (c:=qz) rfl (by kernel_rfl) (by kernel_rfl) (by kernel_rfl) (by kernel_rfl) ?_;refine B3 _ _ _ _ fun g=>?_
 by_cases h3:a_1=3
 ·subst h3
  rw[Mf _ _ rfl]
  have hn:=lX hs
  simp only at hn
  simp[af,ah,ad,ae,ab, *,qG,hx.r,hax.r]
  exact J6 hx hall hl 3 a_2 a_3 a_4 a_5 a_6 a_7 a_8 a_9 a_10 a_11 a_12 a_13 a_14 a_15 a_16 hax hs a_10.toNat 0 _ _ _ (by omega) rfl (by simp(maxDischargeDepth:=12) [au,ak,Fr.nil,az,af,ah,ad,ae,ar,ao,ab, *]) (by simp) (.inl rfl) (fun y H' e=>by rw[e];simp[byL])
 ·have e:yd (opsOf l) (⟨a_1,⟨a_2,a_3,a_4⟩,a_5,⟨⟨⟨a_6,a_7,a_8⟩,a_9⟩,a_10⟩,⟨⟨a_11,a_12,a_13⟩,a_14⟩,⟨a_15,a_16⟩,al⟩:Opn)=true:=by unfold yd;rw[if_neg h3]
  simp[af,ah,ad,ae,ab, *,qG,hax.r]
theorem sQ{o:Opn}(h:opB o=true):kR o.s=true:=by
 simp only[opB,Bool.and_eq_true]at h
 exact h.2.2.2.1
theorem HL{l:List (Opn × AV)}{x0:AV}(hx:Sl 17 (fZ l) x0)(hall : ∀p∈l,okO p)(hl:l.length<100000){Q:AV→Heap→Prop} :
 ∀(s:List (Opn × AV)) (k:Nat) (i:Int) (H:Heap),l.drop k=s→k≤l.length→i=k→Fr H →
 (∀y H',y=aI (bad (zf (opsOf (l.take k)) (opsOf s)))→Q y H') →
 GoL env Tryz.f243 0 jS [(10,aI i),(0,x0),(8,x0),(9,aI l.length)] H Q:=by
 intro s
 induction s with
 | nil =>
  rintro k i H hs hk rfl hF hQ
  obtain rfl:=drop_nil hs hk
  refine qI _ _ _ _ _ _ fun g=>?_
  simp[af,ah,ad,ae,ab, *,ic]
  all_goals exact hQ _ _ rfl
 | cons p s ih =>
  rintro k i H hs hk rfl hF hQ
  obtain⟨hlt,hg,hs',hg'⟩:=drop_cons hs
  have hp:=hall p (by rw[←hg];exact List.getElem_mem _)
  obtain⟨⟨a_1,⟨a_2,a_3,a_4⟩,a_5,⟨⟨⟨a_6,a_7,a_8⟩,a_9⟩,a_10⟩,⟨⟨a_11,a_12,a_13⟩,a_14⟩,⟨a_15,a_16⟩,al⟩,x⟩:=p
  obtain⟨hpx,hpl⟩:=hp
  simp only at hpx hpl
  refine qI _ _ _ _ _ _ fun g=>?_
  have e3:=IntWalk.i64_in ((k:Int)+1) (by omega)
  have hc:=iN a_1 a_2 a_3 a_4 a_5 a_6 a_7 a_8 a_9 a_10 a_11 a_12 a_13 a_14 a_15 a_16 hpx hpl
  have hst:Sl 17 (fZ (l.take k)) (.isl 17 (fZ (l.take k)) none):=Sl.mk _ _
  obtain⟨c,rfl,hcap⟩:=hx.islN (by intro e;have:=congrArg List.length e;simp at this;subst this;simp at hlt)
  have htk:l.take (k+1)=l.take k++[((⟨a_1,⟨a_2,a_3,a_4⟩,a_5,⟨⟨⟨a_6,a_7,a_8⟩,a_9⟩,a_10⟩,⟨⟨a_11,a_12,a_13⟩,a_14⟩,⟨a_15,a_16⟩,al⟩:Opn),x)]:=by rw[List.take_succ_eq_append_getElem hlt,hg]
  have hr:zf (opsOf (l.take k)) (opsOf (((⟨a_1,⟨a_2,a_3,a_4⟩,a_5,⟨⟨⟨a_6,a_7,a_8⟩,a_9⟩,a_10⟩,⟨⟨a_11,a_12,a_13⟩,a_14⟩,⟨a_15,a_16⟩,al⟩:Opn),x) :: s))=(opB (⟨a_1,⟨a_2,a_3,a_4⟩,a_5,⟨⟨⟨a_6,a_7,a_8⟩,a_9⟩,a_10⟩,⟨⟨a_11,a_12,a_13⟩,a_14⟩,⟨a_15,a_16⟩,al⟩:Opn)&&yd (opsOf (l.take k)) (⟨a_1,⟨a_2,a_3,a_4⟩,a_5,⟨⟨⟨a_6,a_7,a_8⟩,a_9⟩,a_10⟩,⟨⟨a_11,a_12,a_13⟩,a_14⟩,⟨a_15,a_16⟩,al⟩:Opn)&&zf (opsOf (l.take (k+1))) (opsOf s)):=by
   rw[htk]
   show(_&&zf (opsOf (l.take k)++[_]) (opsOf s))=_
   simp only[opsOf,List.map_append,List.map_cons,List.map_nil]
  rw[hr]at hQ
  have hlen:(l.take k).length<100000:=by rw[List.length_take];omega
  have htl:(fZ l).take k=fZ (l.take k):=by simp[fZ,List.map_take]
  have k1:(k:Int)≤l.length:=by omega
  have k2:(0:Int)≤k:=by omega
  have hrd:fD (fZ l) k 0 17 true=some (.agg [a8 a_1,a8 a_2,a32 a_3,a8 a_4,aI a_5,a8 a_6,a32 a_7,a8 a_8,aI a_9,aI a_10,a8 a_11,a32 a_12,a8 a_13,aI a_14,a8 a_15,a32 a_16,x]):=by simp[fZ,encO,hg']
  clear hr htk
  cases ho:opB (⟨a_1,⟨a_2,a_3,a_4⟩,a_5,⟨⟨⟨a_6,a_7,a_8⟩,a_9⟩,a_10⟩,⟨⟨a_11,a_12,a_13⟩,a_14⟩,⟨a_15,a_16⟩,al⟩:Opn) with
  | false =>
   simp[af,ah,ad,ae,ab, *,ic,hx.r,hx.idx,hpx.r]
   all_goals exact hQ _ _ (by simp[ho,bad])
  | true =>
   have hck:k≤c.getD k:=by
    cases c with
    | none=>exact Nat.le_refl _
    | some c=>simp only[Option.getD_some,rG]at hcap ⊢;omega
   have hf : ∀c':Option Nat,k≤c'.getD k→limf env 244 [.isl 17 (fZ (l.take k)) c',.agg [a8 a_1,a8 a_2,a32 a_3,a8 a_4,aI a_5,a8 a_6,a32 a_7,a8 a_8,aI a_9,aI a_10,a8 a_11,a32 a_12,a8 a_13,aI a_14,a8 a_15,a32 a_16,x]]=some (aB (yd (opsOf (l.take k)) (⟨a_1,⟨a_2,a_3,a_4⟩,a_5,⟨⟨⟨a_6,a_7,a_8⟩,a_9⟩,a_10⟩,⟨⟨a_11,a_12,a_13⟩,a_14⟩,⟨a_15,a_16⟩,al⟩:Opn))):=by
    intro c' hc'
    have hkl:(fZ (l.take k)).length=k:=by rw[rG,List.length_take];omega
    exact MP (.inr ⟨c',rfl,by rw[hkl];exact hc'⟩) (fun p hp=>hall p (List.mem_of_mem_take hp)) hlen a_1 a_2 a_3 a_4 a_5 a_6 a_7 a_8 a_9 a_10 a_11 a_12 a_13 a_14 a_15 a_16 hpx (sQ ho)
   cases hq:yd (opsOf (l.take k)) (⟨a_1,⟨a_2,a_3,a_4⟩,a_5,⟨⟨⟨a_6,a_7,a_8⟩,a_9⟩,a_10⟩,⟨⟨a_11,a_12,a_13⟩,a_14⟩,⟨a_15,a_16⟩,al⟩:Opn) with
   | false =>
    simp[af,ah,ad,ae,ab, *,ic,hx.r,hx.idx,hpx.r]
    all_goals exact hQ _ _ (by simp[ho,hq,bad])
   | true =>
    simp[af,ah,ad,ae,ab, *,ic,hx.r,hx.idx,hpx.r]
    exact ih (k+1) _ _ hs' (by omega) (by simp) (by simp(maxDischargeDepth:=12) [au,ak,Fr.nil,az,af,ah,ad,ae,ar,ao,ab, *]) (fun y H' e=>hQ y H' (by rw[e];simp[ho,hq]))
section
variable{l:List (Opn × AV)}{x0:AV}(hx:Sl 17 (fZ l) x0)(hall : ∀p∈l,okO p)(hl:l.length<100000)
include hx hall hl
theorem IT:limf env 243 [x0]=some (aI (tz (opsOf l))):=by
 refine aw (fn:=Tryz.f243) (c:=oE) rfl (by kernel_rfl) (by kernel_rfl) (by kernel_rfl) (by kernel_rfl) ?_;refine AK _ _ _ fun g=>?_
 have hn:=hx.len
 have ho:(opsOf l).length=l.length:=List.length_map _
 by_cases h:2048<l.length
 ·have h':(2048:Int)<l.length:=by omega
  have e:tz (opsOf l)=4:=by unfold tz;rw[if_pos (by rw[ho];exact h)]
  simp[af,ah,ad,ae,ab, *,oL,hx.r]
 ·have h' : ¬(2048:Int)<l.length:=by omega
  have e:tz (opsOf l)=bad (zf [] (opsOf l)):=by unfold tz bad;rw[if_neg (by rw[ho];exact h)]
  simp[af,ah,ad,ae,ab, *,oL,hx.r]
  exact HL hx hall hl l 0 _ _ rfl (by omega) rfl Fr.nil (fun y H' ey=>by rw[ey];simp[opsOf])
theorem Lr(a_1:UInt8)(a_2:UInt8)(a_3:UInt32)(a_4:UInt8)(a_5:Int)(a_6:UInt8)(a_7:UInt32)(a_8:UInt8)(a_9:Int)(a_10:Int)(a_11:UInt8)(a_12:UInt32)(a_13:UInt8)(a_14:Int)(a_15:UInt8)(a_16:UInt32){al:List Int}{x:AV}(hax:Sl 1 (rows al) x)(hal:al.length<2000000):limf env 235 [x0,.agg [a8 a_1,a8 a_2,a32 a_3,a8 a_4,aI a_5,a8 a_6,a32 a_7,a8 a_8,aI a_9,aI a_10,a8 a_11,a32 a_12,a8 a_13,aI a_14,a8 a_15,a32 a_16,x]] =
 some (if tz (opsOf l)=0 then (if opB (⟨a_1,⟨a_2,a_3,a_4⟩,a_5,⟨⟨⟨a_6,a_7,a_8⟩,a_9⟩,a_10⟩,⟨⟨a_11,a_12,a_13⟩,a_14⟩,⟨a_15,a_16⟩,al⟩:Opn) then .tup [aB (yd (opsOf l) (⟨a_1,⟨a_2,a_3,a_4⟩,a_5,⟨⟨⟨a_6,a_7,a_8⟩,a_9⟩,a_10⟩,⟨⟨a_11,a_12,a_13⟩,a_14⟩,⟨a_15,a_16⟩,al⟩:Opn)),aI 0] else .tup [aB false,aI 8]) else .tup [aB false,aI (tz (opsOf l))]):=by
 refine aw (fn:=Tryz.f235) (c:=vD) rfl (by kernel_rfl) (by kernel_rfl) (by kernel_rfl) (by kernel_rfl) ?_;refine B4 _ _ _ _ fun g=>?_
 have h1:=IT hx hall hl
 have h2:=iN a_1 a_2 a_3 a_4 a_5 a_6 a_7 a_8 a_9 a_10 a_11 a_12 a_13 a_14 a_15 a_16 hax hal
 by_cases h:tz (opsOf l)=0
 ·rw[if_pos h]
  cases ho:opB (⟨a_1,⟨a_2,a_3,a_4⟩,a_5,⟨⟨⟨a_6,a_7,a_8⟩,a_9⟩,a_10⟩,⟨⟨a_11,a_12,a_13⟩,a_14⟩,⟨a_15,a_16⟩,al⟩:Opn) with
  | false=>simp[af,ah,ad,ae,ab, *,mZ,hx.r,hax.r]
  | true =>
   have h3:=MP hx hall hl a_1 a_2 a_3 a_4 a_5 a_6 a_7 a_8 a_9 a_10 a_11 a_12 a_13 a_14 a_15 a_16 hax (sQ ho)
   simp[af,ah,ad,ae,ab, *,mZ,hx.r,hax.r]
 ·rw[if_neg h]
  simp[af,ah,ad,ae,ab, *,mZ,hx.r,hax.r]
end
end Go.Proofs.YtmkmimgokagimaaGreat
