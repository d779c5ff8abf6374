/-
  A disk that fails, and what is there then: the law's run. No statement of a seat is proved here.
-/
import Derived.Test.YtmjkpdknicjjgaaTornMath
import Derived.Test.YtmjkpdknicjjgaaLgVl5
set_option linter.unusedVariables false
set_option linter.unusedSimpArgs false
set_option linter.unusedSectionVars false
set_option linter.unnecessarySimpa false
set_option maxRecDepth 100000
namespace Go.Proofs.Ytmjkpdknicjjgaa
open Go.Ab
attribute [local simp] cb bE bL bK keep thr cE bC bM eT eS bZ cD aW df List.take_of_length_le
theorem EE {p:Rcd × AV} (hp:okRc p):limf env 21 [p.1.val p.2]=some (aI (if eK p.1 then 0 else 8)):=by
 obtain ⟨⟨k,u,⟨a_1,⟨a_2,a_3,a_4⟩,a_5,⟨⟨⟨a_6,a_7,a_8⟩,a_9⟩,a_10⟩,⟨⟨a_11,a_12,a_13⟩,a_14⟩,⟨a_15,a_16⟩,l⟩,c,g1,v,w,o⟩,x⟩:=p
 obtain ⟨hx,hl⟩:=hp
 simp only at hx hl
 refine aH (fn:=Try.f21) (c:=mw) rfl (by kernel_rfl) (by kernel_rfl) (by kernel_rfl) (by kernel_rfl) ?_;refine ve _ _ _ fun g=>?_
 have hB:=sT k u a_1 a_2 a_3 a_4 a_5 a_6 a_7 a_8 a_9 a_10 a_11 a_12 a_13 a_14 a_15 a_16 c g1 v w o hx (by omega)
 have hr:=hx.r
 have hc:recZ ⟨k,u,(⟨a_1,⟨a_2,a_3,a_4⟩,a_5,⟨⟨⟨a_6,a_7,a_8⟩,a_9⟩,a_10⟩,⟨⟨a_11,a_12,a_13⟩,a_14⟩,⟨a_15,a_16⟩,l⟩:Opn),c,g1,v,w,o⟩ = .isl 1 [a8 k] (some 1) ∨ ∃es,recZ ⟨k,u,(⟨a_1,⟨a_2,a_3,a_4⟩,a_5,⟨⟨⟨a_6,a_7,a_8⟩,a_9⟩,a_10⟩,⟨⟨a_11,a_12,a_13⟩,a_14⟩,⟨a_15,a_16⟩,l⟩:Opn),c,g1,v,w,o⟩ = .isl 1 es none:=by
  unfold recZ
  repeat' (split)
  all_goals (first | exact .inl rfl | exact .inr ⟨_,rfl⟩)
 generalize recZ ⟨k,u,(⟨a_1,⟨a_2,a_3,a_4⟩,a_5,⟨⟨⟨a_6,a_7,a_8⟩,a_9⟩,a_10⟩,⟨⟨a_11,a_12,a_13⟩,a_14⟩,⟨a_15,a_16⟩,l⟩:Opn),c,g1,v,w,o⟩=z at *
 unfold Rcd.val
 generalize eK ⟨k,u,(⟨a_1,⟨a_2,a_3,a_4⟩,a_5,⟨⟨⟨a_6,a_7,a_8⟩,a_9⟩,a_10⟩,⟨⟨a_11,a_12,a_13⟩,a_14⟩,⟨a_15,a_16⟩,l⟩:Opn),c,g1,v,w,o⟩=b at *
 rcases hc with rfl | ⟨es,rfl⟩<;>cases b<;>simp [af,ah,ab,ad,aa, *,mA]
theorem Pt {p:Rcd × AV} (hp:okRc p):limf env 20 [p.1.val p.2]=some (if eK p.1 then .tup [aI (recN p.1),aI 0] else .tup [aI 0,aI 8]):=by
 obtain ⟨⟨k,u,⟨a_1,⟨a_2,a_3,a_4⟩,a_5,⟨⟨⟨a_6,a_7,a_8⟩,a_9⟩,a_10⟩,⟨⟨a_11,a_12,a_13⟩,a_14⟩,⟨a_15,a_16⟩,l⟩,c,g,v,w,o⟩,x⟩:=p
 exact xN k u a_1 a_2 a_3 a_4 a_5 a_6 a_7 a_8 a_9 a_10 a_11 a_12 a_13 a_14 a_15 a_16 c g v w o hp.1 (by have:=hp.2;simp at this;omega)
section
variable {m:List (Rcd × AV)} {x2:AV} (hy:Sl 24 (du m) x2) (hm : ∀p∈m,okRc p) (hm12:m.length≤12) {Q:AV→Heap→Prop} (hQ : ∀H,Q (aB true) H) {t:Int}
include hy hm hm12 hQ
theorem I2 : ∀(s:List (Rcd × AV)) (k:Nat) (i at':Int) (d:Dk) (acc:List (Rcd × AV)) (x10:AV) (H:Heap),m.drop k=s→k≤m.length→i=k→SInv t d (rcs acc) at'→at'≤40+3 * k→acc.length≤12+k→(∀p∈acc,okRc p)→Fr H →
 H.get ⟨0,19,0,0⟩=some ⟨4,[d.val],false,false⟩→qN [110,179] 24 (du acc) H x10 →
 GoL env Try.f5 0 cI [(21,aI i),(2,x2),(7,aB true),(19,.ptr ⟨0,19,0,0⟩ 0 0),(10,x10),(11,aI at')] H Q:=by
 intro s
 induction s with
 | nil =>
  rintro k i at' d acc x10 H hs hk rfl hI hat hal hok hF h19 hO
  obtain rfl:=drop_nil hs hk
  refine eJ _ _ _ _ _ _ _ _ fun g=>?_
  clear hm hok hI hO
  simp [af,ah,ab,ad,aa, *,aO,hy.r]
 | cons p s ih =>
  rintro k i at' d acc x10 H hs hk rfl hI hat hal hok hF h19 hO
  obtain ⟨hlt,hg,hs',hg'⟩:=drop_cons hs
  have hp:=hm p (hg ▸ List.getElem_mem _)
  have e1:=IntWalk.i64_in ((acc.length:Int)+1) (by omega)
  have e2:=IntWalk.i64_in ((k:Int)+1) (by omega)
  have hA:=zb hI.fit p.1 hp.1 (by have:=hp.2;omega) 0 at' ((acc.length:Int)+1)
  have hE:=K7 hI (by rw [lh];omega) (by omega) p.1
  have hC:=EE hp
  rw [lh] at hE
  have hrd:ej (du m) k 0 24 true=some (p.1.val p.2):=by simp [du,hg',Rcd.val]
  have hkl:(k:Int)<m.length:=by omega
  have hxv:=hI.fit.sl.r
  have hpr:=hp.1.r
  have hlen:(du acc).length=acc.length:=pL acc
  unfold appA at hA
  rw [hE] at hA
  cases hr:eK p.1 with
  | false =>
   rw [hr] at hA hC
   simp only [Bool.false_eq_true,if_false,show ¬(8:Int)=0 by decide] at hA hC
   clear ih hI hm hok hE hr
   refine eJ _ _ _ _ _ _ _ _ fun g=>?_
   obtain ⟨ll,y,st,lf,dd⟩:=d
   simp only [Dk.val,dsk,m9] at *
   unfold Rcd.val at hA hrd hC
   have l19:(H.get ⟨0,19,0,0⟩).isSome=true:=by rw [h19];rfl
   rcases hO with ⟨rfl,hz⟩ | ⟨t',gg,ht',rfl,hrr⟩
   ·have:acc=[]:=by simpa [du] using hz
    subst this
    simp only [List.length_nil,Int.natCast_zero,Int.zero_add] at hA e1
    clear hlen hz
    simp [af,ah,ab,ad,aa, *,aO,hy.r,hy.idx]
   ·simp only [hlen] at hrr ⊢
    clear hlen
    simp [af,ah,ab,ad,aa, *,aO,hy.r,hy.idx]
  | true =>
   rw [hr] at hA hE
   simp only [if_true] at hA hE
   have hstep:=F8 hI (by rw [lh];omega) (by omega) hr
   rw [lh] at hstep
   have hn:=jk hr
   have e3:rcs acc++[p.1]=rcs (acc++[p]):=by simp [rcs]
   rw [e3] at hstep
   have hok' : ∀q∈acc++[p],okRc q:=fun q hq=>by
    rcases List.mem_append.1 hq with hq | hq
    ·exact hok q hq
    ·rw [List.mem_singleton.1 hq];exact hp
   have hhas : ∀y,Sl 24 (du (acc++[p])) y→limf env 17 [(d.app 0 at' ((acc.length:Int)+1) p.1).val,aI (at'+recN p.1),y]=some (aB true):=fun y hyy=>by
    have:=Gl hyy hok' (by simp;omega) hstep.fit hstep.may (at'+recN p.1)
    rw [AE hstep (by rw [lh];simp;omega),qe] at this
    simpa using this
   have hih:=fun x10' H'=>ih (k+1) ((k:Int)+1) (at'+recN p.1) (d.app 0 at' ((acc.length:Int)+1) p.1) (acc++[p]) x10' H' hs' (by omega) (by simp) hstep (by omega) (by simp;omega) hok'
   have hxv':=hstep.fit.sl.r
   have hex:du (acc++[p])=du acc++[p.1.val p.2]:=by simp [du]
   rw [hex] at hhas hih
   clear ih hI hm hok hok' hE hr hstep hC hQ
   generalize d.app 0 at' ((acc.length:Int)+1) p.1=d' at *
   refine eJ _ _ _ _ _ _ _ _ fun g=>?_
   obtain ⟨ll,y,st,lf,dd⟩:=d
   obtain ⟨ll',y',st',lf',dd'⟩:=d'
   simp only [Dk.val,dsk,m9] at *
   unfold Rcd.val at hA hrd hhas hih
   have l19:(H.get ⟨0,19,0,0⟩).isSome=true:=by rw [h19];rfl
   have hpx:p.2=aNil ∨ ∃c,p.2 = .isl 1 (rows p.1.op.l) c:=by
    rcases hp.1 with ⟨h,_⟩ | ⟨c,h,_⟩
    ·exact .inl h
    ·exact .inr ⟨c,h⟩
   clear hp
   generalize p.2=px at *
   rcases hO with ⟨rfl,hz⟩ | ⟨t',gg,ht',rfl,hrr⟩
   ·have:acc=[]:=by simpa [du] using hz
    subst this
    simp only [List.length_nil,Int.natCast_zero,Int.zero_add,hz,List.nil_append] at hA e1 hhas hih
    have hhas':=fun c h=>hhas _ (.inr ⟨c,rfl,h⟩)
    clear hlen hz hhas
    rcases hpx with rfl | ⟨c,rfl⟩
    ·clear hpr
     simp [af,ah,ab,ad,aa, *,aO,hy.r,hy.idx]
     exact hih _ _ (by simp (maxDischargeDepth:=12) [Heap.aj,ar,an,Fr.nil,aA,af,ah,ab,ad,au,ak,aa, *]) (by simp (maxDischargeDepth:=12) [Heap.aj,ar,an,Fr.nil,aA,af,ah,ab,ad,au,ak,aa, *]) (.inr ⟨179,H.gen 0 179,by simp,by simp,by simp (maxDischargeDepth:=12) [Heap.aj,ar,an,Fr.nil,aA,af,ah,ab,ad,au,ak,aa, *]⟩)
    ·simp [af,ah,ab,ad,aa, *,aO,hy.r,hy.idx]
     exact hih _ _ (by simp (maxDischargeDepth:=12) [Heap.aj,ar,an,Fr.nil,aA,af,ah,ab,ad,au,ak,aa, *]) (by simp (maxDischargeDepth:=12) [Heap.aj,ar,an,Fr.nil,aA,af,ah,ab,ad,au,ak,aa, *]) (.inr ⟨179,H.gen 0 179,by simp,by simp,by simp (maxDischargeDepth:=12) [Heap.aj,ar,an,Fr.nil,aA,af,ah,ab,ad,au,ak,aa, *]⟩)
   ·simp only [hlen] at hrr ⊢
    have f4 : ∀x:AV,oS 24 160 acc.length true none (some ⟨24,du acc,true,false⟩) (some [x]):=by
     intro x
     simp;omega
    have hhas':=fun c h=>hhas _ (.inr ⟨c,rfl,h⟩)
    clear hlen hhas
    have l6:(H.get ⟨0,t',gg,0⟩).isSome=true:=by rw [hrr];rfl
    simp only [List.mem_cons,List.not_mem_nil,or_false] at ht'
    rcases ht' with rfl | rfl<;>rcases hpx with rfl | ⟨c,rfl⟩
    ·clear hpr
     simp [af,ah,ab,ad,aa, *,aO,hy.r,hy.idx]
     exact hih _ _ (by simp (maxDischargeDepth:=12) [Heap.aj,ar,an,Fr.nil,aA,af,ah,ab,ad,au,ak,aa, *]) (by simp (maxDischargeDepth:=12) [Heap.aj,ar,an,Fr.nil,aA,af,ah,ab,ad,au,ak,aa, *]) (.inr ⟨110,H.gen 0 110,by simp,by simp,by simp (maxDischargeDepth:=12) [Heap.aj,ar,an,Fr.nil,aA,af,ah,ab,ad,au,ak,aa, *]⟩)
    ·simp [af,ah,ab,ad,aa, *,aO,hy.r,hy.idx]
     exact hih _ _ (by simp (maxDischargeDepth:=12) [Heap.aj,ar,an,Fr.nil,aA,af,ah,ab,ad,au,ak,aa, *]) (by simp (maxDischargeDepth:=12) [Heap.aj,ar,an,Fr.nil,aA,af,ah,ab,ad,au,ak,aa, *]) (.inr ⟨110,H.gen 0 110,by simp,by simp,by simp (maxDischargeDepth:=12) [Heap.aj,ar,an,Fr.nil,aA,af,ah,ab,ad,au,ak,aa, *]⟩)
    ·clear hpr
     simp [af,ah,ab,ad,aa, *,aO,hy.r,hy.idx]
     exact hih _ _ (by simp (maxDischargeDepth:=12) [Heap.aj,ar,an,Fr.nil,aA,af,ah,ab,ad,au,ak,aa, *]) (by simp (maxDischargeDepth:=12) [Heap.aj,ar,an,Fr.nil,aA,af,ah,ab,ad,au,ak,aa, *]) (.inr ⟨179,H.gen 0 179,by simp,by simp,by simp (maxDischargeDepth:=12) [Heap.aj,ar,an,Fr.nil,aA,af,ah,ab,ad,au,ak,aa, *]⟩)
    ·simp [af,ah,ab,ad,aa, *,aO,hy.r,hy.idx]
     exact hih _ _ (by simp (maxDischargeDepth:=12) [Heap.aj,ar,an,Fr.nil,aA,af,ah,ab,ad,au,ak,aa, *]) (by simp (maxDischargeDepth:=12) [Heap.aj,ar,an,Fr.nil,aA,af,ah,ab,ad,au,ak,aa, *]) (.inr ⟨179,H.gen 0 179,by simp,by simp,by simp (maxDischargeDepth:=12) [Heap.aj,ar,an,Fr.nil,aA,af,ah,ab,ad,au,ak,aa, *]⟩)
end
section
variable {l m:List (Rcd × AV)} {x0 x2:AV} (hx:Sl 24 (du l) x0) (hl : ∀p∈l,okRc p) (hl12:l.length≤12) (hy:Sl 24 (du m) x2) (hm : ∀p∈m,okRc p) (hm12:m.length≤12) {Q:AV→Heap→Prop} (hQ : ∀H,Q (aB true) H)
 {n:Int} (hn:0≤n∧n≤1000)
include hx hl hl12 hy hm hm12 hQ hn
theorem I5 (sum at':Int) (d:Dk) (acc:List (Rcd × AV)) (x10:AV) (H:Heap) (hI:TInv n (rcs l) d (rcs acc) sum at') (hs:sum≤36) (hok : ∀p∈acc,okRc p) (hF:Fr H)
 (h8:H.get ⟨0,8,0,0⟩=some ⟨4,[d.val],false,false⟩) (hO:qN [110] 24 (du acc) H x10) (h19:H.gen 0 19=0) :
 GoL env Try.f5 0 bI [(9,aI 0),(7,aB true),(13,aI l.length),(0,x0),(10,x10),(1,aI n),(12,aI sum),(8,.ptr ⟨0,8,0,0⟩ 0 0),(2,x2),(11,aI at')] H Q:=by
 have hla:=qb hI
 rw [lh,lh] at hla
 have hS:=Pp hn.1 hI (by rw [lh];exact hl12) (by omega)
 have hhas : ∀y,Sl 24 (du acc) y→limf env 17 [d.val,aI at',y]=some (aB true):=fun y hyy=>by
  have:=Gl hyy hok (by omega) hI.fit hI.may at'
  rw [FR hn.1 hI (by rw [lh];exact hl12) (by omega),qe] at this
  simpa using this
 have hhas2 : ∀y,Sl 24 (du acc) y→limf env 17 [(d.again (-1)).val,aI at',y]=some (aB true):=fun y hyy=>by
  have:=Gl hyy hok (by omega) hS.fit hS.may at'
  rw [AE hS (by rw [lh];omega),qe] at this
  simpa using this
 have hSt:=Mu hI.fit hI.may (n := -1) (by omega) (by rw [hI.st];decide)
 have htwo:=fun H'=>I2 hy hm hm12 hQ m 0 0 at' (d.again (-1)) acc x10 H' rfl (by omega) rfl hS (by omega) (by omega) hok
 have hdd:=hI.dd
 have hxv:=hI.fit.sl.r
 have hxv2:=hS.fit.sl.r
 have hlen:(du acc).length=acc.length:=pL acc
 clear hI hS hok hl hm
 generalize d.again (-1)=d' at *
 refine dK _ _ _ _ _ _ _ _ _ _ _ _ fun g=>?_
 obtain ⟨ll,y,st,lf,dd⟩:=d
 obtain ⟨ll',y',st',lf',dd'⟩:=d'
 simp only [Dk.val,dsk] at *
 subst hdd
 rcases hO with ⟨rfl,hz⟩ | ⟨t',gg,ht',rfl,hrr⟩
 ·have:acc=[]:=by simpa [du] using hz
  subst this
  have hhas':=hhas _ (.inl ⟨rfl,rfl⟩)
  have hhas2':=hhas2 _ (.inl ⟨rfl,rfl⟩)
  clear hlen hz hhas hhas2
  simp [af,ah,ab,ad,aa, *,aV,hx.r]
  exact htwo _ (by simp (maxDischargeDepth:=12) [Heap.aj,ar,an,Fr.nil,aA,af,ah,ab,ad,au,ak,aa, *]) (by simp (maxDischargeDepth:=12) [Heap.aj,ar,an,Fr.nil,aA,af,ah,ab,ad,au,ak,aa, *]) (.inl ⟨rfl,rfl⟩)
 ·simp only [hlen] at hrr htwo ⊢
  rw [List.mem_singleton] at ht'
  subst ht'
  have hhas':=fun c h=>hhas _ (.inr ⟨c,rfl,h⟩)
  have hhas2':=fun c h=>hhas2 _ (.inr ⟨c,rfl,h⟩)
  have l6:(H.get ⟨0,110,gg,0⟩).isSome=true:=by rw [hrr];rfl
  clear hhas hhas2
  simp [af,ah,ab,ad,aa, *,aV,hx.r]
  exact htwo _ (by simp (maxDischargeDepth:=12) [Heap.aj,ar,an,Fr.nil,aA,af,ah,ab,ad,au,ak,aa, *]) (by simp (maxDischargeDepth:=12) [Heap.aj,ar,an,Fr.nil,aA,af,ah,ab,ad,au,ak,aa, *]) (.inr ⟨110,gg,by simp,by simp,by simp (maxDischargeDepth:=12) [Heap.aj,ar,an,Fr.nil,aA,af,ah,ab,ad,au,ak,aa, *]⟩)
theorem I3 : ∀(s:List (Rcd × AV)) (k:Nat) (i sum at':Int) (d:Dk) (acc:List (Rcd × AV)) (x10:AV) (H:Heap),l.drop k=s→k≤l.length→i=k→TInv n (rcs (l.take k)) d (rcs acc) sum at'→sum≤3 * k→(∀p∈acc,okRc p)→Fr H →
 H.get ⟨0,8,0,0⟩=some ⟨4,[d.val],false,false⟩→qN [110] 24 (du acc) H x10→H.gen 0 19=0 →
 GoL env Try.f5 0 bI [(9,aI 0),(7,aB true),(13,aI i),(0,x0),(10,x10),(1,aI n),(12,aI sum),(8,.ptr ⟨0,8,0,0⟩ 0 0),(2,x2),(11,aI at')] H Q:=by
 intro s
 induction s with
 | nil =>
  rintro k i sum at' d acc x10 H hs hk rfl hI hsum hok hF h8 hO h19
  obtain rfl:=drop_nil hs hk
  rw [List.take_length] at hI
  exact I5 hx hl hl12 hy hm hm12 hQ hn sum at' d acc x10 H hI (by omega) hok hF h8 hO h19
 | cons p s ih =>
  rintro k i sum at' d acc x10 H hs hk rfl hI hsum hok hF h8 hO h19
  obtain ⟨hlt,hg,hs',hg'⟩:=drop_cons hs
  have hp:=hl p (hg ▸ List.getElem_mem _)
  have htk:(rcs (l.take k)).length=k:=by rw [lh,List.length_take];omega
  have hla:=qb hI
  have hse:=hI.sum_eq
  rw [htk,lh] at hla
  have e1:=IntWalk.i64_in ((k:Int)+1) (by omega)
  have hA:=zb hI.fit p.1 hp.1 (by have:=hp.2;omega) 0 sum ((k:Int)+1)
  have hE:=K3 hI (by omega) (by omega) p.1
  rw [htk] at hE
  have hC:=Pt hp
  have hrd:ej (du l) k 0 24 true=some (p.1.val p.2):=by simp [du,hg',Rcd.val]
  have hkl:(k:Int)<l.length:=by omega
  have hxv:=hI.fit.sl.r
  have hpr:=hp.1.r
  have hlen:(du acc).length=acc.length:=pL acc
  unfold appA at hA
  rw [hE] at hA
  cases hr:eK p.1 with
  | false =>
   rw [hr] at hA hC
   simp only [Bool.false_eq_true,if_false,show ¬(8:Int)=0 by decide] at hA hC
   clear ih hI hm hok hE hr hl hO hse htk hla
   refine dK _ _ _ _ _ _ _ _ _ _ _ _ fun g=>?_
   obtain ⟨ll,y,st,lf,dd⟩:=d
   simp only [Dk.val,dsk,m9] at *
   unfold Rcd.val at hA hrd hC
   have l8:(H.get ⟨0,8,0,0⟩).isSome=true:=by rw [h8];rfl
   simp [af,ah,ab,ad,aa, *,aV,hx.r,hx.idx]
  | true =>
   rw [hr] at hA hE hC
   simp only [if_true] at hA hE hC
   have hstep:=FQ hn.1 hI (by omega) (by omega) hr
   rw [htk] at hstep
   have hnr:=jk hr
   have e2:=IntWalk.i64_in (sum+recN p.1) (by omega)
   have e3:rcs (l.take k)++[p.1]=rcs (l.take (k+1)):=by rw [List.take_add_one,hg'];simp [rcs]
   rw [e3] at hstep
   have hxv':=hstep.fit.sl.r
   have hpx:p.2=aNil ∨ ∃c,p.2 = .isl 1 (rows p.1.op.l) c:=by
    rcases hp.1 with ⟨h,_⟩ | ⟨c,h,_⟩
    ·exact .inl h
    ·exact .inr ⟨c,h⟩
   by_cases hc:sum+recN p.1≤n
   ·rw [if_pos hc,if_pos hc] at hstep
    have e4:rcs acc++[p.1]=rcs (acc++[p]):=by simp [rcs]
    rw [e4] at hstep
    have hok' : ∀q∈acc++[p],okRc q:=fun q hq=>by
     rcases List.mem_append.1 hq with hq | hq
     ·exact hok q hq
     ·rw [List.mem_singleton.1 hq];exact hp
    have hih:=fun x10' H'=>ih (k+1) ((k:Int)+1) (sum+recN p.1) (sum+recN p.1) (d.app 0 sum ((k:Int)+1) p.1) (acc++[p]) x10' H' hs' (by omega) (by simp) hstep (by omega) hok'
    have hex:du (acc++[p])=du acc++[p.1.val p.2]:=by simp [du]
    rw [hex] at hih
    have hal:acc.length≤12:=by omega
    clear ih hI hm hok hok' hE hr hstep hl hla hse htk e3 e4
    generalize d.app 0 sum ((k:Int)+1) p.1=d' at *
    refine dK _ _ _ _ _ _ _ _ _ _ _ _ fun g=>?_
    obtain ⟨ll,y,st,lf,dd⟩:=d
    obtain ⟨ll',y',st',lf',dd'⟩:=d'
    simp only [Dk.val,dsk,m9] at *
    unfold Rcd.val at hA hrd hC hih
    have l8:(H.get ⟨0,8,0,0⟩).isSome=true:=by rw [h8];rfl
    clear hp
    generalize p.2=px at *
    rcases hO with ⟨rfl,hz⟩ | ⟨t',gg,ht',rfl,hrr⟩
    ·have:acc=[]:=by simpa [du] using hz
     subst this
     simp only [hz,List.nil_append] at hih
     clear hlen hz
     rcases hpx with rfl | ⟨c,rfl⟩
     ·clear hpr
      simp [af,ah,ab,ad,aa, *,aV,hx.r,hx.idx]
      exact hih _ _ (by simp (maxDischargeDepth:=12) [Heap.aj,ar,an,Fr.nil,aA,af,ah,ab,ad,au,ak,aa, *]) (by simp (maxDischargeDepth:=12) [Heap.aj,ar,an,Fr.nil,aA,af,ah,ab,ad,au,ak,aa, *]) (.inr ⟨110,H.gen 0 110,by simp,by simp,by simp (maxDischargeDepth:=12) [Heap.aj,ar,an,Fr.nil,aA,af,ah,ab,ad,au,ak,aa, *]⟩) (by simp (maxDischargeDepth:=12) [Heap.aj,ar,an,Fr.nil,aA,af,ah,ab,ad,au,ak,aa, *])
     ·simp [af,ah,ab,ad,aa, *,aV,hx.r,hx.idx]
      exact hih _ _ (by simp (maxDischargeDepth:=12) [Heap.aj,ar,an,Fr.nil,aA,af,ah,ab,ad,au,ak,aa, *]) (by simp (maxDischargeDepth:=12) [Heap.aj,ar,an,Fr.nil,aA,af,ah,ab,ad,au,ak,aa, *]) (.inr ⟨110,H.gen 0 110,by simp,by simp,by simp (maxDischargeDepth:=12) [Heap.aj,ar,an,Fr.nil,aA,af,ah,ab,ad,au,ak,aa, *]⟩) (by simp (maxDischargeDepth:=12) [Heap.aj,ar,an,Fr.nil,aA,af,ah,ab,ad,au,ak,aa, *])
    ·simp only [hlen] at hrr ⊢
     have f4 : ∀x:AV,oS 24 160 acc.length true none (some ⟨24,du acc,true,false⟩) (some [x]):=by
      intro x
      simp;omega
     rw [List.mem_singleton] at ht'
     subst ht'
     have l6:(H.get ⟨0,110,gg,0⟩).isSome=true:=by rw [hrr];rfl
     rcases hpx with rfl | ⟨c,rfl⟩
     ·clear hpr
      simp [af,ah,ab,ad,aa, *,aV,hx.r,hx.idx]
      exact hih _ _ (by simp (maxDischargeDepth:=12) [Heap.aj,ar,an,Fr.nil,aA,af,ah,ab,ad,au,ak,aa, *]) (by simp (maxDischargeDepth:=12) [Heap.aj,ar,an,Fr.nil,aA,af,ah,ab,ad,au,ak,aa, *]) (.inr ⟨110,H.gen 0 110,by simp,by simp,by simp (maxDischargeDepth:=12) [Heap.aj,ar,an,Fr.nil,aA,af,ah,ab,ad,au,ak,aa, *]⟩) (by simp (maxDischargeDepth:=12) [Heap.aj,ar,an,Fr.nil,aA,af,ah,ab,ad,au,ak,aa, *])
     ·simp [af,ah,ab,ad,aa, *,aV,hx.r,hx.idx]
      exact hih _ _ (by simp (maxDischargeDepth:=12) [Heap.aj,ar,an,Fr.nil,aA,af,ah,ab,ad,au,ak,aa, *]) (by simp (maxDischargeDepth:=12) [Heap.aj,ar,an,Fr.nil,aA,af,ah,ab,ad,au,ak,aa, *]) (.inr ⟨110,H.gen 0 110,by simp,by simp,by simp (maxDischargeDepth:=12) [Heap.aj,ar,an,Fr.nil,aA,af,ah,ab,ad,au,ak,aa, *]⟩) (by simp (maxDischargeDepth:=12) [Heap.aj,ar,an,Fr.nil,aA,af,ah,ab,ad,au,ak,aa, *])
   ·rw [if_neg hc,if_neg hc] at hstep
    have hih:=fun x10' H'=>ih (k+1) ((k:Int)+1) (sum+recN p.1) at' (d.app 0 sum ((k:Int)+1) p.1) acc x10' H' hs' (by omega) (by simp) hstep (by omega) hok
    clear ih hI hm hok hE hr hstep hl hla hse htk e3
    generalize d.app 0 sum ((k:Int)+1) p.1=d' at *
    refine dK _ _ _ _ _ _ _ _ _ _ _ _ fun g=>?_
    obtain ⟨ll,y,st,lf,dd⟩:=d
    obtain ⟨ll',y',st',lf',dd'⟩:=d'
    simp only [Dk.val,dsk,m9] at *
    unfold Rcd.val at hA hrd hC
    have l8:(H.get ⟨0,8,0,0⟩).isSome=true:=by rw [h8];rfl
    rcases hO with ⟨rfl,hz⟩ | ⟨t',gg,ht',rfl,hrr⟩
    ·simp [af,ah,ab,ad,aa, *,aV,hx.r,hx.idx]
     exact hih _ _ (by simp (maxDischargeDepth:=12) [Heap.aj,ar,an,Fr.nil,aA,af,ah,ab,ad,au,ak,aa, *]) (by simp (maxDischargeDepth:=12) [Heap.aj,ar,an,Fr.nil,aA,af,ah,ab,ad,au,ak,aa, *]) (.inl ⟨rfl,hz⟩) (by simp (maxDischargeDepth:=12) [Heap.aj,ar,an,Fr.nil,aA,af,ah,ab,ad,au,ak,aa, *])
    ·simp only [hlen] at hrr ⊢
     rw [List.mem_singleton] at ht'
     subst ht'
     simp [af,ah,ab,ad,aa, *,aV,hx.r,hx.idx]
     exact hih _ _ (by simp (maxDischargeDepth:=12) [Heap.aj,ar,an,Fr.nil,aA,af,ah,ab,ad,au,ak,aa, *]) (by simp (maxDischargeDepth:=12) [Heap.aj,ar,an,Fr.nil,aA,af,ah,ab,ad,au,ak,aa, *]) (.inr ⟨110,gg,by simp,by simp,by simp (maxDischargeDepth:=12) [Heap.aj,ar,an,Fr.nil,aA,af,ah,ab,ad,au,ak,aa, *]⟩) (by simp (maxDischargeDepth:=12) [Heap.aj,ar,an,Fr.nil,aA,af,ah,ab,ad,au,ak,aa, *])
end
section
variable {l m:List (Rcd × AV)} {x0 x2:AV} (hx:Sl 24 (du l) x0) (hl : ∀p∈l,Sl 1 (rows p.1.op.l) p.2) (hy:Sl 24 (du m) x2) (hm : ∀p∈m,Sl 1 (rows p.1.op.l) p.2)
include hx hl hy hm
theorem I4 (n:Int):limf env 5 [x0,aI n,x2]=some (aB true):=by
 refine aH (fn:=Try.f5) (c:=de) rfl (by kernel_rfl) (by kernel_rfl) (by kernel_rfl) (by kernel_rfl) ?_;refine mI _ _ _ _ _ fun g=>?_
 have al:=Hk
 have hx0:=hx.r
 have hx2:=hy.r
 obtain ⟨t,hL,hL2⟩:=La hx hl 12
 obtain ⟨t2,hM,hM2⟩:=La hy hm 12
 cases t with
 | true=>simp [af,ah,ab,ad,aa, *,bT]
 | false =>
 cases t2 with
 | true=>simp [af,ah,ab,ad,aa, *,bT]
 | false =>
 by_cases q1:n<0
 ·simp [af,ah,ab,ad,aa, *,bT]
 by_cases q2:1000<n
 ·simp [af,ah,ab,ad,aa, *,bT]
 obtain ⟨a1,a2⟩:=hL2 rfl
 obtain ⟨b1,b2⟩:=hM2 rfl
 have hok : ∀p∈l,okRc p:=fun p hp=>⟨hl p hp,by have:=a1 p (by rw [List.take_of_length_le (by omega)];exact hp);omega⟩
 have hok2 : ∀p∈m,okRc p:=fun p hp=>⟨hm p hp,by have:=b1 p (by rw [List.take_of_length_le (by omega)];exact hp);omega⟩
 have hN:=Pv
 have hS:=Gt (n:=n) (by omega)
 have hone:=fun H=>I3 hx hok (by omega) hy hok2 (by omega) (Q:=fun v H=>iE env 5 v H (aB true)) (fun H=>by simp) (n:=n) ⟨by omega,by omega⟩ l 0 0 0 0 (fresh n) [] aNil H rfl (by omega) rfl (Pj ⟨by omega,by omega⟩) (by omega) (fun p hp=>by cases hp)
 simp only [fresh,Dk.val,dsk] at hS hone hN
 clear hok hok2 hl hm a1 b1 hL2 hM2
 simp [af,ah,ab,ad,aa, *,bT]
 exact hone _ (by simp (maxDischargeDepth:=12) [Heap.aj,ar,an,Fr.nil,aA,af,ah,ab,ad,au,ak,aa, *]) (by simp (maxDischargeDepth:=12) [Heap.aj,ar,an,Fr.nil,aA,af,ah,ab,ad,au,ak,aa, *]) (.inl ⟨rfl,rfl⟩) (by simp (maxDischargeDepth:=12) [Heap.aj,ar,an,Fr.nil,aA,af,ah,ab,ad,au,ak,aa, *])
end
end Go.Proofs.Ytmjkpdknicjjgaa
