/-
  What a history tells of an operation: names, and each kind's error. No statement of a seat is proved here.
-/
import Derived.Test.YtmkmimgokagimaaGreatMLeDoc2
set_option linter.unusedVariables false
set_option linter.unusedSimpArgs false
set_option linter.unusedSectionVars false
set_option linter.unnecessarySimpa false
set_option maxRecDepth 100000
namespace Go.Proofs.YtmkmimgokagimaaGreat
open Go.Ab
attribute [local simp] bn aV aF bj bh keep thr bD aX bc dx dw cN bE aD ct List.take_of_length_le
def gp(s:Spn):List Idd:=(List.range s.many.toNat).map fun k=>Gq s.f (k:Nat)
theorem Eu(a_1:UInt8)(a_2:UInt32)(a_3:UInt8)(a_4:Int)(a_5:Int)(hs:ke (⟨⟨⟨a_1,a_2,a_3⟩,a_4⟩,a_5⟩:Spn)=true){Q:AV→Heap→Prop} : ∀(d k:Nat)(i:Int)(x2:AV)(H:Heap),k+d=a_5.toNat→i=k→Fr H→H.get ⟨0,1,0,0⟩=some ⟨5,[.agg [a8 a_1,a32 a_2,a8 a_3,aI a_4,aI a_5]],false,false⟩→C0 [20] 4 (mb ((List.range k).map fun(k:Nat)=>Gq ⟨⟨a_1,a_2,a_3⟩,a_4⟩ k)) H x2 →
 (∀y H',C0 [20] 4 (mb (gp (⟨⟨⟨a_1,a_2,a_3⟩,a_4⟩,a_5⟩:Spn))) H' y→Q y H') →
 GoL env Tryz.f213 0 ji [(8,aI i),(2,x2),(1,.ptr ⟨0,1,0,0⟩ 0 0),(7,aI a_5)] H Q:=by
 have hn:=k6 hs
 simp only at hn
 intro d
 induction d with
 | zero =>
  rintro k i x2 H hk rfl hF hb hO hQ
  have hfin:=hQ x2 H (by unfold gp;simp only;rw[show a_5.toNat=k by omega];exact hO)
  have hlt : ¬(k:Int)<a_5:=by omega
  refine qI _ _ _ _ _ _ fun g=>?_
  clear hQ hO
  simp[af,ah,ad,ae,ab, *,lC]
  all_goals exact hfin
 | succ d ih =>
  rintro k i x2 H hk rfl hF hb hO hQ
  have e3:=IntWalk.i64_in ((k:Int)+1) (by omega)
  have hlt:(k:Int)<a_5:=by omega
  have eA:atE (⟨⟨⟨a_1,a_2,a_3⟩,a_4⟩,a_5⟩:Spn) (k:Int)=0:=by
   unfold atE
   rw[if_pos hs,if_neg]
   simp only
   omega
  have hA:=Sq a_1 a_2 a_3 a_4 a_5 (k:Int)
  rw[if_pos eA]at hA
  have l1:(H.get ⟨0,1,0,0⟩).isSome=true:=by rw[hb];rfl
  have hst : ∀(g:Nat)(m:Nat)(H1:Heap),m=k+1→Fr H1→H1.get ⟨0,1,0,0⟩=some ⟨5,[.agg [a8 a_1,a32 a_2,a8 a_3,aI a_4,aI a_5]],false,false⟩→H1.get ⟨0,20,g,0⟩=some ⟨4,mb ((List.range k).map fun(k:Nat)=>Gq ⟨⟨a_1,a_2,a_3⟩,a_4⟩ k)++[.agg [a8 a_1,a32 a_2,a8 a_3,aI (a_4+k)]],true,false⟩ →
   GoL env Tryz.f213 0 ji [(8,aI ((k:Int)+1)),(2,.osl ⟨0,20,g,0⟩ 0 m none),(1,.ptr ⟨0,1,0,0⟩ 0 0),(7,aI a_5)] H1 Q:=by
   intro g m H1 hm f1 f2 f3
   subst hm
   refine ih (k+1) ((k:Int)+1) _ H1 (by omega) (by simp) f1 f2 (.inr ⟨20,g,by simp,by simp,?_⟩) hQ
   rw[f3]
   simp[mb,List.range_succ,iddK,Gq]
  clear ih hQ
  refine qI _ _ _ _ _ _ fun g=>?_
  generalize he:mb ((List.range k).map fun(k:Nat)=>Gq ⟨⟨a_1,a_2,a_3⟩,a_4⟩ k)=es at *
  have hel:es.length=k:=by rw[←he];simp
  clear he eA
  rcases hO with ⟨rfl,rfl⟩ | ⟨t,gg,ht,rfl,hr⟩
  ·have hst':=fun H1=>hst (H.gen 0 20) 1 H1 (by simp at hel;omega)
   clear hst hel
   simp[af,ah,ad,ae,ab, *,lC]
   refine hst' _ ?_ ?_ ?_
   ·exact by simp(maxDischargeDepth:=12) [Heap.an,aq,aj,Fr.nil,ax,af,ah,ad,ae,ao,ak,ab, *]
   ·exact by simp(maxDischargeDepth:=12) [Heap.an,aq,aj,Fr.nil,ax,af,ah,ad,ae,ao,ak,ab, *]
   ·exact by simp(maxDischargeDepth:=12) [Heap.an,aq,aj,Fr.nil,ax,af,ah,ad,ae,ao,ak,ab, *]
  ·rw[List.mem_singleton]at ht
   subst ht
   rw[hel]
   have hst':=hst (H.gen 0 20) (k+1)
   clear hst
   have l6:(H.get ⟨0,20,gg,0⟩).isSome=true:=by rw[hr];rfl
   have f4:oQ 4 24 k true none (some ⟨4,es,true,false⟩) (some [.agg [a8 a_1,a32 a_2,a8 a_3,aI (a_4+k)]]):=by
    simp[hel];omega
   simp[af,ah,ad,ae,ab, *,lC]
   refine hst' _ rfl ?_ ?_ ?_
   ·exact by simp(maxDischargeDepth:=12) [Heap.an,aq,aj,Fr.nil,ax,af,ah,ad,ae,ao,ak,ab, *]
   ·exact by simp(maxDischargeDepth:=12) [Heap.an,aq,aj,Fr.nil,ax,af,ah,ad,ae,ao,ak,ab, *]
   ·exact by simp(maxDischargeDepth:=12) [Heap.an,aq,aj,Fr.nil,ax,af,ah,ad,ae,ao,ak,ab, *]
theorem BP(a_1:UInt8)(a_2:UInt32)(a_3:UInt8)(a_4:Int)(a_5:Int)(hs:ke (⟨⟨⟨a_1,a_2,a_3⟩,a_4⟩,a_5⟩:Spn)=true):limf env 213 [.agg [a8 a_1,a32 a_2,a8 a_3,aI a_4,aI a_5]]=some (.isl 4 (mb (gp (⟨⟨⟨a_1,a_2,a_3⟩,a_4⟩,a_5⟩:Spn))) none):=by
 have hn:=k6 hs
 simp only at hn
 have hne:mb (gp (⟨⟨⟨a_1,a_2,a_3⟩,a_4⟩,a_5⟩:Spn))≠[]:=by
  intro e
  have:=congrArg List.length e
  simp[gp]at this
  omega
 refine az (fn:=Tryz.f213) (c:=pS) rfl (by kernel_rfl) (by kernel_rfl) (by kernel_rfl) (by kernel_rfl) ?_;refine Au _ _ _ fun g=>?_
 have hfin:=fun H h1 h2=>Eu a_1 a_2 a_3 a_4 a_5 hs (Q:=fun y H'=>view H'.get 8 y=some (.isl 4 (mb (gp (⟨⟨⟨a_1,a_2,a_3⟩,a_4⟩,a_5⟩:Spn))) none)) a_5.toNat 0 0 aNil H (by omega) rfl h1 h2 (.inl ⟨rfl,by simp[mb]⟩) (fun y H' h=>by
  rcases h with ⟨_,h⟩ | ⟨t,g,_,rfl,hr⟩
  ·exact absurd h hne
  ·rw[Am hr rfl])
 simp[af,ah,ad,ae,ab, *,uw]
 exact hfin _ (by simp(maxDischargeDepth:=12) [Heap.an,aq,aj,Fr.nil,ax,af,ah,ad,ae,ao,ak,ab, *]) rfl
theorem Dx(s:Spn):Sl 4 (mb (gp s)) (.isl 4 (mb (gp s)) none):=Sl.mk _ _
theorem vR{s:Spn}(h:ke s=true):(gp s).length<100000:=by
 have hn:=k6 h
 simp[gp]
 omega
def tD(ents:List (Idd × AV))(o:Opn):Bool := !(gp o.s).any fun i => !xn ents o i
section
variable(dep:Nat){H:Heap}(hF:Fr H){rh:Ref}{ops:List (Opn × AV)}{ents:List (Idd × AV)}(hh:HistAt H rh ops ents)(hb:oN ents)
include hF hh hb
theorem KC(a_1:UInt8)(a_2:UInt8)(a_3:UInt32)(a_4:UInt8)(a_5:Int)(a_6:UInt8)(a_7:UInt32)(a_8:UInt8)(a_9:Int)(a_10:Int)(a_11:UInt8)(a_12:UInt32)(a_13:UInt8)(a_14:Int)(a_15:UInt8)(a_16:UInt32){x:AV}{al:List Int}(hx:Sl 1 (rows al) x)(hs:ke ⟨⟨⟨a_6,a_7,a_8⟩,a_9⟩,a_10⟩=true) :
 ∃H',limt env dep (.fn 234) [.ptr rh 0 0,.agg [a8 a_1,a8 a_2,a32 a_3,a8 a_4,aI a_5,a8 a_6,a32 a_7,a8 a_8,aI a_9,aI a_10,a8 a_11,a32 a_12,a8 a_13,aI a_14,a8 a_15,a32 a_16,x]] H=some (aB (tD ents (⟨a_1,⟨a_2,a_3,a_4⟩,a_5,⟨⟨⟨a_6,a_7,a_8⟩,a_9⟩,a_10⟩,⟨⟨a_11,a_12,a_13⟩,a_14⟩,⟨a_15,a_16⟩,al⟩:Opn)),H')∧Grow H H':=by
 refine dR (fn:=Tryz.f234) (c:=fZ) (by kernel_rfl) (by kernel_rfl) (by kernel_rfl) (by kernel_rfl) (by kernel_rfl) ?_
 refine kT _ _ _ _ _ fun g=>?_
 have hN:=BP a_6 a_7 a_8 a_9 a_10 hs
 have hg1 : ∀b1 b2:Blk,Grow H ((⟨dep+1,3,H.gen (dep+1) 3,0⟩,some b2) :: (⟨dep+1,2,H.gen (dep+1) 2,0⟩,some b1) :: H):=fun b1 b2=>⟨by simp(maxDischargeDepth:=12) [Heap.an,aq,aj,Fr.nil,ax,af,ah,ad,ae,ao,ak,ab, *],fun q c hq=>by
  have lq:(H.get q).isSome=true:=by rw[hq];rfl
  simp[af hF lq,hq]⟩
 have hc : ∃H',limt env (dep+1) (.fn 232) ([]++[.isl 4 (mb (gp ⟨⟨⟨a_6,a_7,a_8⟩,a_9⟩,a_10⟩)) none,.fn (.func 242) [] [.ptr ⟨dep+1,2,H.gen (dep+1) 2,0⟩ 0 0,.ptr ⟨dep+1,3,H.gen (dep+1) 3,0⟩ 0 0]]++[])
  ((⟨dep+1,3,H.gen (dep+1) 3,0⟩,some ⟨17,[.agg [a8 a_1,a8 a_2,a32 a_3,a8 a_4,aI a_5,a8 a_6,a32 a_7,a8 a_8,aI a_9,aI a_10,a8 a_11,a32 a_12,a8 a_13,aI a_14,a8 a_15,a32 a_16,x]],false,false⟩) :: (⟨dep+1,2,H.gen (dep+1) 2,0⟩,some ⟨1,[.ptr rh 0 0],false,false⟩) :: H)=some (aB ((gp ⟨⟨⟨a_6,a_7,a_8⟩,a_9⟩,a_10⟩).any fun i => !xn ents (⟨a_1,⟨a_2,a_3,a_4⟩,a_5,⟨⟨⟨a_6,a_7,a_8⟩,a_9⟩,a_10⟩,⟨⟨a_11,a_12,a_13⟩,a_14⟩,⟨a_15,a_16⟩,al⟩:Opn) i),H')∧Grow _ H' :=
  wQ (dep+1) (F:=242) (by kernel_rfl) (Dx _) (vR hs) (p:=fun i => !xn ents (⟨a_1,⟨a_2,a_3,a_4⟩,a_5,⟨⟨⟨a_6,a_7,a_8⟩,a_9⟩,a_10⟩,⟨⟨a_11,a_12,a_13⟩,a_14⟩,⟨a_15,a_16⟩,al⟩:Opn) i) (hg1 _ _).fr (fun i H' hG=>by
   have:=JF (dep+3) hG.fr ((hh.grow (hg1 _ _)).grow hG) hb a_1 a_2 a_3 a_4 a_5 a_6 a_7 a_8 a_9 a_10 a_11 a_12 a_13 a_14 a_15 a_16 i.h.lv i.h.cats i.h.num i.n hx (q:=⟨dep+1,2,H.gen (dep+1) 2,0⟩) (p:=⟨dep+1,3,H.gen (dep+1) 3,0⟩) (hG.old _ _ (by simp)) (hG.old _ _ (by simp))
   exact this)
 simp[af,ah,ad,ae,ab, *,ga,hx.r]
 refine kY (by kernel_rfl) hc fun H1 hG=>?_
 have hfin:=(hg1 _ _).trans hG
 simp[hfin,tD]
end
end Go.Proofs.YtmkmimgokagimaaGreat
