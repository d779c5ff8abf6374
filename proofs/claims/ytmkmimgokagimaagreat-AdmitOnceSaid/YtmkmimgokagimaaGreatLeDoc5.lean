/-
  What a history tells of an operation: an insert's error, and all of it. No statement of a seat is proved here.
-/
import Derived.Test.YtmkmimgokagimaaGreatMLeDoc4
set_option linter.unusedVariables false
set_option linter.unusedSimpArgs false
set_option linter.unusedSectionVars false
set_option linter.unnecessarySimpa false
set_option maxRecDepth 100000
namespace Go.Proofs.YtmkmimgokagimaaGreat
open Go.Ab
attribute [local simp] bj aL aF bg bf keep thr bx aT bc da cZ cJ bD aD bM List.take_of_length_le
section
variable(dep:Nat){H:Heap}(hF:Fr H){rh:Ref}{ops:List (Opn × AV)}{ents:List (Idd × AV)}(hh:HistAt H rh ops ents)(hb:qx ents)(he:ents.length<1000000)
include hF hh hb he
theorem JU(a_1:UInt8)(a_2:UInt8)(a_3:UInt32)(a_4:UInt8)(a_5:Int)(a_6:UInt8)(a_7:UInt32)(a_8:UInt8)(a_9:Int)(a_10:Int)(a_11:UInt8)(a_12:UInt32)(a_13:UInt8)(a_14:Int)(a_15:UInt8)(a_16:UInt32){x:AV}{al:List Int}(hx:Sl 1 (rows al) x)(hal:al.length<1000000)(ho:opB (⟨a_1,⟨a_2,a_3,a_4⟩,a_5,⟨⟨⟨a_6,a_7,a_8⟩,a_9⟩,a_10⟩,⟨⟨a_11,a_12,a_13⟩,a_14⟩,⟨a_15,a_16⟩,al⟩:Opn)=true) :
 ∃H',limt env dep (.fn 218) [.ptr rh 0 0,.agg [a8 a_1,a8 a_2,a32 a_3,a8 a_4,aI a_5,a8 a_6,a32 a_7,a8 a_8,aI a_9,aI a_10,a8 a_11,a32 a_12,a8 a_13,aI a_14,a8 a_15,a32 a_16,x]] H=some (aI (fp ents (⟨a_1,⟨a_2,a_3,a_4⟩,a_5,⟨⟨⟨a_6,a_7,a_8⟩,a_9⟩,a_10⟩,⟨⟨a_11,a_12,a_13⟩,a_14⟩,⟨a_15,a_16⟩,al⟩:Opn)),H')∧Grow H H':=by
 have hs:=sQ ho
 simp only at hs
 have hn:=lX hs
 simp only at hn
 refine dt (fn:=Tryz.f218) (c:=fw) (by kernel_rfl) (by kernel_rfl) (by kernel_rfl) (by kernel_rfl) (by kernel_rfl) ?_
 refine jY _ _ _ _ _ fun g=>?_
 have hN:=Eu a_6 a_7 a_8 a_9 a_10 hs
 have hR:=On a_1 a_2 a_3 a_4 a_5 a_6 a_7 a_8 a_9 a_10 a_11 a_12 a_13 a_14 a_15 a_16 hx hal
 have w1:=IntWalk.i64_in ((ents.length:Int)+a_10) (by omega)
 have hg1 : ∀b1 b2:Blk,Grow H ((⟨dep+1,3,H.gen (dep+1) 3,0⟩,some b2) :: (⟨dep+1,2,H.gen (dep+1) 2,0⟩,some b1) :: H):=fun b1 b2=>⟨by simp(maxDischargeDepth:=12) [Heap.an,au,ak,Fr.nil,az,af,ah,ad,ae,ar,ao,ab, *],fun q c hq=>by
  have lq:(H.get q).isSome=true:=by rw[hq];rfl
  simp[af hF lq,hq]⟩
 have hcont : ∀(Hs:Heap),Grow H Hs→Hs.get ⟨dep+1,2,H.gen (dep+1) 2,0⟩=some ⟨1,[.ptr rh 0 0],false,false⟩ →
  ∃H',limt env (dep+1) (.fn 232) ([]++[.isl 4 (mV (gy ⟨⟨⟨a_6,a_7,a_8⟩,a_9⟩,a_10⟩)) none,.fn (.func 233) [] [.ptr ⟨dep+1,2,H.gen (dep+1) 2,0⟩ 0 0]]++[]) Hs=some (aB ((gy ⟨⟨⟨a_6,a_7,a_8⟩,a_9⟩,a_10⟩).any (oW ents)),H')∧Grow Hs H':=fun Hs hG hq =>
  Ai (dep+1) (F:=233) (by kernel_rfl) (Gg _) (zn hs) (p:=oW ents) hG.fr (fun i H' hG'=>by
   have:=L9 (dep+3) hG'.fr ((hh.grow hG).grow hG') hb i.h.lv i.h.cats i.h.num i.n (q:=⟨dep+1,2,H.gen (dep+1) 2,0⟩) (hG'.old _ _ hq)
   exact this)
 cases hz:kD (⟨⟨a_11,a_12,a_13⟩,a_14⟩:Idd) with
 | true =>
  have hno : ¬((!kD (⟨⟨a_11,a_12,a_13⟩,a_14⟩:Idd) && !AL ents (⟨a_1,⟨a_2,a_3,a_4⟩,a_5,⟨⟨⟨a_6,a_7,a_8⟩,a_9⟩,a_10⟩,⟨⟨a_11,a_12,a_13⟩,a_14⟩,⟨a_15,a_16⟩,al⟩:Opn) ⟨⟨a_11,a_12,a_13⟩,a_14⟩)=true):=by simp[hz]
  have hz':=hz
  unfold kD at hz'
  have hgz : ∀b1 b2 b3:Blk,Grow H ((⟨dep+1,5,H.gen (dep+1) 5,0⟩,some b3) :: (⟨dep+1,3,H.gen (dep+1) 3,0⟩,some b2) :: (⟨dep+1,2,H.gen (dep+1) 2,0⟩,some b1) :: H):=fun b1 b2 b3=>⟨by simp(maxDischargeDepth:=12) [Heap.an,au,ak,Fr.nil,az,af,ah,ad,ae,ar,ao,ab, *],fun q c hq=>by
   have lq:(H.get q).isSome=true:=by rw[hq];rfl
   simp[af hF lq,hq]⟩
  by_cases e0:ofE (⟨a_1,⟨a_2,a_3,a_4⟩,a_5,⟨⟨⟨a_6,a_7,a_8⟩,a_9⟩,a_10⟩,⟨⟨a_11,a_12,a_13⟩,a_14⟩,⟨a_15,a_16⟩,al⟩:Opn)=0
  rotate_left
  ·rw[if_neg e0]at hR
   have hI:fp ents (⟨a_1,⟨a_2,a_3,a_4⟩,a_5,⟨⟨⟨a_6,a_7,a_8⟩,a_9⟩,a_10⟩,⟨⟨a_11,a_12,a_13⟩,a_14⟩,⟨a_15,a_16⟩,al⟩:Opn)=2:=by unfold fp;rw[if_neg hno,if_pos (.inl e0)]
   simp[af,ah,ad,ae,ab, *,cH,hx.r,eqA,eqFs,hz',hx.r,hR,e0]
   all_goals exact hgz _ _ _
  ·rw[if_pos e0]at hR
   simp[af,ah,ad,ae,ab, *,cH,hx.r,eqA,eqFs,hz',hx.r,hR,e0,hN]
   refine jm (by kernel_rfl) ((fun b=>hcont _ (hgz ⟨1,[.ptr rh 0 0],false,false⟩ ⟨17,[.agg [a8 a_1,a8 a_2,a32 a_3,a8 a_4,aI a_5,a8 a_6,a32 a_7,a8 a_8,aI a_9,aI a_10,a8 a_11,a32 a_12,a8 a_13,aI a_14,a8 a_15,a32 a_16,x]],false,false⟩ b) (by simp)) _) fun H2 hG2=>?_
   have hfin:=((fun b=>hgz ⟨1,[.ptr rh 0 0],false,false⟩ ⟨17,[.agg [a8 a_1,a8 a_2,a32 a_3,a8 a_4,aI a_5,a8 a_6,a32 a_7,a8 a_8,aI a_9,aI a_10,a8 a_11,a32 a_12,a8 a_13,aI a_14,a8 a_15,a32 a_16,x]],false,false⟩ b) _).trans hG2
   obtain⟨xo,vo,rm,h1,h2,h3⟩:=(hh.grow hfin).box
   have hlm:=JJ (r:=⟨dep+1,37,H2.gen (dep+1) 37,0⟩) h3
   have hb2:=hG2.old _ _ ((fun(b:Blk)=>(by simp:Heap.get ((⟨dep+1,5,H.gen (dep+1) 5,0⟩,some b) :: (⟨dep+1,3,H.gen (dep+1) 3,0⟩,some ⟨17,[.agg [a8 a_1,a8 a_2,a32 a_3,a8 a_4,aI a_5,a8 a_6,a32 a_7,a8 a_8,aI a_9,aI a_10,a8 a_11,a32 a_12,a8 a_13,aI a_14,a8 a_15,a32 a_16,x]],false,false⟩) :: (⟨dep+1,2,H.gen (dep+1) 2,0⟩,some ⟨1,[.ptr rh 0 0],false,false⟩) :: H) ⟨dep+1,2,H.gen (dep+1) 2,0⟩=some ⟨1,[.ptr rh 0 0],false,false⟩)) _)
   have hb3:=hG2.old _ _ ((fun(b:Blk)=>(by simp:Heap.get ((⟨dep+1,5,H.gen (dep+1) 5,0⟩,some b) :: (⟨dep+1,3,H.gen (dep+1) 3,0⟩,some ⟨17,[.agg [a8 a_1,a8 a_2,a32 a_3,a8 a_4,aI a_5,a8 a_6,a32 a_7,a8 a_8,aI a_9,aI a_10,a8 a_11,a32 a_12,a8 a_13,aI a_14,a8 a_15,a32 a_16,x]],false,false⟩) :: (⟨dep+1,2,H.gen (dep+1) 2,0⟩,some ⟨1,[.ptr rh 0 0],false,false⟩) :: H) ⟨dep+1,3,H.gen (dep+1) 3,0⟩=some ⟨17,[.agg [a8 a_1,a8 a_2,a32 a_3,a8 a_4,aI a_5,a8 a_6,a32 a_7,a8 a_8,aI a_9,aI a_10,a8 a_11,a32 a_12,a8 a_13,aI a_14,a8 a_15,a32 a_16,x]],false,false⟩)) _)
   cases hany:(gy ⟨⟨⟨a_6,a_7,a_8⟩,a_9⟩,a_10⟩).any (oW ents) with
   | true =>
    have hI:fp ents (⟨a_1,⟨a_2,a_3,a_4⟩,a_5,⟨⟨⟨a_6,a_7,a_8⟩,a_9⟩,a_10⟩,⟨⟨a_11,a_12,a_13⟩,a_14⟩,⟨a_15,a_16⟩,al⟩:Opn)=2:=by unfold fp;rw[if_neg hno,if_pos (.inr hany)]
    simp[hfin,hI]
   | false =>
    have hno2 : ¬(ofE (⟨a_1,⟨a_2,a_3,a_4⟩,a_5,⟨⟨⟨a_6,a_7,a_8⟩,a_9⟩,a_10⟩,⟨⟨a_11,a_12,a_13⟩,a_14⟩,⟨a_15,a_16⟩,al⟩:Opn)≠0∨(gy ⟨⟨⟨a_6,a_7,a_8⟩,a_9⟩,a_10⟩).any (oW ents)=true):=by rw[hany];simp[e0]
    by_cases h8:8192<(ents.length:Int)+a_10
    ·have hI:fp ents (⟨a_1,⟨a_2,a_3,a_4⟩,a_5,⟨⟨⟨a_6,a_7,a_8⟩,a_9⟩,a_10⟩,⟨⟨a_11,a_12,a_13⟩,a_14⟩,⟨a_15,a_16⟩,al⟩:Opn)=4:=by unfold fp;rw[if_neg hno,if_neg hno2,if_pos h8]
     simp[hfin,hI,hb2,hb3,h1,hlm,w1,h8,hx.r]
    ·have hI:fp ents (⟨a_1,⟨a_2,a_3,a_4⟩,a_5,⟨⟨⟨a_6,a_7,a_8⟩,a_9⟩,a_10⟩,⟨⟨a_11,a_12,a_13⟩,a_14⟩,⟨a_15,a_16⟩,al⟩:Opn)=0:=by unfold fp;rw[if_neg hno,if_neg hno2,if_neg h8]
     simp[hfin,hI,hb2,hb3,h1,hlm,w1,h8,hx.r]
 | false =>
  have hz':=hz
  unfold kD at hz'
  have hS:=IA (dep+1) (hg1 ⟨1,[.ptr rh 0 0],false,false⟩ ⟨17,[.agg [a8 a_1,a8 a_2,a32 a_3,a8 a_4,aI a_5,a8 a_6,a32 a_7,a8 a_8,aI a_9,aI a_10,a8 a_11,a32 a_12,a8 a_13,aI a_14,a8 a_15,a32 a_16,x]],false,false⟩).fr (hh.grow (hg1 _ _)) hb a_1 a_2 a_3 a_4 a_5 a_6 a_7 a_8 a_9 a_10 a_11 a_12 a_13 a_14 a_15 a_16 a_11 a_12 a_13 a_14 hx
  simp[af,ah,ad,ae,ab, *,cH,hx.r,eqA,eqFs,hz']
  refine jm (by kernel_rfl) hS fun H1 hG1=>?_
  have hGa:=(hg1 _ _).trans hG1
  have hF1:=hGa.fr
  have hb2a:=hG1.old ⟨dep+1,2,H.gen (dep+1) 2,0⟩ _ (by simp;rfl)
  have hb3a:=hG1.old ⟨dep+1,3,H.gen (dep+1) 3,0⟩ _ (by simp;rfl)
  have l2a:(H1.get ⟨dep+1,2,H.gen (dep+1) 2,0⟩).isSome=true:=by rw[hb2a];rfl
  have l3a:(H1.get ⟨dep+1,3,H.gen (dep+1) 3,0⟩).isSome=true:=by rw[hb3a];rfl
  have hgz : ∀b3:Blk,Grow H ((⟨dep+1,5,H1.gen (dep+1) 5,0⟩,some b3) :: H1):=fun b3=>hGa.trans (Grow.cons hF1 _ _ _)
  clear hg1
  cases hsb:AL ents (⟨a_1,⟨a_2,a_3,a_4⟩,a_5,⟨⟨⟨a_6,a_7,a_8⟩,a_9⟩,a_10⟩,⟨⟨a_11,a_12,a_13⟩,a_14⟩,⟨a_15,a_16⟩,al⟩:Opn) ⟨⟨a_11,a_12,a_13⟩,a_14⟩ with
  | false =>
   have hI:fp ents (⟨a_1,⟨a_2,a_3,a_4⟩,a_5,⟨⟨⟨a_6,a_7,a_8⟩,a_9⟩,a_10⟩,⟨⟨a_11,a_12,a_13⟩,a_14⟩,⟨a_15,a_16⟩,al⟩:Opn)=6:=by unfold fp;rw[if_pos (by simp[hz,hsb])]
   simp[hI,hGa]
  | true =>
   have hno : ¬((!kD (⟨⟨a_11,a_12,a_13⟩,a_14⟩:Idd) && !AL ents (⟨a_1,⟨a_2,a_3,a_4⟩,a_5,⟨⟨⟨a_6,a_7,a_8⟩,a_9⟩,a_10⟩,⟨⟨a_11,a_12,a_13⟩,a_14⟩,⟨a_15,a_16⟩,al⟩:Opn) ⟨⟨a_11,a_12,a_13⟩,a_14⟩)=true):=by simp[hsb]
   by_cases e0:ofE (⟨a_1,⟨a_2,a_3,a_4⟩,a_5,⟨⟨⟨a_6,a_7,a_8⟩,a_9⟩,a_10⟩,⟨⟨a_11,a_12,a_13⟩,a_14⟩,⟨a_15,a_16⟩,al⟩:Opn)=0
   rotate_left
   ·rw[if_neg e0]at hR
    have hI:fp ents (⟨a_1,⟨a_2,a_3,a_4⟩,a_5,⟨⟨⟨a_6,a_7,a_8⟩,a_9⟩,a_10⟩,⟨⟨a_11,a_12,a_13⟩,a_14⟩,⟨a_15,a_16⟩,al⟩:Opn)=2:=by unfold fp;rw[if_neg hno,if_pos (.inl e0)]
    simp[hb2a,hb3a,hx.r,hR,e0,hI,af hF1 l2a,af hF1 l3a,hgz]
   ·rw[if_pos e0]at hR
    simp[hb2a,hb3a,hx.r,hR,e0,hN,af hF1 l2a,af hF1 l3a]
    have hc:=fun b=>hcont _ (hgz b) (by rw[Heap.nT,if_neg (mK hF1 l2a _ _ _)];exact hb2a)
    refine jm (by kernel_rfl) (hc _) fun H2 hG2=>?_
    have hfin:=(hgz _).trans hG2
    obtain⟨xo,vo,rm,h1,h2,h3⟩:=(hh.grow hfin).box
    have hlm:=JJ (r:=⟨dep+1,37,H2.gen (dep+1) 37,0⟩) h3
    have hb2:=hG2.old ⟨dep+1,2,H.gen (dep+1) 2,0⟩ _ (by rw[Heap.nT,if_neg (mK hF1 l2a _ _ _)];exact hb2a)
    have hb3:=hG2.old ⟨dep+1,3,H.gen (dep+1) 3,0⟩ _ (by rw[Heap.nT,if_neg (mK hF1 l3a _ _ _)];exact hb3a)
    cases hany:(gy ⟨⟨⟨a_6,a_7,a_8⟩,a_9⟩,a_10⟩).any (oW ents) with
    | true =>
     have hI:fp ents (⟨a_1,⟨a_2,a_3,a_4⟩,a_5,⟨⟨⟨a_6,a_7,a_8⟩,a_9⟩,a_10⟩,⟨⟨a_11,a_12,a_13⟩,a_14⟩,⟨a_15,a_16⟩,al⟩:Opn)=2:=by unfold fp;rw[if_neg hno,if_pos (.inr hany)]
     simp[hfin,hI]
    | false =>
     have hno2 : ¬(ofE (⟨a_1,⟨a_2,a_3,a_4⟩,a_5,⟨⟨⟨a_6,a_7,a_8⟩,a_9⟩,a_10⟩,⟨⟨a_11,a_12,a_13⟩,a_14⟩,⟨a_15,a_16⟩,al⟩:Opn)≠0∨(gy ⟨⟨⟨a_6,a_7,a_8⟩,a_9⟩,a_10⟩).any (oW ents)=true):=by rw[hany];simp[e0]
     by_cases h8:8192<(ents.length:Int)+a_10
     ·have hI:fp ents (⟨a_1,⟨a_2,a_3,a_4⟩,a_5,⟨⟨⟨a_6,a_7,a_8⟩,a_9⟩,a_10⟩,⟨⟨a_11,a_12,a_13⟩,a_14⟩,⟨a_15,a_16⟩,al⟩:Opn)=4:=by unfold fp;rw[if_neg hno,if_neg hno2,if_pos h8]
      simp[hfin,hI,hb2,hb3,h1,hlm,w1,h8,hx.r]
     ·have hI:fp ents (⟨a_1,⟨a_2,a_3,a_4⟩,a_5,⟨⟨⟨a_6,a_7,a_8⟩,a_9⟩,a_10⟩,⟨⟨a_11,a_12,a_13⟩,a_14⟩,⟨a_15,a_16⟩,al⟩:Opn)=0:=by unfold fp;rw[if_neg hno,if_neg hno2,if_neg h8]
      simp[hfin,hI,hb2,hb3,h1,hlm,w1,h8,hx.r]
omit hF hh hb he in
theorem yV:bI env.P 271 (some [(1,AV.fn (Fn.func 218) [] []),(2,AV.fn (Fn.func 219) [] []),(3,AV.fn (Fn.func 220) [] [])]) =
 some (.agg [.v .nilFunc,.fn (.func 218) [] [],.fn (.func 219) [] [],.fn (.func 220) [] []],[]):=by kernel_rfl
omit hF hh hb he in
theorem Od:nN env.P 271 (some (.agg [.v .nilFunc,.fn (.func 218) [] [],.fn (.func 219) [] [],.fn (.func 220) [] []])) (some (a8 1))=some (.fn (.func 218) [] [],[]):=by kernel_rfl
omit hF hh hb he in
theorem Oc:nN env.P 271 (some (.agg [.v .nilFunc,.fn (.func 218) [] [],.fn (.func 219) [] [],.fn (.func 220) [] []])) (some (a8 2))=some (.fn (.func 219) [] [],[]):=by kernel_rfl
omit hF hh hb he in
theorem Ob:nN env.P 271 (some (.agg [.v .nilFunc,.fn (.func 218) [] [],.fn (.func 219) [] [],.fn (.func 220) [] []])) (some (a8 3))=some (.fn (.func 220) [] [],[]):=by kernel_rfl
theorem J7(hall : ∀p∈ops,okO p)(hl:ops.length<100000)(a_1:UInt8)(a_2:UInt8)(a_3:UInt32)(a_4:UInt8)(a_5:Int)(a_6:UInt8)(a_7:UInt32)(a_8:UInt8)(a_9:Int)(a_10:Int)(a_11:UInt8)(a_12:UInt32)(a_13:UInt8)(a_14:Int)(a_15:UInt8)(a_16:UInt32){x:AV}{al:List Int}(hx:Sl 1 (rows al) x)(hal:al.length<1000000)(ho:opB (⟨a_1,⟨a_2,a_3,a_4⟩,a_5,⟨⟨⟨a_6,a_7,a_8⟩,a_9⟩,a_10⟩,⟨⟨a_11,a_12,a_13⟩,a_14⟩,⟨a_15,a_16⟩,al⟩:Opn)=true) :
 ∃H',limt env dep (.fn 193) [.ptr rh 0 0,.agg [a8 a_1,a8 a_2,a32 a_3,a8 a_4,aI a_5,a8 a_6,a32 a_7,a8 a_8,aI a_9,aI a_10,a8 a_11,a32 a_12,a8 a_13,aI a_14,a8 a_15,a32 a_16,x]] H=some (aI (docE ops ents (⟨a_1,⟨a_2,a_3,a_4⟩,a_5,⟨⟨⟨a_6,a_7,a_8⟩,a_9⟩,a_10⟩,⟨⟨a_11,a_12,a_13⟩,a_14⟩,⟨a_15,a_16⟩,al⟩:Opn)),H')∧Grow H H':=by
 refine dt (fn:=Tryz.f193) (c:=fS) (by kernel_rfl) (by kernel_rfl) (by kernel_rfl) (by kernel_rfl) (by kernel_rfl) ?_
 refine kQ _ _ _ _ _ fun g=>?_
 have hs:=sQ ho
 simp only at hs
 have hg1 : ∀b1:Blk,Grow H ((⟨dep+1,3,H.gen (dep+1) 3,0⟩,some b1) :: H):=fun b1=>Grow.cons hF _ _ _
 have hk:a_1=1∨a_1=2∨a_1=3:=by
  simp only[opB,Bool.and_eq_true]at ho
  have h:=ho.2.2.2.2
  unfold mayB at h
  split at h
  ·exact .inl (by assumption)
  ·split at h
   ·exact .inr (.inl (by assumption))
   ·split at h
    ·exact .inr (.inr (by assumption))
    ·cases h
 have fin : ∀(H1:Heap)(e:Int),Grow ((⟨dep+1,3,H.gen (dep+1) 3,0⟩,some ⟨17,[.agg [a8 a_1,a8 a_2,a32 a_3,a8 a_4,aI a_5,a8 a_6,a32 a_7,a8 a_8,aI a_9,aI a_10,a8 a_11,a32 a_12,a8 a_13,aI a_14,a8 a_15,a32 a_16,x]],false,false⟩) :: H) H1 →∃(xo:AV) (rm:Ref),H1.get rh=some ⟨2,[.agg [xo,.mp rm]],false,false⟩∧vf xo=some ops.length∧Grow H H1:=by
  intro H1 e hG
  obtain⟨xo,vo,rm,h1,h2,h3⟩:=((hh.grow (hg1 _)).grow hG).box
  exact⟨xo,rm,h1,by rw[h2.len];simp,(hg1 _).trans hG⟩
 rcases hk with rfl | rfl | rfl
 ·have hA:=JU (dep+1) (hg1 ⟨17,[.agg [a8 1,a8 a_2,a32 a_3,a8 a_4,aI a_5,a8 a_6,a32 a_7,a8 a_8,aI a_9,aI a_10,a8 a_11,a32 a_12,a8 a_13,aI a_14,a8 a_15,a32 a_16,x]],false,false⟩).fr (hh.grow (hg1 _)) hb he _ _ _ _ _ _ _ _ _ _ _ _ _ _ _ _ hx hal ho
  have hK:zK ops ents ⟨1,⟨a_2,a_3,a_4⟩,a_5,⟨⟨⟨a_6,a_7,a_8⟩,a_9⟩,a_10⟩,⟨⟨a_11,a_12,a_13⟩,a_14⟩,⟨a_15,a_16⟩,al⟩=fp ents ⟨1,⟨a_2,a_3,a_4⟩,a_5,⟨⟨⟨a_6,a_7,a_8⟩,a_9⟩,a_10⟩,⟨⟨a_11,a_12,a_13⟩,a_14⟩,⟨a_15,a_16⟩,al⟩:=by unfold zK;rfl
  unfold docE
  rw[hK]
  clear hK
  generalize fp ents ⟨1,⟨a_2,a_3,a_4⟩,a_5,⟨⟨⟨a_6,a_7,a_8⟩,a_9⟩,a_10⟩,⟨⟨a_11,a_12,a_13⟩,a_14⟩,⟨a_15,a_16⟩,al⟩=er at *
  simp[af,ah,ad,ae,ab, *,cQ,hx.r,yV,Od,Oc,Ob]
  refine jm (by kernel_rfl) hA fun H1 hG=>?_
  obtain⟨xo,rm,h1,h2,h3⟩:=fin H1 0 hG
  by_cases h0:er=0
  ·subst h0
   by_cases h8:2048≤ops.length
   ·have h8':(2048:Int)≤ops.length:=by omega
    simp[h1,h2,h3,h8,h8']
   ·have h8' : ¬(2048:Int)≤ops.length:=by omega
    simp[h1,h2,h3,h8,h8']
  ·simp[h1,h2,h3,h0]
 ·have hA:=I2 (dep+1) (hg1 ⟨17,[.agg [a8 2,a8 a_2,a32 a_3,a8 a_4,aI a_5,a8 a_6,a32 a_7,a8 a_8,aI a_9,aI a_10,a8 a_11,a32 a_12,a8 a_13,aI a_14,a8 a_15,a32 a_16,x]],false,false⟩).fr (hh.grow (hg1 _)) hb 2 a_2 a_3 a_4 a_5 a_6 a_7 a_8 a_9 a_10 a_11 a_12 a_13 a_14 a_15 a_16 hx hs
  have hK:zK ops ents ⟨2,⟨a_2,a_3,a_4⟩,a_5,⟨⟨⟨a_6,a_7,a_8⟩,a_9⟩,a_10⟩,⟨⟨a_11,a_12,a_13⟩,a_14⟩,⟨a_15,a_16⟩,al⟩=wm ents ⟨2,⟨a_2,a_3,a_4⟩,a_5,⟨⟨⟨a_6,a_7,a_8⟩,a_9⟩,a_10⟩,⟨⟨a_11,a_12,a_13⟩,a_14⟩,⟨a_15,a_16⟩,al⟩:=by unfold zK;rfl
  unfold docE
  rw[hK]
  clear hK
  generalize wm ents ⟨2,⟨a_2,a_3,a_4⟩,a_5,⟨⟨⟨a_6,a_7,a_8⟩,a_9⟩,a_10⟩,⟨⟨a_11,a_12,a_13⟩,a_14⟩,⟨a_15,a_16⟩,al⟩=er at *
  simp[af,ah,ad,ae,ab, *,cQ,hx.r,yV,Od,Oc,Ob]
  refine jm (by kernel_rfl) hA fun H1 hG=>?_
  obtain⟨xo,rm,h1,h2,h3⟩:=fin H1 0 hG
  by_cases h0:er=0
  ·subst h0
   by_cases h8:2048≤ops.length
   ·have h8':(2048:Int)≤ops.length:=by omega
    simp[h1,h2,h3,h8,h8']
   ·have h8' : ¬(2048:Int)≤ops.length:=by omega
    simp[h1,h2,h3,h8,h8']
  ·simp[h1,h2,h3,h0]
 ·have hA:=raise_at (dep+1) (hg1 ⟨17,[.agg [a8 3,a8 a_2,a32 a_3,a8 a_4,aI a_5,a8 a_6,a32 a_7,a8 a_8,aI a_9,aI a_10,a8 a_11,a32 a_12,a8 a_13,aI a_14,a8 a_15,a32 a_16,x]],false,false⟩).fr (hh.grow (hg1 _)) hb hall hl _ _ _ _ _ _ _ _ _ _ _ _ _ _ _ _ hx (by omega) ho
  have hK:zK ops ents ⟨3,⟨a_2,a_3,a_4⟩,a_5,⟨⟨⟨a_6,a_7,a_8⟩,a_9⟩,a_10⟩,⟨⟨a_11,a_12,a_13⟩,a_14⟩,⟨a_15,a_16⟩,al⟩=BA ops ents ⟨3,⟨a_2,a_3,a_4⟩,a_5,⟨⟨⟨a_6,a_7,a_8⟩,a_9⟩,a_10⟩,⟨⟨a_11,a_12,a_13⟩,a_14⟩,⟨a_15,a_16⟩,al⟩:=by unfold zK;rfl
  unfold docE
  rw[hK]
  clear hK
  generalize BA ops ents ⟨3,⟨a_2,a_3,a_4⟩,a_5,⟨⟨⟨a_6,a_7,a_8⟩,a_9⟩,a_10⟩,⟨⟨a_11,a_12,a_13⟩,a_14⟩,⟨a_15,a_16⟩,al⟩=er at *
  simp[af,ah,ad,ae,ab, *,cQ,hx.r,yV,Od,Oc,Ob]
  refine jm (by kernel_rfl) hA fun H1 hG=>?_
  obtain⟨xo,rm,h1,h2,h3⟩:=fin H1 0 hG
  by_cases h0:er=0
  ·subst h0
   by_cases h8:2048≤ops.length
   ·have h8':(2048:Int)≤ops.length:=by omega
    simp[h1,h2,h3,h8,h8']
   ·have h8' : ¬(2048:Int)≤ops.length:=by omega
    simp[h1,h2,h3,h8,h8']
  ·simp[h1,h2,h3,h0]
end
end Go.Proofs.YtmkmimgokagimaaGreat
