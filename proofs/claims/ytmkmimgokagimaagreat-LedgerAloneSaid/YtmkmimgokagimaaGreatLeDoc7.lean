/-
  Whether an operation fits behind a history: what 'doc.Fits' answers. No statement of a seat is proved here.
-/
import Derived.Test.YtmkmimgokagimaaGreatLeDoc6
set_option linter.unusedVariables false
set_option linter.unusedSimpArgs false
set_option linter.unusedSectionVars false
set_option linter.unnecessarySimpa false
set_option maxRecDepth 100000
namespace Go.Proofs.YtmkmimgokagimaaGreat
open Go.Ab
attribute [local simp] bm aP aG bh bg keep thr bF aY bf dw dv cV bG aC cd List.take_of_length_le
@[simp] theorem Tx(r:Ref):(AV.mp r).cells=[.mp r]:=id rfl
@[simp] theorem WC(r:Ref):(AV.mp r).one=true:=id rfl
section
variable{l:List (Opn × AV)}{x0:AV}(hx:Sl 17 (bN l) x0)(hall : ∀p∈l,okO p∧p.1.l.length<1000000)(hl:l.length<10000)
include hx hall hl
theorem Gb{H:Heap}(hF:Fr H) : ∃y H',limt env 0 (.fn 172) [x0] H=some (y,H') ∧∃rh rm,Gl H rh rm l.length (ji [] [] l) y H':=by
 refine gh (Q:=fun y H' =>∃rh rm,Gl H rh rm l.length (ji [] [] l) y H') (fn:=Tryz.f172) (c:=vi) (by kernel_rfl) (by kernel_rfl) (by kernel_rfl) (by kernel_rfl) (by kernel_rfl) ?_
 refine HD _ _ _ _ fun g=>?_
 have hfin:=fun H2 hI=>L3 hx hall hl (rh:=⟨1,11,H.gen 1 11,0⟩) (rm:=⟨1,9,H.gen 1 9,0⟩) rfl rfl rfl rfl (H0:=H) (Q:=fun y H' =>∃rh rm,Gl H rh rm l.length (ji [] [] l) y H') l 0 0 [] [] H2 rfl (by omega) rfl (by simp) (by simp) (by intro p hp;cases hp) hI (fun y H' h=>⟨_,_,h⟩)
 clear hall
 simp[af,ah,ad,ae,ab, *,DJ,hx.r]
 refine hfin _ ⟨?_,⟨aNil,?_,.inl ⟨rfl,rfl⟩⟩,?_,fun q b hq hb=>?_,fun p hp=>nomatch hp⟩
 ·exact by simp(maxDischargeDepth:=12) [Heap.an,ar,aj,Fr.nil,au,af,ah,ad,ae,aq,ak,ab, *]
 ·simp
 ·simp[dk]
 ·have lq:(H.get q).isSome=true:=by rw[hb];rfl
  simp[af hF lq,hb]
def mG(l:List (Opn × AV))(o:Opn):Int:=match ji [] [] l with
 | none=>8
 | some (ops,ents)=>if opB o then docE ops ents o else 8
theorem It(a_1:UInt8)(a_2:UInt8)(a_3:UInt32)(a_4:UInt8)(a_5:Int)(a_6:UInt8)(a_7:UInt32)(a_8:UInt8)(a_9:Int)(a_10:Int)(a_11:UInt8)(a_12:UInt32)(a_13:UInt8)(a_14:Int)(a_15:UInt8)(a_16:UInt32){x:AV}{al:List Int}(hax:Sl 1 (rows al) x)(hal:al.length<1000000):limf env 137 [x0,.agg [a8 a_1,a8 a_2,a32 a_3,a8 a_4,aI a_5,a8 a_6,a32 a_7,a8 a_8,aI a_9,aI a_10,a8 a_11,a32 a_12,a8 a_13,aI a_14,a8 a_15,a32 a_16,x]]=some (aI (mG l (⟨a_1,⟨a_2,a_3,a_4⟩,a_5,⟨⟨⟨a_6,a_7,a_8⟩,a_9⟩,a_10⟩,⟨⟨a_11,a_12,a_13⟩,a_14⟩,⟨a_15,a_16⟩,al⟩:Opn))):=by
 refine az (fn:=Tryz.f137) (c:=zJ) rfl (by kernel_rfl) (by kernel_rfl) (by kernel_rfl) (by kernel_rfl) ?_;refine DY _ _ _ _ fun g=>?_
 have hC:=jX a_1 a_2 a_3 a_4 a_5 a_6 a_7 a_8 a_9 a_10 a_11 a_12 a_13 a_14 a_15 a_16 hax (by omega)
 obtain⟨y,H2,h1,rh,rm,hF2,hold,hm⟩:=Gb hx hall hl (H:=[(⟨0,3,0,0⟩,some ⟨17,[.agg [a8 a_1,a8 a_2,a32 a_3,a8 a_4,aI a_5,a8 a_6,a32 a_7,a8 a_8,aI a_9,aI a_10,a8 a_11,a32 a_12,a8 a_13,aI a_14,a8 a_15,a32 a_16,x]],false,false⟩)]) (by simp[ar,aj,Fr.nil])
 have hb3:=hold ⟨0,3,0,0⟩ _ rfl rfl
 have hw:aF env true (limf env) (limt env 0) [(⟨0,3,0,0⟩,some ⟨17,[.agg [a8 a_1,a8 a_2,a32 a_3,a8 a_4,aI a_5,a8 a_6,a32 a_7,a8 a_8,aI a_9,aI a_10,a8 a_11,a32 a_12,a8 a_13,aI a_14,a8 a_15,a32 a_16,x]],false,false⟩)] ⟨0,10,0,0⟩ (some (.fn (.func 172) [] [])) [x0]=some (y,H2):=by
  rw[zB (by kernel_rfl)]
  exact h1
 unfold mG
 cases hd:ji [] [] l with
 | none =>
  rw[hd]at hm
  dsimp only at hm
  subst hm
  clear hold hall
  simp[af,ah,ad,ae,ab, *,qA,hx.r,hax.r,hw]
 | some p =>
  obtain⟨ops,ents⟩:=p
  rw[hd]at hm
  dsimp only at hm
  obtain⟨rfl,hI,ho,he,hok⟩:=hm
  clear hold
  cases hb:opB (⟨a_1,⟨a_2,a_3,a_4⟩,a_5,⟨⟨⟨a_6,a_7,a_8⟩,a_9⟩,a_10⟩,⟨⟨a_11,a_12,a_13⟩,a_14⟩,⟨a_15,a_16⟩,al⟩:Opn) with
  | false =>
   clear hall hI
   simp[af,ah,ad,ae,ab, *,qA,hx.r,hax.r,hw]
  | true =>
   have hf:=JM 0 hF2 hI.hist hI.ok (by omega) hok (by omega) a_1 a_2 a_3 a_4 a_5 a_6 a_7 a_8 a_9 a_10 a_11 a_12 a_13 a_14 a_15 a_16 hax hal hb
   clear hall hI
   simp[af,ah,ad,ae,ab, *,qA,hx.r,hax.r,hw]
   refine lM (by kernel_rfl) hf fun H4 hG=>?_
   simp
end
end Go.Proofs.YtmkmimgokagimaaGreat
