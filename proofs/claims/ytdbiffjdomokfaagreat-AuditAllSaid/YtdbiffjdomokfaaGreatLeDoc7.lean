/-
  Whether an operation fits behind a history: what 'doc.Fits' answers. No statement of a seat is proved here.
-/
import Derived.Test.YtdbiffjdomokfaaGreatLeDoc6
set_option linter.unusedVariables false
set_option linter.unusedSimpArgs false
set_option linter.unusedSectionVars false
set_option linter.unnecessarySimpa false
set_option maxRecDepth 100000
namespace Go.Proofs.YtdbiffjdomokfaaGreat
open Go.Ab
attribute [local simp] bD bq bo bF bE cZ ld bQ bx bA dx dw cg bT aY ct List.take_of_length_le
@[simp] theorem WJ(r:Ref):(AV.mp r).cells=[.mp r]:=id rfl
@[simp] theorem ZV(r:Ref):(AV.mp r).one=true:=id rfl
section
variable{l:List (bR × AV)}{x0:AV}(hx:Sl 17 (eU l) x0)(hall : ∀p∈l,ID p∧p.1.l.length<1000000)(hl:l.length<10000)
include hx hall hl
theorem NY{H:ab}(hF:Fr H) : ∃y H',bU env 0 (.fn 114) [x0] H=some (y,H') ∧∃rh rm,Fw H rh rm l.length (tP [] [] l) y H':=by
 refine mv (Q:=fun y H' =>∃rh rm,Fw H rh rm l.length (tP [] [] l) y H') (fn:=Tryz.f114) (c:=vN) (by kernel_rfl) (by kernel_rfl) (by kernel_rfl) (by kernel_rfl) (by kernel_rfl) ?_
 refine Ki _ _ _ _ fun g=>?_
 have hfin:=fun H2 hI=>NZ hx hall hl (rh:=⟨1,11,H.gen 1 11,0⟩) (rm:=⟨1,9,H.gen 1 9,0⟩) rfl rfl rfl rfl (H0:=H) (Q:=fun y H' =>∃rh rm,Fw H rh rm l.length (tP [] [] l) y H') l 0 0 [] [] H2 rfl (by omega) rfl (by simp) (by simp) (by intro p hp;cases hp) hI (fun y H' h=>⟨_,_,h⟩)
 clear hall
 simp[ah,ai,ae,af,ad, *,Er,hx.r]
 refine hfin _ ⟨?_,⟨cW,?_,.inl ⟨rfl,rfl⟩⟩,?_,fun q b hq hb=>?_,fun p hp=>nomatch hp⟩
 ·exact by simp(maxDischargeDepth:=12) [ab.get_put,aq,an,Fr.nil,aD,ah,ai,ae,af,ar,ao,ad, *]
 ·simp
 ·simp[cD]
 ·have lq:(H.get q).isSome=true:=by rw[hb];rfl
  simp[ah hF lq,hb]
def uW(l:List (bR × AV))(o:bR):Int:=match tP [] [] l with
 | none=>8
 | some (ops,ents)=>if qy o then Ho ops ents o else 8
theorem KB(bh:UInt8)(aQ:UInt8)(aP:UInt32)(aT:UInt8)(aX:Int)(bc:UInt8)(ba:UInt32)(bf:UInt8)(bg:Int)(au:Int)(az:UInt8)(ay:UInt32)(ax:UInt8)(aw:Int)(aC:UInt8)(aA:UInt32){x:AV}{al:List Int}(hax:Sl 1 (rows al) x)(hal:al.length<1000000):bj env 94 [x0,.agg [a8 bh,a8 aQ,aF aP,a8 aT,aI aX,a8 bc,aF ba,a8 bf,aI bg,aI au,a8 az,aF ay,a8 ax,aI aw,a8 aC,aF aA,x]]=some (aI (uW l (⟨bh,⟨aQ,aP,aT⟩,aX,⟨⟨⟨bc,ba,bf⟩,bg⟩,au⟩,⟨⟨az,ay,ax⟩,aw⟩,⟨aC,aA⟩,al⟩:bR))):=by
 refine aL (fn:=Tryz.f94) (c:=An) rfl (by kernel_rfl) (by kernel_rfl) (by kernel_rfl) (by kernel_rfl) ?_;refine FN _ _ _ _ fun g=>?_
 have hC:=lG bh aQ aP aT aX bc ba bf bg au az ay ax aw aC aA hax (by omega)
 obtain⟨y,H2,h1,rh,rm,hF2,hold,hm⟩:=NY hx hall hl (H:=[(⟨0,3,0,0⟩,some ⟨17,[.agg [a8 bh,a8 aQ,aF aP,a8 aT,aI aX,a8 bc,aF ba,a8 bf,aI bg,aI au,a8 az,aF ay,a8 ax,aI aw,a8 aC,aF aA,x]],false,false⟩)]) (by simp[aq,an,Fr.nil])
 have hb3:=hold ⟨0,3,0,0⟩ _ rfl rfl
 have hw:bn env true (bj env) (bU env 0) [(⟨0,3,0,0⟩,some ⟨17,[.agg [a8 bh,a8 aQ,aF aP,a8 aT,aI aX,a8 bc,aF ba,a8 bf,aI bg,aI au,a8 az,aF ay,a8 ax,aI aw,a8 aC,aF aA,x]],false,false⟩)] ⟨0,10,0,0⟩ (some (.fn (.func 114) [] [])) [x0]=some (y,H2):=by
  rw[zQ (by kernel_rfl)]
  exact h1
 unfold uW
 cases hd:tP [] [] l with
 | none =>
  rw[hd]at hm
  dsimp only at hm
  subst hm
  clear hold hall
  simp[ah,ai,ae,af,ad, *,rz,hx.r,hax.r,hw]
 | some p =>
  obtain⟨ops,ents⟩:=p
  rw[hd]at hm
  dsimp only at hm
  obtain⟨rfl,hI,ho,he,hok⟩:=hm
  clear hold
  cases hb:qy (⟨bh,⟨aQ,aP,aT⟩,aX,⟨⟨⟨bc,ba,bf⟩,bg⟩,au⟩,⟨⟨az,ay,ax⟩,aw⟩,⟨aC,aA⟩,al⟩:bR) with
  | false =>
   clear hall hI
   simp[ah,ai,ae,af,ad, *,rz,hx.r,hax.r,hw]
  | true =>
   have hf:=JZ 0 hF2 hI.iD hI.ok (by omega) hok (by omega) bh aQ aP aT aX bc ba bf bg au az ay ax aw aC aA hax hal hb
   clear hall hI
   simp[ah,ai,ae,af,ad, *,rz,hx.r,hax.r,hw]
   refine kU (by kernel_rfl) hf fun H4 hG=>?_
   simp
end
end Go.Proofs.YtdbiffjdomokfaaGreat
