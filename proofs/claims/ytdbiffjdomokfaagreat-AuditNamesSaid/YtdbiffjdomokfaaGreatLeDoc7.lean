/-
  Whether an operation fits behind a history: what 'doc.Fits' answers. No statement of a seat is proved here.
-/
import Derived.Test.YtdbiffjdomokfaaGreatLeDoc6
set_option linter.unusedVariables false
set_option linter.unusedSimpArgs false
set_option linter.unusedSectionVars false
set_option linter.unnecessarySimpa false
set_option maxRecDepth 100000
namespace Go.Proofs.YtdbiffjdomokfaaGreat
open Go.Ab
attribute [local simp] bK bw bo bM bL dc kS bU bx bH dJ dI cp bX bh cC List.take_of_length_le
@[simp] theorem UR(r:Ref):(AV.mp r).cells=[.mp r]:=id rfl
@[simp] theorem Yf(r:Ref):(AV.mp r).one=true:=id rfl
section
variable{l:List (bQ × AV)}{x0:AV}(hx:Sl 17 (eJ l) x0)(hall : ∀p∈l,He p∧p.1.l.length<1000000)(hl:l.length<10000)
include hx hall hl
theorem Mf{H:ab}(hF:Fr H) : ∃y H',bR env 0 (.fn 114) [x0] H=some (y,H') ∧∃rh rm,Ex H rh rm l.length (sO [] [] l) y H':=by
 refine lL (Q:=fun y H' =>∃rh rm,Ex H rh rm l.length (sO [] [] l) y H') (fn:=Tryz.f114) (c:=uP) (by kernel_rfl) (by kernel_rfl) (by kernel_rfl) (by kernel_rfl) (by kernel_rfl) ?_
 refine I2 _ _ _ _ fun g=>?_
 have hfin:=fun H2 hI=>Mg hx hall hl (rh:=⟨1,11,H.gen 1 11,0⟩) (rm:=⟨1,9,H.gen 1 9,0⟩) rfl rfl rfl rfl (H0:=H) (Q:=fun y H' =>∃rh rm,Ex H rh rm l.length (sO [] [] l) y H') l 0 0 [] [] H2 rfl (by omega) rfl (by simp) (by simp) (by intro p hp;cases hp) hI (fun y H' h=>⟨_,_,h⟩)
 clear hall
 simp[ah,ai,ae,af,ad, *,Dn,hx.r]
 refine hfin _ ⟨?_,⟨dg,?_,.inl ⟨rfl,rfl⟩⟩,?_,fun q b hq hb=>?_,fun p hp=>nomatch hp⟩
 ·exact by simp(maxDischargeDepth:=12) [ab.get_put,aq,an,Fr.nil,aD,ah,ai,ae,af,ar,ao,ad, *]
 ·simp
 ·simp[cz]
 ·have lq:(H.get q).isSome=true:=by rw[hb];rfl
  simp[ah hF lq,hb]
def tQ(l:List (bQ × AV))(o:bQ):Int:=match sO [] [] l with
 | none=>8
 | some (ops,ents)=>if pW o then Ge ops ents o else 8
theorem Jk(bg:UInt8)(aP:UInt8)(aO:UInt32)(aT:UInt8)(aW:Int)(ba:UInt8)(aZ:UInt32)(bc:UInt8)(bf:Int)(au:Int)(az:UInt8)(ay:UInt32)(ax:UInt8)(aw:Int)(aC:UInt8)(aA:UInt32){x:AV}{al:List Int}(hax:Sl 1 (rows al) x)(hal:al.length<1000000):bj env 94 [x0,.agg [a8 bg,a8 aP,aF aO,a8 aT,aI aW,a8 ba,aF aZ,a8 bc,aI bf,aI au,a8 az,aF ay,a8 ax,aI aw,a8 aC,aF aA,x]]=some (aI (tQ l (⟨bg,⟨aP,aO,aT⟩,aW,⟨⟨⟨ba,aZ,bc⟩,bf⟩,au⟩,⟨⟨az,ay,ax⟩,aw⟩,⟨aC,aA⟩,al⟩:bQ))):=by
 refine aJ (fn:=Tryz.f94) (c:=zi) rfl (by kernel_rfl) (by kernel_rfl) (by kernel_rfl) (by kernel_rfl) ?_;refine EO _ _ _ _ fun g=>?_
 have hC:=kV bg aP aO aT aW ba aZ bc bf au az ay ax aw aC aA hax (by omega)
 obtain⟨y,H2,h1,rh,rm,hF2,hold,hm⟩:=Mf hx hall hl (H:=[(⟨0,3,0,0⟩,some ⟨17,[.agg [a8 bg,a8 aP,aF aO,a8 aT,aI aW,a8 ba,aF aZ,a8 bc,aI bf,aI au,a8 az,aF ay,a8 ax,aI aw,a8 aC,aF aA,x]],false,false⟩)]) (by simp[aq,an,Fr.nil])
 have hb3:=hold ⟨0,3,0,0⟩ _ rfl rfl
 have hw:bm env true (bj env) (bR env 0) [(⟨0,3,0,0⟩,some ⟨17,[.agg [a8 bg,a8 aP,aF aO,a8 aT,aI aW,a8 ba,aF aZ,a8 bc,aI bf,aI au,a8 az,aF ay,a8 ax,aI aw,a8 aC,aF aA,x]],false,false⟩)] ⟨0,10,0,0⟩ (some (.fn (.func 114) [] [])) [x0]=some (y,H2):=by
  rw[yO (by kernel_rfl)]
  exact h1
 unfold tQ
 cases hd:sO [] [] l with
 | none =>
  rw[hd]at hm
  dsimp only at hm
  subst hm
  clear hold hall
  simp[ah,ai,ae,af,ad, *,qI,hx.r,hax.r,hw]
 | some p =>
  obtain⟨ops,ents⟩:=p
  rw[hd]at hm
  dsimp only at hm
  obtain⟨rfl,hI,ho,he,hok⟩:=hm
  clear hold
  cases hb:pW (⟨bg,⟨aP,aO,aT⟩,aW,⟨⟨⟨ba,aZ,bc⟩,bf⟩,au⟩,⟨⟨az,ay,ax⟩,aw⟩,⟨aC,aA⟩,al⟩:bQ) with
  | false =>
   clear hall hI
   simp[ah,ai,ae,af,ad, *,qI,hx.r,hax.r,hw]
  | true =>
   have hf:=IH 0 hF2 hI.ib hI.ok (by omega) hok (by omega) bg aP aO aT aW ba aZ bc bf au az ay ax aw aC aA hax hal hb
   clear hall hI
   simp[ah,ai,ae,af,ad, *,qI,hx.r,hax.r,hw]
   refine kj (by kernel_rfl) hf fun H4 hG=>?_
   simp
end
end Go.Proofs.YtdbiffjdomokfaaGreat
