/-
  What a history tells of an operation: an insert's error, and all of it. No statement of a seat is proved here.
-/
import Derived.Test.YtdbiffjdomokfaaGreatMLeDoc4
set_option linter.unusedVariables false
set_option linter.unusedSimpArgs false
set_option linter.unusedSectionVars false
set_option linter.unnecessarySimpa false
set_option maxRecDepth 100000
namespace Go.Proofs.YtdbiffjdomokfaaGreat
open Go.Ab
attribute [local simp] bD bp bl bC bB cV lj bP bt bA dc db cg bR aV cm List.take_of_length_le
section
variable(dep:Nat){H:ab}(hF:Fr H){rh:Ref}{ops:List (bG × AV)}{ents:List (eE × AV)}(hh:vT H rh ops ents)(hb:pY ents)(he:ents.length<1000000)
include hF hh hb he
theorem L3(bh:UInt8)(aQ:UInt8)(aP:UInt32)(aW:UInt8)(aY:Int)(bc:UInt8)(ba:UInt32)(bf:UInt8)(bg:Int)(au:Int)(az:UInt8)(ay:UInt32)(ax:UInt8)(aw:Int)(aC:UInt8)(aA:UInt32){x:AV}{al:List Int}(hx:Sl 1 (rows al) x)(hal:al.length<1000000)(ho:mT (⟨bh,⟨aQ,aP,aW⟩,aY,⟨⟨⟨bc,ba,bf⟩,bg⟩,au⟩,⟨⟨az,ay,ax⟩,aw⟩,⟨aC,aA⟩,al⟩:bG)=true) :
 ∃H',bV env dep (.fn 133) [.ptr rh 0 0,.agg [a8 bh,a8 aQ,aG aP,a8 aW,aI aY,a8 bc,aG ba,a8 bf,aI bg,aI au,a8 az,aG ay,a8 ax,aI aw,a8 aC,aG aA,x]] H=some (aI (fv ents (⟨bh,⟨aQ,aP,aW⟩,aY,⟨⟨⟨bc,ba,bf⟩,bg⟩,au⟩,⟨⟨az,ay,ax⟩,aw⟩,⟨aC,aA⟩,al⟩:bG)),H')∧cE H H':=by
 have hs:=pf ho
 simp only at hs
 have hn:=ko hs
 simp only at hn
 refine fA (fn:=Tryz.f133) (c:=ir) (by kernel_rfl) (by kernel_rfl) (by kernel_rfl) (by kernel_rfl) (by kernel_rfl) ?_
 refine mm _ _ _ _ _ fun g=>?_
 have hN:=Fm bc ba bf bg au hs
 have hR:=P9 bh aQ aP aW aY bc ba bf bg au az ay ax aw aC aA hx hal
 have w1:=IntWalk.i64_in ((ents.length:Int)+au) (by omega)
 have hg1 : ∀b1 b2:bN,cE H ((⟨dep+1,3,H.gen (dep+1) 3,0⟩,some b2) :: (⟨dep+1,2,H.gen (dep+1) 2,0⟩,some b1) :: H):=fun b1 b2=>⟨by simp(maxDischargeDepth:=12) [ab.get_put,aq,an,Fr.nil,aD,ah,ai,ae,af,ar,ao,ad, *],fun q c hq=>by
  have lq:(H.get q).isSome=true:=by rw[hq];rfl
  simp[ah hF lq,hq]⟩
 have hcont : ∀(Hs:ab),cE H Hs→Hs.get ⟨dep+1,2,H.gen (dep+1) 2,0⟩=some ⟨1,[.ptr rh 0 0],false,false⟩ →
  ∃H',bV env (dep+1) (.fn 156) ([]++[.cw 4 (lb (eD ⟨⟨⟨bc,ba,bf⟩,bg⟩,au⟩)) none,.fn (.func 157) [] [.ptr ⟨dep+1,2,H.gen (dep+1) 2,0⟩ 0 0]]++[]) Hs=some (aB ((eD ⟨⟨⟨bc,ba,bf⟩,bg⟩,au⟩).any (gC ents)),H')∧cE Hs H':=fun Hs hG hq =>
  AK (dep+1) (F:=157) (by kernel_rfl) (Hh _) (zR hs) (p:=gC ents) hG.fr (fun i H' hG'=>by
   have:=Ov (dep+3) hG'.fr ((hh.grow hG).grow hG') hb i.h.lv i.h.cats i.h.num i.n (q:=⟨dep+1,2,H.gen (dep+1) 2,0⟩) (hG'.old _ _ hq)
   exact this)
 cases hz:iM (⟨⟨az,ay,ax⟩,aw⟩:eE) with
 | true =>
  have hno : ¬((!iM (⟨⟨az,ay,ax⟩,aw⟩:eE) && !sE ents (⟨bh,⟨aQ,aP,aW⟩,aY,⟨⟨⟨bc,ba,bf⟩,bg⟩,au⟩,⟨⟨az,ay,ax⟩,aw⟩,⟨aC,aA⟩,al⟩:bG) ⟨⟨az,ay,ax⟩,aw⟩)=true):=by simp[hz]
  have hz':=hz
  unfold iM at hz'
  have hgz : ∀b1 b2 b3:bN,cE H ((⟨dep+1,5,H.gen (dep+1) 5,0⟩,some b3) :: (⟨dep+1,3,H.gen (dep+1) 3,0⟩,some b2) :: (⟨dep+1,2,H.gen (dep+1) 2,0⟩,some b1) :: H):=fun b1 b2 b3=>⟨by simp(maxDischargeDepth:=12) [ab.get_put,aq,an,Fr.nil,aD,ah,ai,ae,af,ar,ao,ad, *],fun q c hq=>by
   have lq:(H.get q).isSome=true:=by rw[hq];rfl
   simp[ah hF lq,hq]⟩
  by_cases e0:Hf (⟨bh,⟨aQ,aP,aW⟩,aY,⟨⟨⟨bc,ba,bf⟩,bg⟩,au⟩,⟨⟨az,ay,ax⟩,aw⟩,⟨aC,aA⟩,al⟩:bG)=0
  rotate_left
  ·rw[if_neg e0]at hR
   have hI:fv ents (⟨bh,⟨aQ,aP,aW⟩,aY,⟨⟨⟨bc,ba,bf⟩,bg⟩,au⟩,⟨⟨az,ay,ax⟩,aw⟩,⟨aC,aA⟩,al⟩:bG)=2:=by unfold fv;rw[if_neg hno,if_pos (.inl e0)]
   simp[ah,ai,ae,af,ad, *,dW,hx.r,lZ,gb,hz',hx.r,hR,e0]
   all_goals exact hgz _ _ _
  ·rw[if_pos e0]at hR
   simp[ah,ai,ae,af,ad, *,dW,hx.r,lZ,gb,hz',hx.r,hR,e0,hN]
   refine k6 (by kernel_rfl) ((fun b=>hcont _ (hgz ⟨1,[.ptr rh 0 0],false,false⟩ ⟨17,[.agg [a8 bh,a8 aQ,aG aP,a8 aW,aI aY,a8 bc,aG ba,a8 bf,aI bg,aI au,a8 az,aG ay,a8 ax,aI aw,a8 aC,aG aA,x]],false,false⟩ b) (by simp)) _) fun H2 hG2=>?_
   have hfin:=((fun b=>hgz ⟨1,[.ptr rh 0 0],false,false⟩ ⟨17,[.agg [a8 bh,a8 aQ,aG aP,a8 aW,aI aY,a8 bc,aG ba,a8 bf,aI bg,aI au,a8 az,aG ay,a8 ax,aI aw,a8 aC,aG aA,x]],false,false⟩ b) _).trans hG2
   obtain⟨xo,vo,rm,h1,h2,h3⟩:=(hh.grow hfin).box
   have hlm:=KC (r:=⟨dep+1,37,H2.gen (dep+1) 37,0⟩) h3
   have hb2:=hG2.old _ _ ((fun(b:bN)=>(by simp:ab.get ((⟨dep+1,5,H.gen (dep+1) 5,0⟩,some b) :: (⟨dep+1,3,H.gen (dep+1) 3,0⟩,some ⟨17,[.agg [a8 bh,a8 aQ,aG aP,a8 aW,aI aY,a8 bc,aG ba,a8 bf,aI bg,aI au,a8 az,aG ay,a8 ax,aI aw,a8 aC,aG aA,x]],false,false⟩) :: (⟨dep+1,2,H.gen (dep+1) 2,0⟩,some ⟨1,[.ptr rh 0 0],false,false⟩) :: H) ⟨dep+1,2,H.gen (dep+1) 2,0⟩=some ⟨1,[.ptr rh 0 0],false,false⟩)) _)
   have hb3:=hG2.old _ _ ((fun(b:bN)=>(by simp:ab.get ((⟨dep+1,5,H.gen (dep+1) 5,0⟩,some b) :: (⟨dep+1,3,H.gen (dep+1) 3,0⟩,some ⟨17,[.agg [a8 bh,a8 aQ,aG aP,a8 aW,aI aY,a8 bc,aG ba,a8 bf,aI bg,aI au,a8 az,aG ay,a8 ax,aI aw,a8 aC,aG aA,x]],false,false⟩) :: (⟨dep+1,2,H.gen (dep+1) 2,0⟩,some ⟨1,[.ptr rh 0 0],false,false⟩) :: H) ⟨dep+1,3,H.gen (dep+1) 3,0⟩=some ⟨17,[.agg [a8 bh,a8 aQ,aG aP,a8 aW,aI aY,a8 bc,aG ba,a8 bf,aI bg,aI au,a8 az,aG ay,a8 ax,aI aw,a8 aC,aG aA,x]],false,false⟩)) _)
   cases hany:(eD ⟨⟨⟨bc,ba,bf⟩,bg⟩,au⟩).any (gC ents) with
   | true =>
    have hI:fv ents (⟨bh,⟨aQ,aP,aW⟩,aY,⟨⟨⟨bc,ba,bf⟩,bg⟩,au⟩,⟨⟨az,ay,ax⟩,aw⟩,⟨aC,aA⟩,al⟩:bG)=2:=by unfold fv;rw[if_neg hno,if_pos (.inr hany)]
    simp[hfin,hI]
   | false =>
    have hno2 : ¬(Hf (⟨bh,⟨aQ,aP,aW⟩,aY,⟨⟨⟨bc,ba,bf⟩,bg⟩,au⟩,⟨⟨az,ay,ax⟩,aw⟩,⟨aC,aA⟩,al⟩:bG)≠0∨(eD ⟨⟨⟨bc,ba,bf⟩,bg⟩,au⟩).any (gC ents)=true):=by rw[hany];simp[e0]
    by_cases h8:8192<(ents.length:Int)+au
    ·have hI:fv ents (⟨bh,⟨aQ,aP,aW⟩,aY,⟨⟨⟨bc,ba,bf⟩,bg⟩,au⟩,⟨⟨az,ay,ax⟩,aw⟩,⟨aC,aA⟩,al⟩:bG)=4:=by unfold fv;rw[if_neg hno,if_neg hno2,if_pos h8]
     simp[hfin,hI,hb2,hb3,h1,hlm,w1,h8,hx.r]
    ·have hI:fv ents (⟨bh,⟨aQ,aP,aW⟩,aY,⟨⟨⟨bc,ba,bf⟩,bg⟩,au⟩,⟨⟨az,ay,ax⟩,aw⟩,⟨aC,aA⟩,al⟩:bG)=0:=by unfold fv;rw[if_neg hno,if_neg hno2,if_neg h8]
     simp[hfin,hI,hb2,hb3,h1,hlm,w1,h8,hx.r]
 | false =>
  have hz':=hz
  unfold iM at hz'
  have hS:=Ke (dep+1) (hg1 ⟨1,[.ptr rh 0 0],false,false⟩ ⟨17,[.agg [a8 bh,a8 aQ,aG aP,a8 aW,aI aY,a8 bc,aG ba,a8 bf,aI bg,aI au,a8 az,aG ay,a8 ax,aI aw,a8 aC,aG aA,x]],false,false⟩).fr (hh.grow (hg1 _ _)) hb bh aQ aP aW aY bc ba bf bg au az ay ax aw aC aA az ay ax aw hx
  simp[ah,ai,ae,af,ad, *,dW,hx.r,lZ,gb,hz']
  refine k6 (by kernel_rfl) hS fun H1 hG1=>?_
  have hGa:=(hg1 _ _).trans hG1
  have hF1:=hGa.fr
  have hb2a:=hG1.old ⟨dep+1,2,H.gen (dep+1) 2,0⟩ _ (by simp;rfl)
  have hb3a:=hG1.old ⟨dep+1,3,H.gen (dep+1) 3,0⟩ _ (by simp;rfl)
  have l2a:(H1.get ⟨dep+1,2,H.gen (dep+1) 2,0⟩).isSome=true:=by rw[hb2a];rfl
  have l3a:(H1.get ⟨dep+1,3,H.gen (dep+1) 3,0⟩).isSome=true:=by rw[hb3a];rfl
  have hgz : ∀b3:bN,cE H ((⟨dep+1,5,H1.gen (dep+1) 5,0⟩,some b3) :: H1):=fun b3=>hGa.trans (cE.cons hF1 _ _ _)
  clear hg1
  cases hsb:sE ents (⟨bh,⟨aQ,aP,aW⟩,aY,⟨⟨⟨bc,ba,bf⟩,bg⟩,au⟩,⟨⟨az,ay,ax⟩,aw⟩,⟨aC,aA⟩,al⟩:bG) ⟨⟨az,ay,ax⟩,aw⟩ with
  | false =>
   have hI:fv ents (⟨bh,⟨aQ,aP,aW⟩,aY,⟨⟨⟨bc,ba,bf⟩,bg⟩,au⟩,⟨⟨az,ay,ax⟩,aw⟩,⟨aC,aA⟩,al⟩:bG)=6:=by unfold fv;rw[if_pos (by simp[hz,hsb])]
   simp[hI,hGa]
  | true =>
   have hno : ¬((!iM (⟨⟨az,ay,ax⟩,aw⟩:eE) && !sE ents (⟨bh,⟨aQ,aP,aW⟩,aY,⟨⟨⟨bc,ba,bf⟩,bg⟩,au⟩,⟨⟨az,ay,ax⟩,aw⟩,⟨aC,aA⟩,al⟩:bG) ⟨⟨az,ay,ax⟩,aw⟩)=true):=by simp[hsb]
   by_cases e0:Hf (⟨bh,⟨aQ,aP,aW⟩,aY,⟨⟨⟨bc,ba,bf⟩,bg⟩,au⟩,⟨⟨az,ay,ax⟩,aw⟩,⟨aC,aA⟩,al⟩:bG)=0
   rotate_left
   ·rw[if_neg e0]at hR
    have hI:fv ents (⟨bh,⟨aQ,aP,aW⟩,aY,⟨⟨⟨bc,ba,bf⟩,bg⟩,au⟩,⟨⟨az,ay,ax⟩,aw⟩,⟨aC,aA⟩,al⟩:bG)=2:=by unfold fv;rw[if_neg hno,if_pos (.inl e0)]
    simp[hb2a,hb3a,hx.r,hR,e0,hI,ah hF1 l2a,ah hF1 l3a,hgz]
   ·rw[if_pos e0]at hR
    simp[hb2a,hb3a,hx.r,hR,e0,hN,ah hF1 l2a,ah hF1 l3a]
    have hc:=fun b=>hcont _ (hgz b) (by rw[ab.po,if_neg (pS hF1 l2a _ _ _)];exact hb2a)
    refine k6 (by kernel_rfl) (hc _) fun H2 hG2=>?_
    have hfin:=(hgz _).trans hG2
    obtain⟨xo,vo,rm,h1,h2,h3⟩:=(hh.grow hfin).box
    have hlm:=KC (r:=⟨dep+1,37,H2.gen (dep+1) 37,0⟩) h3
    have hb2:=hG2.old ⟨dep+1,2,H.gen (dep+1) 2,0⟩ _ (by rw[ab.po,if_neg (pS hF1 l2a _ _ _)];exact hb2a)
    have hb3:=hG2.old ⟨dep+1,3,H.gen (dep+1) 3,0⟩ _ (by rw[ab.po,if_neg (pS hF1 l3a _ _ _)];exact hb3a)
    cases hany:(eD ⟨⟨⟨bc,ba,bf⟩,bg⟩,au⟩).any (gC ents) with
    | true =>
     have hI:fv ents (⟨bh,⟨aQ,aP,aW⟩,aY,⟨⟨⟨bc,ba,bf⟩,bg⟩,au⟩,⟨⟨az,ay,ax⟩,aw⟩,⟨aC,aA⟩,al⟩:bG)=2:=by unfold fv;rw[if_neg hno,if_pos (.inr hany)]
     simp[hfin,hI]
    | false =>
     have hno2 : ¬(Hf (⟨bh,⟨aQ,aP,aW⟩,aY,⟨⟨⟨bc,ba,bf⟩,bg⟩,au⟩,⟨⟨az,ay,ax⟩,aw⟩,⟨aC,aA⟩,al⟩:bG)≠0∨(eD ⟨⟨⟨bc,ba,bf⟩,bg⟩,au⟩).any (gC ents)=true):=by rw[hany];simp[e0]
     by_cases h8:8192<(ents.length:Int)+au
     ·have hI:fv ents (⟨bh,⟨aQ,aP,aW⟩,aY,⟨⟨⟨bc,ba,bf⟩,bg⟩,au⟩,⟨⟨az,ay,ax⟩,aw⟩,⟨aC,aA⟩,al⟩:bG)=4:=by unfold fv;rw[if_neg hno,if_neg hno2,if_pos h8]
      simp[hfin,hI,hb2,hb3,h1,hlm,w1,h8,hx.r]
     ·have hI:fv ents (⟨bh,⟨aQ,aP,aW⟩,aY,⟨⟨⟨bc,ba,bf⟩,bg⟩,au⟩,⟨⟨az,ay,ax⟩,aw⟩,⟨aC,aA⟩,al⟩:bG)=0:=by unfold fv;rw[if_neg hno,if_neg hno2,if_neg h8]
      simp[hfin,hI,hb2,hb3,h1,hlm,w1,h8,hx.r]
omit hF hh hb he in
theorem zJ:cK env.P 206 (some [(1,AV.fn (Fn.func 133) [] []),(2,AV.fn (Fn.func 134) [] []),(3,AV.fn (Fn.func 135) [] [])]) =
 some (.agg [.v .nilFunc,.fn (.func 133) [] [],.fn (.func 134) [] [],.fn (.func 135) [] []],[]):=by kernel_rfl
omit hF hh hb he in
theorem MX:nL env.P 206 (some (.agg [.v .nilFunc,.fn (.func 133) [] [],.fn (.func 134) [] [],.fn (.func 135) [] []])) (some (a8 1))=some (.fn (.func 133) [] [],[]):=by kernel_rfl
omit hF hh hb he in
theorem MW:nL env.P 206 (some (.agg [.v .nilFunc,.fn (.func 133) [] [],.fn (.func 134) [] [],.fn (.func 135) [] []])) (some (a8 2))=some (.fn (.func 134) [] [],[]):=by kernel_rfl
omit hF hh hb he in
theorem MV:nL env.P 206 (some (.agg [.v .nilFunc,.fn (.func 133) [] [],.fn (.func 134) [] [],.fn (.func 135) [] []])) (some (a8 3))=some (.fn (.func 135) [] [],[]):=by kernel_rfl
theorem KM(hall : ∀p∈ops,Jm p)(hl:ops.length<100000)(bh:UInt8)(aQ:UInt8)(aP:UInt32)(aW:UInt8)(aY:Int)(bc:UInt8)(ba:UInt32)(bf:UInt8)(bg:Int)(au:Int)(az:UInt8)(ay:UInt32)(ax:UInt8)(aw:Int)(aC:UInt8)(aA:UInt32){x:AV}{al:List Int}(hx:Sl 1 (rows al) x)(hal:al.length<1000000)(ho:mT (⟨bh,⟨aQ,aP,aW⟩,aY,⟨⟨⟨bc,ba,bf⟩,bg⟩,au⟩,⟨⟨az,ay,ax⟩,aw⟩,⟨aC,aA⟩,al⟩:bG)=true) :
 ∃H',bV env dep (.fn 116) [.ptr rh 0 0,.agg [a8 bh,a8 aQ,aG aP,a8 aW,aI aY,a8 bc,aG ba,a8 bf,aI bg,aI au,a8 az,aG ay,a8 ax,aI aw,a8 aC,aG aA,x]] H=some (aI (tH ops ents (⟨bh,⟨aQ,aP,aW⟩,aY,⟨⟨⟨bc,ba,bf⟩,bg⟩,au⟩,⟨⟨az,ay,ax⟩,aw⟩,⟨aC,aA⟩,al⟩:bG)),H')∧cE H H':=by
 refine fA (fn:=Tryz.f116) (c:=iT) (by kernel_rfl) (by kernel_rfl) (by kernel_rfl) (by kernel_rfl) (by kernel_rfl) ?_
 refine nk _ _ _ _ _ fun g=>?_
 have hs:=pf ho
 simp only at hs
 have hg1 : ∀b1:bN,cE H ((⟨dep+1,3,H.gen (dep+1) 3,0⟩,some b1) :: H):=fun b1=>cE.cons hF _ _ _
 have hk:bh=1∨bh=2∨bh=3:=by
  simp only[mT,Bool.and_eq_true]at ho
  have h:=ho.2.2.2.2
  unfold Jp at h
  split at h
  ·exact .inl (by assumption)
  ·split at h
   ·exact .inr (.inl (by assumption))
   ·split at h
    ·exact .inr (.inr (by assumption))
    ·cases h
 have fin : ∀(H1:ab)(e:Int),cE ((⟨dep+1,3,H.gen (dep+1) 3,0⟩,some ⟨17,[.agg [a8 bh,a8 aQ,aG aP,a8 aW,aI aY,a8 bc,aG ba,a8 bf,aI bg,aI au,a8 az,aG ay,a8 ax,aI aw,a8 aC,aG aA,x]],false,false⟩) :: H) H1 →∃(xo:AV) (rm:Ref),H1.get rh=some ⟨2,[.agg [xo,.mp rm]],false,false⟩∧rq xo=some ops.length∧cE H H1:=by
  intro H1 e hG
  obtain⟨xo,vo,rm,h1,h2,h3⟩:=((hh.grow (hg1 _)).grow hG).box
  exact⟨xo,rm,h1,by rw[h2.len];simp,(hg1 _).trans hG⟩
 rcases hk with rfl | rfl | rfl
 ·have hA:=L3 (dep+1) (hg1 ⟨17,[.agg [a8 1,a8 aQ,aG aP,a8 aW,aI aY,a8 bc,aG ba,a8 bf,aI bg,aI au,a8 az,aG ay,a8 ax,aI aw,a8 aC,aG aA,x]],false,false⟩).fr (hh.grow (hg1 _)) hb he _ _ _ _ _ _ _ _ _ _ _ _ _ _ _ _ hx hal ho
  have hK:uj ops ents ⟨1,⟨aQ,aP,aW⟩,aY,⟨⟨⟨bc,ba,bf⟩,bg⟩,au⟩,⟨⟨az,ay,ax⟩,aw⟩,⟨aC,aA⟩,al⟩=fv ents ⟨1,⟨aQ,aP,aW⟩,aY,⟨⟨⟨bc,ba,bf⟩,bg⟩,au⟩,⟨⟨az,ay,ax⟩,aw⟩,⟨aC,aA⟩,al⟩:=by unfold uj;rfl
  unfold tH
  rw[hK]
  clear hK
  generalize fv ents ⟨1,⟨aQ,aP,aW⟩,aY,⟨⟨⟨bc,ba,bf⟩,bg⟩,au⟩,⟨⟨az,ay,ax⟩,aw⟩,⟨aC,aA⟩,al⟩=er at *
  simp[ah,ai,ae,af,ad, *,ef,hx.r,zJ,MX,MW,MV]
  refine k6 (by kernel_rfl) hA fun H1 hG=>?_
  obtain⟨xo,rm,h1,h2,h3⟩:=fin H1 0 hG
  by_cases h0:er=0
  ·subst h0
   by_cases h8:2048≤ops.length
   ·have h8':(2048:Int)≤ops.length:=by omega
    simp[h1,h2,h3,h8,h8']
   ·have h8' : ¬(2048:Int)≤ops.length:=by omega
    simp[h1,h2,h3,h8,h8']
  ·simp[h1,h2,h3,h0]
 ·have hA:=Lv (dep+1) (hg1 ⟨17,[.agg [a8 2,a8 aQ,aG aP,a8 aW,aI aY,a8 bc,aG ba,a8 bf,aI bg,aI au,a8 az,aG ay,a8 ax,aI aw,a8 aC,aG aA,x]],false,false⟩).fr (hh.grow (hg1 _)) hb 2 aQ aP aW aY bc ba bf bg au az ay ax aw aC aA hx hs
  have hK:uj ops ents ⟨2,⟨aQ,aP,aW⟩,aY,⟨⟨⟨bc,ba,bf⟩,bg⟩,au⟩,⟨⟨az,ay,ax⟩,aw⟩,⟨aC,aA⟩,al⟩=wi ents ⟨2,⟨aQ,aP,aW⟩,aY,⟨⟨⟨bc,ba,bf⟩,bg⟩,au⟩,⟨⟨az,ay,ax⟩,aw⟩,⟨aC,aA⟩,al⟩:=by unfold uj;rfl
  unfold tH
  rw[hK]
  clear hK
  generalize wi ents ⟨2,⟨aQ,aP,aW⟩,aY,⟨⟨⟨bc,ba,bf⟩,bg⟩,au⟩,⟨⟨az,ay,ax⟩,aw⟩,⟨aC,aA⟩,al⟩=er at *
  simp[ah,ai,ae,af,ad, *,ef,hx.r,zJ,MX,MW,MV]
  refine k6 (by kernel_rfl) hA fun H1 hG=>?_
  obtain⟨xo,rm,h1,h2,h3⟩:=fin H1 0 hG
  by_cases h0:er=0
  ·subst h0
   by_cases h8:2048≤ops.length
   ·have h8':(2048:Int)≤ops.length:=by omega
    simp[h1,h2,h3,h8,h8']
   ·have h8' : ¬(2048:Int)≤ops.length:=by omega
    simp[h1,h2,h3,h8,h8']
  ·simp[h1,h2,h3,h0]
 ·have hA:=raise_at (dep+1) (hg1 ⟨17,[.agg [a8 3,a8 aQ,aG aP,a8 aW,aI aY,a8 bc,aG ba,a8 bf,aI bg,aI au,a8 az,aG ay,a8 ax,aI aw,a8 aC,aG aA,x]],false,false⟩).fr (hh.grow (hg1 _)) hb hall hl _ _ _ _ _ _ _ _ _ _ _ _ _ _ _ _ hx (by omega) ho
  have hK:uj ops ents ⟨3,⟨aQ,aP,aW⟩,aY,⟨⟨⟨bc,ba,bf⟩,bg⟩,au⟩,⟨⟨az,ay,ax⟩,aw⟩,⟨aC,aA⟩,al⟩=xt ops ents ⟨3,⟨aQ,aP,aW⟩,aY,⟨⟨⟨bc,ba,bf⟩,bg⟩,au⟩,⟨⟨az,ay,ax⟩,aw⟩,⟨aC,aA⟩,al⟩:=by unfold uj;rfl
  unfold tH
  rw[hK]
  clear hK
  generalize xt ops ents ⟨3,⟨aQ,aP,aW⟩,aY,⟨⟨⟨bc,ba,bf⟩,bg⟩,au⟩,⟨⟨az,ay,ax⟩,aw⟩,⟨aC,aA⟩,al⟩=er at *
  simp[ah,ai,ae,af,ad, *,ef,hx.r,zJ,MX,MW,MV]
  refine k6 (by kernel_rfl) hA fun H1 hG=>?_
  obtain⟨xo,rm,h1,h2,h3⟩:=fin H1 0 hG
  by_cases h0:er=0
  ·subst h0
   by_cases h8:2048≤ops.length
   ·have h8':(2048:Int)≤ops.length:=by omega
    simp[h1,h2,h3,h8,h8']
   ·have h8' : ¬(2048:Int)≤ops.length:=by omega
    simp[h1,h2,h3,h8,h8']
  ·simp[h1,h2,h3,h0]
end
end Go.Proofs.YtdbiffjdomokfaaGreat
