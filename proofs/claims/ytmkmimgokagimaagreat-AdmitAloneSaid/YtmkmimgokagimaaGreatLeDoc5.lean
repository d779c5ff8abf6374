/-
  What a history tells of an operation: an insert's error, and all of it. No statement of a seat is proved here.
-/
import Derived.Test.YtmkmimgokagimaaGreatMLeDoc4
set_option linter.unusedVariables false
set_option linter.unusedSimpArgs false
set_option linter.unusedSectionVars false
set_option linter.unnecessarySimpa false
set_option maxRecDepth 100000
namespace Go.Proofs.YtmkmimgokagimaaGreat
open Go.Ab
attribute [local simp] bJ bw bt bG bF cL kN bX bx bD cR cQ cr bY bh ct List.take_of_length_le
section
variable(dep:Nat){H:ad}(hF:Fr H){rh:Ref}{ops:List (bz × AV)}{ents:List (eJ × AV)}(hh:yK H rh ops ents)(hb:ri ents)(he:ents.length<1000000)
include hF hh hb he
theorem O1(ba:UInt8)(aO:UInt8)(aN:UInt32)(aT:UInt8)(aV:Int)(aX:UInt8)(aW:UInt32)(aY:UInt8)(aZ:Int)(an:Int)(ay:UInt8)(ax:UInt32)(aw:UInt8)(au:Int)(aA:UInt8)(az:UInt32){x:AV}{al:List Int}(hx:Sl 1 (rows al) x)(hal:al.length<1000000)(ho:la (⟨ba,⟨aO,aN,aT⟩,aV,⟨⟨⟨aX,aW,aY⟩,aZ⟩,an⟩,⟨⟨ay,ax,aw⟩,au⟩,⟨aA,az⟩,al⟩:bz)=true) :
 ∃H',bO env dep (.fn 218) [.ptr rh 0 0,.agg [a8 ba,a8 aO,aF aN,a8 aT,aI aV,a8 aX,aF aW,a8 aY,aI aZ,aI an,a8 ay,aF ax,a8 aw,aI au,a8 aA,aF az,x]] H=some (aI (e9 ents (⟨ba,⟨aO,aN,aT⟩,aV,⟨⟨⟨aX,aW,aY⟩,aZ⟩,an⟩,⟨⟨ay,ax,aw⟩,au⟩,⟨aA,az⟩,al⟩:bz)),H')∧bQ H H':=by
 have hs:=qA ho
 simp only at hs
 have hn:=kV hs
 simp only at hn
 refine eO (fn:=Tryz.f218) (c:=iM) (by kernel_rfl) (by kernel_rfl) (by kernel_rfl) (by kernel_rfl) (by kernel_rfl) ?_
 refine np _ _ _ _ _ fun g=>?_
 have hN:=Iq aX aW aY aZ an hs
 have hR:=SQ ba aO aN aT aV aX aW aY aZ an ay ax aw au aA az hx hal
 have w1:=IntWalk.i64_in ((ents.length:Int)+an) (by omega)
 have hg1 : ∀b1 b2:bP,bQ H ((⟨dep+1,3,H.gen (dep+1) 3,0⟩,some b2) :: (⟨dep+1,2,H.gen (dep+1) 2,0⟩,some b1) :: H):=fun b1 b2=>⟨by simp(maxDischargeDepth:=12) [ad.ao,aD,aq,Fr.nil,aJ,ah,ai,ae,af,aC,ar,ab, *],fun q c hq=>by
  have lq:(H.get q).isSome=true:=by rw[hq];rfl
  simp[ah hF lq,hq]⟩
 have hcont : ∀(Hs:ad),bQ H Hs→Hs.get ⟨dep+1,2,H.gen (dep+1) 2,0⟩=some ⟨1,[.ptr rh 0 0],false,false⟩ →
  ∃H',bO env (dep+1) (.fn 232) ([]++[.ck 4 (lY (eK ⟨⟨⟨aX,aW,aY⟩,aZ⟩,an⟩)) none,.fn (.func 233) [] [.ptr ⟨dep+1,2,H.gen (dep+1) 2,0⟩ 0 0]]++[]) Hs=some (aB ((eK ⟨⟨⟨aX,aW,aY⟩,aZ⟩,an⟩).any (gM ents)),H')∧bQ Hs H':=fun Hs hG hq =>
  Dl (dep+1) (F:=233) (by kernel_rfl) (Kh _) (Cu hs) (p:=gM ents) hG.fr (fun i H' hG'=>by
   have:=Ro (dep+3) hG'.fr ((hh.grow hG).grow hG') hb i.h.lv i.h.cats i.h.num i.n (q:=⟨dep+1,2,H.gen (dep+1) 2,0⟩) (hG'.old _ _ hq)
   exact this)
 cases hz:jd (⟨⟨ay,ax,aw⟩,au⟩:eJ) with
 | true =>
  have hno : ¬((!jd (⟨⟨ay,ax,aw⟩,au⟩:eJ) && !vg ents (⟨ba,⟨aO,aN,aT⟩,aV,⟨⟨⟨aX,aW,aY⟩,aZ⟩,an⟩,⟨⟨ay,ax,aw⟩,au⟩,⟨aA,az⟩,al⟩:bz) ⟨⟨ay,ax,aw⟩,au⟩)=true):=by simp[hz]
  have hz':=hz
  unfold jd at hz'
  have hgz : ∀b1 b2 b3:bP,bQ H ((⟨dep+1,5,H.gen (dep+1) 5,0⟩,some b3) :: (⟨dep+1,3,H.gen (dep+1) 3,0⟩,some b2) :: (⟨dep+1,2,H.gen (dep+1) 2,0⟩,some b1) :: H):=fun b1 b2 b3=>⟨by simp(maxDischargeDepth:=12) [ad.ao,aD,aq,Fr.nil,aJ,ah,ai,ae,af,aC,ar,ab, *],fun q c hq=>by
   have lq:(H.get q).isSome=true:=by rw[hq];rfl
   simp[ah hF lq,hq]⟩
  by_cases e0:HB (⟨ba,⟨aO,aN,aT⟩,aV,⟨⟨⟨aX,aW,aY⟩,aZ⟩,an⟩,⟨⟨ay,ax,aw⟩,au⟩,⟨aA,az⟩,al⟩:bz)=0
  rotate_left
  ·rw[if_neg e0]at hR
   have hI:e9 ents (⟨ba,⟨aO,aN,aT⟩,aV,⟨⟨⟨aX,aW,aY⟩,aZ⟩,an⟩,⟨⟨ay,ax,aw⟩,au⟩,⟨aA,az⟩,al⟩:bz)=2:=by unfold e9;rw[if_neg hno,if_pos (.inl e0)]
   simp[ah,ai,ae,af,ab, *,dX,hx.r,ke,eE,hz',hx.r,hR,e0]
   all_goals exact hgz _ _ _
  ·rw[if_pos e0]at hR
   simp[ah,ai,ae,af,ab, *,dX,hx.r,ke,eE,hz',hx.r,hR,e0,hN]
   refine lg (by kernel_rfl) ((fun b=>hcont _ (hgz ⟨1,[.ptr rh 0 0],false,false⟩ ⟨17,[.agg [a8 ba,a8 aO,aF aN,a8 aT,aI aV,a8 aX,aF aW,a8 aY,aI aZ,aI an,a8 ay,aF ax,a8 aw,aI au,a8 aA,aF az,x]],false,false⟩ b) (by simp)) _) fun H2 hG2=>?_
   have hfin:=((fun b=>hgz ⟨1,[.ptr rh 0 0],false,false⟩ ⟨17,[.agg [a8 ba,a8 aO,aF aN,a8 aT,aI aV,a8 aX,aF aW,a8 aY,aI aZ,aI an,a8 ay,aF ax,a8 aw,aI au,a8 aA,aF az,x]],false,false⟩ b) _).trans hG2
   obtain⟨xo,vo,rm,h1,h2,h3⟩:=(hh.grow hfin).box
   have hlm:=Nt (r:=⟨dep+1,37,H2.gen (dep+1) 37,0⟩) h3
   have hb2:=hG2.old _ _ ((fun(b:bP)=>(by simp:ad.get ((⟨dep+1,5,H.gen (dep+1) 5,0⟩,some b) :: (⟨dep+1,3,H.gen (dep+1) 3,0⟩,some ⟨17,[.agg [a8 ba,a8 aO,aF aN,a8 aT,aI aV,a8 aX,aF aW,a8 aY,aI aZ,aI an,a8 ay,aF ax,a8 aw,aI au,a8 aA,aF az,x]],false,false⟩) :: (⟨dep+1,2,H.gen (dep+1) 2,0⟩,some ⟨1,[.ptr rh 0 0],false,false⟩) :: H) ⟨dep+1,2,H.gen (dep+1) 2,0⟩=some ⟨1,[.ptr rh 0 0],false,false⟩)) _)
   have hb3:=hG2.old _ _ ((fun(b:bP)=>(by simp:ad.get ((⟨dep+1,5,H.gen (dep+1) 5,0⟩,some b) :: (⟨dep+1,3,H.gen (dep+1) 3,0⟩,some ⟨17,[.agg [a8 ba,a8 aO,aF aN,a8 aT,aI aV,a8 aX,aF aW,a8 aY,aI aZ,aI an,a8 ay,aF ax,a8 aw,aI au,a8 aA,aF az,x]],false,false⟩) :: (⟨dep+1,2,H.gen (dep+1) 2,0⟩,some ⟨1,[.ptr rh 0 0],false,false⟩) :: H) ⟨dep+1,3,H.gen (dep+1) 3,0⟩=some ⟨17,[.agg [a8 ba,a8 aO,aF aN,a8 aT,aI aV,a8 aX,aF aW,a8 aY,aI aZ,aI an,a8 ay,aF ax,a8 aw,aI au,a8 aA,aF az,x]],false,false⟩)) _)
   cases hany:(eK ⟨⟨⟨aX,aW,aY⟩,aZ⟩,an⟩).any (gM ents) with
   | true =>
    have hI:e9 ents (⟨ba,⟨aO,aN,aT⟩,aV,⟨⟨⟨aX,aW,aY⟩,aZ⟩,an⟩,⟨⟨ay,ax,aw⟩,au⟩,⟨aA,az⟩,al⟩:bz)=2:=by unfold e9;rw[if_neg hno,if_pos (.inr hany)]
    simp[hfin,hI]
   | false =>
    have hno2 : ¬(HB (⟨ba,⟨aO,aN,aT⟩,aV,⟨⟨⟨aX,aW,aY⟩,aZ⟩,an⟩,⟨⟨ay,ax,aw⟩,au⟩,⟨aA,az⟩,al⟩:bz)≠0∨(eK ⟨⟨⟨aX,aW,aY⟩,aZ⟩,an⟩).any (gM ents)=true):=by rw[hany];simp[e0]
    by_cases h8:8192<(ents.length:Int)+an
    ·have hI:e9 ents (⟨ba,⟨aO,aN,aT⟩,aV,⟨⟨⟨aX,aW,aY⟩,aZ⟩,an⟩,⟨⟨ay,ax,aw⟩,au⟩,⟨aA,az⟩,al⟩:bz)=4:=by unfold e9;rw[if_neg hno,if_neg hno2,if_pos h8]
     simp[hfin,hI,hb2,hb3,h1,hlm,w1,h8,hx.r]
    ·have hI:e9 ents (⟨ba,⟨aO,aN,aT⟩,aV,⟨⟨⟨aX,aW,aY⟩,aZ⟩,an⟩,⟨⟨ay,ax,aw⟩,au⟩,⟨aA,az⟩,al⟩:bz)=0:=by unfold e9;rw[if_neg hno,if_neg hno2,if_neg h8]
     simp[hfin,hI,hb2,hb3,h1,hlm,w1,h8,hx.r]
 | false =>
  have hz':=hz
  unfold jd at hz'
  have hS:=M6 (dep+1) (hg1 ⟨1,[.ptr rh 0 0],false,false⟩ ⟨17,[.agg [a8 ba,a8 aO,aF aN,a8 aT,aI aV,a8 aX,aF aW,a8 aY,aI aZ,aI an,a8 ay,aF ax,a8 aw,aI au,a8 aA,aF az,x]],false,false⟩).fr (hh.grow (hg1 _ _)) hb ba aO aN aT aV aX aW aY aZ an ay ax aw au aA az ay ax aw au hx
  simp[ah,ai,ae,af,ab, *,dX,hx.r,ke,eE,hz']
  refine lg (by kernel_rfl) hS fun H1 hG1=>?_
  have hGa:=(hg1 _ _).trans hG1
  have hF1:=hGa.fr
  have hb2a:=hG1.old ⟨dep+1,2,H.gen (dep+1) 2,0⟩ _ (by simp;rfl)
  have hb3a:=hG1.old ⟨dep+1,3,H.gen (dep+1) 3,0⟩ _ (by simp;rfl)
  have l2a:(H1.get ⟨dep+1,2,H.gen (dep+1) 2,0⟩).isSome=true:=by rw[hb2a];rfl
  have l3a:(H1.get ⟨dep+1,3,H.gen (dep+1) 3,0⟩).isSome=true:=by rw[hb3a];rfl
  have hgz : ∀b3:bP,bQ H ((⟨dep+1,5,H1.gen (dep+1) 5,0⟩,some b3) :: H1):=fun b3=>hGa.trans (bQ.cons hF1 _ _ _)
  clear hg1
  cases hsb:vg ents (⟨ba,⟨aO,aN,aT⟩,aV,⟨⟨⟨aX,aW,aY⟩,aZ⟩,an⟩,⟨⟨ay,ax,aw⟩,au⟩,⟨aA,az⟩,al⟩:bz) ⟨⟨ay,ax,aw⟩,au⟩ with
  | false =>
   have hI:e9 ents (⟨ba,⟨aO,aN,aT⟩,aV,⟨⟨⟨aX,aW,aY⟩,aZ⟩,an⟩,⟨⟨ay,ax,aw⟩,au⟩,⟨aA,az⟩,al⟩:bz)=6:=by unfold e9;rw[if_pos (by simp[hz,hsb])]
   simp[hI,hGa]
  | true =>
   have hno : ¬((!jd (⟨⟨ay,ax,aw⟩,au⟩:eJ) && !vg ents (⟨ba,⟨aO,aN,aT⟩,aV,⟨⟨⟨aX,aW,aY⟩,aZ⟩,an⟩,⟨⟨ay,ax,aw⟩,au⟩,⟨aA,az⟩,al⟩:bz) ⟨⟨ay,ax,aw⟩,au⟩)=true):=by simp[hsb]
   by_cases e0:HB (⟨ba,⟨aO,aN,aT⟩,aV,⟨⟨⟨aX,aW,aY⟩,aZ⟩,an⟩,⟨⟨ay,ax,aw⟩,au⟩,⟨aA,az⟩,al⟩:bz)=0
   rotate_left
   ·rw[if_neg e0]at hR
    have hI:e9 ents (⟨ba,⟨aO,aN,aT⟩,aV,⟨⟨⟨aX,aW,aY⟩,aZ⟩,an⟩,⟨⟨ay,ax,aw⟩,au⟩,⟨aA,az⟩,al⟩:bz)=2:=by unfold e9;rw[if_neg hno,if_pos (.inl e0)]
    simp[hb2a,hb3a,hx.r,hR,e0,hI,ah hF1 l2a,ah hF1 l3a,hgz]
   ·rw[if_pos e0]at hR
    simp[hb2a,hb3a,hx.r,hR,e0,hN,ah hF1 l2a,ah hF1 l3a]
    have hc:=fun b=>hcont _ (hgz b) (by rw[ad.qE,if_neg (nJ hF1 l2a _ _ _)];exact hb2a)
    refine lg (by kernel_rfl) (hc _) fun H2 hG2=>?_
    have hfin:=(hgz _).trans hG2
    obtain⟨xo,vo,rm,h1,h2,h3⟩:=(hh.grow hfin).box
    have hlm:=Nt (r:=⟨dep+1,37,H2.gen (dep+1) 37,0⟩) h3
    have hb2:=hG2.old ⟨dep+1,2,H.gen (dep+1) 2,0⟩ _ (by rw[ad.qE,if_neg (nJ hF1 l2a _ _ _)];exact hb2a)
    have hb3:=hG2.old ⟨dep+1,3,H.gen (dep+1) 3,0⟩ _ (by rw[ad.qE,if_neg (nJ hF1 l3a _ _ _)];exact hb3a)
    cases hany:(eK ⟨⟨⟨aX,aW,aY⟩,aZ⟩,an⟩).any (gM ents) with
    | true =>
     have hI:e9 ents (⟨ba,⟨aO,aN,aT⟩,aV,⟨⟨⟨aX,aW,aY⟩,aZ⟩,an⟩,⟨⟨ay,ax,aw⟩,au⟩,⟨aA,az⟩,al⟩:bz)=2:=by unfold e9;rw[if_neg hno,if_pos (.inr hany)]
     simp[hfin,hI]
    | false =>
     have hno2 : ¬(HB (⟨ba,⟨aO,aN,aT⟩,aV,⟨⟨⟨aX,aW,aY⟩,aZ⟩,an⟩,⟨⟨ay,ax,aw⟩,au⟩,⟨aA,az⟩,al⟩:bz)≠0∨(eK ⟨⟨⟨aX,aW,aY⟩,aZ⟩,an⟩).any (gM ents)=true):=by rw[hany];simp[e0]
     by_cases h8:8192<(ents.length:Int)+an
     ·have hI:e9 ents (⟨ba,⟨aO,aN,aT⟩,aV,⟨⟨⟨aX,aW,aY⟩,aZ⟩,an⟩,⟨⟨ay,ax,aw⟩,au⟩,⟨aA,az⟩,al⟩:bz)=4:=by unfold e9;rw[if_neg hno,if_neg hno2,if_pos h8]
      simp[hfin,hI,hb2,hb3,h1,hlm,w1,h8,hx.r]
     ·have hI:e9 ents (⟨ba,⟨aO,aN,aT⟩,aV,⟨⟨⟨aX,aW,aY⟩,aZ⟩,an⟩,⟨⟨ay,ax,aw⟩,au⟩,⟨aA,az⟩,al⟩:bz)=0:=by unfold e9;rw[if_neg hno,if_neg hno2,if_neg h8]
      simp[hfin,hI,hb2,hb3,h1,hlm,w1,h8,hx.r]
omit hF hh hb he in
theorem Cm:ch env.P 271 (some [(1,AV.fn (Fn.func 218) [] []),(2,AV.fn (Fn.func 219) [] []),(3,AV.fn (Fn.func 220) [] [])]) =
 some (.agg [.v .nilFunc,.fn (.func 218) [] [],.fn (.func 219) [] [],.fn (.func 220) [] []],[]):=by kernel_rfl
omit hF hh hb he in
theorem PX:o5 env.P 271 (some (.agg [.v .nilFunc,.fn (.func 218) [] [],.fn (.func 219) [] [],.fn (.func 220) [] []])) (some (a8 1))=some (.fn (.func 218) [] [],[]):=by kernel_rfl
omit hF hh hb he in
theorem PW:o5 env.P 271 (some (.agg [.v .nilFunc,.fn (.func 218) [] [],.fn (.func 219) [] [],.fn (.func 220) [] []])) (some (a8 2))=some (.fn (.func 219) [] [],[]):=by kernel_rfl
omit hF hh hb he in
theorem PV:o5 env.P 271 (some (.agg [.v .nilFunc,.fn (.func 218) [] [],.fn (.func 219) [] [],.fn (.func 220) [] []])) (some (a8 3))=some (.fn (.func 220) [] [],[]):=by kernel_rfl
theorem NC(hall : ∀p∈ops,L8 p)(hl:ops.length<100000)(ba:UInt8)(aO:UInt8)(aN:UInt32)(aT:UInt8)(aV:Int)(aX:UInt8)(aW:UInt32)(aY:UInt8)(aZ:Int)(an:Int)(ay:UInt8)(ax:UInt32)(aw:UInt8)(au:Int)(aA:UInt8)(az:UInt32){x:AV}{al:List Int}(hx:Sl 1 (rows al) x)(hal:al.length<1000000)(ho:la (⟨ba,⟨aO,aN,aT⟩,aV,⟨⟨⟨aX,aW,aY⟩,aZ⟩,an⟩,⟨⟨ay,ax,aw⟩,au⟩,⟨aA,az⟩,al⟩:bz)=true) :
 ∃H',bO env dep (.fn 193) [.ptr rh 0 0,.agg [a8 ba,a8 aO,aF aN,a8 aT,aI aV,a8 aX,aF aW,a8 aY,aI aZ,aI an,a8 ay,aF ax,a8 aw,aI au,a8 aA,aF az,x]] H=some (aI (sW ops ents (⟨ba,⟨aO,aN,aT⟩,aV,⟨⟨⟨aX,aW,aY⟩,aZ⟩,an⟩,⟨⟨ay,ax,aw⟩,au⟩,⟨aA,az⟩,al⟩:bz)),H')∧bQ H H':=by
 refine eO (fn:=Tryz.f193) (c:=jk) (by kernel_rfl) (by kernel_rfl) (by kernel_rfl) (by kernel_rfl) (by kernel_rfl) ?_
 refine oJ _ _ _ _ _ fun g=>?_
 have hs:=qA ho
 simp only at hs
 have hg1 : ∀b1:bP,bQ H ((⟨dep+1,3,H.gen (dep+1) 3,0⟩,some b1) :: H):=fun b1=>bQ.cons hF _ _ _
 have hk:ba=1∨ba=2∨ba=3:=by
  simp only[la,Bool.and_eq_true]at ho
  have h:=ho.2.2.2.2
  unfold Kl at h
  split at h
  ·exact .inl (by assumption)
  ·split at h
   ·exact .inr (.inl (by assumption))
   ·split at h
    ·exact .inr (.inr (by assumption))
    ·cases h
 have fin : ∀(H1:ad)(e:Int),bQ ((⟨dep+1,3,H.gen (dep+1) 3,0⟩,some ⟨17,[.agg [a8 ba,a8 aO,aF aN,a8 aT,aI aV,a8 aX,aF aW,a8 aY,aI aZ,aI an,a8 ay,aF ax,a8 aw,aI au,a8 aA,aF az,x]],false,false⟩) :: H) H1 →∃(xo:AV) (rm:Ref),H1.get rh=some ⟨2,[.agg [xo,.mp rm]],false,false⟩∧tE xo=some ops.length∧bQ H H1:=by
  intro H1 e hG
  obtain⟨xo,vo,rm,h1,h2,h3⟩:=((hh.grow (hg1 _)).grow hG).box
  exact⟨xo,rm,h1,by rw[h2.len];simp,(hg1 _).trans hG⟩
 rcases hk with rfl | rfl | rfl
 ·have hA:=O1 (dep+1) (hg1 ⟨17,[.agg [a8 1,a8 aO,aF aN,a8 aT,aI aV,a8 aX,aF aW,a8 aY,aI aZ,aI an,a8 ay,aF ax,a8 aw,aI au,a8 aA,aF az,x]],false,false⟩).fr (hh.grow (hg1 _)) hb he _ _ _ _ _ _ _ _ _ _ _ _ _ _ _ _ hx hal ho
  have hK:rT ops ents ⟨1,⟨aO,aN,aT⟩,aV,⟨⟨⟨aX,aW,aY⟩,aZ⟩,an⟩,⟨⟨ay,ax,aw⟩,au⟩,⟨aA,az⟩,al⟩=e9 ents ⟨1,⟨aO,aN,aT⟩,aV,⟨⟨⟨aX,aW,aY⟩,aZ⟩,an⟩,⟨⟨ay,ax,aw⟩,au⟩,⟨aA,az⟩,al⟩:=by unfold rT;rfl
  unfold sW
  rw[hK]
  clear hK
  generalize e9 ents ⟨1,⟨aO,aN,aT⟩,aV,⟨⟨⟨aX,aW,aY⟩,aZ⟩,an⟩,⟨⟨ay,ax,aw⟩,au⟩,⟨aA,az⟩,al⟩=er at *
  simp[ah,ai,ae,af,ab, *,eg,hx.r,Cm,PX,PW,PV]
  refine lg (by kernel_rfl) hA fun H1 hG=>?_
  obtain⟨xo,rm,h1,h2,h3⟩:=fin H1 0 hG
  by_cases h0:er=0
  ·subst h0
   by_cases h8:2048≤ops.length
   ·have h8':(2048:Int)≤ops.length:=by omega
    simp[h1,h2,h3,h8,h8']
   ·have h8' : ¬(2048:Int)≤ops.length:=by omega
    simp[h1,h2,h3,h8,h8']
  ·simp[h1,h2,h3,h0]
 ·have hA:=Ot (dep+1) (hg1 ⟨17,[.agg [a8 2,a8 aO,aF aN,a8 aT,aI aV,a8 aX,aF aW,a8 aY,aI aZ,aI an,a8 ay,aF ax,a8 aw,aI au,a8 aA,aF az,x]],false,false⟩).fr (hh.grow (hg1 _)) hb 2 aO aN aT aV aX aW aY aZ an ay ax aw au aA az hx hs
  have hK:rT ops ents ⟨2,⟨aO,aN,aT⟩,aV,⟨⟨⟨aX,aW,aY⟩,aZ⟩,an⟩,⟨⟨ay,ax,aw⟩,au⟩,⟨aA,az⟩,al⟩=yU ents ⟨2,⟨aO,aN,aT⟩,aV,⟨⟨⟨aX,aW,aY⟩,aZ⟩,an⟩,⟨⟨ay,ax,aw⟩,au⟩,⟨aA,az⟩,al⟩:=by unfold rT;rfl
  unfold sW
  rw[hK]
  clear hK
  generalize yU ents ⟨2,⟨aO,aN,aT⟩,aV,⟨⟨⟨aX,aW,aY⟩,aZ⟩,an⟩,⟨⟨ay,ax,aw⟩,au⟩,⟨aA,az⟩,al⟩=er at *
  simp[ah,ai,ae,af,ab, *,eg,hx.r,Cm,PX,PW,PV]
  refine lg (by kernel_rfl) hA fun H1 hG=>?_
  obtain⟨xo,rm,h1,h2,h3⟩:=fin H1 0 hG
  by_cases h0:er=0
  ·subst h0
   by_cases h8:2048≤ops.length
   ·have h8':(2048:Int)≤ops.length:=by omega
    simp[h1,h2,h3,h8,h8']
   ·have h8' : ¬(2048:Int)≤ops.length:=by omega
    simp[h1,h2,h3,h8,h8']
  ·simp[h1,h2,h3,h0]
 ·have hA:=raise_at (dep+1) (hg1 ⟨17,[.agg [a8 3,a8 aO,aF aN,a8 aT,aI aV,a8 aX,aF aW,a8 aY,aI aZ,aI an,a8 ay,aF ax,a8 aw,aI au,a8 aA,aF az,x]],false,false⟩).fr (hh.grow (hg1 _)) hb hall hl _ _ _ _ _ _ _ _ _ _ _ _ _ _ _ _ hx (by omega) ho
  have hK:rT ops ents ⟨3,⟨aO,aN,aT⟩,aV,⟨⟨⟨aX,aW,aY⟩,aZ⟩,an⟩,⟨⟨ay,ax,aw⟩,au⟩,⟨aA,az⟩,al⟩=z0 ops ents ⟨3,⟨aO,aN,aT⟩,aV,⟨⟨⟨aX,aW,aY⟩,aZ⟩,an⟩,⟨⟨ay,ax,aw⟩,au⟩,⟨aA,az⟩,al⟩:=by unfold rT;rfl
  unfold sW
  rw[hK]
  clear hK
  generalize z0 ops ents ⟨3,⟨aO,aN,aT⟩,aV,⟨⟨⟨aX,aW,aY⟩,aZ⟩,an⟩,⟨⟨ay,ax,aw⟩,au⟩,⟨aA,az⟩,al⟩=er at *
  simp[ah,ai,ae,af,ab, *,eg,hx.r,Cm,PX,PW,PV]
  refine lg (by kernel_rfl) hA fun H1 hG=>?_
  obtain⟨xo,rm,h1,h2,h3⟩:=fin H1 0 hG
  by_cases h0:er=0
  ·subst h0
   by_cases h8:2048≤ops.length
   ·have h8':(2048:Int)≤ops.length:=by omega
    simp[h1,h2,h3,h8,h8']
   ·have h8' : ¬(2048:Int)≤ops.length:=by omega
    simp[h1,h2,h3,h8,h8']
  ·simp[h1,h2,h3,h0]
end
end Go.Proofs.YtmkmimgokagimaaGreat
