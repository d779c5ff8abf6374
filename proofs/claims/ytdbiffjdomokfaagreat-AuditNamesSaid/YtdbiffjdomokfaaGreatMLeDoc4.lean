/-
  What a history tells of an operation: names, and each kind's error. No statement of a seat is proved here.
-/
import Derived.Test.YtdbiffjdomokfaaGreatMLeDoc2
import Derived.Test.YtdbiffjdomokfaaGreatMOpFns
set_option linter.unusedVariables false
set_option linter.unusedSimpArgs false
set_option linter.unusedSectionVars false
set_option linter.unnecessarySimpa false
set_option maxRecDepth 100000
namespace Go.Proofs.YtdbiffjdomokfaaGreat
open Go.Ab
attribute [local simp] bK bw bo bM bL dc kS bU bx bH dJ dI cp bX bh cC List.take_of_length_le
def fI(s:zL):List eY:=(List.range s.many.toNat).map fun k=>FA s.f (k:Nat)
theorem Hf(bg:UInt8)(aP:UInt32)(aO:UInt8)(aT:Int)(aW:Int)(hs:iO (⟨⟨⟨bg,aP,aO⟩,aT⟩,aW⟩:zL)=true){Q:AV→ab→Prop} : ∀(d k:Nat)(i:Int)(x2:AV)(H:ab),k+d=aW.toNat→i=k→Fr H→H.get ⟨0,1,0,0⟩=some ⟨5,[.agg [a8 bg,aF aP,a8 aO,aI aT,aI aW]],false,false⟩→BK [20] 4 (kA ((List.range k).map fun(k:Nat)=>FA ⟨⟨bg,aP,aO⟩,aT⟩ k)) H x2 →
 (∀y H',BK [20] 4 (kA (fI (⟨⟨⟨bg,aP,aO⟩,aT⟩,aW⟩:zL))) H' y→Q y H') →
 bW env Tryz.f130 0 kM [(8,aI i),(2,x2),(1,.ptr ⟨0,1,0,0⟩ 0 0),(7,aI aW)] H Q:=by
 have hn:=kU hs
 simp only at hn
 intro d
 induction d with
 | zero =>
  rintro k i x2 H hk rfl hF hb hO hQ
  have hfin:=hQ x2 H (by unfold fI;simp only;rw[show aW.toNat=k by omega];exact hO)
  have hlt : ¬(k:Int)<aW:=by omega
  refine tj _ _ _ _ _ _ fun g=>?_
  clear hQ hO
  simp[ah,ai,ae,af,ad, *,nk]
  all_goals exact hfin
 | succ d ih =>
  rintro k i x2 H hk rfl hF hb hO hQ
  have e3:=IntWalk.i64_in ((k:Int)+1) (by omega)
  have hlt:(k:Int)<aW:=by omega
  have eA:M7 (⟨⟨⟨bg,aP,aO⟩,aT⟩,aW⟩:zL) (k:Int)=0:=by
   unfold M7
   rw[if_pos hs,if_neg]
   simp only
   omega
  have hA:=Uw bg aP aO aT aW (k:Int)
  rw[if_pos eA]at hA
  have l1:(H.get ⟨0,1,0,0⟩).isSome=true:=by rw[hb];rfl
  have hst : ∀(g:Nat)(m:Nat)(H1:ab),m=k+1→Fr H1→H1.get ⟨0,1,0,0⟩=some ⟨5,[.agg [a8 bg,aF aP,a8 aO,aI aT,aI aW]],false,false⟩→H1.get ⟨0,20,g,0⟩=some ⟨4,kA ((List.range k).map fun(k:Nat)=>FA ⟨⟨bg,aP,aO⟩,aT⟩ k)++[.agg [a8 bg,aF aP,a8 aO,aI (aT+k)]],true,false⟩ →
   bW env Tryz.f130 0 kM [(8,aI ((k:Int)+1)),(2,.cG ⟨0,20,g,0⟩ 0 m none),(1,.ptr ⟨0,1,0,0⟩ 0 0),(7,aI aW)] H1 Q:=by
   intro g m H1 hm f1 f2 f3
   subst hm
   refine ih (k+1) ((k:Int)+1) _ H1 (by omega) (by simp) f1 f2 (.inr ⟨20,g,by simp,by simp,?_⟩) hQ
   rw[f3]
   simp[kA,List.range_succ,s9,FA]
  clear ih hQ
  refine tj _ _ _ _ _ _ fun g=>?_
  generalize he:kA ((List.range k).map fun(k:Nat)=>FA ⟨⟨bg,aP,aO⟩,aT⟩ k)=es at *
  have hel:es.length=k:=by rw[←he];simp
  clear he eA
  rcases hO with ⟨rfl,rfl⟩ | ⟨t,gg,ht,rfl,hr⟩
  ·have hst':=fun H1=>hst (H.gen 0 20) 1 H1 (by simp at hel;omega)
   clear hst hel
   simp[ah,ai,ae,af,ad, *,nk]
   refine hst' _ ?_ ?_ ?_
   ·exact by simp(maxDischargeDepth:=12) [ab.get_put,aq,an,Fr.nil,aD,ah,ai,ae,af,ar,ao,ad, *]
   ·exact by simp(maxDischargeDepth:=12) [ab.get_put,aq,an,Fr.nil,aD,ah,ai,ae,af,ar,ao,ad, *]
   ·exact by simp(maxDischargeDepth:=12) [ab.get_put,aq,an,Fr.nil,aD,ah,ai,ae,af,ar,ao,ad, *]
  ·rw[List.mem_singleton]at ht
   subst ht
   rw[hel]
   have hst':=hst (H.gen 0 20) (k+1)
   clear hst
   have l6:(H.get ⟨0,20,gg,0⟩).isSome=true:=by rw[hr];rfl
   have f4:lV 4 24 k true none (some ⟨4,es,true,false⟩) (some [.agg [a8 bg,aF aP,a8 aO,aI (aT+k)]]):=by
    simp[hel];omega
   simp[ah,ai,ae,af,ad, *,nk]
   refine hst' _ rfl ?_ ?_ ?_
   ·exact by simp(maxDischargeDepth:=12) [ab.get_put,aq,an,Fr.nil,aD,ah,ai,ae,af,ar,ao,ad, *]
   ·exact by simp(maxDischargeDepth:=12) [ab.get_put,aq,an,Fr.nil,aD,ah,ai,ae,af,ar,ao,ad, *]
   ·exact by simp(maxDischargeDepth:=12) [ab.get_put,aq,an,Fr.nil,aD,ah,ai,ae,af,ar,ao,ad, *]
theorem DJ(bg:UInt8)(aP:UInt32)(aO:UInt8)(aT:Int)(aW:Int)(hs:iO (⟨⟨⟨bg,aP,aO⟩,aT⟩,aW⟩:zL)=true):bj env 130 [.agg [a8 bg,aF aP,a8 aO,aI aT,aI aW]]=some (.cm 4 (kA (fI (⟨⟨⟨bg,aP,aO⟩,aT⟩,aW⟩:zL))) none):=by
 have hn:=kU hs
 simp only at hn
 have hne:kA (fI (⟨⟨⟨bg,aP,aO⟩,aT⟩,aW⟩:zL))≠[]:=by
  intro e
  have:=congrArg List.length e
  simp[fI]at this
  omega
 refine aJ (fn:=Tryz.f130) (c:=sv) rfl (by kernel_rfl) (by kernel_rfl) (by kernel_rfl) (by kernel_rfl) ?_;refine Dz _ _ _ fun g=>?_
 have hfin:=fun H h1 h2=>Hf bg aP aO aT aW hs (Q:=fun y H'=>view H'.get 8 y=some (.cm 4 (kA (fI (⟨⟨⟨bg,aP,aO⟩,aT⟩,aW⟩:zL))) none)) aW.toNat 0 0 dg H (by omega) rfl h1 h2 (.inl ⟨rfl,by simp[kA]⟩) (fun y H' h=>by
  rcases h with ⟨_,h⟩ | ⟨t,g,_,rfl,hr⟩
  ·exact absurd h hne
  ·rw[CF hr rfl])
 simp[ah,ai,ae,af,ad, *,xR]
 exact hfin _ (by simp(maxDischargeDepth:=12) [ab.get_put,aq,an,Fr.nil,aD,ah,ai,ae,af,ar,ao,ad, *]) rfl
theorem FB(s:zL):Sl 4 (kA (fI s)) (.cm 4 (kA (fI s)) none):=Sl.mk _ _
theorem yp{s:zL}(h:iO s=true):(fI s).length<100000:=by
 have hn:=kU h
 simp[fI]
 omega
def uL(ents:List (eY × AV))(o:bQ):Bool := !(fI o.s).any fun i => !uZ ents o i
section
variable(dep:Nat){H:ab}(hF:Fr H){rh:Ref}{ops:List (bQ × AV)}{ents:List (eY × AV)}(hh:uw H rh ops ents)(hb:o8 ents)
include hF hh hb
theorem MB(bg:UInt8)(aP:UInt8)(aO:UInt32)(aT:UInt8)(aW:Int)(ba:UInt8)(aZ:UInt32)(bc:UInt8)(bf:Int)(au:Int)(az:UInt8)(ay:UInt32)(ax:UInt8)(aw:Int)(aC:UInt8)(aA:UInt32){x:AV}{al:List Int}(hx:Sl 1 (rows al) x)(hs:iO ⟨⟨⟨ba,aZ,bc⟩,bf⟩,au⟩=true) :
 ∃H',bR env dep (.fn 158) [.ptr rh 0 0,.agg [a8 bg,a8 aP,aF aO,a8 aT,aI aW,a8 ba,aF aZ,a8 bc,aI bf,aI au,a8 az,aF ay,a8 ax,aI aw,a8 aC,aF aA,x]] H=some (aB (uL ents (⟨bg,⟨aP,aO,aT⟩,aW,⟨⟨⟨ba,aZ,bc⟩,bf⟩,au⟩,⟨⟨az,ay,ax⟩,aw⟩,⟨aC,aA⟩,al⟩:bQ)),H')∧cw H H':=by
 refine fc (fn:=Tryz.f158) (c:=iX) (by kernel_rfl) (by kernel_rfl) (by kernel_rfl) (by kernel_rfl) (by kernel_rfl) ?_
 refine mP _ _ _ _ _ fun g=>?_
 have hN:=DJ ba aZ bc bf au hs
 have hg1 : ∀b1 b2:bJ,cw H ((⟨dep+1,3,H.gen (dep+1) 3,0⟩,some b2) :: (⟨dep+1,2,H.gen (dep+1) 2,0⟩,some b1) :: H):=fun b1 b2=>⟨by simp(maxDischargeDepth:=12) [ab.get_put,aq,an,Fr.nil,aD,ah,ai,ae,af,ar,ao,ad, *],fun q c hq=>by
  have lq:(H.get q).isSome=true:=by rw[hq];rfl
  simp[ah hF lq,hq]⟩
 have hc : ∃H',bR env (dep+1) (.fn 156) ([]++[.cm 4 (kA (fI ⟨⟨⟨ba,aZ,bc⟩,bf⟩,au⟩)) none,.fn (.func 167) [] [.ptr ⟨dep+1,2,H.gen (dep+1) 2,0⟩ 0 0,.ptr ⟨dep+1,3,H.gen (dep+1) 3,0⟩ 0 0]]++[])
  ((⟨dep+1,3,H.gen (dep+1) 3,0⟩,some ⟨17,[.agg [a8 bg,a8 aP,aF aO,a8 aT,aI aW,a8 ba,aF aZ,a8 bc,aI bf,aI au,a8 az,aF ay,a8 ax,aI aw,a8 aC,aF aA,x]],false,false⟩) :: (⟨dep+1,2,H.gen (dep+1) 2,0⟩,some ⟨1,[.ptr rh 0 0],false,false⟩) :: H)=some (aB ((fI ⟨⟨⟨ba,aZ,bc⟩,bf⟩,au⟩).any fun i => !uZ ents (⟨bg,⟨aP,aO,aT⟩,aW,⟨⟨⟨ba,aZ,bc⟩,bf⟩,au⟩,⟨⟨az,ay,ax⟩,aw⟩,⟨aC,aA⟩,al⟩:bQ) i),H')∧cw _ H' :=
  zd (dep+1) (F:=167) (by kernel_rfl) (FB _) (yp hs) (p:=fun i => !uZ ents (⟨bg,⟨aP,aO,aT⟩,aW,⟨⟨⟨ba,aZ,bc⟩,bf⟩,au⟩,⟨⟨az,ay,ax⟩,aw⟩,⟨aC,aA⟩,al⟩:bQ) i) (hg1 _ _).fr (fun i H' hG=>by
   have:=MC (dep+3) hG.fr ((hh.grow (hg1 _ _)).grow hG) hb bg aP aO aT aW ba aZ bc bf au az ay ax aw aC aA i.h.lv i.h.cats i.h.num i.n hx (q:=⟨dep+1,2,H.gen (dep+1) 2,0⟩) (p:=⟨dep+1,3,H.gen (dep+1) 3,0⟩) (hG.old _ _ (by simp)) (hG.old _ _ (by simp))
   exact this)
 simp[ah,ai,ae,af,ad, *,iY,hx.r]
 refine kj (by kernel_rfl) hc fun H1 hG=>?_
 have hfin:=(hg1 _ _).trans hG
 simp[hfin,uL]
end
end Go.Proofs.YtdbiffjdomokfaaGreat
namespace Go.Proofs.YtdbiffjdomokfaaGreat
open Go.Ab
attribute [local simp] bK bw bo bM bL dc kS bU bx bH dJ dI cp bX bh cC List.take_of_length_le
@[simp] theorem J3(l:List Int)(n:Nat):(rows l).all (flat (n+1))=true:=by
 simp[rows,List.all_eq_true,aR]
theorem GW(bg:UInt8)(aP:UInt32)(aO:UInt8)(aT:Int)(aW:Int)(ba:UInt8)(aZ:UInt32)(bc:UInt8)(bf:Int){x:AV}{l:List Int}(hx:Sl 1 (rows l) x)(hl:l.length<1000000):bj env 165 [.agg [a8 bg,aF aP,a8 aO,aI aT,aI aW,a8 ba,aF aZ,a8 bc,aI bf,x]]=some (aI (bad (Fc (⟨⟨⟨⟨bg,aP,aO⟩,aT⟩,aW⟩,⟨⟨ba,aZ,bc⟩,bf⟩,l⟩:Rn)))):=by
 refine aJ (fn:=Tryz.f165) (c:=xI) rfl (by kernel_rfl) (by kernel_rfl) (by kernel_rfl) (by kernel_rfl) ?_;refine Du _ _ _ fun g=>?_
 have h1:=yg hx (by omega)
 have h2:=CS l
 have hr:((⟨⟨ba,aZ,bc⟩,bf⟩:eY)=yX)=((decide (ba=0)&&decide (aZ=0)&&decide (bc=0)&&decide (bf=0))=true):=by simp[yX,and_assoc]
 unfold Fc
 simp only[hr]
 cases hz:(decide (ba=0)&&decide (aZ=0)&&decide (bc=0)&&decide (bf=0)) with
 | true =>
  simp[ah,ai,ae,af,ad, *,sA,hx.r,lC,fL]
  repeat' ((first | refine kP (fun h=>?_) (fun h=>?_) | refine kp (fun h=>?_) (fun h=>?_) | refine kq (fun h=>?_) (fun h=>?_) | refine kn (fun h=>?_) (fun h=>?_) | refine ko (fun h=>?_) (fun h=>?_))<;>(try simp only[decide_eq_true_eq,decide_eq_false_iff_not,Bool.not_eq_true',Bool.not_eq_false',Bool.and_eq_true,Bool.or_eq_true]at h)<;>(try simp[ah,ai,ae,af,ad, *,hx.r]))
 | false =>
  simp[ah,ai,ae,af,ad, *,sA,hx.r,lC,fL]
  repeat' ((first | refine kP (fun h=>?_) (fun h=>?_) | refine kp (fun h=>?_) (fun h=>?_) | refine kq (fun h=>?_) (fun h=>?_) | refine kn (fun h=>?_) (fun h=>?_) | refine ko (fun h=>?_) (fun h=>?_))<;>(try simp only[decide_eq_true_eq,decide_eq_false_iff_not,Bool.not_eq_true',Bool.not_eq_false',Bool.and_eq_true,Bool.or_eq_true]at h)<;>(try simp[ah,ai,ae,af,ad, *,hx.r]))
theorem K6{r:Rn}(h:Fc r=true):iO r.s=true∧(r.l.length:Int)=r.s.many:=by
 simp[Fc]at h;exact⟨h.1,h.2.2.1⟩
def Fz(o:bQ):Int:=if pW o then (if o.kind=1∧Fc ⟨o.s,o.a,o.l⟩=true then 0 else 2) else 8
theorem NB(bg:UInt8)(aP:UInt8)(aO:UInt32)(aT:UInt8)(aW:Int)(ba:UInt8)(aZ:UInt32)(bc:UInt8)(bf:Int)(au:Int)(az:UInt8)(ay:UInt32)(ax:UInt8)(aw:Int)(aC:UInt8)(aA:UInt32){x:AV}{l:List Int}(hx:Sl 1 (rows l) x)(hl:l.length<1000000):bj env 155 [.agg [a8 bg,a8 aP,aF aO,a8 aT,aI aW,a8 ba,aF aZ,a8 bc,aI bf,aI au,a8 az,aF ay,a8 ax,aI aw,a8 aC,aF aA,x]] =
 some (if Fz (⟨bg,⟨aP,aO,aT⟩,aW,⟨⟨⟨ba,aZ,bc⟩,bf⟩,au⟩,⟨⟨az,ay,ax⟩,aw⟩,⟨aC,aA⟩,l⟩:bQ)=0 then .tup [.agg [a8 ba,aF aZ,a8 bc,aI bf,aI au,a8 az,aF ay,a8 ax,aI aw,.cm 1 (rows l) none],aI 0]
  else .tup [.agg [a8 0,aF 0,a8 0,aI 0,aI 0,a8 0,aF 0,a8 0,aI 0,dg],aI (Fz (⟨bg,⟨aP,aO,aT⟩,aW,⟨⟨⟨ba,aZ,bc⟩,bf⟩,au⟩,⟨⟨az,ay,ax⟩,aw⟩,⟨aC,aA⟩,l⟩:bQ))]):=by
 have h1:=kV bg aP aO aT aW ba aZ bc bf au az ay ax aw aC aA hx (by omega)
 have h3:=CO hx (by omega) (by omega)
 cases c1:pW (⟨bg,⟨aP,aO,aT⟩,aW,⟨⟨⟨ba,aZ,bc⟩,bf⟩,au⟩,⟨⟨az,ay,ax⟩,aw⟩,⟨aC,aA⟩,l⟩:bQ) with
 | false =>
  have e:Fz (⟨bg,⟨aP,aO,aT⟩,aW,⟨⟨⟨ba,aZ,bc⟩,bf⟩,au⟩,⟨⟨az,ay,ax⟩,aw⟩,⟨aC,aA⟩,l⟩:bQ)=8:=by simp[Fz,c1]
  refine aJ (fn:=Tryz.f155) (c:=nS) rfl (by kernel_rfl) (by kernel_rfl) (by kernel_rfl) (by kernel_rfl) ?_;refine pa _ _ _ fun g=>?_
  simp[ah,ai,ae,af,ad, *,k9,hx.r]
 | true =>
  have h2:=fun {y:AV} (hy:Sl 1 (rows l) y)=>GW ba aZ bc bf au az ay ax aw hy hl
  by_cases he:l=[]
  ·have e:Fz (⟨bg,⟨aP,aO,aT⟩,aW,⟨⟨⟨ba,aZ,bc⟩,bf⟩,au⟩,⟨⟨az,ay,ax⟩,aw⟩,⟨aC,aA⟩,l⟩:bQ)=2:=by
    simp only[Fz,c1,if_true]
    rw[if_neg]
    rintro⟨_,h⟩
    have hr:=K6 h
    simp only at hr
    have hn:=kU hr.1
    simp only at hn
    rw[he]at hr
    simp at hr
    omega
   have hrb:Fc ⟨⟨⟨⟨ba,aZ,bc⟩,bf⟩,au⟩,⟨⟨az,ay,ax⟩,aw⟩,l⟩=false:=by
    cases h2:Fc ⟨⟨⟨⟨ba,aZ,bc⟩,bf⟩,au⟩,⟨⟨az,ay,ax⟩,aw⟩,l⟩ with
    | false=>rfl
    | true =>
     have hr:=K6 h2
     simp only at hr
     have hn:=kU hr.1
     simp only at hn
     rw[he]at hr
     simp at hr
     omega
   subst he
   have rn:rows ([]:List Int)=[]:=rfl
   rcases hx.LB with ⟨rfl,_⟩ | ⟨c,rfl⟩
   ·have h2':=h2 (y:=dg) (.inl ⟨rfl,rfl⟩)
    clear h2
    refine aJ (fn:=Tryz.f155) (c:=nS) rfl (by kernel_rfl) (by kernel_rfl) (by kernel_rfl) (by kernel_rfl) ?_;refine pa _ _ _ fun g=>?_
    by_cases c2:bg=1
    ·subst c2
     simp[ah,ai,ae,af,ad, *,k9]
    ·simp[ah,ai,ae,af,ad, *,k9]
   ·have h2':=h2 (y := .cm 1 (rows []) (some 0)) (.inr ⟨some 0,rfl,by simp[rows]⟩)
    have h3':bj env 95 [.cm 1 [] c]=some (.fsl 1 [] (some 0)):=h3
    clear h2 h3
    rw[rn]at h1 h2' ⊢
    refine aJ (fn:=Tryz.f155) (c:=nS) rfl (by kernel_rfl) (by kernel_rfl) (by kernel_rfl) (by kernel_rfl) ?_;refine pa _ _ _ fun g=>?_
    by_cases c2:bg=1
    ·subst c2
     simp[ah,ai,ae,af,ad, *,k9]
    ·simp[ah,ai,ae,af,ad, *,k9]
  ·have hr:rows l≠[]:=by simpa using he
   obtain⟨c,rfl,hc⟩:=hx.QY hr
   rw[nR 1 c hr]at h3
   have h2':=h2 (Sl.mk 1 (rows l))
   clear h2
   have fl1:=J3 l
   by_cases c2:bg=1
   ·subst c2
    cases c3:Fc ⟨⟨⟨⟨ba,aZ,bc⟩,bf⟩,au⟩,⟨⟨az,ay,ax⟩,aw⟩,l⟩ with
    | false =>
     have e:Fz ⟨1,⟨aP,aO,aT⟩,aW,⟨⟨⟨ba,aZ,bc⟩,bf⟩,au⟩,⟨⟨az,ay,ax⟩,aw⟩,⟨aC,aA⟩,l⟩=2:=by simp[Fz,c1,c3]
     refine aJ (fn:=Tryz.f155) (c:=nS) rfl (by kernel_rfl) (by kernel_rfl) (by kernel_rfl) (by kernel_rfl) ?_;refine pa _ _ _ fun g=>?_
     simp[ah,ai,ae,af,ad, *,k9,hx.r]
    | true =>
     have e:Fz ⟨1,⟨aP,aO,aT⟩,aW,⟨⟨⟨ba,aZ,bc⟩,bf⟩,au⟩,⟨⟨az,ay,ax⟩,aw⟩,⟨aC,aA⟩,l⟩=0:=by simp[Fz,c1,c3]
     refine aJ (fn:=Tryz.f155) (c:=nS) rfl (by kernel_rfl) (by kernel_rfl) (by kernel_rfl) (by kernel_rfl) ?_;refine pa _ _ _ fun g=>?_
     simp[ah,ai,ae,af,ad, *,k9,hx.r]
   ·have e:Fz (⟨bg,⟨aP,aO,aT⟩,aW,⟨⟨⟨ba,aZ,bc⟩,bf⟩,au⟩,⟨⟨az,ay,ax⟩,aw⟩,⟨aC,aA⟩,l⟩:bQ)=2:=by simp[Fz,c1,c2]
    refine aJ (fn:=Tryz.f155) (c:=nS) rfl (by kernel_rfl) (by kernel_rfl) (by kernel_rfl) (by kernel_rfl) ?_;refine pa _ _ _ fun g=>?_
    simp[ah,ai,ae,af,ad, *,k9,hx.r]
end Go.Proofs.YtdbiffjdomokfaaGreat
namespace Go.Proofs.YtdbiffjdomokfaaGreat
open Go.Ab
attribute [local simp] bK bw bo bM bL dc kS bU bx bH dJ dI cp bX bh cC List.take_of_length_le
theorem Iy{g:cV}{r rm:Ref}{ents:List (eY × AV)}(hr:g rm=some (bq (cz s9 ents))):aM env.P false g r .len #[196] [.mp rm]=some (aI ents.length,[]):=by
 have ht:(B1 env.P 196).isSome=true:=by kernel_rfl
 obtain⟨p,hp⟩:=Option.isSome_iff_exists.1 ht
 have e:aM env.P false g r .len #[196] [.mp rm]=qf env.P g (some 196) rm:=rfl
 rw[e]
 unfold qf
 rw[py hr,Option.bind_some,hp]
 simp[cz]
def fx(ents:List (eY × AV))(o:bQ):Int :=
 if (!iv o.a && !uZ ents o o.a)=true then 6 else if Fz o≠0∨(fI o.s).any (nI ents)=true then 2 else if 8192<(ents.length:Int)+o.s.many then 4 else 0
def wL(ents:List (eY × AV))(o:bQ):Int:=if uL ents o=false then 6 else if (decide (o.s.f.h.lv=o.h.lv)&&decide (o.s.f.h.cats=o.h.cats))=false then 2 else 0
def Az(ops:List (bQ × AV))(ents:List (eY × AV))(o:bQ):Int:=if uL ents o=false then 6 else if qV (opsOf ops)=0∧sN (opsOf ops) o=true then 0 else 2
def y8(ops:List (bQ × AV))(ents:List (eY × AV))(o:bQ):Int:=if o.kind=1 then fx ents o else if o.kind=2 then wL ents o else Az ops ents o
def Ge(ops:List (bQ × AV))(ents:List (eY × AV))(o:bQ):Int:=if y8 ops ents o=0∧2048≤ops.length then 4 else y8 ops ents o
section
variable(dep:Nat){H:ab}(hF:Fr H){rh:Ref}{ops:List (bQ × AV)}{ents:List (eY × AV)}(hh:uw H rh ops ents)(hb:o8 ents)
include hF hh hb
theorem Jp(bg:UInt8)(aP:UInt8)(aO:UInt32)(aT:UInt8)(aW:Int)(ba:UInt8)(aZ:UInt32)(bc:UInt8)(bf:Int)(au:Int)(az:UInt8)(ay:UInt32)(ax:UInt8)(aw:Int)(aC:UInt8)(aA:UInt32){x:AV}{al:List Int}(hx:Sl 1 (rows al) x)(hs:iO ⟨⟨⟨ba,aZ,bc⟩,bf⟩,au⟩=true) :
 ∃H',bR env dep (.fn 134) [.ptr rh 0 0,.agg [a8 bg,a8 aP,aF aO,a8 aT,aI aW,a8 ba,aF aZ,a8 bc,aI bf,aI au,a8 az,aF ay,a8 ax,aI aw,a8 aC,aF aA,x]] H=some (aI (wL ents (⟨bg,⟨aP,aO,aT⟩,aW,⟨⟨⟨ba,aZ,bc⟩,bf⟩,au⟩,⟨⟨az,ay,ax⟩,aw⟩,⟨aC,aA⟩,al⟩:bQ)),H')∧cw H H':=by
 refine fc (fn:=Tryz.f134) (c:=gT) (by kernel_rfl) (by kernel_rfl) (by kernel_rfl) (by kernel_rfl) (by kernel_rfl) ?_
 refine lD _ _ _ _ _ fun g=>?_
 have hg1 : ∀b1:bJ,cw H ((⟨dep+1,3,H.gen (dep+1) 3,0⟩,some b1) :: H):=fun b1=>cw.cons hF _ _ _
 have hA:=MB (dep+1) (hg1 ⟨17,[.agg [a8 bg,a8 aP,aF aO,a8 aT,aI aW,a8 ba,aF aZ,a8 bc,aI bf,aI au,a8 az,aF ay,a8 ax,aI aw,a8 aC,aF aA,x]],false,false⟩).fr (hh.grow (hg1 _)) hb bg aP aO aT aW ba aZ bc bf au az ay ax aw aC aA hx hs
 simp[ah,ai,ae,af,ad, *,gX,hx.r]
 refine kj (by kernel_rfl) hA fun H1 hG=>?_
 have hfin:=(hg1 _).trans hG
 have hbx:=hG.old ⟨dep+1,3,H.gen (dep+1) 3,0⟩ _ (by simp;rfl)
 unfold wL
 cases uL ents (⟨bg,⟨aP,aO,aT⟩,aW,⟨⟨⟨ba,aZ,bc⟩,bf⟩,au⟩,⟨⟨az,ay,ax⟩,aw⟩,⟨aC,aA⟩,al⟩:bQ) with
 | false=>simp[hfin]
 | true =>
  cases hd:(decide (ba=aP)&&decide (aZ=aO)) with
  | false=>simp[hbx,hfin,hx.r,lC,fL,hd]
  | true=>simp[hbx,hfin,hx.r,lC,fL,hd]
theorem raise_at(hall : ∀p∈ops,He p)(hl:ops.length<100000)(bg:UInt8)(aP:UInt8)(aO:UInt32)(aT:UInt8)(aW:Int)(ba:UInt8)(aZ:UInt32)(bc:UInt8)(bf:Int)(au:Int)(az:UInt8)(ay:UInt32)(ax:UInt8)(aw:Int)(aC:UInt8)(aA:UInt32){x:AV}{al:List Int}(hx:Sl 1 (rows al) x)(hal:al.length<2000000)(ho:pW (⟨bg,⟨aP,aO,aT⟩,aW,⟨⟨⟨ba,aZ,bc⟩,bf⟩,au⟩,⟨⟨az,ay,ax⟩,aw⟩,⟨aC,aA⟩,al⟩:bQ)=true) :
 ∃H',bR env dep (.fn 135) [.ptr rh 0 0,.agg [a8 bg,a8 aP,aF aO,a8 aT,aI aW,a8 ba,aF aZ,a8 bc,aI bf,aI au,a8 az,aF ay,a8 ax,aI aw,a8 aC,aF aA,x]] H=some (aI (Az ops ents (⟨bg,⟨aP,aO,aT⟩,aW,⟨⟨⟨ba,aZ,bc⟩,bf⟩,au⟩,⟨⟨az,ay,ax⟩,aw⟩,⟨aC,aA⟩,al⟩:bQ)),H')∧cw H H':=by
 have hs:=rz ho
 simp only at hs
 refine fc (fn:=Tryz.f135) (c:=ik) (by kernel_rfl) (by kernel_rfl) (by kernel_rfl) (by kernel_rfl) (by kernel_rfl) ?_
 refine lY _ _ _ _ _ fun g=>?_
 have hg1 : ∀b1:bJ,cw H ((⟨dep+1,3,H.gen (dep+1) 3,0⟩,some b1) :: H):=fun b1=>cw.cons hF _ _ _
 have hA:=MB (dep+1) (hg1 ⟨17,[.agg [a8 bg,a8 aP,aF aO,a8 aT,aI aW,a8 ba,aF aZ,a8 bc,aI bf,aI au,a8 az,aF ay,a8 ax,aI aw,a8 aC,aF aA,x]],false,false⟩).fr (hh.grow (hg1 _)) hb bg aP aO aT aW ba aZ bc bf au az ay ax aw aC aA hx hs
 simp[ah,ai,ae,af,ad, *,im,hx.r]
 refine kj (by kernel_rfl) hA fun H1 hG=>?_
 have hfin:=(hg1 _).trans hG
 have hbx:=hG.old ⟨dep+1,3,H.gen (dep+1) 3,0⟩ _ (by simp;rfl)
 obtain⟨xo,vo,rm,h1,h2,h3⟩:=(hh.grow hfin).box
 have hso:=h2.r
 have hC:=K5 h2.sl hall hl bg aP aO aT aW ba aZ bc bf au az ay ax aw aC aA hx hal
 rw[if_pos ho]at hC
 unfold Az
 cases uL ents (⟨bg,⟨aP,aO,aT⟩,aW,⟨⟨⟨ba,aZ,bc⟩,bf⟩,au⟩,⟨⟨az,ay,ax⟩,aw⟩,⟨aC,aA⟩,al⟩:bQ) with
 | false=>simp[hfin]
 | true =>
  by_cases hc:qV (opsOf ops)=0
  ·rw[if_pos hc]at hC
   cases hf:sN (opsOf ops) (⟨bg,⟨aP,aO,aT⟩,aW,⟨⟨⟨ba,aZ,bc⟩,bf⟩,au⟩,⟨⟨az,ay,ax⟩,aw⟩,⟨aC,aA⟩,al⟩:bQ) with
   | false =>
    rw[hf]at hC
    simp[hbx,hfin,h1,hso,hx.r,hC]
   | true =>
    rw[hf]at hC
    simp[hbx,hfin,h1,hso,hx.r,hC,hc]
  ·rw[if_neg hc]at hC
   simp[hbx,hfin,h1,hso,hx.r,hC,hc]
end
end Go.Proofs.YtdbiffjdomokfaaGreat
