/-
  What a history tells of an operation: names, and each kind's error. No statement of a seat is proved here.
-/
import Derived.Test.YtdbiffjdomokfaaGreatMLeDoc2
import Derived.Test.YtdbiffjdomokfaaGreatMOpFns
set_option linter.unusedVariables false
set_option linter.unusedSimpArgs false
set_option linter.unusedSectionVars false
set_option linter.unnecessarySimpa false
set_option maxRecDepth 100000
namespace Go.Proofs.YtdbiffjdomokfaaGreat
open Go.Ab
attribute [local simp] bD bq bo bF bE cZ ld bQ bx bA dx dw cg bT aY ct List.take_of_length_le
def fY(s:Aq):List fl:=(List.range s.many.toNat).map fun k=>GA s.f (k:Nat)
theorem IE(bh:UInt8)(aQ:UInt32)(aP:UInt8)(aT:Int)(aX:Int)(hs:je (⟨⟨⟨bh,aQ,aP⟩,aT⟩,aX⟩:Aq)=true){Q:AV→ab→Prop} : ∀(d k:Nat)(i:Int)(x2:AV)(H:ab),k+d=aX.toNat→i=k→Fr H→H.get ⟨0,1,0,0⟩=some ⟨5,[.agg [a8 bh,aF aQ,a8 aP,aI aT,aI aX]],false,false⟩→CL [20] 4 (kZ ((List.range k).map fun(k:Nat)=>GA ⟨⟨bh,aQ,aP⟩,aT⟩ k)) H x2 →
 (∀y H',CL [20] 4 (kZ (fY (⟨⟨⟨bh,aQ,aP⟩,aT⟩,aX⟩:Aq))) H' y→Q y H') →
 bP env Tryz.f130 0 lz [(8,aI i),(2,x2),(1,.ptr ⟨0,1,0,0⟩ 0 0),(7,aI aX)] H Q:=by
 have hn:=lF hs
 simp only at hn
 intro d
 induction d with
 | zero =>
  rintro k i x2 H hk rfl hF hb hO hQ
  have hfin:=hQ x2 H (by unfold fY;simp only;rw[show aX.toNat=k by omega];exact hO)
  have hlt : ¬(k:Int)<aX:=by omega
  refine uq _ _ _ _ _ _ fun g=>?_
  clear hQ hO
  simp[ah,ai,ae,af,ad, *,nY]
  all_goals exact hfin
 | succ d ih =>
  rintro k i x2 H hk rfl hF hb hO hQ
  have e3:=IntWalk.i64_in ((k:Int)+1) (by omega)
  have hlt:(k:Int)<aX:=by omega
  have eA:OQ (⟨⟨⟨bh,aQ,aP⟩,aT⟩,aX⟩:Aq) (k:Int)=0:=by
   unfold OQ
   rw[if_pos hs,if_neg]
   simp only
   omega
  have hA:=Wn bh aQ aP aT aX (k:Int)
  rw[if_pos eA]at hA
  have l1:(H.get ⟨0,1,0,0⟩).isSome=true:=by rw[hb];rfl
  have hst : ∀(g:Nat)(m:Nat)(H1:ab),m=k+1→Fr H1→H1.get ⟨0,1,0,0⟩=some ⟨5,[.agg [a8 bh,aF aQ,a8 aP,aI aT,aI aX]],false,false⟩→H1.get ⟨0,20,g,0⟩=some ⟨4,kZ ((List.range k).map fun(k:Nat)=>GA ⟨⟨bh,aQ,aP⟩,aT⟩ k)++[.agg [a8 bh,aF aQ,a8 aP,aI (aT+k)]],true,false⟩ →
   bP env Tryz.f130 0 lz [(8,aI ((k:Int)+1)),(2,.cH ⟨0,20,g,0⟩ 0 m none),(1,.ptr ⟨0,1,0,0⟩ 0 0),(7,aI aX)] H1 Q:=by
   intro g m H1 hm f1 f2 f3
   subst hm
   refine ih (k+1) ((k:Int)+1) _ H1 (by omega) (by simp) f1 f2 (.inr ⟨20,g,by simp,by simp,?_⟩) hQ
   rw[f3]
   simp[kZ,List.range_succ,ug,GA]
  clear ih hQ
  refine uq _ _ _ _ _ _ fun g=>?_
  generalize he:kZ ((List.range k).map fun(k:Nat)=>GA ⟨⟨bh,aQ,aP⟩,aT⟩ k)=es at *
  have hel:es.length=k:=by rw[←he];simp
  clear he eA
  rcases hO with ⟨rfl,rfl⟩ | ⟨t,gg,ht,rfl,hr⟩
  ·have hst':=fun H1=>hst (H.gen 0 20) 1 H1 (by simp at hel;omega)
   clear hst hel
   simp[ah,ai,ae,af,ad, *,nY]
   refine hst' _ ?_ ?_ ?_
   ·exact by simp(maxDischargeDepth:=12) [ab.get_put,aq,an,Fr.nil,aD,ah,ai,ae,af,ar,ao,ad, *]
   ·exact by simp(maxDischargeDepth:=12) [ab.get_put,aq,an,Fr.nil,aD,ah,ai,ae,af,ar,ao,ad, *]
   ·exact by simp(maxDischargeDepth:=12) [ab.get_put,aq,an,Fr.nil,aD,ah,ai,ae,af,ar,ao,ad, *]
  ·rw[List.mem_singleton]at ht
   subst ht
   rw[hel]
   have hst':=hst (H.gen 0 20) (k+1)
   clear hst
   have l6:(H.get ⟨0,20,gg,0⟩).isSome=true:=by rw[hr];rfl
   have f4:lQ 4 24 k true none (some ⟨4,es,true,false⟩) (some [.agg [a8 bh,aF aQ,a8 aP,aI (aT+k)]]):=by
    simp[hel];omega
   simp[ah,ai,ae,af,ad, *,nY]
   refine hst' _ rfl ?_ ?_ ?_
   ·exact by simp(maxDischargeDepth:=12) [ab.get_put,aq,an,Fr.nil,aD,ah,ai,ae,af,ar,ao,ad, *]
   ·exact by simp(maxDischargeDepth:=12) [ab.get_put,aq,an,Fr.nil,aD,ah,ai,ae,af,ar,ao,ad, *]
   ·exact by simp(maxDischargeDepth:=12) [ab.get_put,aq,an,Fr.nil,aD,ah,ai,ae,af,ar,ao,ad, *]
theorem EJ(bh:UInt8)(aQ:UInt32)(aP:UInt8)(aT:Int)(aX:Int)(hs:je (⟨⟨⟨bh,aQ,aP⟩,aT⟩,aX⟩:Aq)=true):bj env 130 [.agg [a8 bh,aF aQ,a8 aP,aI aT,aI aX]]=some (.cw 4 (kZ (fY (⟨⟨⟨bh,aQ,aP⟩,aT⟩,aX⟩:Aq))) none):=by
 have hn:=lF hs
 simp only at hn
 have hne:kZ (fY (⟨⟨⟨bh,aQ,aP⟩,aT⟩,aX⟩:Aq))≠[]:=by
  intro e
  have:=congrArg List.length e
  simp[fY]at this
  omega
 refine aL (fn:=Tryz.f130) (c:=tz) rfl (by kernel_rfl) (by kernel_rfl) (by kernel_rfl) (by kernel_rfl) ?_;refine EC _ _ _ fun g=>?_
 have hfin:=fun H h1 h2=>IE bh aQ aP aT aX hs (Q:=fun y H'=>view H'.get 8 y=some (.cw 4 (kZ (fY (⟨⟨⟨bh,aQ,aP⟩,aT⟩,aX⟩:Aq))) none)) aX.toNat 0 0 cW H (by omega) rfl h1 h2 (.inl ⟨rfl,by simp[kZ]⟩) (fun y H' h=>by
  rcases h with ⟨_,h⟩ | ⟨t,g,_,rfl,hr⟩
  ·exact absurd h hne
  ·rw[DI hr rfl])
 simp[ah,ai,ae,af,ad, *,y4]
 exact hfin _ (by simp(maxDischargeDepth:=12) [ab.get_put,aq,an,Fr.nil,aD,ah,ai,ae,af,ar,ao,ad, *]) rfl
theorem GB(s:Aq):Sl 4 (kZ (fY s)) (.cw 4 (kZ (fY s)) none):=Sl.mk _ _
theorem zr{s:Aq}(h:je s=true):(fY s).length<100000:=by
 have hn:=lF h
 simp[fY]
 omega
def vJ(ents:List (fl × AV))(o:bR):Bool := !(fY o.s).any fun i => !vX ents o i
section
variable(dep:Nat){H:ab}(hF:Fr H){rh:Ref}{ops:List (bR × AV)}{ents:List (fl × AV)}(hh:vt H rh ops ents)(hb:pH ents)
include hF hh hb
theorem Oj(bh:UInt8)(aQ:UInt8)(aP:UInt32)(aT:UInt8)(aX:Int)(bc:UInt8)(ba:UInt32)(bf:UInt8)(bg:Int)(au:Int)(az:UInt8)(ay:UInt32)(ax:UInt8)(aw:Int)(aC:UInt8)(aA:UInt32){x:AV}{al:List Int}(hx:Sl 1 (rows al) x)(hs:je ⟨⟨⟨bc,ba,bf⟩,bg⟩,au⟩=true) :
 ∃H',bU env dep (.fn 158) [.ptr rh 0 0,.agg [a8 bh,a8 aQ,aF aP,a8 aT,aI aX,a8 bc,aF ba,a8 bf,aI bg,aI au,a8 az,aF ay,a8 ax,aI aw,a8 aC,aF aA,x]] H=some (aB (vJ ents (⟨bh,⟨aQ,aP,aT⟩,aX,⟨⟨⟨bc,ba,bf⟩,bg⟩,au⟩,⟨⟨az,ay,ax⟩,aw⟩,⟨aC,aA⟩,al⟩:bR)),H')∧cz H H':=by
 refine fw (fn:=Tryz.f158) (c:=jm) (by kernel_rfl) (by kernel_rfl) (by kernel_rfl) (by kernel_rfl) (by kernel_rfl) ?_
 refine nx _ _ _ _ _ fun g=>?_
 have hN:=EJ bc ba bf bg au hs
 have hg1 : ∀b1 b2:bM,cz H ((⟨dep+1,3,H.gen (dep+1) 3,0⟩,some b2) :: (⟨dep+1,2,H.gen (dep+1) 2,0⟩,some b1) :: H):=fun b1 b2=>⟨by simp(maxDischargeDepth:=12) [ab.get_put,aq,an,Fr.nil,aD,ah,ai,ae,af,ar,ao,ad, *],fun q c hq=>by
  have lq:(H.get q).isSome=true:=by rw[hq];rfl
  simp[ah hF lq,hq]⟩
 have hc : ∃H',bU env (dep+1) (.fn 156) ([]++[.cw 4 (kZ (fY ⟨⟨⟨bc,ba,bf⟩,bg⟩,au⟩)) none,.fn (.func 167) [] [.ptr ⟨dep+1,2,H.gen (dep+1) 2,0⟩ 0 0,.ptr ⟨dep+1,3,H.gen (dep+1) 3,0⟩ 0 0]]++[])
  ((⟨dep+1,3,H.gen (dep+1) 3,0⟩,some ⟨17,[.agg [a8 bh,a8 aQ,aF aP,a8 aT,aI aX,a8 bc,aF ba,a8 bf,aI bg,aI au,a8 az,aF ay,a8 ax,aI aw,a8 aC,aF aA,x]],false,false⟩) :: (⟨dep+1,2,H.gen (dep+1) 2,0⟩,some ⟨1,[.ptr rh 0 0],false,false⟩) :: H)=some (aB ((fY ⟨⟨⟨bc,ba,bf⟩,bg⟩,au⟩).any fun i => !vX ents (⟨bh,⟨aQ,aP,aT⟩,aX,⟨⟨⟨bc,ba,bf⟩,bg⟩,au⟩,⟨⟨az,ay,ax⟩,aw⟩,⟨aC,aA⟩,al⟩:bR) i),H')∧cz _ H' :=
  Ai (dep+1) (F:=167) (by kernel_rfl) (GB _) (zr hs) (p:=fun i => !vX ents (⟨bh,⟨aQ,aP,aT⟩,aX,⟨⟨⟨bc,ba,bf⟩,bg⟩,au⟩,⟨⟨az,ay,ax⟩,aw⟩,⟨aC,aA⟩,al⟩:bR) i) (hg1 _ _).fr (fun i H' hG=>by
   have:=Ol (dep+3) hG.fr ((hh.grow (hg1 _ _)).grow hG) hb bh aQ aP aT aX bc ba bf bg au az ay ax aw aC aA i.h.lv i.h.cats i.h.num i.n hx (q:=⟨dep+1,2,H.gen (dep+1) 2,0⟩) (p:=⟨dep+1,3,H.gen (dep+1) 3,0⟩) (hG.old _ _ (by simp)) (hG.old _ _ (by simp))
   exact this)
 simp[ah,ai,ae,af,ad, *,jo,hx.r]
 refine kU (by kernel_rfl) hc fun H1 hG=>?_
 have hfin:=(hg1 _ _).trans hG
 simp[hfin,vJ]
end
end Go.Proofs.YtdbiffjdomokfaaGreat
namespace Go.Proofs.YtdbiffjdomokfaaGreat
open Go.Ab
attribute [local simp] bD bq bo bF bE cZ ld bQ bx bA dx dw cg bT aY ct List.take_of_length_le
@[simp] theorem Lj(l:List Int)(n:Nat):(rows l).all (flat (n+1))=true:=by
 simp[rows,List.all_eq_true,aR]
theorem Ii(bh:UInt8)(aQ:UInt32)(aP:UInt8)(aT:Int)(aX:Int)(bc:UInt8)(ba:UInt32)(bf:UInt8)(bg:Int){x:AV}{l:List Int}(hx:Sl 1 (rows l) x)(hl:l.length<1000000):bj env 165 [.agg [a8 bh,aF aQ,a8 aP,aI aT,aI aX,a8 bc,aF ba,a8 bf,aI bg,x]]=some (aI (bad (Gd (⟨⟨⟨⟨bh,aQ,aP⟩,aT⟩,aX⟩,⟨⟨bc,ba,bf⟩,bg⟩,l⟩:Rn)))):=by
 refine aL (fn:=Tryz.f165) (c:=yS) rfl (by kernel_rfl) (by kernel_rfl) (by kernel_rfl) (by kernel_rfl) ?_;refine Ex _ _ _ fun g=>?_
 have h1:=zk hx (by omega)
 have h2:=DV l
 have hr:((⟨⟨bc,ba,bf⟩,bg⟩:fl)=zZ)=((decide (bc=0)&&decide (ba=0)&&decide (bf=0)&&decide (bg=0))=true):=by simp[zZ,and_assoc]
 unfold Gd
 simp only[hr]
 cases hz:(decide (bc=0)&&decide (ba=0)&&decide (bf=0)&&decide (bg=0)) with
 | true =>
  simp[ah,ai,ae,af,ad, *,tC,hx.r,mf,gb]
  repeat' ((first | refine k5 (fun h=>?_) (fun h=>?_) | refine ku (fun h=>?_) (fun h=>?_) | refine ky (fun h=>?_) (fun h=>?_) | refine kq (fun h=>?_) (fun h=>?_) | refine kr (fun h=>?_) (fun h=>?_))<;>(try simp only[decide_eq_true_eq,decide_eq_false_iff_not,Bool.not_eq_true',Bool.not_eq_false',Bool.and_eq_true,Bool.or_eq_true]at h)<;>(try simp[ah,ai,ae,af,ad, *,hx.r]))
 | false =>
  simp[ah,ai,ae,af,ad, *,tC,hx.r,mf,gb]
  repeat' ((first | refine k5 (fun h=>?_) (fun h=>?_) | refine ku (fun h=>?_) (fun h=>?_) | refine ky (fun h=>?_) (fun h=>?_) | refine kq (fun h=>?_) (fun h=>?_) | refine kr (fun h=>?_) (fun h=>?_))<;>(try simp only[decide_eq_true_eq,decide_eq_false_iff_not,Bool.not_eq_true',Bool.not_eq_false',Bool.and_eq_true,Bool.or_eq_true]at h)<;>(try simp[ah,ai,ae,af,ad, *,hx.r]))
theorem ME{r:Rn}(h:Gd r=true):je r.s=true∧(r.l.length:Int)=r.s.many:=by
 simp[Gd]at h;exact⟨h.1,h.2.2.1⟩
def Gz(o:bR):Int:=if qy o then (if o.kind=1∧Gd ⟨o.s,o.a,o.l⟩=true then 0 else 2) else 8
theorem Pq(bh:UInt8)(aQ:UInt8)(aP:UInt32)(aT:UInt8)(aX:Int)(bc:UInt8)(ba:UInt32)(bf:UInt8)(bg:Int)(au:Int)(az:UInt8)(ay:UInt32)(ax:UInt8)(aw:Int)(aC:UInt8)(aA:UInt32){x:AV}{l:List Int}(hx:Sl 1 (rows l) x)(hl:l.length<1000000):bj env 155 [.agg [a8 bh,a8 aQ,aF aP,a8 aT,aI aX,a8 bc,aF ba,a8 bf,aI bg,aI au,a8 az,aF ay,a8 ax,aI aw,a8 aC,aF aA,x]] =
 some (if Gz (⟨bh,⟨aQ,aP,aT⟩,aX,⟨⟨⟨bc,ba,bf⟩,bg⟩,au⟩,⟨⟨az,ay,ax⟩,aw⟩,⟨aC,aA⟩,l⟩:bR)=0 then .tup [.agg [a8 bc,aF ba,a8 bf,aI bg,aI au,a8 az,aF ay,a8 ax,aI aw,.cw 1 (rows l) none],aI 0]
  else .tup [.agg [a8 0,aF 0,a8 0,aI 0,aI 0,a8 0,aF 0,a8 0,aI 0,cW],aI (Gz (⟨bh,⟨aQ,aP,aT⟩,aX,⟨⟨⟨bc,ba,bf⟩,bg⟩,au⟩,⟨⟨az,ay,ax⟩,aw⟩,⟨aC,aA⟩,l⟩:bR))]):=by
 have h1:=lG bh aQ aP aT aX bc ba bf bg au az ay ax aw aC aA hx (by omega)
 have h3:=DS hx (by omega) (by omega)
 cases c1:qy (⟨bh,⟨aQ,aP,aT⟩,aX,⟨⟨⟨bc,ba,bf⟩,bg⟩,au⟩,⟨⟨az,ay,ax⟩,aw⟩,⟨aC,aA⟩,l⟩:bR) with
 | false =>
  have e:Gz (⟨bh,⟨aQ,aP,aT⟩,aX,⟨⟨⟨bc,ba,bf⟩,bg⟩,au⟩,⟨⟨az,ay,ax⟩,aw⟩,⟨aC,aA⟩,l⟩:bR)=8:=by simp[Gz,c1]
  refine aL (fn:=Tryz.f155) (c:=oG) rfl (by kernel_rfl) (by kernel_rfl) (by kernel_rfl) (by kernel_rfl) ?_;refine pJ _ _ _ fun g=>?_
  simp[ah,ai,ae,af,ad, *,lR,hx.r]
 | true =>
  have h2:=fun {y:AV} (hy:Sl 1 (rows l) y)=>Ii bc ba bf bg au az ay ax aw hy hl
  by_cases he:l=[]
  ·have e:Gz (⟨bh,⟨aQ,aP,aT⟩,aX,⟨⟨⟨bc,ba,bf⟩,bg⟩,au⟩,⟨⟨az,ay,ax⟩,aw⟩,⟨aC,aA⟩,l⟩:bR)=2:=by
    simp only[Gz,c1,if_true]
    rw[if_neg]
    rintro⟨_,h⟩
    have hr:=ME h
    simp only at hr
    have hn:=lF hr.1
    simp only at hn
    rw[he]at hr
    simp at hr
    omega
   have hrb:Gd ⟨⟨⟨⟨bc,ba,bf⟩,bg⟩,au⟩,⟨⟨az,ay,ax⟩,aw⟩,l⟩=false:=by
    cases h2:Gd ⟨⟨⟨⟨bc,ba,bf⟩,bg⟩,au⟩,⟨⟨az,ay,ax⟩,aw⟩,l⟩ with
    | false=>rfl
    | true =>
     have hr:=ME h2
     simp only at hr
     have hn:=lF hr.1
     simp only at hn
     rw[he]at hr
     simp at hr
     omega
   subst he
   have rn:rows ([]:List Int)=[]:=rfl
   rcases hx.Nj with ⟨rfl,_⟩ | ⟨c,rfl⟩
   ·have h2':=h2 (y:=cW) (.inl ⟨rfl,rfl⟩)
    clear h2
    refine aL (fn:=Tryz.f155) (c:=oG) rfl (by kernel_rfl) (by kernel_rfl) (by kernel_rfl) (by kernel_rfl) ?_;refine pJ _ _ _ fun g=>?_
    by_cases c2:bh=1
    ·subst c2
     simp[ah,ai,ae,af,ad, *,lR]
    ·simp[ah,ai,ae,af,ad, *,lR]
   ·have h2':=h2 (y := .cw 1 (rows []) (some 0)) (.inr ⟨some 0,rfl,by simp[rows]⟩)
    have h3':bj env 95 [.cw 1 [] c]=some (.fsl 1 [] (some 0)):=h3
    clear h2 h3
    rw[rn]at h1 h2' ⊢
    refine aL (fn:=Tryz.f155) (c:=oG) rfl (by kernel_rfl) (by kernel_rfl) (by kernel_rfl) (by kernel_rfl) ?_;refine pJ _ _ _ fun g=>?_
    by_cases c2:bh=1
    ·subst c2
     simp[ah,ai,ae,af,ad, *,lR]
    ·simp[ah,ai,ae,af,ad, *,lR]
  ·have hr:rows l≠[]:=by simpa using he
   obtain⟨c,rfl,hc⟩:=hx.SX hr
   rw[oF 1 c hr]at h3
   have h2':=h2 (Sl.mk 1 (rows l))
   clear h2
   have fl1:=Lj l
   by_cases c2:bh=1
   ·subst c2
    cases c3:Gd ⟨⟨⟨⟨bc,ba,bf⟩,bg⟩,au⟩,⟨⟨az,ay,ax⟩,aw⟩,l⟩ with
    | false =>
     have e:Gz ⟨1,⟨aQ,aP,aT⟩,aX,⟨⟨⟨bc,ba,bf⟩,bg⟩,au⟩,⟨⟨az,ay,ax⟩,aw⟩,⟨aC,aA⟩,l⟩=2:=by simp[Gz,c1,c3]
     refine aL (fn:=Tryz.f155) (c:=oG) rfl (by kernel_rfl) (by kernel_rfl) (by kernel_rfl) (by kernel_rfl) ?_;refine pJ _ _ _ fun g=>?_
     simp[ah,ai,ae,af,ad, *,lR,hx.r]
    | true =>
     have e:Gz ⟨1,⟨aQ,aP,aT⟩,aX,⟨⟨⟨bc,ba,bf⟩,bg⟩,au⟩,⟨⟨az,ay,ax⟩,aw⟩,⟨aC,aA⟩,l⟩=0:=by simp[Gz,c1,c3]
     refine aL (fn:=Tryz.f155) (c:=oG) rfl (by kernel_rfl) (by kernel_rfl) (by kernel_rfl) (by kernel_rfl) ?_;refine pJ _ _ _ fun g=>?_
     simp[ah,ai,ae,af,ad, *,lR,hx.r]
   ·have e:Gz (⟨bh,⟨aQ,aP,aT⟩,aX,⟨⟨⟨bc,ba,bf⟩,bg⟩,au⟩,⟨⟨az,ay,ax⟩,aw⟩,⟨aC,aA⟩,l⟩:bR)=2:=by simp[Gz,c1,c2]
    refine aL (fn:=Tryz.f155) (c:=oG) rfl (by kernel_rfl) (by kernel_rfl) (by kernel_rfl) (by kernel_rfl) ?_;refine pJ _ _ _ fun g=>?_
    simp[ah,ai,ae,af,ad, *,lR,hx.r]
end Go.Proofs.YtdbiffjdomokfaaGreat
namespace Go.Proofs.YtdbiffjdomokfaaGreat
open Go.Ab
attribute [local simp] bD bq bo bF bE cZ ld bQ bx bA dx dw cg bT aY ct List.take_of_length_le
theorem JP{g:de}{r rm:Ref}{ents:List (fl × AV)}(hr:g rm=some (bt (cD ug ents))):aK env.P false g r .len #[196] [.mp rm]=some (aI ents.length,[]):=by
 have ht:(C2 env.P 196).isSome=true:=by kernel_rfl
 obtain⟨p,hp⟩:=Option.isSome_iff_exists.1 ht
 have e:aK env.P false g r .len #[196] [.mp rm]=qN env.P g (some 196) rm:=rfl
 rw[e]
 unfold qN
 rw[p4 hr,Option.bind_some,hp]
 simp[cD]
def fL(ents:List (fl × AV))(o:bR):Int :=
 if (!iM o.a && !vX ents o o.a)=true then 6 else if Gz o≠0∨(fY o.s).any (ow ents)=true then 2 else if 8192<(ents.length:Int)+o.s.many then 4 else 0
def xP(ents:List (fl × AV))(o:bR):Int:=if vJ ents o=false then 6 else if (decide (o.s.f.h.lv=o.h.lv)&&decide (o.s.f.h.cats=o.h.cats))=false then 2 else 0
def BA(ops:List (bR × AV))(ents:List (fl × AV))(o:bR):Int:=if vJ ents o=false then 6 else if rQ (opsOf ops)=0∧tO (opsOf ops) o=true then 0 else 2
def Ad(ops:List (bR × AV))(ents:List (fl × AV))(o:bR):Int:=if o.kind=1 then fL ents o else if o.kind=2 then xP ents o else BA ops ents o
def Ho(ops:List (bR × AV))(ents:List (fl × AV))(o:bR):Int:=if Ad ops ents o=0∧2048≤ops.length then 4 else Ad ops ents o
section
variable(dep:Nat){H:ab}(hF:Fr H){rh:Ref}{ops:List (bR × AV)}{ents:List (fl × AV)}(hh:vt H rh ops ents)(hb:pH ents)
include hF hh hb
theorem KG(bh:UInt8)(aQ:UInt8)(aP:UInt32)(aT:UInt8)(aX:Int)(bc:UInt8)(ba:UInt32)(bf:UInt8)(bg:Int)(au:Int)(az:UInt8)(ay:UInt32)(ax:UInt8)(aw:Int)(aC:UInt8)(aA:UInt32){x:AV}{al:List Int}(hx:Sl 1 (rows al) x)(hs:je ⟨⟨⟨bc,ba,bf⟩,bg⟩,au⟩=true) :
 ∃H',bU env dep (.fn 134) [.ptr rh 0 0,.agg [a8 bh,a8 aQ,aF aP,a8 aT,aI aX,a8 bc,aF ba,a8 bf,aI bg,aI au,a8 az,aF ay,a8 ax,aI aw,a8 aC,aF aA,x]] H=some (aI (xP ents (⟨bh,⟨aQ,aP,aT⟩,aX,⟨⟨⟨bc,ba,bf⟩,bg⟩,au⟩,⟨⟨az,ay,ax⟩,aw⟩,⟨aC,aA⟩,al⟩:bR)),H')∧cz H H':=by
 refine fw (fn:=Tryz.f134) (c:=il) (by kernel_rfl) (by kernel_rfl) (by kernel_rfl) (by kernel_rfl) (by kernel_rfl) ?_
 refine mg _ _ _ _ _ fun g=>?_
 have hg1 : ∀b1:bM,cz H ((⟨dep+1,3,H.gen (dep+1) 3,0⟩,some b1) :: H):=fun b1=>cz.cons hF _ _ _
 have hA:=Oj (dep+1) (hg1 ⟨17,[.agg [a8 bh,a8 aQ,aF aP,a8 aT,aI aX,a8 bc,aF ba,a8 bf,aI bg,aI au,a8 az,aF ay,a8 ax,aI aw,a8 aC,aF aA,x]],false,false⟩).fr (hh.grow (hg1 _)) hb bh aQ aP aT aX bc ba bf bg au az ay ax aw aC aA hx hs
 simp[ah,ai,ae,af,ad, *,ir,hx.r]
 refine kU (by kernel_rfl) hA fun H1 hG=>?_
 have hfin:=(hg1 _).trans hG
 have hbx:=hG.old ⟨dep+1,3,H.gen (dep+1) 3,0⟩ _ (by simp;rfl)
 unfold xP
 cases vJ ents (⟨bh,⟨aQ,aP,aT⟩,aX,⟨⟨⟨bc,ba,bf⟩,bg⟩,au⟩,⟨⟨az,ay,ax⟩,aw⟩,⟨aC,aA⟩,al⟩:bR) with
 | false=>simp[hfin]
 | true =>
  cases hd:(decide (bc=aQ)&&decide (ba=aP)) with
  | false=>simp[hbx,hfin,hx.r,mf,gb,hd]
  | true=>simp[hbx,hfin,hx.r,mf,gb,hd]
theorem raise_at(hall : ∀p∈ops,ID p)(hl:ops.length<100000)(bh:UInt8)(aQ:UInt8)(aP:UInt32)(aT:UInt8)(aX:Int)(bc:UInt8)(ba:UInt32)(bf:UInt8)(bg:Int)(au:Int)(az:UInt8)(ay:UInt32)(ax:UInt8)(aw:Int)(aC:UInt8)(aA:UInt32){x:AV}{al:List Int}(hx:Sl 1 (rows al) x)(hal:al.length<2000000)(ho:qy (⟨bh,⟨aQ,aP,aT⟩,aX,⟨⟨⟨bc,ba,bf⟩,bg⟩,au⟩,⟨⟨az,ay,ax⟩,aw⟩,⟨aC,aA⟩,al⟩:bR)=true) :
 ∃H',bU env dep (.fn 135) [.ptr rh 0 0,.agg [a8 bh,a8 aQ,aF aP,a8 aT,aI aX,a8 bc,aF ba,a8 bf,aI bg,aI au,a8 az,aF ay,a8 ax,aI aw,a8 aC,aF aA,x]] H=some (aI (BA ops ents (⟨bh,⟨aQ,aP,aT⟩,aX,⟨⟨⟨bc,ba,bf⟩,bg⟩,au⟩,⟨⟨az,ay,ax⟩,aw⟩,⟨aC,aA⟩,al⟩:bR)),H')∧cz H H':=by
 have hs:=si ho
 simp only at hs
 refine fw (fn:=Tryz.f135) (c:=iH) (by kernel_rfl) (by kernel_rfl) (by kernel_rfl) (by kernel_rfl) (by kernel_rfl) ?_
 refine mM _ _ _ _ _ fun g=>?_
 have hg1 : ∀b1:bM,cz H ((⟨dep+1,3,H.gen (dep+1) 3,0⟩,some b1) :: H):=fun b1=>cz.cons hF _ _ _
 have hA:=Oj (dep+1) (hg1 ⟨17,[.agg [a8 bh,a8 aQ,aF aP,a8 aT,aI aX,a8 bc,aF ba,a8 bf,aI bg,aI au,a8 az,aF ay,a8 ax,aI aw,a8 aC,aF aA,x]],false,false⟩).fr (hh.grow (hg1 _)) hb bh aQ aP aT aX bc ba bf bg au az ay ax aw aC aA hx hs
 simp[ah,ai,ae,af,ad, *,iJ,hx.r]
 refine kU (by kernel_rfl) hA fun H1 hG=>?_
 have hfin:=(hg1 _).trans hG
 have hbx:=hG.old ⟨dep+1,3,H.gen (dep+1) 3,0⟩ _ (by simp;rfl)
 obtain⟨xo,vo,rm,h1,h2,h3⟩:=(hh.grow hfin).box
 have hso:=h2.r
 have hC:=MD h2.sl hall hl bh aQ aP aT aX bc ba bf bg au az ay ax aw aC aA hx hal
 rw[if_pos ho]at hC
 unfold BA
 cases vJ ents (⟨bh,⟨aQ,aP,aT⟩,aX,⟨⟨⟨bc,ba,bf⟩,bg⟩,au⟩,⟨⟨az,ay,ax⟩,aw⟩,⟨aC,aA⟩,al⟩:bR) with
 | false=>simp[hfin]
 | true =>
  by_cases hc:rQ (opsOf ops)=0
  ·rw[if_pos hc]at hC
   cases hf:tO (opsOf ops) (⟨bh,⟨aQ,aP,aT⟩,aX,⟨⟨⟨bc,ba,bf⟩,bg⟩,au⟩,⟨⟨az,ay,ax⟩,aw⟩,⟨aC,aA⟩,al⟩:bR) with
   | false =>
    rw[hf]at hC
    simp[hbx,hfin,h1,hso,hx.r,hC]
   | true =>
    rw[hf]at hC
    simp[hbx,hfin,h1,hso,hx.r,hC,hc]
  ·rw[if_neg hc]at hC
   simp[hbx,hfin,h1,hso,hx.r,hC,hc]
end
end Go.Proofs.YtdbiffjdomokfaaGreat
