/-
  What a history tells of an operation: names, and each kind's error. No statement of a seat is proved here.
-/
import Derived.Test.YtdbiffjdomokfaaGreatMLeDoc2
import Derived.Test.YtdbiffjdomokfaaGreatMOpBytes
set_option linter.unusedVariables false
set_option linter.unusedSimpArgs false
set_option linter.unusedSectionVars false
set_option linter.unnecessarySimpa false
set_option maxRecDepth 100000
namespace Go.Proofs.YtdbiffjdomokfaaGreat
open Go.Ab
attribute [local simp] bD bp bl bC bB cV lj bP bt bA dc db cg bR aV cm List.take_of_length_le
def eD(s:Ao):List eE:=(List.range s.many.toNat).map fun k=>Hg s.f (k:Nat)
theorem Jn(bh:UInt8)(aQ:UInt32)(aP:UInt8)(aW:Int)(aY:Int)(hs:jg (⟨⟨⟨bh,aQ,aP⟩,aW⟩,aY⟩:Ao)=true){Q:AV→ab→Prop} : ∀(d k:Nat)(i:Int)(x2:AV)(H:ab),k+d=aY.toNat→i=k→Fr H→H.get ⟨0,1,0,0⟩=some ⟨5,[.agg [a8 bh,aG aQ,a8 aP,aI aW,aI aY]],false,false⟩→Dg [20] 4 (lb ((List.range k).map fun(k:Nat)=>Hg ⟨⟨bh,aQ,aP⟩,aW⟩ k)) H x2 →
 (∀y H',Dg [20] 4 (lb (eD (⟨⟨⟨bh,aQ,aP⟩,aW⟩,aY⟩:Ao))) H' y→Q y H') →
 bT env Tryz.f130 0 lI [(8,aI i),(2,x2),(1,.ptr ⟨0,1,0,0⟩ 0 0),(7,aI aY)] H Q:=by
 have hn:=ko hs
 simp only at hn
 intro d
 induction d with
 | zero =>
  rintro k i x2 H hk rfl hF hb hO hQ
  have hfin:=hQ x2 H (by unfold eD;simp only;rw[show aY.toNat=k by omega];exact hO)
  have hlt : ¬(k:Int)<aY:=by omega
  refine uQ _ _ _ _ _ _ fun g=>?_
  clear hQ hO
  simp[ah,ai,ae,af,ad, *,ot]
  all_goals exact hfin
 | succ d ih =>
  rintro k i x2 H hk rfl hF hb hO hQ
  have e3:=IntWalk.i64_in ((k:Int)+1) (by omega)
  have hlt:(k:Int)<aY:=by omega
  have eA:PB (⟨⟨⟨bh,aQ,aP⟩,aW⟩,aY⟩:Ao) (k:Int)=0:=by
   unfold PB
   rw[if_pos hs,if_neg]
   simp only
   omega
  have hA:=W4 bh aQ aP aW aY (k:Int)
  rw[if_pos eA]at hA
  have l1:(H.get ⟨0,1,0,0⟩).isSome=true:=by rw[hb];rfl
  have hst : ∀(g:Nat)(m:Nat)(H1:ab),m=k+1→Fr H1→H1.get ⟨0,1,0,0⟩=some ⟨5,[.agg [a8 bh,aG aQ,a8 aP,aI aW,aI aY]],false,false⟩→H1.get ⟨0,20,g,0⟩=some ⟨4,lb ((List.range k).map fun(k:Nat)=>Hg ⟨⟨bh,aQ,aP⟩,aW⟩ k)++[.agg [a8 bh,aG aQ,a8 aP,aI (aW+k)]],true,false⟩ →
   bT env Tryz.f130 0 lI [(8,aI ((k:Int)+1)),(2,.cM ⟨0,20,g,0⟩ 0 m none),(1,.ptr ⟨0,1,0,0⟩ 0 0),(7,aI aY)] H1 Q:=by
   intro g m H1 hm f1 f2 f3
   subst hm
   refine ih (k+1) ((k:Int)+1) _ H1 (by omega) (by simp) f1 f2 (.inr ⟨20,g,by simp,by simp,?_⟩) hQ
   rw[f3]
   simp[lb,List.range_succ,uL,Hg]
  clear ih hQ
  refine uQ _ _ _ _ _ _ fun g=>?_
  generalize he:lb ((List.range k).map fun(k:Nat)=>Hg ⟨⟨bh,aQ,aP⟩,aW⟩ k)=es at *
  have hel:es.length=k:=by rw[←he];simp
  clear he eA
  rcases hO with ⟨rfl,rfl⟩ | ⟨t,gg,ht,rfl,hr⟩
  ·have hst':=fun H1=>hst (H.gen 0 20) 1 H1 (by simp at hel;omega)
   clear hst hel
   simp[ah,ai,ae,af,ad, *,ot]
   refine hst' _ ?_ ?_ ?_
   ·exact by simp(maxDischargeDepth:=12) [ab.get_put,aq,an,Fr.nil,aD,ah,ai,ae,af,ar,ao,ad, *]
   ·exact by simp(maxDischargeDepth:=12) [ab.get_put,aq,an,Fr.nil,aD,ah,ai,ae,af,ar,ao,ad, *]
   ·exact by simp(maxDischargeDepth:=12) [ab.get_put,aq,an,Fr.nil,aD,ah,ai,ae,af,ar,ao,ad, *]
  ·rw[List.mem_singleton]at ht
   subst ht
   rw[hel]
   have hst':=hst (H.gen 0 20) (k+1)
   clear hst
   have l6:(H.get ⟨0,20,gg,0⟩).isSome=true:=by rw[hr];rfl
   have f4:mN 4 24 k true none (some ⟨4,es,true,false⟩) (some [.agg [a8 bh,aG aQ,a8 aP,aI (aW+k)]]):=by
    simp[hel];omega
   simp[ah,ai,ae,af,ad, *,ot]
   refine hst' _ rfl ?_ ?_ ?_
   ·exact by simp(maxDischargeDepth:=12) [ab.get_put,aq,an,Fr.nil,aD,ah,ai,ae,af,ar,ao,ad, *]
   ·exact by simp(maxDischargeDepth:=12) [ab.get_put,aq,an,Fr.nil,aD,ah,ai,ae,af,ar,ao,ad, *]
   ·exact by simp(maxDischargeDepth:=12) [ab.get_put,aq,an,Fr.nil,aD,ah,ai,ae,af,ar,ao,ad, *]
theorem Fm(bh:UInt8)(aQ:UInt32)(aP:UInt8)(aW:Int)(aY:Int)(hs:jg (⟨⟨⟨bh,aQ,aP⟩,aW⟩,aY⟩:Ao)=true):bj env 130 [.agg [a8 bh,aG aQ,a8 aP,aI aW,aI aY]]=some (.cw 4 (lb (eD (⟨⟨⟨bh,aQ,aP⟩,aW⟩,aY⟩:Ao))) none):=by
 have hn:=ko hs
 simp only at hn
 have hne:lb (eD (⟨⟨⟨bh,aQ,aP⟩,aW⟩,aY⟩:Ao))≠[]:=by
  intro e
  have:=congrArg List.length e
  simp[eD]at this
  omega
 refine aK (fn:=Tryz.f130) (c:=tP) rfl (by kernel_rfl) (by kernel_rfl) (by kernel_rfl) (by kernel_rfl) ?_;refine Fg _ _ _ fun g=>?_
 have hfin:=fun H h1 h2=>Jn bh aQ aP aW aY hs (Q:=fun y H'=>view H'.get 8 y=some (.cw 4 (lb (eD (⟨⟨⟨bh,aQ,aP⟩,aW⟩,aY⟩:Ao))) none)) aY.toNat 0 0 cP H (by omega) rfl h1 h2 (.inl ⟨rfl,by simp[lb]⟩) (fun y H' h=>by
  rcases h with ⟨_,h⟩ | ⟨t,g,_,rfl,hr⟩
  ·exact absurd h hne
  ·rw[Ef hr rfl])
 simp[ah,ai,ae,af,ad, *,zt]
 exact hfin _ (by simp(maxDischargeDepth:=12) [ab.get_put,aq,an,Fr.nil,aD,ah,ai,ae,af,ar,ao,ad, *]) rfl
theorem Hh(s:Ao):Sl 4 (lb (eD s)) (.cw 4 (lb (eD s)) none):=Sl.mk _ _
theorem zR{s:Ao}(h:jg s=true):(eD s).length<100000:=by
 have hn:=ko h
 simp[eD]
 omega
def pT(ents:List (eE × AV))(o:bG):Bool := !(eD o.s).any fun i => !sE ents o i
section
variable(dep:Nat){H:ab}(hF:Fr H){rh:Ref}{ops:List (bG × AV)}{ents:List (eE × AV)}(hh:vT H rh ops ents)(hb:pY ents)
include hF hh hb
theorem O7(bh:UInt8)(aQ:UInt8)(aP:UInt32)(aW:UInt8)(aY:Int)(bc:UInt8)(ba:UInt32)(bf:UInt8)(bg:Int)(au:Int)(az:UInt8)(ay:UInt32)(ax:UInt8)(aw:Int)(aC:UInt8)(aA:UInt32){x:AV}{al:List Int}(hx:Sl 1 (rows al) x)(hs:jg ⟨⟨⟨bc,ba,bf⟩,bg⟩,au⟩=true) :
 ∃H',bV env dep (.fn 158) [.ptr rh 0 0,.agg [a8 bh,a8 aQ,aG aP,a8 aW,aI aY,a8 bc,aG ba,a8 bf,aI bg,aI au,a8 az,aG ay,a8 ax,aI aw,a8 aC,aG aA,x]] H=some (aB (pT ents (⟨bh,⟨aQ,aP,aW⟩,aY,⟨⟨⟨bc,ba,bf⟩,bg⟩,au⟩,⟨⟨az,ay,ax⟩,aw⟩,⟨aC,aA⟩,al⟩:bG)),H')∧cE H H':=by
 refine fA (fn:=Tryz.f158) (c:=jn) (by kernel_rfl) (by kernel_rfl) (by kernel_rfl) (by kernel_rfl) (by kernel_rfl) ?_
 refine nG _ _ _ _ _ fun g=>?_
 have hN:=Fm bc ba bf bg au hs
 have hg1 : ∀b1 b2:bN,cE H ((⟨dep+1,3,H.gen (dep+1) 3,0⟩,some b2) :: (⟨dep+1,2,H.gen (dep+1) 2,0⟩,some b1) :: H):=fun b1 b2=>⟨by simp(maxDischargeDepth:=12) [ab.get_put,aq,an,Fr.nil,aD,ah,ai,ae,af,ar,ao,ad, *],fun q c hq=>by
  have lq:(H.get q).isSome=true:=by rw[hq];rfl
  simp[ah hF lq,hq]⟩
 have hc : ∃H',bV env (dep+1) (.fn 156) ([]++[.cw 4 (lb (eD ⟨⟨⟨bc,ba,bf⟩,bg⟩,au⟩)) none,.fn (.func 167) [] [.ptr ⟨dep+1,2,H.gen (dep+1) 2,0⟩ 0 0,.ptr ⟨dep+1,3,H.gen (dep+1) 3,0⟩ 0 0]]++[])
  ((⟨dep+1,3,H.gen (dep+1) 3,0⟩,some ⟨17,[.agg [a8 bh,a8 aQ,aG aP,a8 aW,aI aY,a8 bc,aG ba,a8 bf,aI bg,aI au,a8 az,aG ay,a8 ax,aI aw,a8 aC,aG aA,x]],false,false⟩) :: (⟨dep+1,2,H.gen (dep+1) 2,0⟩,some ⟨1,[.ptr rh 0 0],false,false⟩) :: H)=some (aB ((eD ⟨⟨⟨bc,ba,bf⟩,bg⟩,au⟩).any fun i => !sE ents (⟨bh,⟨aQ,aP,aW⟩,aY,⟨⟨⟨bc,ba,bf⟩,bg⟩,au⟩,⟨⟨az,ay,ax⟩,aw⟩,⟨aC,aA⟩,al⟩:bG) i),H')∧cE _ H' :=
  AK (dep+1) (F:=167) (by kernel_rfl) (Hh _) (zR hs) (p:=fun i => !sE ents (⟨bh,⟨aQ,aP,aW⟩,aY,⟨⟨⟨bc,ba,bf⟩,bg⟩,au⟩,⟨⟨az,ay,ax⟩,aw⟩,⟨aC,aA⟩,al⟩:bG) i) (hg1 _ _).fr (fun i H' hG=>by
   have:=O8 (dep+3) hG.fr ((hh.grow (hg1 _ _)).grow hG) hb bh aQ aP aW aY bc ba bf bg au az ay ax aw aC aA i.h.lv i.h.cats i.h.num i.n hx (q:=⟨dep+1,2,H.gen (dep+1) 2,0⟩) (p:=⟨dep+1,3,H.gen (dep+1) 3,0⟩) (hG.old _ _ (by simp)) (hG.old _ _ (by simp))
   exact this)
 simp[ah,ai,ae,af,ad, *,jq,hx.r]
 refine k6 (by kernel_rfl) hc fun H1 hG=>?_
 have hfin:=(hg1 _ _).trans hG
 simp[hfin,pT]
end
end Go.Proofs.YtdbiffjdomokfaaGreat
namespace Go.Proofs.YtdbiffjdomokfaaGreat
open Go.Ab
attribute [local simp] bD bp bl bC bB cV lj bP bt bA dc db cg bR aV cm List.take_of_length_le
@[simp] theorem L9(l:List Int)(n:Nat):(rows l).all (flat (n+1))=true:=by
 simp[rows,List.all_eq_true,aR]
theorem I0(bh:UInt8)(aQ:UInt32)(aP:UInt8)(aW:Int)(aY:Int)(bc:UInt8)(ba:UInt32)(bf:UInt8)(bg:Int){x:AV}{l:List Int}(hx:Sl 1 (rows l) x)(hl:l.length<1000000):bj env 165 [.agg [a8 bh,aG aQ,a8 aP,aI aW,aI aY,a8 bc,aG ba,a8 bf,aI bg,x]]=some (aI (bad (GS (⟨⟨⟨⟨bh,aQ,aP⟩,aW⟩,aY⟩,⟨⟨bc,ba,bf⟩,bg⟩,l⟩:Rn)))):=by
 refine aK (fn:=Tryz.f165) (c:=zk) rfl (by kernel_rfl) (by kernel_rfl) (by kernel_rfl) (by kernel_rfl) ?_;refine Fa _ _ _ fun g=>?_
 have h1:=zK hx (by omega)
 have h2:=Ex l
 have hr:((⟨⟨bc,ba,bf⟩,bg⟩:eE)=Au)=((decide (bc=0)&&decide (ba=0)&&decide (bf=0)&&decide (bg=0))=true):=by simp[Au,and_assoc]
 unfold GS
 simp only[hr]
 cases hz:(decide (bc=0)&&decide (ba=0)&&decide (bf=0)&&decide (bg=0)) with
 | true =>
  simp[ah,ai,ae,af,ad, *,tV,hx.r,lZ,gb]
  repeat' ((first | refine kO (fun h=>?_) (fun h=>?_) | refine kC (fun h=>?_) (fun h=>?_) | refine kD (fun h=>?_) (fun h=>?_) | refine kA (fun h=>?_) (fun h=>?_) | refine kB (fun h=>?_) (fun h=>?_))<;>(try simp only[decide_eq_true_eq,decide_eq_false_iff_not,Bool.not_eq_true',Bool.not_eq_false',Bool.and_eq_true,Bool.or_eq_true]at h)<;>(try simp[ah,ai,ae,af,ad, *,hx.r]))
 | false =>
  simp[ah,ai,ae,af,ad, *,tV,hx.r,lZ,gb]
  repeat' ((first | refine kO (fun h=>?_) (fun h=>?_) | refine kC (fun h=>?_) (fun h=>?_) | refine kD (fun h=>?_) (fun h=>?_) | refine kA (fun h=>?_) (fun h=>?_) | refine kB (fun h=>?_) (fun h=>?_))<;>(try simp only[decide_eq_true_eq,decide_eq_false_iff_not,Bool.not_eq_true',Bool.not_eq_false',Bool.and_eq_true,Bool.or_eq_true]at h)<;>(try simp[ah,ai,ae,af,ad, *,hx.r]))
theorem Ny{r:Rn}(h:GS r=true):jg r.s=true∧(r.l.length:Int)=r.s.many:=by
 simp[GS]at h;exact⟨h.1,h.2.2.1⟩
def Hf(o:bG):Int:=if mT o then (if o.kind=1∧GS ⟨o.s,o.a,o.l⟩=true then 0 else 2) else 8
theorem P9(bh:UInt8)(aQ:UInt8)(aP:UInt32)(aW:UInt8)(aY:Int)(bc:UInt8)(ba:UInt32)(bf:UInt8)(bg:Int)(au:Int)(az:UInt8)(ay:UInt32)(ax:UInt8)(aw:Int)(aC:UInt8)(aA:UInt32){x:AV}{l:List Int}(hx:Sl 1 (rows l) x)(hl:l.length<1000000):bj env 155 [.agg [a8 bh,a8 aQ,aG aP,a8 aW,aI aY,a8 bc,aG ba,a8 bf,aI bg,aI au,a8 az,aG ay,a8 ax,aI aw,a8 aC,aG aA,x]] =
 some (if Hf (⟨bh,⟨aQ,aP,aW⟩,aY,⟨⟨⟨bc,ba,bf⟩,bg⟩,au⟩,⟨⟨az,ay,ax⟩,aw⟩,⟨aC,aA⟩,l⟩:bG)=0 then .tup [.agg [a8 bc,aG ba,a8 bf,aI bg,aI au,a8 az,aG ay,a8 ax,aI aw,.cw 1 (rows l) none],aI 0]
  else .tup [.agg [a8 0,aG 0,a8 0,aI 0,aI 0,a8 0,aG 0,a8 0,aI 0,cP],aI (Hf (⟨bh,⟨aQ,aP,aW⟩,aY,⟨⟨⟨bc,ba,bf⟩,bg⟩,au⟩,⟨⟨az,ay,ax⟩,aw⟩,⟨aC,aA⟩,l⟩:bG))]):=by
 have h1:=lO bh aQ aP aW aY bc ba bf bg au az ay ax aw aC aA hx (by omega)
 have h3:=Es hx (by omega) (by omega)
 cases c1:mT (⟨bh,⟨aQ,aP,aW⟩,aY,⟨⟨⟨bc,ba,bf⟩,bg⟩,au⟩,⟨⟨az,ay,ax⟩,aw⟩,⟨aC,aA⟩,l⟩:bG) with
 | false =>
  have e:Hf (⟨bh,⟨aQ,aP,aW⟩,aY,⟨⟨⟨bc,ba,bf⟩,bg⟩,au⟩,⟨⟨az,ay,ax⟩,aw⟩,⟨aC,aA⟩,l⟩:bG)=8:=by simp[Hf,c1]
  refine aK (fn:=Tryz.f155) (c:=oS) rfl (by kernel_rfl) (by kernel_rfl) (by kernel_rfl) (by kernel_rfl) ?_;refine p4 _ _ _ fun g=>?_
  simp[ah,ai,ae,af,ad, *,lX,hx.r]
 | true =>
  have h2:=fun {y:AV} (hy:Sl 1 (rows l) y)=>I0 bc ba bf bg au az ay ax aw hy hl
  by_cases he:l=[]
  ·have e:Hf (⟨bh,⟨aQ,aP,aW⟩,aY,⟨⟨⟨bc,ba,bf⟩,bg⟩,au⟩,⟨⟨az,ay,ax⟩,aw⟩,⟨aC,aA⟩,l⟩:bG)=2:=by
    simp only[Hf,c1,if_true]
    rw[if_neg]
    rintro⟨_,h⟩
    have hr:=Ny h
    simp only at hr
    have hn:=ko hr.1
    simp only at hn
    rw[he]at hr
    simp at hr
    omega
   have hrb:GS ⟨⟨⟨⟨bc,ba,bf⟩,bg⟩,au⟩,⟨⟨az,ay,ax⟩,aw⟩,l⟩=false:=by
    cases h2:GS ⟨⟨⟨⟨bc,ba,bf⟩,bg⟩,au⟩,⟨⟨az,ay,ax⟩,aw⟩,l⟩ with
    | false=>rfl
    | true =>
     have hr:=Ny h2
     simp only at hr
     have hn:=ko hr.1
     simp only at hn
     rw[he]at hr
     simp at hr
     omega
   subst he
   have rn:rows ([]:List Int)=[]:=rfl
   rcases hx.N7 with ⟨rfl,_⟩ | ⟨c,rfl⟩
   ·have h2':=h2 (y:=cP) (.inl ⟨rfl,rfl⟩)
    clear h2
    refine aK (fn:=Tryz.f155) (c:=oS) rfl (by kernel_rfl) (by kernel_rfl) (by kernel_rfl) (by kernel_rfl) ?_;refine p4 _ _ _ fun g=>?_
    by_cases c2:bh=1
    ·subst c2
     simp[ah,ai,ae,af,ad, *,lX]
    ·simp[ah,ai,ae,af,ad, *,lX]
   ·have h2':=h2 (y := .cw 1 (rows []) (some 0)) (.inr ⟨some 0,rfl,by simp[rows]⟩)
    have h3':bj env 95 [.cw 1 [] c]=some (.fsl 1 [] (some 0)):=h3
    clear h2 h3
    rw[rn]at h1 h2' ⊢
    refine aK (fn:=Tryz.f155) (c:=oS) rfl (by kernel_rfl) (by kernel_rfl) (by kernel_rfl) (by kernel_rfl) ?_;refine p4 _ _ _ fun g=>?_
    by_cases c2:bh=1
    ·subst c2
     simp[ah,ai,ae,af,ad, *,lX]
    ·simp[ah,ai,ae,af,ad, *,lX]
  ·have hr:rows l≠[]:=by simpa using he
   obtain⟨c,rfl,hc⟩:=hx.TB hr
   rw[oR 1 c hr]at h3
   have h2':=h2 (Sl.mk 1 (rows l))
   clear h2
   have fl1:=L9 l
   by_cases c2:bh=1
   ·subst c2
    cases c3:GS ⟨⟨⟨⟨bc,ba,bf⟩,bg⟩,au⟩,⟨⟨az,ay,ax⟩,aw⟩,l⟩ with
    | false =>
     have e:Hf ⟨1,⟨aQ,aP,aW⟩,aY,⟨⟨⟨bc,ba,bf⟩,bg⟩,au⟩,⟨⟨az,ay,ax⟩,aw⟩,⟨aC,aA⟩,l⟩=2:=by simp[Hf,c1,c3]
     refine aK (fn:=Tryz.f155) (c:=oS) rfl (by kernel_rfl) (by kernel_rfl) (by kernel_rfl) (by kernel_rfl) ?_;refine p4 _ _ _ fun g=>?_
     simp[ah,ai,ae,af,ad, *,lX,hx.r]
    | true =>
     have e:Hf ⟨1,⟨aQ,aP,aW⟩,aY,⟨⟨⟨bc,ba,bf⟩,bg⟩,au⟩,⟨⟨az,ay,ax⟩,aw⟩,⟨aC,aA⟩,l⟩=0:=by simp[Hf,c1,c3]
     refine aK (fn:=Tryz.f155) (c:=oS) rfl (by kernel_rfl) (by kernel_rfl) (by kernel_rfl) (by kernel_rfl) ?_;refine p4 _ _ _ fun g=>?_
     simp[ah,ai,ae,af,ad, *,lX,hx.r]
   ·have e:Hf (⟨bh,⟨aQ,aP,aW⟩,aY,⟨⟨⟨bc,ba,bf⟩,bg⟩,au⟩,⟨⟨az,ay,ax⟩,aw⟩,⟨aC,aA⟩,l⟩:bG)=2:=by simp[Hf,c1,c2]
    refine aK (fn:=Tryz.f155) (c:=oS) rfl (by kernel_rfl) (by kernel_rfl) (by kernel_rfl) (by kernel_rfl) ?_;refine p4 _ _ _ fun g=>?_
    simp[ah,ai,ae,af,ad, *,lX,hx.r]
end Go.Proofs.YtdbiffjdomokfaaGreat
namespace Go.Proofs.YtdbiffjdomokfaaGreat
open Go.Ab
attribute [local simp] bD bp bl bC bB cV lj bP bt bA dc db cg bR aV cm List.take_of_length_le
theorem KC{g:dk}{r rm:Ref}{ents:List (eE × AV)}(hr:g rm=some (bw (cH uL ents))):aJ env.P false g r .len #[196] [.mp rm]=some (aI ents.length,[]):=by
 have ht:(Dy env.P 196).isSome=true:=by kernel_rfl
 obtain⟨p,hp⟩:=Option.isSome_iff_exists.1 ht
 have e:aJ env.P false g r .len #[196] [.mp rm]=re env.P g (some 196) rm:=rfl
 rw[e]
 unfold re
 rw[qo hr,Option.bind_some,hp]
 simp[cH]
def fv(ents:List (eE × AV))(o:bG):Int :=
 if (!iM o.a && !sE ents o o.a)=true then 6 else if Hf o≠0∨(eD o.s).any (gC ents)=true then 2 else if 8192<(ents.length:Int)+o.s.many then 4 else 0
def wi(ents:List (eE × AV))(o:bG):Int:=if pT ents o=false then 6 else if (decide (o.s.f.h.lv=o.h.lv)&&decide (o.s.f.h.cats=o.h.cats))=false then 2 else 0
def xt(ops:List (bG × AV))(ents:List (eE × AV))(o:bG):Int:=if pT ents o=false then 6 else if nZ (opsOf ops)=0∧mz (opsOf ops) o=true then 0 else 2
def uj(ops:List (bG × AV))(ents:List (eE × AV))(o:bG):Int:=if o.kind=1 then fv ents o else if o.kind=2 then wi ents o else xt ops ents o
def tH(ops:List (bG × AV))(ents:List (eE × AV))(o:bG):Int:=if uj ops ents o=0∧2048≤ops.length then 4 else uj ops ents o
section
variable(dep:Nat){H:ab}(hF:Fr H){rh:Ref}{ops:List (bG × AV)}{ents:List (eE × AV)}(hh:vT H rh ops ents)(hb:pY ents)
include hF hh hb
theorem Lv(bh:UInt8)(aQ:UInt8)(aP:UInt32)(aW:UInt8)(aY:Int)(bc:UInt8)(ba:UInt32)(bf:UInt8)(bg:Int)(au:Int)(az:UInt8)(ay:UInt32)(ax:UInt8)(aw:Int)(aC:UInt8)(aA:UInt32){x:AV}{al:List Int}(hx:Sl 1 (rows al) x)(hs:jg ⟨⟨⟨bc,ba,bf⟩,bg⟩,au⟩=true) :
 ∃H',bV env dep (.fn 134) [.ptr rh 0 0,.agg [a8 bh,a8 aQ,aG aP,a8 aW,aI aY,a8 bc,aG ba,a8 bf,aI bg,aI au,a8 az,aG ay,a8 ax,aI aw,a8 aC,aG aA,x]] H=some (aI (wi ents (⟨bh,⟨aQ,aP,aW⟩,aY,⟨⟨⟨bc,ba,bf⟩,bg⟩,au⟩,⟨⟨az,ay,ax⟩,aw⟩,⟨aC,aA⟩,al⟩:bG)),H')∧cE H H':=by
 refine fA (fn:=Tryz.f134) (c:=iq) (by kernel_rfl) (by kernel_rfl) (by kernel_rfl) (by kernel_rfl) (by kernel_rfl) ?_
 refine mj _ _ _ _ _ fun g=>?_
 have hg1 : ∀b1:bN,cE H ((⟨dep+1,3,H.gen (dep+1) 3,0⟩,some b1) :: H):=fun b1=>cE.cons hF _ _ _
 have hA:=O7 (dep+1) (hg1 ⟨17,[.agg [a8 bh,a8 aQ,aG aP,a8 aW,aI aY,a8 bc,aG ba,a8 bf,aI bg,aI au,a8 az,aG ay,a8 ax,aI aw,a8 aC,aG aA,x]],false,false⟩).fr (hh.grow (hg1 _)) hb bh aQ aP aW aY bc ba bf bg au az ay ax aw aC aA hx hs
 simp[ah,ai,ae,af,ad, *,iv,hx.r]
 refine k6 (by kernel_rfl) hA fun H1 hG=>?_
 have hfin:=(hg1 _).trans hG
 have hbx:=hG.old ⟨dep+1,3,H.gen (dep+1) 3,0⟩ _ (by simp;rfl)
 unfold wi
 cases pT ents (⟨bh,⟨aQ,aP,aW⟩,aY,⟨⟨⟨bc,ba,bf⟩,bg⟩,au⟩,⟨⟨az,ay,ax⟩,aw⟩,⟨aC,aA⟩,al⟩:bG) with
 | false=>simp[hfin]
 | true =>
  cases hd:(decide (bc=aQ)&&decide (ba=aP)) with
  | false=>simp[hbx,hfin,hx.r,lZ,gb,hd]
  | true=>simp[hbx,hfin,hx.r,lZ,gb,hd]
theorem raise_at(hall : ∀p∈ops,Jm p)(hl:ops.length<100000)(bh:UInt8)(aQ:UInt8)(aP:UInt32)(aW:UInt8)(aY:Int)(bc:UInt8)(ba:UInt32)(bf:UInt8)(bg:Int)(au:Int)(az:UInt8)(ay:UInt32)(ax:UInt8)(aw:Int)(aC:UInt8)(aA:UInt32){x:AV}{al:List Int}(hx:Sl 1 (rows al) x)(hal:al.length<2000000)(ho:mT (⟨bh,⟨aQ,aP,aW⟩,aY,⟨⟨⟨bc,ba,bf⟩,bg⟩,au⟩,⟨⟨az,ay,ax⟩,aw⟩,⟨aC,aA⟩,al⟩:bG)=true) :
 ∃H',bV env dep (.fn 135) [.ptr rh 0 0,.agg [a8 bh,a8 aQ,aG aP,a8 aW,aI aY,a8 bc,aG ba,a8 bf,aI bg,aI au,a8 az,aG ay,a8 ax,aI aw,a8 aC,aG aA,x]] H=some (aI (xt ops ents (⟨bh,⟨aQ,aP,aW⟩,aY,⟨⟨⟨bc,ba,bf⟩,bg⟩,au⟩,⟨⟨az,ay,ax⟩,aw⟩,⟨aC,aA⟩,al⟩:bG)),H')∧cE H H':=by
 have hs:=pf ho
 simp only at hs
 refine fA (fn:=Tryz.f135) (c:=iH) (by kernel_rfl) (by kernel_rfl) (by kernel_rfl) (by kernel_rfl) (by kernel_rfl) ?_
 refine mQ _ _ _ _ _ fun g=>?_
 have hg1 : ∀b1:bN,cE H ((⟨dep+1,3,H.gen (dep+1) 3,0⟩,some b1) :: H):=fun b1=>cE.cons hF _ _ _
 have hA:=O7 (dep+1) (hg1 ⟨17,[.agg [a8 bh,a8 aQ,aG aP,a8 aW,aI aY,a8 bc,aG ba,a8 bf,aI bg,aI au,a8 az,aG ay,a8 ax,aI aw,a8 aC,aG aA,x]],false,false⟩).fr (hh.grow (hg1 _)) hb bh aQ aP aW aY bc ba bf bg au az ay ax aw aC aA hx hs
 simp[ah,ai,ae,af,ad, *,iJ,hx.r]
 refine k6 (by kernel_rfl) hA fun H1 hG=>?_
 have hfin:=(hg1 _).trans hG
 have hbx:=hG.old ⟨dep+1,3,H.gen (dep+1) 3,0⟩ _ (by simp;rfl)
 obtain⟨xo,vo,rm,h1,h2,h3⟩:=(hh.grow hfin).box
 have hso:=h2.r
 have hC:=Nx h2.sl hall hl bh aQ aP aW aY bc ba bf bg au az ay ax aw aC aA hx hal
 rw[if_pos ho]at hC
 unfold xt
 cases pT ents (⟨bh,⟨aQ,aP,aW⟩,aY,⟨⟨⟨bc,ba,bf⟩,bg⟩,au⟩,⟨⟨az,ay,ax⟩,aw⟩,⟨aC,aA⟩,al⟩:bG) with
 | false=>simp[hfin]
 | true =>
  by_cases hc:nZ (opsOf ops)=0
  ·rw[if_pos hc]at hC
   cases hf:mz (opsOf ops) (⟨bh,⟨aQ,aP,aW⟩,aY,⟨⟨⟨bc,ba,bf⟩,bg⟩,au⟩,⟨⟨az,ay,ax⟩,aw⟩,⟨aC,aA⟩,al⟩:bG) with
   | false =>
    rw[hf]at hC
    simp[hbx,hfin,h1,hso,hx.r,hC]
   | true =>
    rw[hf]at hC
    simp[hbx,hfin,h1,hso,hx.r,hC,hc]
  ·rw[if_neg hc]at hC
   simp[hbx,hfin,h1,hso,hx.r,hC,hc]
end
end Go.Proofs.YtdbiffjdomokfaaGreat
