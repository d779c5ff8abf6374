/-
  What a history tells of an operation: names, and each kind's error. No statement of a seat is proved here.
-/
import Derived.Test.YtmkmimgokagimaaGreatMLeDoc2
import Derived.Test.YtmkmimgokagimaaGreatMOpFns
set_option linter.unusedVariables false
set_option linter.unusedSimpArgs false
set_option linter.unusedSectionVars false
set_option linter.unnecessarySimpa false
set_option maxRecDepth 100000
namespace Go.Proofs.YtmkmimgokagimaaGreat
open Go.Ab
attribute [local simp] bJ bw bt bG bF cL kN bX bx bD cR cQ cr bY bh ct List.take_of_length_le
def eK(s:CZ):List eJ:=(List.range s.many.toNat).map fun k=>Kg s.f (k:Nat)
theorem L9(ba:UInt8)(aO:UInt32)(aN:UInt8)(aT:Int)(aV:Int)(hs:jz (⟨⟨⟨ba,aO,aN⟩,aT⟩,aV⟩:CZ)=true){Q:AV→ad→Prop} : ∀(d k:Nat)(i:Int)(x2:AV)(H:ad),k+d=aV.toNat→i=k→Fr H→H.get ⟨0,1,0,0⟩=some ⟨5,[.agg [a8 ba,aF aO,a8 aN,aI aT,aI aV]],false,false⟩→Gf [20] 4 (lY ((List.range k).map fun(k:Nat)=>Kg ⟨⟨ba,aO,aN⟩,aT⟩ k)) H x2 →
 (∀y H',Gf [20] 4 (lY (eK (⟨⟨⟨ba,aO,aN⟩,aT⟩,aV⟩:CZ))) H' y→Q y H') →
 b7 env Tryz.f213 0 mz [(8,aI i),(2,x2),(1,.ptr ⟨0,1,0,0⟩ 0 0),(7,aI aV)] H Q:=by
 have hn:=kV hs
 simp only at hn
 intro d
 induction d with
 | zero =>
  rintro k i x2 H hk rfl hF hb hO hQ
  have hfin:=hQ x2 H (by unfold eK;simp only;rw[show aV.toNat=k by omega];exact hO)
  have hlt : ¬(k:Int)<aV:=by omega
  refine xG _ _ _ _ _ _ fun g=>?_
  clear hQ hO
  simp[ah,ai,ae,af,ab, *,pB]
  all_goals exact hfin
 | succ d ih =>
  rintro k i x2 H hk rfl hF hb hO hQ
  have e3:=IntWalk.i64_in ((k:Int)+1) (by omega)
  have hlt:(k:Int)<aV:=by omega
  have eA:So (⟨⟨⟨ba,aO,aN⟩,aT⟩,aV⟩:CZ) (k:Int)=0:=by
   unfold So
   rw[if_pos hs,if_neg]
   simp only
   omega
  have hA:=aap ba aO aN aT aV (k:Int)
  rw[if_pos eA]at hA
  have l1:(H.get ⟨0,1,0,0⟩).isSome=true:=by rw[hb];rfl
  have hst : ∀(g:Nat)(m:Nat)(H1:ad),m=k+1→Fr H1→H1.get ⟨0,1,0,0⟩=some ⟨5,[.agg [a8 ba,aF aO,a8 aN,aI aT,aI aV]],false,false⟩→H1.get ⟨0,20,g,0⟩=some ⟨4,lY ((List.range k).map fun(k:Nat)=>Kg ⟨⟨ba,aO,aN⟩,aT⟩ k)++[.agg [a8 ba,aF aO,a8 aN,aI (aT+k)]],true,false⟩ →
   b7 env Tryz.f213 0 mz [(8,aI ((k:Int)+1)),(2,.cP ⟨0,20,g,0⟩ 0 m none),(1,.ptr ⟨0,1,0,0⟩ 0 0),(7,aI aV)] H1 Q:=by
   intro g m H1 hm f1 f2 f3
   subst hm
   refine ih (k+1) ((k:Int)+1) _ H1 (by omega) (by simp) f1 f2 (.inr ⟨20,g,by simp,by simp,?_⟩) hQ
   rw[f3]
   simp[lY,List.range_succ,xz,Kg]
  clear ih hQ
  refine xG _ _ _ _ _ _ fun g=>?_
  generalize he:lY ((List.range k).map fun(k:Nat)=>Kg ⟨⟨ba,aO,aN⟩,aT⟩ k)=es at *
  have hel:es.length=k:=by rw[←he];simp
  clear he eA
  rcases hO with ⟨rfl,rfl⟩ | ⟨t,gg,ht,rfl,hr⟩
  ·have hst':=fun H1=>hst (H.gen 0 20) 1 H1 (by simp at hel;omega)
   clear hst hel
   simp[ah,ai,ae,af,ab, *,pB]
   refine hst' _ ?_ ?_ ?_
   ·exact by simp(maxDischargeDepth:=12) [ad.ao,aD,aq,Fr.nil,aJ,ah,ai,ae,af,aC,ar,ab, *]
   ·exact by simp(maxDischargeDepth:=12) [ad.ao,aD,aq,Fr.nil,aJ,ah,ai,ae,af,aC,ar,ab, *]
   ·exact by simp(maxDischargeDepth:=12) [ad.ao,aD,aq,Fr.nil,aJ,ah,ai,ae,af,aC,ar,ab, *]
  ·rw[List.mem_singleton]at ht
   subst ht
   rw[hel]
   have hst':=hst (H.gen 0 20) (k+1)
   clear hst
   have l6:(H.get ⟨0,20,gg,0⟩).isSome=true:=by rw[hr];rfl
   have f4:pr 4 24 k true none (some ⟨4,es,true,false⟩) (some [.agg [a8 ba,aF aO,a8 aN,aI (aT+k)]]):=by
    simp[hel];omega
   simp[ah,ai,ae,af,ab, *,pB]
   refine hst' _ rfl ?_ ?_ ?_
   ·exact by simp(maxDischargeDepth:=12) [ad.ao,aD,aq,Fr.nil,aJ,ah,ai,ae,af,aC,ar,ab, *]
   ·exact by simp(maxDischargeDepth:=12) [ad.ao,aD,aq,Fr.nil,aJ,ah,ai,ae,af,aC,ar,ab, *]
   ·exact by simp(maxDischargeDepth:=12) [ad.ao,aD,aq,Fr.nil,aJ,ah,ai,ae,af,aC,ar,ab, *]
theorem Iq(ba:UInt8)(aO:UInt32)(aN:UInt8)(aT:Int)(aV:Int)(hs:jz (⟨⟨⟨ba,aO,aN⟩,aT⟩,aV⟩:CZ)=true):bj env 213 [.agg [a8 ba,aF aO,a8 aN,aI aT,aI aV]]=some (.ck 4 (lY (eK (⟨⟨⟨ba,aO,aN⟩,aT⟩,aV⟩:CZ))) none):=by
 have hn:=kV hs
 simp only at hn
 have hne:lY (eK (⟨⟨⟨ba,aO,aN⟩,aT⟩,aV⟩:CZ))≠[]:=by
  intro e
  have:=congrArg List.length e
  simp[eK]at this
  omega
 refine aG (fn:=Tryz.f213) (c:=wH) rfl (by kernel_rfl) (by kernel_rfl) (by kernel_rfl) (by kernel_rfl) ?_;refine Ik _ _ _ fun g=>?_
 have hfin:=fun H h1 h2=>L9 ba aO aN aT aV hs (Q:=fun y H'=>view H'.get 8 y=some (.ck 4 (lY (eK (⟨⟨⟨ba,aO,aN⟩,aT⟩,aV⟩:CZ))) none)) aV.toNat 0 0 cp H (by omega) rfl h1 h2 (.inl ⟨rfl,by simp[lY]⟩) (fun y H' h=>by
  rcases h with ⟨_,h⟩ | ⟨t,g,_,rfl,hr⟩
  ·exact absurd h hne
  ·rw[Hi hr rfl])
 simp[ah,ai,ae,af,ab, *,B4]
 exact hfin _ (by simp(maxDischargeDepth:=12) [ad.ao,aD,aq,Fr.nil,aJ,ah,ai,ae,af,aC,ar,ab, *]) rfl
theorem Kh(s:CZ):Sl 4 (lY (eK s)) (.ck 4 (lY (eK s)) none):=Sl.mk _ _
theorem Cu{s:CZ}(h:jz s=true):(eK s).length<100000:=by
 have hn:=kV h
 simp[eK]
 omega
def q6(ents:List (eJ × AV))(o:bz):Bool := !(eK o.s).any fun i => !vg ents o i
section
variable(dep:Nat){H:ad}(hF:Fr H){rh:Ref}{ops:List (bz × AV)}{ents:List (eJ × AV)}(hh:yK H rh ops ents)(hb:ri ents)
include hF hh hb
theorem RZ(ba:UInt8)(aO:UInt8)(aN:UInt32)(aT:UInt8)(aV:Int)(aX:UInt8)(aW:UInt32)(aY:UInt8)(aZ:Int)(an:Int)(ay:UInt8)(ax:UInt32)(aw:UInt8)(au:Int)(aA:UInt8)(az:UInt32){x:AV}{al:List Int}(hx:Sl 1 (rows al) x)(hs:jz ⟨⟨⟨aX,aW,aY⟩,aZ⟩,an⟩=true) :
 ∃H',bO env dep (.fn 234) [.ptr rh 0 0,.agg [a8 ba,a8 aO,aF aN,a8 aT,aI aV,a8 aX,aF aW,a8 aY,aI aZ,aI an,a8 ay,aF ax,a8 aw,aI au,a8 aA,aF az,x]] H=some (aB (q6 ents (⟨ba,⟨aO,aN,aT⟩,aV,⟨⟨⟨aX,aW,aY⟩,aZ⟩,an⟩,⟨⟨ay,ax,aw⟩,au⟩,⟨aA,az⟩,al⟩:bz)),H')∧bQ H H':=by
 refine eO (fn:=Tryz.f234) (c:=jI) (by kernel_rfl) (by kernel_rfl) (by kernel_rfl) (by kernel_rfl) (by kernel_rfl) ?_
 refine oX _ _ _ _ _ fun g=>?_
 have hN:=Iq aX aW aY aZ an hs
 have hg1 : ∀b1 b2:bP,bQ H ((⟨dep+1,3,H.gen (dep+1) 3,0⟩,some b2) :: (⟨dep+1,2,H.gen (dep+1) 2,0⟩,some b1) :: H):=fun b1 b2=>⟨by simp(maxDischargeDepth:=12) [ad.ao,aD,aq,Fr.nil,aJ,ah,ai,ae,af,aC,ar,ab, *],fun q c hq=>by
  have lq:(H.get q).isSome=true:=by rw[hq];rfl
  simp[ah hF lq,hq]⟩
 have hc : ∃H',bO env (dep+1) (.fn 232) ([]++[.ck 4 (lY (eK ⟨⟨⟨aX,aW,aY⟩,aZ⟩,an⟩)) none,.fn (.func 242) [] [.ptr ⟨dep+1,2,H.gen (dep+1) 2,0⟩ 0 0,.ptr ⟨dep+1,3,H.gen (dep+1) 3,0⟩ 0 0]]++[])
  ((⟨dep+1,3,H.gen (dep+1) 3,0⟩,some ⟨17,[.agg [a8 ba,a8 aO,aF aN,a8 aT,aI aV,a8 aX,aF aW,a8 aY,aI aZ,aI an,a8 ay,aF ax,a8 aw,aI au,a8 aA,aF az,x]],false,false⟩) :: (⟨dep+1,2,H.gen (dep+1) 2,0⟩,some ⟨1,[.ptr rh 0 0],false,false⟩) :: H)=some (aB ((eK ⟨⟨⟨aX,aW,aY⟩,aZ⟩,an⟩).any fun i => !vg ents (⟨ba,⟨aO,aN,aT⟩,aV,⟨⟨⟨aX,aW,aY⟩,aZ⟩,an⟩,⟨⟨ay,ax,aw⟩,au⟩,⟨aA,az⟩,al⟩:bz) i),H')∧bQ _ H' :=
  Dl (dep+1) (F:=242) (by kernel_rfl) (Kh _) (Cu hs) (p:=fun i => !vg ents (⟨ba,⟨aO,aN,aT⟩,aV,⟨⟨⟨aX,aW,aY⟩,aZ⟩,an⟩,⟨⟨ay,ax,aw⟩,au⟩,⟨aA,az⟩,al⟩:bz) i) (hg1 _ _).fr (fun i H' hG=>by
   have:=R0 (dep+3) hG.fr ((hh.grow (hg1 _ _)).grow hG) hb ba aO aN aT aV aX aW aY aZ an ay ax aw au aA az i.h.lv i.h.cats i.h.num i.n hx (q:=⟨dep+1,2,H.gen (dep+1) 2,0⟩) (p:=⟨dep+1,3,H.gen (dep+1) 3,0⟩) (hG.old _ _ (by simp)) (hG.old _ _ (by simp))
   exact this)
 simp[ah,ai,ae,af,ab, *,jL,hx.r]
 refine lg (by kernel_rfl) hc fun H1 hG=>?_
 have hfin:=(hg1 _ _).trans hG
 simp[hfin,q6]
end
end Go.Proofs.YtmkmimgokagimaaGreat
namespace Go.Proofs.YtmkmimgokagimaaGreat
open Go.Ab
attribute [local simp] bJ bw bt bG bF cL kN bX bx bD cR cQ cr bY bh ct List.take_of_length_le
@[simp] theorem O7(l:List Int)(n:Nat):(rows l).all (flat (n+1))=true:=by
 simp[rows,List.all_eq_true,aR]
theorem LO(ba:UInt8)(aO:UInt32)(aN:UInt8)(aT:Int)(aV:Int)(aX:UInt8)(aW:UInt32)(aY:UInt8)(aZ:Int){x:AV}{l:List Int}(hx:Sl 1 (rows l) x)(hl:l.length<1000000):bj env 240 [.agg [a8 ba,aF aO,a8 aN,aI aT,aI aV,a8 aX,aF aW,a8 aY,aI aZ,x]]=some (aI (bad (DI (⟨⟨⟨⟨ba,aO,aN⟩,aT⟩,aV⟩,⟨⟨aX,aW,aY⟩,aZ⟩,l⟩:Rn)))):=by
 refine aG (fn:=Tryz.f240) (c:=BW) rfl (by kernel_rfl) (by kernel_rfl) (by kernel_rfl) (by kernel_rfl) ?_;refine Ie _ _ _ fun g=>?_
 have h1:=Cn hx (by omega)
 have h2:=Hv l
 have hr:((⟨⟨aX,aW,aY⟩,aZ⟩:eJ)=Ar)=((decide (aX=0)&&decide (aW=0)&&decide (aY=0)&&decide (aZ=0))=true):=by simp[Ar,and_assoc]
 unfold DI
 simp only[hr]
 cases hz:(decide (aX=0)&&decide (aW=0)&&decide (aY=0)&&decide (aZ=0)) with
 | true =>
  simp[ah,ai,ae,af,ab, *,wN,hx.r,ke,eE]
  repeat' ((first | refine mZ (fun h=>?_) (fun h=>?_) | refine lz (fun h=>?_) (fun h=>?_) | refine lA (fun h=>?_) (fun h=>?_) | refine lx (fun h=>?_) (fun h=>?_) | refine ly (fun h=>?_) (fun h=>?_))<;>(try simp only[decide_eq_true_eq,decide_eq_false_iff_not,Bool.not_eq_true',Bool.not_eq_false',Bool.and_eq_true,Bool.or_eq_true]at h)<;>(try simp[ah,ai,ae,af,ab, *,hx.r]))
 | false =>
  simp[ah,ai,ae,af,ab, *,wN,hx.r,ke,eE]
  repeat' ((first | refine mZ (fun h=>?_) (fun h=>?_) | refine lz (fun h=>?_) (fun h=>?_) | refine lA (fun h=>?_) (fun h=>?_) | refine lx (fun h=>?_) (fun h=>?_) | refine ly (fun h=>?_) (fun h=>?_))<;>(try simp only[decide_eq_true_eq,decide_eq_false_iff_not,Bool.not_eq_true',Bool.not_eq_false',Bool.and_eq_true,Bool.or_eq_true]at h)<;>(try simp[ah,ai,ae,af,ab, *,hx.r]))
theorem QB{r:Rn}(h:DI r=true):jz r.s=true∧(r.l.length:Int)=r.s.many:=by
 simp[DI]at h;exact⟨h.1,h.2.2.1⟩
def HB(o:bz):Int:=if la o then (if o.kind=1∧DI ⟨o.s,o.a,o.l⟩=true then 0 else 2) else 8
theorem SQ(ba:UInt8)(aO:UInt8)(aN:UInt32)(aT:UInt8)(aV:Int)(aX:UInt8)(aW:UInt32)(aY:UInt8)(aZ:Int)(an:Int)(ay:UInt8)(ax:UInt32)(aw:UInt8)(au:Int)(aA:UInt8)(az:UInt32){x:AV}{l:List Int}(hx:Sl 1 (rows l) x)(hl:l.length<1000000):bj env 231 [.agg [a8 ba,a8 aO,aF aN,a8 aT,aI aV,a8 aX,aF aW,a8 aY,aI aZ,aI an,a8 ay,aF ax,a8 aw,aI au,a8 aA,aF az,x]] =
 some (if HB (⟨ba,⟨aO,aN,aT⟩,aV,⟨⟨⟨aX,aW,aY⟩,aZ⟩,an⟩,⟨⟨ay,ax,aw⟩,au⟩,⟨aA,az⟩,l⟩:bz)=0 then .tup [.agg [a8 aX,aF aW,a8 aY,aI aZ,aI an,a8 ay,aF ax,a8 aw,aI au,.ck 1 (rows l) none],aI 0]
  else .tup [.agg [a8 0,aF 0,a8 0,aI 0,aI 0,a8 0,aF 0,a8 0,aI 0,cp],aI (HB (⟨ba,⟨aO,aN,aT⟩,aV,⟨⟨⟨aX,aW,aY⟩,aZ⟩,an⟩,⟨⟨ay,ax,aw⟩,au⟩,⟨aA,az⟩,l⟩:bz))]):=by
 have h1:=ko ba aO aN aT aV aX aW aY aZ an ay ax aw au aA az hx (by omega)
 have h3:=Hr hx (by omega) (by omega)
 cases c1:la (⟨ba,⟨aO,aN,aT⟩,aV,⟨⟨⟨aX,aW,aY⟩,aZ⟩,an⟩,⟨⟨ay,ax,aw⟩,au⟩,⟨aA,az⟩,l⟩:bz) with
 | false =>
  have e:HB (⟨ba,⟨aO,aN,aT⟩,aV,⟨⟨⟨aX,aW,aY⟩,aZ⟩,an⟩,⟨⟨ay,ax,aw⟩,au⟩,⟨aA,az⟩,l⟩:bz)=8:=by simp[HB,c1]
  refine aG (fn:=Tryz.f231) (c:=p7) rfl (by kernel_rfl) (by kernel_rfl) (by kernel_rfl) (by kernel_rfl) ?_;refine rp _ _ _ fun g=>?_
  simp[ah,ai,ae,af,ab, *,mV,hx.r]
 | true =>
  have h2:=fun {y:AV} (hy:Sl 1 (rows l) y)=>LO aX aW aY aZ an ay ax aw au hy hl
  by_cases he:l=[]
  ·have e:HB (⟨ba,⟨aO,aN,aT⟩,aV,⟨⟨⟨aX,aW,aY⟩,aZ⟩,an⟩,⟨⟨ay,ax,aw⟩,au⟩,⟨aA,az⟩,l⟩:bz)=2:=by
    simp only[HB,c1,if_true]
    rw[if_neg]
    rintro⟨_,h⟩
    have hr:=QB h
    simp only at hr
    have hn:=kV hr.1
    simp only at hn
    rw[he]at hr
    simp at hr
    omega
   have hrb:DI ⟨⟨⟨⟨aX,aW,aY⟩,aZ⟩,an⟩,⟨⟨ay,ax,aw⟩,au⟩,l⟩=false:=by
    cases h2:DI ⟨⟨⟨⟨aX,aW,aY⟩,aZ⟩,an⟩,⟨⟨ay,ax,aw⟩,au⟩,l⟩ with
    | false=>rfl
    | true =>
     have hr:=QB h2
     simp only at hr
     have hn:=kV hr.1
     simp only at hn
     rw[he]at hr
     simp at hr
     omega
   subst he
   have rn:rows ([]:List Int)=[]:=rfl
   rcases hx.Q3 with ⟨rfl,_⟩ | ⟨c,rfl⟩
   ·have h2':=h2 (y:=cp) (.inl ⟨rfl,rfl⟩)
    clear h2
    refine aG (fn:=Tryz.f231) (c:=p7) rfl (by kernel_rfl) (by kernel_rfl) (by kernel_rfl) (by kernel_rfl) ?_;refine rp _ _ _ fun g=>?_
    by_cases c2:ba=1
    ·subst c2
     simp[ah,ai,ae,af,ab, *,mV]
    ·simp[ah,ai,ae,af,ab, *,mV]
   ·have h2':=h2 (y := .ck 1 (rows []) (some 0)) (.inr ⟨some 0,rfl,by simp[rows]⟩)
    have h3':bj env 173 [.ck 1 [] c]=some (.fsl 1 [] (some 0)):=h3
    clear h2 h3
    rw[rn]at h1 h2' ⊢
    refine aG (fn:=Tryz.f231) (c:=p7) rfl (by kernel_rfl) (by kernel_rfl) (by kernel_rfl) (by kernel_rfl) ?_;refine rp _ _ _ fun g=>?_
    by_cases c2:ba=1
    ·subst c2
     simp[ah,ai,ae,af,ab, *,mV]
    ·simp[ah,ai,ae,af,ab, *,mV]
  ·have hr:rows l≠[]:=by simpa using he
   obtain⟨c,rfl,hc⟩:=hx.WD hr
   rw[p6 1 c hr]at h3
   have h2':=h2 (Sl.mk 1 (rows l))
   clear h2
   have fl1:=O7 l
   by_cases c2:ba=1
   ·subst c2
    cases c3:DI ⟨⟨⟨⟨aX,aW,aY⟩,aZ⟩,an⟩,⟨⟨ay,ax,aw⟩,au⟩,l⟩ with
    | false =>
     have e:HB ⟨1,⟨aO,aN,aT⟩,aV,⟨⟨⟨aX,aW,aY⟩,aZ⟩,an⟩,⟨⟨ay,ax,aw⟩,au⟩,⟨aA,az⟩,l⟩=2:=by simp[HB,c1,c3]
     refine aG (fn:=Tryz.f231) (c:=p7) rfl (by kernel_rfl) (by kernel_rfl) (by kernel_rfl) (by kernel_rfl) ?_;refine rp _ _ _ fun g=>?_
     simp[ah,ai,ae,af,ab, *,mV,hx.r]
    | true =>
     have e:HB ⟨1,⟨aO,aN,aT⟩,aV,⟨⟨⟨aX,aW,aY⟩,aZ⟩,an⟩,⟨⟨ay,ax,aw⟩,au⟩,⟨aA,az⟩,l⟩=0:=by simp[HB,c1,c3]
     refine aG (fn:=Tryz.f231) (c:=p7) rfl (by kernel_rfl) (by kernel_rfl) (by kernel_rfl) (by kernel_rfl) ?_;refine rp _ _ _ fun g=>?_
     simp[ah,ai,ae,af,ab, *,mV,hx.r]
   ·have e:HB (⟨ba,⟨aO,aN,aT⟩,aV,⟨⟨⟨aX,aW,aY⟩,aZ⟩,an⟩,⟨⟨ay,ax,aw⟩,au⟩,⟨aA,az⟩,l⟩:bz)=2:=by simp[HB,c1,c2]
    refine aG (fn:=Tryz.f231) (c:=p7) rfl (by kernel_rfl) (by kernel_rfl) (by kernel_rfl) (by kernel_rfl) ?_;refine rp _ _ _ fun g=>?_
    simp[ah,ai,ae,af,ab, *,mV,hx.r]
end Go.Proofs.YtmkmimgokagimaaGreat
namespace Go.Proofs.YtmkmimgokagimaaGreat
open Go.Ab
attribute [local simp] bJ bw bt bG bF cL kN bX bx bD cR cQ cr bY bh ct List.take_of_length_le
theorem Nt{g:dy}{r rm:Ref}{ents:List (eJ × AV)}(hr:g rm=some (bE (cI xz ents))):aU env.P false g r .len #[264] [.mp rm]=some (aI ents.length,[]):=by
 have ht:(GD env.P 264).isSome=true:=by kernel_rfl
 obtain⟨p,hp⟩:=Option.isSome_iff_exists.1 ht
 have e:aU env.P false g r .len #[264] [.mp rm]=tA env.P g (some 264) rm:=rfl
 rw[e]
 unfold tA
 rw[rS hr,Option.bind_some,hp]
 simp[cI]
def e9(ents:List (eJ × AV))(o:bz):Int :=
 if (!jd o.a && !vg ents o o.a)=true then 6 else if HB o≠0∨(eK o.s).any (gM ents)=true then 2 else if 8192<(ents.length:Int)+o.s.many then 4 else 0
def yU(ents:List (eJ × AV))(o:bz):Int:=if q6 ents o=false then 6 else if (decide (o.s.f.h.lv=o.h.lv)&&decide (o.s.f.h.cats=o.h.cats))=false then 2 else 0
def z0(ops:List (bz × AV))(ents:List (eJ × AV))(o:bz):Int:=if q6 ents o=false then 6 else if pk (opsOf ops)=0∧nC (opsOf ops) o=true then 0 else 2
def rT(ops:List (bz × AV))(ents:List (eJ × AV))(o:bz):Int:=if o.kind=1 then e9 ents o else if o.kind=2 then yU ents o else z0 ops ents o
def sW(ops:List (bz × AV))(ents:List (eJ × AV))(o:bz):Int:=if rT ops ents o=0∧2048≤ops.length then 4 else rT ops ents o
section
variable(dep:Nat){H:ad}(hF:Fr H){rh:Ref}{ops:List (bz × AV)}{ents:List (eJ × AV)}(hh:yK H rh ops ents)(hb:ri ents)
include hF hh hb
theorem Ot(ba:UInt8)(aO:UInt8)(aN:UInt32)(aT:UInt8)(aV:Int)(aX:UInt8)(aW:UInt32)(aY:UInt8)(aZ:Int)(an:Int)(ay:UInt8)(ax:UInt32)(aw:UInt8)(au:Int)(aA:UInt8)(az:UInt32){x:AV}{al:List Int}(hx:Sl 1 (rows al) x)(hs:jz ⟨⟨⟨aX,aW,aY⟩,aZ⟩,an⟩=true) :
 ∃H',bO env dep (.fn 219) [.ptr rh 0 0,.agg [a8 ba,a8 aO,aF aN,a8 aT,aI aV,a8 aX,aF aW,a8 aY,aI aZ,aI an,a8 ay,aF ax,a8 aw,aI au,a8 aA,aF az,x]] H=some (aI (yU ents (⟨ba,⟨aO,aN,aT⟩,aV,⟨⟨⟨aX,aW,aY⟩,aZ⟩,an⟩,⟨⟨ay,ax,aw⟩,au⟩,⟨aA,az⟩,al⟩:bz)),H')∧bQ H H':=by
 refine eO (fn:=Tryz.f219) (c:=iL) (by kernel_rfl) (by kernel_rfl) (by kernel_rfl) (by kernel_rfl) (by kernel_rfl) ?_
 refine nk _ _ _ _ _ fun g=>?_
 have hg1 : ∀b1:bP,bQ H ((⟨dep+1,3,H.gen (dep+1) 3,0⟩,some b1) :: H):=fun b1=>bQ.cons hF _ _ _
 have hA:=RZ (dep+1) (hg1 ⟨17,[.agg [a8 ba,a8 aO,aF aN,a8 aT,aI aV,a8 aX,aF aW,a8 aY,aI aZ,aI an,a8 ay,aF ax,a8 aw,aI au,a8 aA,aF az,x]],false,false⟩).fr (hh.grow (hg1 _)) hb ba aO aN aT aV aX aW aY aZ an ay ax aw au aA az hx hs
 simp[ah,ai,ae,af,ab, *,iO,hx.r]
 refine lg (by kernel_rfl) hA fun H1 hG=>?_
 have hfin:=(hg1 _).trans hG
 have hbx:=hG.old ⟨dep+1,3,H.gen (dep+1) 3,0⟩ _ (by simp;rfl)
 unfold yU
 cases q6 ents (⟨ba,⟨aO,aN,aT⟩,aV,⟨⟨⟨aX,aW,aY⟩,aZ⟩,an⟩,⟨⟨ay,ax,aw⟩,au⟩,⟨aA,az⟩,al⟩:bz) with
 | false=>simp[hfin]
 | true =>
  cases hd:(decide (aX=aO)&&decide (aW=aN)) with
  | false=>simp[hbx,hfin,hx.r,ke,eE,hd]
  | true=>simp[hbx,hfin,hx.r,ke,eE,hd]
theorem raise_at(hall : ∀p∈ops,L8 p)(hl:ops.length<100000)(ba:UInt8)(aO:UInt8)(aN:UInt32)(aT:UInt8)(aV:Int)(aX:UInt8)(aW:UInt32)(aY:UInt8)(aZ:Int)(an:Int)(ay:UInt8)(ax:UInt32)(aw:UInt8)(au:Int)(aA:UInt8)(az:UInt32){x:AV}{al:List Int}(hx:Sl 1 (rows al) x)(hal:al.length<2000000)(ho:la (⟨ba,⟨aO,aN,aT⟩,aV,⟨⟨⟨aX,aW,aY⟩,aZ⟩,an⟩,⟨⟨ay,ax,aw⟩,au⟩,⟨aA,az⟩,al⟩:bz)=true) :
 ∃H',bO env dep (.fn 220) [.ptr rh 0 0,.agg [a8 ba,a8 aO,aF aN,a8 aT,aI aV,a8 aX,aF aW,a8 aY,aI aZ,aI an,a8 ay,aF ax,a8 aw,aI au,a8 aA,aF az,x]] H=some (aI (z0 ops ents (⟨ba,⟨aO,aN,aT⟩,aV,⟨⟨⟨aX,aW,aY⟩,aZ⟩,an⟩,⟨⟨ay,ax,aw⟩,au⟩,⟨aA,az⟩,al⟩:bz)),H')∧bQ H H':=by
 have hs:=qA ho
 simp only at hs
 refine eO (fn:=Tryz.f220) (c:=iZ) (by kernel_rfl) (by kernel_rfl) (by kernel_rfl) (by kernel_rfl) (by kernel_rfl) ?_
 refine nM _ _ _ _ _ fun g=>?_
 have hg1 : ∀b1:bP,bQ H ((⟨dep+1,3,H.gen (dep+1) 3,0⟩,some b1) :: H):=fun b1=>bQ.cons hF _ _ _
 have hA:=RZ (dep+1) (hg1 ⟨17,[.agg [a8 ba,a8 aO,aF aN,a8 aT,aI aV,a8 aX,aF aW,a8 aY,aI aZ,aI an,a8 ay,aF ax,a8 aw,aI au,a8 aA,aF az,x]],false,false⟩).fr (hh.grow (hg1 _)) hb ba aO aN aT aV aX aW aY aZ an ay ax aw au aA az hx hs
 simp[ah,ai,ae,af,ab, *,jb,hx.r]
 refine lg (by kernel_rfl) hA fun H1 hG=>?_
 have hfin:=(hg1 _).trans hG
 have hbx:=hG.old ⟨dep+1,3,H.gen (dep+1) 3,0⟩ _ (by simp;rfl)
 obtain⟨xo,vo,rm,h1,h2,h3⟩:=(hh.grow hfin).box
 have hso:=h2.r
 have hC:=Qz h2.sl hall hl ba aO aN aT aV aX aW aY aZ an ay ax aw au aA az hx hal
 rw[if_pos ho]at hC
 unfold z0
 cases q6 ents (⟨ba,⟨aO,aN,aT⟩,aV,⟨⟨⟨aX,aW,aY⟩,aZ⟩,an⟩,⟨⟨ay,ax,aw⟩,au⟩,⟨aA,az⟩,al⟩:bz) with
 | false=>simp[hfin]
 | true =>
  by_cases hc:pk (opsOf ops)=0
  ·rw[if_pos hc]at hC
   cases hf:nC (opsOf ops) (⟨ba,⟨aO,aN,aT⟩,aV,⟨⟨⟨aX,aW,aY⟩,aZ⟩,an⟩,⟨⟨ay,ax,aw⟩,au⟩,⟨aA,az⟩,al⟩:bz) with
   | false =>
    rw[hf]at hC
    simp[hbx,hfin,h1,hso,hx.r,hC]
   | true =>
    rw[hf]at hC
    simp[hbx,hfin,h1,hso,hx.r,hC,hc]
  ·rw[if_neg hc]at hC
   simp[hbx,hfin,h1,hso,hx.r,hC,hc]
end
end Go.Proofs.YtmkmimgokagimaaGreat
