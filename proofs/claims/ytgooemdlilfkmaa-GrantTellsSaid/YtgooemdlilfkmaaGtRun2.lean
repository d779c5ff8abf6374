/-
  Several grants applied: the whole run, its answer the caller's own. No statement of a seat is proved here.
-/
import Derived.Test.YtgooemdlilfkmaaGtRun
set_option linter.unusedVariables false
set_option linter.unusedSimpArgs false
set_option linter.unusedSectionVars false
set_option linter.unnecessarySimpa false
set_option maxRecDepth 100000
namespace Go.Proofs.Ytgooemdlilfkmaa
open Go.Ab
attribute [local simp] cA bA gZ own3 cV fB keep thr iv gv gu lI lH eo List.take_of_length_le kT kW jT iS
def iw(z:Nat):List AV→AV
 | []=>aNil
 | es => .isl z es none
@[simp] theorem aQ(z:Nat):iw z []=aNil:=id rfl
theorem a6(z:Nat){es:List AV}(h:es≠[]):iw z es = .isl z es none:=by
 cases es with
 | nil=>exact(h rfl).elim
 | cons _ _=>rfl
theorem ia(z:Nat)(es:List AV):Sl z es (iw z es):=by
 cases es with
 | nil=>exact .inl ⟨rfl,rfl⟩
 | cons _ _=>exact Sl.mk _ _
theorem j1(z:Nat)(es:List AV):gY (iw z es)=outA z es:=by
 cases es<;>rfl
theorem rN{E:Env}{f:FuncId}{fn:Func}{c:Code}{args:List AV}{R:AV→Prop}(hsp:E.spec f args=none)(hal:E.allowed f=true)(hf:E.P.funcs[f]?=some fn)(hc:fn.body=some c)(hl:Nat.ble args.length fn.ntmps=true)
 (h:GoL E fn 0 [.code c] (sU 0 args) [] fun x H =>∃y,iq E f x H y∧R y) : ∃y,limf E f args=some y∧R y:=by
 obtain⟨x,H,⟨y,hQ,hR⟩,n,hn⟩:=h.h (fun _=>AV.undef) args fun i=>(rG args i).symm
 refine⟨y,mS.2 ⟨n,fun m hm=>?_⟩,hR⟩
 obtain⟨st,h1,h2,h3⟩:=hn m hm
 subst h3
 unfold bS
 rw[hsp]
 unfold oe
 simp only[hal,if_true,hf,hc,if_pos (Nat.le_of_ble_eq_true hl),h1,h2,Option.map_some]
 unfold iq at hQ
 split
 ·rename_i h1
  rw[if_pos h1]at hQ
  rw[if_pos hQ.1]
  exact hQ.2
 ·rename_i h1
  rw[if_neg h1]at hQ
  exact hQ
theorem mh{H:Heap}{us:List Clear}{qs:List Quota}{gr:Int}{yu yq z1 z2 z3:AV}{ru rq:Ref}(hF:Fr H)(hb:H.get ⟨0,2,0,0⟩=some ⟨3,[.agg [yu,yq,aI gr]],false,false⟩)(hne:ru≠rq)(ou:OwnR 3 (av us) H yu ru)(oq:OwnR 5 (ay qs) H yq rq)
 (hz:H.get ⟨0,4,0,0⟩=some ⟨3,[.agg [z1,z2,z3]],false,false⟩):RInvO H us qs gr [] aNil:=⟨hF,⟨yu,yq,_,_,hb,hne,ou,oq⟩,⟨z1,z2,z3,hz⟩,.inl ⟨rfl,rfl⟩⟩
def rr(qs:List Quota)(l:List Gr)(us:List Clear)(gr:Int)(y:AV):Prop :=∃ye,((ye=aNil∧errs (runF qs l us gr).1=[])∨ye = .fsl 1 (errs (runF qs l us gr).1) none)∧y = .tup [.agg [outA 3 (av (runF qs l us gr).2.1),outA 5 (ay qs),aI (runF qs l us gr).2.2],ye,aI 0]
theorem xI{qs:List Quota}{l:List Gr}{us:List Clear}{gr:Int}(x8':AV)(H':Heap)(yu yq:AV)(ru rq:Ref)(hne:ru≠rq)(ou:OwnR 3 (av (runF qs l us gr).2.1) H' yu ru)(oq:OwnR 5 (ay qs) H' yq rq)(o8:nN [43] 1 (errs ([]++(runF qs l us gr).1)) H' x8') :
 ∃y,iq env 36 (.tup [.agg [yu,yq,aI (runF qs l us gr).2.2],x8',aI 0]) H' y∧rr qs l us gr y:=by
 unfold rr
 obtain⟨tu,ou⟩:=ou
 obtain⟨tq,oq⟩:=oq
 rw[List.nil_append]at o8
 generalize errs (runF qs l us gr).1=e8 at *
 generalize av (runF qs l us gr).2.1=eu at *
 generalize ay qs=eq at *
 have n1 : ∀g,ru≠⟨0,43,g,0⟩:=fun g e=>by subst e;rcases tu with h | h<;>cases h
 have n2 : ∀g,rq≠⟨0,43,g,0⟩:=fun g e=>by subst e;rcases tq with h | h<;>cases h
 rcases ou with ⟨rfl,rfl⟩ | ⟨nu,rfl,hru⟩<;>rcases oq with ⟨rfl,rfl⟩ | ⟨nq,rfl,hrq⟩<;>rcases o8 with ⟨rfl,rfl⟩ | ⟨t,gg,ht,rfl,hrr⟩
 ·exact⟨_,(dE (by kernel_rfl) _ _ _).2 ⟨by simp,by simp;rfl⟩,aNil,.inl ⟨rfl,rfl⟩,by simp⟩
 ·rw[List.mem_singleton]at ht
  subst ht
  exact⟨_,(dE (by kernel_rfl) _ _ _).2 ⟨by simp,by simp[hrr];rfl⟩,_,.inr rfl,by simp⟩
 ·exact⟨_,(dE (by kernel_rfl) _ _ _).2 ⟨by simp,by simp[hrq];rfl⟩,aNil,.inl ⟨rfl,rfl⟩,by simp[aN 5 nq]⟩
 ·rw[List.mem_singleton]at ht
  subst ht
  exact⟨_,(dE (by kernel_rfl) _ _ _).2 ⟨by simp[n2],by simp[hrr,hrq];rfl⟩,_,.inr rfl,by simp[aN 5 nq]⟩
 ·exact⟨_,(dE (by kernel_rfl) _ _ _).2 ⟨by simp,by simp[hru];rfl⟩,aNil,.inl ⟨rfl,rfl⟩,by simp[aN 3 nu]⟩
 ·rw[List.mem_singleton]at ht
  subst ht
  exact⟨_,(dE (by kernel_rfl) _ _ _).2 ⟨by simp[n1],by simp[hrr,hru];rfl⟩,_,.inr rfl,by simp[aN 3 nu]⟩
 ·exact⟨_,(dE (by kernel_rfl) _ _ _).2 ⟨by simp[hne],by simp[hru,hrq];rfl⟩,aNil,.inl ⟨rfl,rfl⟩,by simp[aN 3 nu,aN 5 nq]⟩
 ·rw[List.mem_singleton]at ht
  subst ht
  exact⟨_,(dE (by kernel_rfl) _ _ _).2 ⟨by simp[n1,n2,hne],by simp[hrr,hru,hrq];rfl⟩,_,.inr rfl,by simp[aN 3 nu,aN 5 nq]⟩
theorem xF{x1:AV}{us:List Clear}{qs:List Quota}{gr:Int}{l:List Gr}(hl:Sl 4 (dH l) x1)(hql:qs.length<1000)(hul:us.length<1000)(hll:l.length≤2048)(hm:mayB us qs gr=true) :
 ∃y,limf env 36 [.agg [iw 3 (av us),iw 5 (ay qs),aI gr],x1]=some y∧rr qs l us gr y:=by
 have hu:=ia 3 (av us)
 have hq:=ia 5 (ay qs)
 have hC:=mC (gr:=gr) hu hq (by omega) (by omega)
 rw[hm]at hC
 have hT:=wX (gr:=gr) hu hq (by omega) (by omega)
 rw[j1,j1]at hT
 refine rN (fn:=Try.f36) (c:=gq) rfl (by kernel_rfl) (by kernel_rfl) (by kernel_rfl) (by kernel_rfl) ?_
 refine jO _ _ _ _ fun g=>?_
 have hloop:=fun(H:Heap)(Q:AV→Heap→Prop)=>tA (H:=H) (Q:=Q) hl (by omega) (qs:=qs) (by omega) l 0 0 us gr [] aNil
 have hlen : ¬(2048:Int)<l.length:=by omega
 have run:=fun H hI=>hloop H (fun x H =>∃y,iq env 36 x H y∧rr qs l us gr y) rfl (by omega) rfl rfl (by omega) hI xI
 clear hloop
 by_cases e1:us=[]<;>by_cases e2:qs=[]
 ·subst e1 e2
  simp only[List.map_nil,aQ,a7]at hu hq hC hT ⊢
  simp[ae,af,ab,ad,aa, *,ei,hu.r,hq.r,hl.r,bad]
  refine run _ ?_
  refine mh (ru:=⟨0,24,0,0⟩) (rq:=⟨0,24,0,1⟩) ?_ rfl (by simp) ⟨.inl rfl,?_⟩ ⟨.inl rfl,?_⟩ rfl
  ·exact by simp(maxDischargeDepth:=12) [Heap.aj,an,ai,Fr.nil,au,ae,af,ab,ad,al,ah,aa, *]
  ·exact .inl ⟨rfl,rfl⟩
  ·exact .inl ⟨rfl,rfl⟩
 ·subst e1
  have n2:ay qs≠[]:=by simpa using e2
  rw[a6 5 n2]at *
  rw[aN 5 n2]at hT
  simp only[List.map_nil,aQ,a7]at hu hq hC hT ⊢
  simp[ae,af,ab,ad,aa, *,ei,hu.r,hq.r,hl.r,bad]
  refine run _ ?_
  refine mh (ru:=⟨0,24,0,1⟩) (rq:=⟨0,24,0,0⟩) ?_ rfl (by simp) ⟨.inl rfl,?_⟩ ⟨.inl rfl,?_⟩ rfl
  ·exact by simp(maxDischargeDepth:=12) [Heap.aj,an,ai,Fr.nil,au,ae,af,ab,ad,al,ah,aa, *]
  ·exact .inl ⟨rfl,rfl⟩
  ·exact .inr ⟨n2,by simp,rfl⟩
 ·subst e2
  have n1:av us≠[]:=by simpa using e1
  rw[a6 3 n1]at *
  rw[aN 3 n1]at hT
  simp only[List.map_nil,aQ,a7]at hu hq hC hT ⊢
  simp[ae,af,ab,ad,aa, *,ei,hu.r,hq.r,hl.r,bad]
  refine run _ ?_
  refine mh (ru:=⟨0,24,0,0⟩) (rq:=⟨0,24,0,1⟩) ?_ rfl (by simp) ⟨.inl rfl,?_⟩ ⟨.inl rfl,?_⟩ rfl
  ·exact by simp(maxDischargeDepth:=12) [Heap.aj,an,ai,Fr.nil,au,ae,af,ab,ad,al,ah,aa, *]
  ·exact .inr ⟨n1,by simp,rfl⟩
  ·exact .inl ⟨rfl,rfl⟩
 ·have n1:av us≠[]:=by simpa using e1
  have n2:ay qs≠[]:=by simpa using e2
  rw[a6 3 n1,a6 5 n2]at *
  rw[aN 3 n1,aN 5 n2]at hT
  simp[ae,af,ab,ad,aa, *,ei,hu.r,hq.r,hl.r,bad]
  refine run _ ?_
  refine mh (ru:=⟨0,24,0,0⟩) (rq:=⟨0,24,0,1⟩) ?_ rfl (by simp) ⟨.inl rfl,?_⟩ ⟨.inl rfl,?_⟩ rfl
  ·exact by simp(maxDischargeDepth:=12) [Heap.aj,an,ai,Fr.nil,au,ae,af,ab,ad,al,ah,aa, *]
  ·exact .inr ⟨n1,by simp,rfl⟩
  ·exact .inr ⟨n2,by simp,rfl⟩
theorem xH{xu xq x1:AV}{us:List Clear}{qs:List Quota}{gr:Int}{l:List Gr}(hu:Sl 3 (av us) xu)(hq:Sl 5 (ay qs) xq)(hl:Sl 4 (dH l) x1)(hql:qs.length<1000)(hul:us.length<1000)(hm:mayB us qs gr=false) :
 limf env 36 [.agg [xu,xq,aI gr],x1]=some (.tup [.agg [aNil,aNil,aI 0],aNil,aI 8]):=by
 have hC:=mC (gr:=gr) hu hq (by omega) (by omega)
 rw[hm]at hC
 clear hm
 refine aH (fn:=Try.f36) (c:=gq) rfl (by kernel_rfl) (by kernel_rfl) (by kernel_rfl) (by kernel_rfl) ?_;refine jO _ _ _ _ fun g=>?_
 simp[ae,af,ab,ad,aa, *,ei,hu.r,hq.r,hl.r,bad]
theorem xG{xu xq x1:AV}{us:List Clear}{qs:List Quota}{gr:Int}{l:List Gr}(hu:Sl 3 (av us) xu)(hq:Sl 5 (ay qs) xq)(hl:Sl 4 (dH l) x1)(hql:qs.length<1000)(hul:us.length<1000)(hm:mayB us qs gr=true)(hll:(2048:Int)<l.length) :
 limf env 36 [.agg [xu,xq,aI gr],x1]=some (.tup [.agg [aNil,aNil,aI 0],aNil,aI 4]):=by
 have hC:=mC (gr:=gr) hu hq (by omega) (by omega)
 rw[hm]at hC
 clear hm
 refine aH (fn:=Try.f36) (c:=gq) rfl (by kernel_rfl) (by kernel_rfl) (by kernel_rfl) (by kernel_rfl) ?_;refine jO _ _ _ _ fun g=>?_
 simp[ae,af,ab,ad,aa, *,ei,hu.r,hq.r,hl.r,bad]
end Go.Proofs.Ytgooemdlilfkmaa
