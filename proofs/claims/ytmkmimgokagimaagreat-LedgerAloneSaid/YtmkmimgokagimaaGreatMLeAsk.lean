/-
  What a log tells: ledger.of. No statement of a seat is proved here.
-/
import Derived.Test.YtmkmimgokagimaaGreatLeOf3
import Derived.Test.YtmkmimgokagimaaGreatMLeTwin
set_option linter.unusedVariables false
set_option linter.unusedSimpArgs false
set_option linter.unusedSectionVars false
set_option linter.unnecessarySimpa false
set_option maxRecDepth 100000
namespace Go.Proofs.YtmkmimgokagimaaGreat
open Go.Ab
attribute [local simp] bm aP aG bh bg keep thr bF aY bf dw dv cV bG aC cd List.take_of_length_le
theorem Ho{f:FuncId}(hm:(env.mode f == 2)=false)(wk:Bool)(dep:Nat){H:Heap}(r:Ref){args xs:List AV}(hv:args.mapM (view H.get depth)=some xs)(hr:bP H.get args=[]){y:AV}(hy:limf env f xs=some y) :
 kA env wk (limf env) (limt env dep) H r (some (.fn (.func f) [] [])) args=some ((aA r depth y []).1,keyed r 0 (frzB true (aA r depth y []).2) H):=by
 have hm':env.mode f≠2:=by simpa using hm
 have e:([]++args++[]:List AV)=args:=by simp
 unfold kA
 simp only[jY,if_neg hm',e,hv,hy,hr]
 simp[iS,nRes,orW]
section
variable{xu xq:AV}{us:List Clear}{qs:List Quota}{gr:Int}(hu:Sl 3 (eg us) xu)(hq:Sl 5 (eK qs) xq)(hul:us.length<1000000)(hql:qs.length<1000000)
include hu hq hul hql
theorem Qw(dep d t:Nat){gg:Nat}{H:Heap}(hF:Fr H)(hgg:gg=H.gen d t) : ∃yu yq wu wq H',kA env false (limf env) (limt env dep) H ⟨d,t,gg,0⟩ (some (.fn (.func 160) [] [])) [.agg [xu,xq,aI gr]]=some (.agg [yu,yq,aI gr],H')∧Grow H H'∧jA 3 (eg us) H' yu wu∧jA 5 (eK qs) H' yq wq:=by
 subst hgg
 have hT:=Im (gr:=gr) hu hq (by omega) (by omega)
 have ou:=pJ hu
 have oq:=pJ hq
 generalize oF xu=yu at *
 generalize oF xq=yq at *
 have hc:=Ho (H:=H) (f:=160) (by kernel_rfl) false dep ⟨d,t,H.gen d t,0⟩ (args:=[.agg [xu,xq,aI gr]]) (by simp[hu.r,hq.r]) (by simp[hu.r,hq.r]) hT
 rw[hc]
 have hold : ∀(q:Ref)(c:Blk),H.get q=some c →∀k,(⟨d,t,H.gen d t,k⟩:Ref)≠q:=by
  intro q c hq k
  have lq:(H.get q).isSome=true:=by rw[hq];rfl
  exact m6 hF lq _ _ _
 rcases ou with ⟨rfl,h1⟩ | rfl | ⟨rfl,h1⟩<;>rcases oq with ⟨rfl,h2⟩ | rfl | ⟨rfl,h2⟩
 ·simp[aA,frzB,keyed]
  refine⟨aNil,aNil,aNil,aNil,_,⟨⟨by simp,by simp⟩,rfl⟩,⟨?_,fun q c hq=>?_⟩,.inl ⟨rfl,.inl ⟨rfl,h1⟩⟩,.inl ⟨rfl,.inl ⟨rfl,h2⟩⟩⟩
  ·exact by simp(maxDischargeDepth:=12) [Heap.an,ar,aj,Fr.nil,au,af,ah,ad,ae,aq,ak,ab, *]
  ·simp[hold q c hq,hq]
 ·simp[aA,frzB,keyed]
  refine⟨aNil,.osl ⟨d,t,H.gen d t,0⟩ 0 (eK qs).length none,aNil,.isl 5 (eK qs) none,_,⟨⟨by simp,by simp⟩,rfl⟩,⟨?_,fun q c hq=>?_⟩,.inl ⟨rfl,.inl ⟨rfl,h1⟩⟩,.inr ⟨_,none,rfl,by simp,rfl,Nat.le_refl _⟩⟩
  ·exact by simp(maxDischargeDepth:=12) [Heap.an,ar,aj,Fr.nil,au,af,ah,ad,ae,aq,ak,ab, *]
  ·simp[hold q c hq,hq]
 ·simp[aA,frzB,keyed]
  refine⟨aNil,.osl ⟨d,t,H.gen d t,0⟩ 0 0 (some 0),aNil,.isl 5 (eK qs) (some 0),_,⟨⟨by simp,by simp⟩,rfl⟩,⟨?_,fun q c hq=>?_⟩,.inl ⟨rfl,.inl ⟨rfl,h1⟩⟩,.inr ⟨_,some 0,by rw[h2];rfl,by simp[h2],rfl,by rw[h2];simp⟩⟩
  ·exact by simp(maxDischargeDepth:=12) [Heap.an,ar,aj,Fr.nil,au,af,ah,ad,ae,aq,ak,ab, *]
  ·simp[hold q c hq,hq]
 ·simp[aA,frzB,keyed]
  refine⟨.osl ⟨d,t,H.gen d t,0⟩ 0 (eg us).length none,aNil,.isl 3 (eg us) none,aNil,_,⟨⟨by simp,by simp⟩,rfl⟩,⟨?_,fun q c hq=>?_⟩,.inr ⟨_,none,rfl,by simp,rfl,Nat.le_refl _⟩,.inl ⟨rfl,.inl ⟨rfl,h2⟩⟩⟩
  ·exact by simp(maxDischargeDepth:=12) [Heap.an,ar,aj,Fr.nil,au,af,ah,ad,ae,aq,ak,ab, *]
  ·simp[hold q c hq,hq]
 ·simp[aA,frzB,keyed]
  refine⟨.osl ⟨d,t,H.gen d t,0⟩ 0 (eg us).length none,.osl ⟨d,t,H.gen d t,1⟩ 0 (eK qs).length none,.isl 3 (eg us) none,.isl 5 (eK qs) none,_,⟨⟨by simp,by simp⟩,rfl⟩,⟨?_,fun q c hq=>?_⟩,.inr ⟨_,none,rfl,by simp,rfl,Nat.le_refl _⟩,.inr ⟨_,none,rfl,by simp,rfl,Nat.le_refl _⟩⟩
  ·exact by simp(maxDischargeDepth:=12) [Heap.an,ar,aj,Fr.nil,au,af,ah,ad,ae,aq,ak,ab, *]
  ·simp[hold q c hq,hq]
 ·simp[aA,frzB,keyed]
  refine⟨.osl ⟨d,t,H.gen d t,0⟩ 0 (eg us).length none,.osl ⟨d,t,H.gen d t,1⟩ 0 0 (some 0),.isl 3 (eg us) none,.isl 5 (eK qs) (some 0),_,⟨⟨by simp,by simp⟩,rfl⟩,⟨?_,fun q c hq=>?_⟩,.inr ⟨_,none,rfl,by simp,rfl,Nat.le_refl _⟩,.inr ⟨_,some 0,by rw[h2];rfl,by simp[h2],rfl,by rw[h2];simp⟩⟩
  ·exact by simp(maxDischargeDepth:=12) [Heap.an,ar,aj,Fr.nil,au,af,ah,ad,ae,aq,ak,ab, *]
  ·simp[hold q c hq,hq]
 ·simp[aA,frzB,keyed]
  refine⟨.osl ⟨d,t,H.gen d t,0⟩ 0 0 (some 0),aNil,.isl 3 (eg us) (some 0),aNil,_,⟨⟨by simp,by simp⟩,rfl⟩,⟨?_,fun q c hq=>?_⟩,.inr ⟨_,some 0,by rw[h1];rfl,by simp[h1],rfl,by rw[h1];simp⟩,.inl ⟨rfl,.inl ⟨rfl,h2⟩⟩⟩
  ·exact by simp(maxDischargeDepth:=12) [Heap.an,ar,aj,Fr.nil,au,af,ah,ad,ae,aq,ak,ab, *]
  ·simp[hold q c hq,hq]
 ·simp[aA,frzB,keyed]
  refine⟨.osl ⟨d,t,H.gen d t,0⟩ 0 0 (some 0),.osl ⟨d,t,H.gen d t,1⟩ 0 (eK qs).length none,.isl 3 (eg us) (some 0),.isl 5 (eK qs) none,_,⟨⟨by simp,by simp⟩,rfl⟩,⟨?_,fun q c hq=>?_⟩,.inr ⟨_,some 0,by rw[h1];rfl,by simp[h1],rfl,by rw[h1];simp⟩,.inr ⟨_,none,rfl,by simp,rfl,Nat.le_refl _⟩⟩
  ·exact by simp(maxDischargeDepth:=12) [Heap.an,ar,aj,Fr.nil,au,af,ah,ad,ae,aq,ak,ab, *]
  ·simp[hold q c hq,hq]
 ·simp[aA,frzB,keyed]
  refine⟨.osl ⟨d,t,H.gen d t,0⟩ 0 0 (some 0),.osl ⟨d,t,H.gen d t,1⟩ 0 0 (some 0),.isl 3 (eg us) (some 0),.isl 5 (eK qs) (some 0),_,⟨⟨by simp,by simp⟩,rfl⟩,⟨?_,fun q c hq=>?_⟩,.inr ⟨_,some 0,by rw[h1];rfl,by simp[h1],rfl,by rw[h1];simp⟩,.inr ⟨_,some 0,by rw[h2];rfl,by simp[h2],rfl,by rw[h2];simp⟩⟩
  ·exact by simp(maxDischargeDepth:=12) [Heap.an,ar,aj,Fr.nil,au,af,ah,ad,ae,aq,ak,ab, *]
  ·simp[hold q c hq,hq]
def uZ(us:List Clear)(gr:Int):Book:=⟨us,gr,[],[],[]⟩
def ofA(us:List Clear)(qs:List Quota)(gr:Int)(l:List (Rcd × AV)):Option Book:=if polB us qs gr=true∧l.length≤2048 then ofB us qs gr (uZ us gr) l else none
theorem s_Of{l:List (Rcd × AV)}{x1:AV}(hx:Sl 24 (dR l) x1)(hall : ∀p∈l,okRc p)(dep:Nat){H:Heap}(hF:Fr H) :
 ∃y H',limt env dep (.fn 100) [.agg [xu,xq,aI gr],x1] H=some (y,H')∧Fj H us qs gr (l.map twR) (ofA us qs gr l) y H':=by
 have hgo:GoL env Tryz.f100 (dep+1) [.code rJ] (qv 0 [.agg [xu,xq,aI gr],x1]) H fun y H'=>Fj H us qs gr (l.map twR) (ofA us qs gr l) y H':=by
  have hC:=xK (gr:=gr) hu hq (by omega) (by omega)
  have hg2 : ∀b1:Blk,Grow H ((⟨dep+1,2,H.gen (dep+1) 2,0⟩,some b1) :: H):=fun b1=>Grow.cons hF _ _ _
  refine CB _ _ _ _ _ fun g=>?_
  have hno : ¬(polB us qs gr=true∧l.length≤2048) →∀H',Grow H H'→Fj H us qs gr (l.map twR) (ofA us qs gr l) (.tup [.v (.pointer none),aB false]) H':=fun hd H' hG=>by
   unfold ofA;rw[if_neg hd];exact⟨rfl,hG⟩
  cases hp:polB us qs gr with
  | false =>
   rw[hp]at hC hno
   have hfin:=fun b1=>hno (by simp) _ (hg2 b1)
   simp[af,ah,ad,ae,ab, *,oJ,hx.r,hu.r,hq.r,bad]
   all_goals exact hfin _
  | true =>
   rw[hp]at hC
   by_cases hl:l.length≤2048
   ·have hl' : ¬(2048:Int)<l.length:=by omega
    obtain⟨yu,yq,wu,wq,H3,hT,hG,z1,z2⟩:=Qw (gr:=gr) hu hq hul hql (dep+1) (dep+1) 20 (gg:=H.gen (dep+1) 20) (hg2 ⟨3,[.agg [xu,xq,aI gr]],false,false⟩).fr (by simp)
    have hFr3:=hG.fr
    have hG3:=(hg2 _).trans hG
    have c1:=z1.s.cells
    have c2:=z2.s.cells
    have hkw:=fun H=>Oq true (dep+1) H (dep+1) 25
    clear hno
    simp[af,ah,ad,ae,ab, *,oJ,hx.r,hu.r,hq.r,bad,hkw]
    have hof:ofA us qs gr l=ofB us qs gr (uZ us gr) l:=by unfold ofA;rw[if_pos ⟨hp,hl⟩]
    refine Oa (rb:=⟨dep+1,24,H3.gen (dep+1) 24,0⟩) (rs:=⟨dep+1,21,H3.gen (dep+1) 21,0⟩) (ru:=⟨dep+1,22,H3.gen (dep+1) 22,0⟩) (rk:=⟨dep+1,25,H3.gen (dep+1) 25,0⟩) (gr0:=gr) (dep:=dep) (H0:=H)
     (Q:=fun y H'=>Fj H us qs gr (l.map twR) (ofA us qs gr l) y H') hx hl hall hul hql l 0 (uZ us gr) [] _ aNil aNil rfl (by omega) rfl ⟨fun p h=>(by cases h),fun p h=>(by cases h),fun p h=>(by cases h),(by simp[uZ]),(by simpa [uZ] using hul)⟩ (by simp[uZ]) ?_ (fun y H' h=>by rw[hof];exact h)
    have hgg : ∀b1 b2 b3 b4:Blk,Grow H3 ((⟨dep+1,25,H3.gen (dep+1) 25,0⟩,some b4) :: (⟨dep+1,24,H3.gen (dep+1) 24,0⟩,some b3) :: (⟨dep+1,22,H3.gen (dep+1) 22,0⟩,some b2) :: (⟨dep+1,21,H3.gen (dep+1) 21,0⟩,some b1) :: H3):=fun b1 b2 b3 b4=>⟨by simp(maxDischargeDepth:=12) [Heap.an,ar,aj,Fr.nil,au,af,ah,ad,ae,aq,ak,ab, *],fun q c hq=>by
     have lq:(H3.get q).isSome=true:=by rw[hq];rfl
     simp[af hFr3 lq,hq]⟩
    have hnn : ∀t,H.get ⟨dep+1,t,H3.gen (dep+1) t,0⟩=none:=fun t=>by
     cases hr:H.get ⟨dep+1,t,H3.gen (dep+1) t,0⟩ with
     | none=>rfl
     | some c=>have:=hG3.old _ _ hr;rw[aq hFr3]at this;cases this
    refine⟨hG3.trans (hgg _ _ _ _),⟨⟨xu,xq,yu,yq,wu,wq,?_,hu,hq,z1.grow (hgg _ _ _ _),z2.grow (hgg _ _ _ _)⟩,?_,?_,.inl ⟨rfl,rfl⟩,⟨rfl,rfl⟩,?_,fun r hr=>(by cases hr)⟩,.inl ⟨rfl,rfl⟩,fun r hr=>(by cases hr),fun r hr=>(by cases hr),?_,⟨rfl,rfl,rfl,rfl⟩,⟨hnn _,hnn _,hnn _⟩⟩
    ·simp[uZ]
    ·simp[uZ,dk]
    ·simp[uZ,dk]
    ·simp[AV.at?]
    ·simp
   ·have hl':(2048:Int)<l.length:=by omega
    have hfin:=fun b1=>hno (by simp[hl]) _ (hg2 b1)
    simp[af,ah,ad,ae,ab, *,oJ,hx.r,hu.r,hq.r,bad]
    all_goals exact hfin _
 obtain⟨y,H',h1,h2⟩:=gh (by kernel_rfl) (by kernel_rfl) (by kernel_rfl) (by kernel_rfl) (by kernel_rfl) hgo
 exact⟨y,H',h1,h2⟩
end
end Go.Proofs.YtmkmimgokagimaaGreat
namespace Go.Proofs.YtmkmimgokagimaaGreat
open Go.Ab
attribute [local simp] bm aP aG bh bg keep thr bF aY bf dw dv cV bG aC cd List.take_of_length_le
def iC(o:Option Book)(wr:Int)(zero:AV)(R:Book→AV→Heap→Prop)(y:AV)(H:Heap):Prop:=match o with
 | none=>y = .tup [zero,aI 8]
 | some b=>if wr=0 then R b y H else y = .tup [zero,aI wr]
section
variable{xu xq:AV}{us:List Clear}{qs:List Quota}{gr:Int}(hu:Sl 3 (eg us) xu)(hq:Sl 5 (eK qs) xq)(hul:us.length<1000000)(hql:qs.length<1000000){l:List (Rcd × AV)}{x1:AV}(hx:Sl 24 (dR l) x1)(hall : ∀p∈l,okRc p)
include hu hq hul hql hx hall
theorem Ka(dep:Nat){H:Heap}(hF:Fr H)(wr:Int){fd:FuncId}(hm:(env.mode fd == 2)=true){caps:List AV}{R:Book→AV→Heap→Prop}
 (hdo:wr=0 →∀b H2 rb rs ru xh xr,ofA us qs gr l=some b→Grow H H2→BookX H2 rb rs ru xh xr us qs gr b→Own 24 (dR (l.map twR)) H2 xr→(∀r,xr.at?=some r→r.t=62)→BookOk b →∃z e H3,limt env (dep+1) (.fn fd) ([]++[.ptr rb 0 0]++caps) H2=some (.tup [z,e],H3)∧R b (.tup [z,e]) H3) :
 ∃y H',limt env dep (.fn 75) [.agg [xu,xq,aI gr],x1,aI wr,.fn (.func fd) [] caps] H=some (y,H')∧iC (ofA us qs gr l) wr aNil R y H':=by
 have hgo:GoL env Tryz.f75 (dep+1) [.code eF] (qv 0 [.agg [xu,xq,aI gr],x1,aI wr,.fn (.func fd) [] caps]) H fun y H'=>iC (ofA us qs gr l) wr aNil R y H':=by
  have hg2 : ∀b1:Blk,Grow H ((⟨dep+1,4,H.gen (dep+1) 4,0⟩,some b1) :: H):=fun b1=>Grow.cons hF _ _ _
  obtain⟨y,H2,hO,hA⟩:=s_Of (gr:=gr) hu hq hul hql hx hall (dep+1) (hg2 ⟨3,[.agg [xu,xq,aI gr]],false,false⟩).fr
  refine iV _ _ _ _ _ _ _ fun g=>?_
  unfold iC
  simp[af,ah,ad,ae,ab, *,eG,hx.r,hu.r,hq.r]
  refine n9 (by kernel_rfl) hO ?_
  cases ho:ofA us qs gr l with
  | none =>
   rw[ho]at hA
   obtain⟨rfl,hG⟩:=hA
   simp
  | some b =>
   rw[ho]at hA
   obtain⟨rb,rs,ru,rk,xh,xr,rfl,hI,hok⟩:=hA
   by_cases hw:wr=0
   ·subst hw
    obtain⟨z,e,H3,h1,h2⟩:=hdo rfl b H2 rb rs ru xh xr ho ((hg2 _).trans hI.g) hI.bk hI.row (fun r e=>(hI.t62 r e).1) hok
    simp
    refine n9 hm h1 ?_
    simp
    exact h2
   ·simp[hw]
 obtain⟨y,H',h1,h2⟩:=gh (by kernel_rfl) (by kernel_rfl) (by kernel_rfl) (by kernel_rfl) (by kernel_rfl) hgo
 exact⟨y,H',h1,h2⟩
theorem Iq:limf env 34 [.agg [xu,xq,aI gr],x1]=some (aI (if (ofA us qs gr l).isSome then 0 else 8)):=by
 refine az (fn:=Tryz.f34) (c:=rK) rfl (by kernel_rfl) (by kernel_rfl) (by kernel_rfl) (by kernel_rfl) ?_;refine yb _ _ _ _ fun g=>?_
 have hF0:Fr [(⟨0,2,0,0⟩,some ⟨3,[.agg [xu,xq,aI gr]],false,false⟩)]:=by simp(maxDischargeDepth:=12) [Heap.an,ar,aj,Fr.nil,au,af,ah,ad,ae,aq,ak,ab, *]
 obtain⟨y,H2,hO,hA⟩:=s_Of (gr:=gr) hu hq hul hql hx hall 0 hF0
 simp[af,ah,ad,ae,ab, *,rY,hx.r,hu.r,hq.r]
 refine n9 (by kernel_rfl) hO ?_
 cases ho:ofA us qs gr l with
 | none =>
  rw[ho]at hA
  obtain⟨rfl,hG⟩:=hA
  simp
 | some b =>
  rw[ho]at hA
  obtain⟨rb,rs,ru,rk,xh,xr,rfl,hI,hok⟩:=hA
  simp
end
end Go.Proofs.YtmkmimgokagimaaGreat
