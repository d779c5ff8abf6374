/-
  What a log tells: ledger.of. No statement of a seat is proved here.
-/
import Derived.Test.YtmkmimgokagimaaGreatLeOf3
import Derived.Test.YtmkmimgokagimaaGreatMLeTwin
set_option linter.unusedVariables false
set_option linter.unusedSimpArgs false
set_option linter.unusedSectionVars false
set_option linter.unnecessarySimpa false
set_option maxRecDepth 100000
namespace Go.Proofs.YtmkmimgokagimaaGreat
open Go.Ab
attribute [local simp] bn aV aF bj bh keep thr bD aX bc dx dw cN bE aD ct List.take_of_length_le
theorem E0{f:FuncId}(hm:(env.mode f == 2)=false)(wk:Bool)(dep:Nat){H:Heap}(r:Ref){args xs:List AV}(hv:args.mapM (view H.get depth)=some xs)(hr:bI H.get args=[]){y:AV}(hy:limf env f xs=some y) :
 jr env wk (limf env) (limt env dep) H r (some (.fn (.func f) [] [])) args=some ((aA r depth y []).1,keyed r 0 (frzB true (aA r depth y []).2) H):=by
 have hm':env.mode f≠2:=by simpa using hm
 have e:([]++args++[]:List AV)=args:=by simp
 unfold jr
 simp only[je,if_neg hm',e,hv,hy,hr]
 simp[im,nRes,orW]
section
variable{xu xq:AV}{us:List Clear}{qs:List Quota}{gr:Int}(hu:Sl 3 (gz us) xu)(hq:Sl 5 (gS qs) xq)(hul:us.length<1000000)(hql:qs.length<1000000)
include hu hq hul hql
theorem NP(dep d t:Nat){gg:Nat}{H:Heap}(hF:Fr H)(hgg:gg=H.gen d t) : ∃yu yq wu wq H',jr env false (limf env) (limt env dep) H ⟨d,t,gg,0⟩ (some (.fn (.func 160) [] [])) [.agg [xu,xq,aI gr]]=some (.agg [yu,yq,aI gr],H')∧Grow H H'∧lQ 3 (gz us) H' yu wu∧lQ 5 (gS qs) H' yq wq:=by
 subst hgg
 have hT:=FI (gr:=gr) hu hq (by omega) (by omega)
 have ou:=og hu
 have oq:=og hq
 generalize m4 xu=yu at *
 generalize m4 xq=yq at *
 have hc:=E0 (H:=H) (f:=160) (by kernel_rfl) false dep ⟨d,t,H.gen d t,0⟩ (args:=[.agg [xu,xq,aI gr]]) (by simp[hu.r,hq.r]) (by simp[hu.r,hq.r]) hT
 rw[hc]
 have hold : ∀(q:Ref)(c:Blk),H.get q=some c →∀k,(⟨d,t,H.gen d t,k⟩:Ref)≠q:=by
  intro q c hq k
  have lq:(H.get q).isSome=true:=by rw[hq];rfl
  exact nj hF lq _ _ _
 rcases ou with ⟨rfl,h1⟩ | rfl | ⟨rfl,h1⟩<;>rcases oq with ⟨rfl,h2⟩ | rfl | ⟨rfl,h2⟩
 ·simp[aA,frzB,keyed]
  refine⟨aNil,aNil,aNil,aNil,_,⟨⟨by simp,by simp⟩,rfl⟩,⟨?_,fun q c hq=>?_⟩,.inl ⟨rfl,.inl ⟨rfl,h1⟩⟩,.inl ⟨rfl,.inl ⟨rfl,h2⟩⟩⟩
  ·exact by simp(maxDischargeDepth:=12) [Heap.an,aq,aj,Fr.nil,ax,af,ah,ad,ae,ao,ak,ab, *]
  ·simp[hold q c hq,hq]
 ·simp[aA,frzB,keyed]
  refine⟨aNil,.osl ⟨d,t,H.gen d t,0⟩ 0 (gS qs).length none,aNil,.isl 5 (gS qs) none,_,⟨⟨by simp,by simp⟩,rfl⟩,⟨?_,fun q c hq=>?_⟩,.inl ⟨rfl,.inl ⟨rfl,h1⟩⟩,.inr ⟨_,none,rfl,by simp,rfl,Nat.le_refl _⟩⟩
  ·exact by simp(maxDischargeDepth:=12) [Heap.an,aq,aj,Fr.nil,ax,af,ah,ad,ae,ao,ak,ab, *]
  ·simp[hold q c hq,hq]
 ·simp[aA,frzB,keyed]
  refine⟨aNil,.osl ⟨d,t,H.gen d t,0⟩ 0 0 (some 0),aNil,.isl 5 (gS qs) (some 0),_,⟨⟨by simp,by simp⟩,rfl⟩,⟨?_,fun q c hq=>?_⟩,.inl ⟨rfl,.inl ⟨rfl,h1⟩⟩,.inr ⟨_,some 0,by rw[h2];rfl,by simp[h2],rfl,by rw[h2];simp⟩⟩
  ·exact by simp(maxDischargeDepth:=12) [Heap.an,aq,aj,Fr.nil,ax,af,ah,ad,ae,ao,ak,ab, *]
  ·simp[hold q c hq,hq]
 ·simp[aA,frzB,keyed]
  refine⟨.osl ⟨d,t,H.gen d t,0⟩ 0 (gz us).length none,aNil,.isl 3 (gz us) none,aNil,_,⟨⟨by simp,by simp⟩,rfl⟩,⟨?_,fun q c hq=>?_⟩,.inr ⟨_,none,rfl,by simp,rfl,Nat.le_refl _⟩,.inl ⟨rfl,.inl ⟨rfl,h2⟩⟩⟩
  ·exact by simp(maxDischargeDepth:=12) [Heap.an,aq,aj,Fr.nil,ax,af,ah,ad,ae,ao,ak,ab, *]
  ·simp[hold q c hq,hq]
 ·simp[aA,frzB,keyed]
  refine⟨.osl ⟨d,t,H.gen d t,0⟩ 0 (gz us).length none,.osl ⟨d,t,H.gen d t,1⟩ 0 (gS qs).length none,.isl 3 (gz us) none,.isl 5 (gS qs) none,_,⟨⟨by simp,by simp⟩,rfl⟩,⟨?_,fun q c hq=>?_⟩,.inr ⟨_,none,rfl,by simp,rfl,Nat.le_refl _⟩,.inr ⟨_,none,rfl,by simp,rfl,Nat.le_refl _⟩⟩
  ·exact by simp(maxDischargeDepth:=12) [Heap.an,aq,aj,Fr.nil,ax,af,ah,ad,ae,ao,ak,ab, *]
  ·simp[hold q c hq,hq]
 ·simp[aA,frzB,keyed]
  refine⟨.osl ⟨d,t,H.gen d t,0⟩ 0 (gz us).length none,.osl ⟨d,t,H.gen d t,1⟩ 0 0 (some 0),.isl 3 (gz us) none,.isl 5 (gS qs) (some 0),_,⟨⟨by simp,by simp⟩,rfl⟩,⟨?_,fun q c hq=>?_⟩,.inr ⟨_,none,rfl,by simp,rfl,Nat.le_refl _⟩,.inr ⟨_,some 0,by rw[h2];rfl,by simp[h2],rfl,by rw[h2];simp⟩⟩
  ·exact by simp(maxDischargeDepth:=12) [Heap.an,aq,aj,Fr.nil,ax,af,ah,ad,ae,ao,ak,ab, *]
  ·simp[hold q c hq,hq]
 ·simp[aA,frzB,keyed]
  refine⟨.osl ⟨d,t,H.gen d t,0⟩ 0 0 (some 0),aNil,.isl 3 (gz us) (some 0),aNil,_,⟨⟨by simp,by simp⟩,rfl⟩,⟨?_,fun q c hq=>?_⟩,.inr ⟨_,some 0,by rw[h1];rfl,by simp[h1],rfl,by rw[h1];simp⟩,.inl ⟨rfl,.inl ⟨rfl,h2⟩⟩⟩
  ·exact by simp(maxDischargeDepth:=12) [Heap.an,aq,aj,Fr.nil,ax,af,ah,ad,ae,ao,ak,ab, *]
  ·simp[hold q c hq,hq]
 ·simp[aA,frzB,keyed]
  refine⟨.osl ⟨d,t,H.gen d t,0⟩ 0 0 (some 0),.osl ⟨d,t,H.gen d t,1⟩ 0 (gS qs).length none,.isl 3 (gz us) (some 0),.isl 5 (gS qs) none,_,⟨⟨by simp,by simp⟩,rfl⟩,⟨?_,fun q c hq=>?_⟩,.inr ⟨_,some 0,by rw[h1];rfl,by simp[h1],rfl,by rw[h1];simp⟩,.inr ⟨_,none,rfl,by simp,rfl,Nat.le_refl _⟩⟩
  ·exact by simp(maxDischargeDepth:=12) [Heap.an,aq,aj,Fr.nil,ax,af,ah,ad,ae,ao,ak,ab, *]
  ·simp[hold q c hq,hq]
 ·simp[aA,frzB,keyed]
  refine⟨.osl ⟨d,t,H.gen d t,0⟩ 0 0 (some 0),.osl ⟨d,t,H.gen d t,1⟩ 0 0 (some 0),.isl 3 (gz us) (some 0),.isl 5 (gS qs) (some 0),_,⟨⟨by simp,by simp⟩,rfl⟩,⟨?_,fun q c hq=>?_⟩,.inr ⟨_,some 0,by rw[h1];rfl,by simp[h1],rfl,by rw[h1];simp⟩,.inr ⟨_,some 0,by rw[h2];rfl,by simp[h2],rfl,by rw[h2];simp⟩⟩
  ·exact by simp(maxDischargeDepth:=12) [Heap.an,aq,aj,Fr.nil,ax,af,ah,ad,ae,ao,ak,ab, *]
  ·simp[hold q c hq,hq]
def rG(us:List Clear)(gr:Int):Book:=⟨us,gr,[],[],[]⟩
def ofA(us:List Clear)(qs:List Quota)(gr:Int)(l:List (Rcd × AV)):Option Book:=if polB us qs gr=true∧l.length≤2048 then ofB us qs gr (rG us gr) l else none
theorem s_Of{l:List (Rcd × AV)}{x1:AV}(hx:Sl 24 (dv l) x1)(hall : ∀p∈l,okRc p)(dep:Nat){H:Heap}(hF:Fr H) :
 ∃y H',limt env dep (.fn 100) [.agg [xu,xq,aI gr],x1] H=some (y,H')∧C1 H us qs gr (l.map twR) (ofA us qs gr l) y H':=by
 have hgo:GoL env Tryz.f100 (dep+1) [.code pP] (rH 0 [.agg [xu,xq,aI gr],x1]) H fun y H'=>C1 H us qs gr (l.map twR) (ofA us qs gr l) y H':=by
  have hC:=rZ (gr:=gr) hu hq (by omega) (by omega)
  have hg2 : ∀b1:Blk,Grow H ((⟨dep+1,2,H.gen (dep+1) 2,0⟩,some b1) :: H):=fun b1=>Grow.cons hF _ _ _
  refine Aq _ _ _ _ _ fun g=>?_
  have hno : ¬(polB us qs gr=true∧l.length≤2048) →∀H',Grow H H'→C1 H us qs gr (l.map twR) (ofA us qs gr l) (.tup [.v (.pointer none),aB false]) H':=fun hd H' hG=>by
   unfold ofA;rw[if_neg hd];exact⟨rfl,hG⟩
  cases hp:polB us qs gr with
  | false =>
   rw[hp]at hC hno
   have hfin:=fun b1=>hno (by simp) _ (hg2 b1)
   simp[af,ah,ad,ae,ab, *,m6,hx.r,hu.r,hq.r,bad]
   all_goals exact hfin _
  | true =>
   rw[hp]at hC
   by_cases hl:l.length≤2048
   ·have hl' : ¬(2048:Int)<l.length:=by omega
    obtain⟨yu,yq,wu,wq,H3,hT,hG,z1,z2⟩:=NP (gr:=gr) hu hq hul hql (dep+1) (dep+1) 20 (gg:=H.gen (dep+1) 20) (hg2 ⟨3,[.agg [xu,xq,aI gr]],false,false⟩).fr (by simp)
    have hFr3:=hG.fr
    have hG3:=(hg2 _).trans hG
    have c1:=z1.s.cells
    have c2:=z2.s.cells
    have hkw:=fun H=>LG true (dep+1) H (dep+1) 25
    clear hno
    simp[af,ah,ad,ae,ab, *,m6,hx.r,hu.r,hq.r,bad,hkw]
    have hof:ofA us qs gr l=ofB us qs gr (rG us gr) l:=by unfold ofA;rw[if_pos ⟨hp,hl⟩]
    refine Lu (rb:=⟨dep+1,24,H3.gen (dep+1) 24,0⟩) (rs:=⟨dep+1,21,H3.gen (dep+1) 21,0⟩) (ru:=⟨dep+1,22,H3.gen (dep+1) 22,0⟩) (rk:=⟨dep+1,25,H3.gen (dep+1) 25,0⟩) (gr0:=gr) (dep:=dep) (H0:=H)
     (Q:=fun y H'=>C1 H us qs gr (l.map twR) (ofA us qs gr l) y H') hx hl hall hul hql l 0 (rG us gr) [] _ aNil aNil rfl (by omega) rfl ⟨fun p h=>(by cases h),fun p h=>(by cases h),fun p h=>(by cases h),(by simp[rG]),(by simpa [rG] using hul)⟩ (by simp[rG]) ?_ (fun y H' h=>by rw[hof];exact h)
    have hgg : ∀b1 b2 b3 b4:Blk,Grow H3 ((⟨dep+1,25,H3.gen (dep+1) 25,0⟩,some b4) :: (⟨dep+1,24,H3.gen (dep+1) 24,0⟩,some b3) :: (⟨dep+1,22,H3.gen (dep+1) 22,0⟩,some b2) :: (⟨dep+1,21,H3.gen (dep+1) 21,0⟩,some b1) :: H3):=fun b1 b2 b3 b4=>⟨by simp(maxDischargeDepth:=12) [Heap.an,aq,aj,Fr.nil,ax,af,ah,ad,ae,ao,ak,ab, *],fun q c hq=>by
     have lq:(H3.get q).isSome=true:=by rw[hq];rfl
     simp[af hFr3 lq,hq]⟩
    have hnn : ∀t,H.get ⟨dep+1,t,H3.gen (dep+1) t,0⟩=none:=fun t=>by
     cases hr:H.get ⟨dep+1,t,H3.gen (dep+1) t,0⟩ with
     | none=>rfl
     | some c=>have:=hG3.old _ _ hr;rw[ao hFr3]at this;cases this
    refine⟨hG3.trans (hgg _ _ _ _),⟨⟨xu,xq,yu,yq,wu,wq,?_,hu,hq,z1.grow (hgg _ _ _ _),z2.grow (hgg _ _ _ _)⟩,?_,?_,.inl ⟨rfl,rfl⟩,⟨rfl,rfl⟩,?_,fun r hr=>(by cases hr)⟩,.inl ⟨rfl,rfl⟩,fun r hr=>(by cases hr),fun r hr=>(by cases hr),?_,⟨rfl,rfl,rfl,rfl⟩,⟨hnn _,hnn _,hnn _⟩⟩
    ·simp[rG]
    ·simp[rG,cT]
    ·simp[rG,cT]
    ·simp[AV.at?]
    ·simp
   ·have hl':(2048:Int)<l.length:=by omega
    have hfin:=fun b1=>hno (by simp[hl]) _ (hg2 b1)
    simp[af,ah,ad,ae,ab, *,m6,hx.r,hu.r,hq.r,bad]
    all_goals exact hfin _
 obtain⟨y,H',h1,h2⟩:=lx (by kernel_rfl) (by kernel_rfl) (by kernel_rfl) (by kernel_rfl) (by kernel_rfl) hgo
 exact⟨y,H',h1,h2⟩
end
end Go.Proofs.YtmkmimgokagimaaGreat
