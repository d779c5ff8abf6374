/-
  What a log tells: ledger.of. No statement of a seat is proved here.
-/
import Derived.Test.YtdbiffjdomokfaaGreatLeOf3
import Derived.Test.YtdbiffjdomokfaaGreatMLeTwin
set_option linter.unusedVariables false
set_option linter.unusedSimpArgs false
set_option linter.unusedSectionVars false
set_option linter.unnecessarySimpa false
set_option maxRecDepth 100000
namespace Go.Proofs.YtdbiffjdomokfaaGreat
open Go.Ab
attribute [local simp] bD bq bo bF bE cZ ld bQ bx bA dx dw cg bT aY ct List.take_of_length_le
theorem Je{f:FuncId}(hm:(env.mode f == 2)=false)(wk:Bool)(dep:Nat){H:ab}(r:Ref){args xs:List AV}(hv:args.mapM (view H.get depth)=some xs)(hr:cb H.get args=[]){y:AV}(hy:bj env f xs=some y) :
 kI env wk (bj env) (bU env dep) H r (some (.fn (.func f) [] [])) args=some ((aN r depth y []).1,keyed r 0 (uS true (aN r depth y []).2) H):=by
 have hm':env.mode f≠2:=by simpa using hm
 have e:([]++args++[]:List AV)=args:=by simp
 unfold kI
 simp only[ij,if_neg hm',e,hv,hy,hr]
 simp[ib,bl,AA]
section
variable{xu xq:AV}{us:List Clear}{qs:List bz}{gr:Int}(hu:Sl 3 (eZ us) xu)(hq:Sl 5 (ff qs) xq)(hul:us.length<1000000)(hql:qs.length<1000000)
include hu hq hul hql
theorem RW(dep d t:Nat){gg:Nat}{H:ab}(hF:Fr H)(hgg:gg=H.gen d t) : ∃yu yq wu wq H',kI env false (bj env) (bU env dep) H ⟨d,t,gg,0⟩ (some (.fn (.func 42) [] [])) [.agg [xu,xq,aI gr]]=some (.agg [yu,yq,aI gr],H')∧cz H H'∧ke 3 (eZ us) H' yu wu∧ke 5 (ff qs) H' yq wq:=by
 subst hgg
 have hT:=Jx (gr:=gr) hu hq (by omega) (by omega)
 have ou:=qb hu
 have oq:=qb hq
 generalize nN xu=yu at *
 generalize nN xq=yq at *
 have hc:=Je (H:=H) (f:=42) (by kernel_rfl) false dep ⟨d,t,H.gen d t,0⟩ (args:=[.agg [xu,xq,aI gr]]) (by simp[hu.r,hq.r]) (by simp[hu.r,hq.r]) hT
 rw[hc]
 have hold : ∀(q:Ref)(c:bM),H.get q=some c →∀k,(⟨d,t,H.gen d t,k⟩:Ref)≠q:=by
  intro q c hq k
  have lq:(H.get q).isSome=true:=by rw[hq];rfl
  exact pC hF lq _ _ _
 rcases ou with ⟨rfl,h1⟩ | rfl | ⟨rfl,h1⟩<;>rcases oq with ⟨rfl,h2⟩ | rfl | ⟨rfl,h2⟩
 ·simp[aN,uS,keyed]
  refine⟨cW,cW,cW,cW,_,⟨⟨by simp,by simp⟩,rfl⟩,⟨?_,fun q c hq=>?_⟩,.inl ⟨rfl,.inl ⟨rfl,h1⟩⟩,.inl ⟨rfl,.inl ⟨rfl,h2⟩⟩⟩
  ·exact by simp(maxDischargeDepth:=12) [ab.get_put,aq,an,Fr.nil,aD,ah,ai,ae,af,ar,ao,ad, *]
  ·simp[hold q c hq,hq]
 ·simp[aN,uS,keyed]
  refine⟨cW,.cH ⟨d,t,H.gen d t,0⟩ 0 (ff qs).length none,cW,.cw 5 (ff qs) none,_,⟨⟨by simp,by simp⟩,rfl⟩,⟨?_,fun q c hq=>?_⟩,.inl ⟨rfl,.inl ⟨rfl,h1⟩⟩,.inr ⟨_,none,rfl,by simp,rfl,Nat.le_refl _⟩⟩
  ·exact by simp(maxDischargeDepth:=12) [ab.get_put,aq,an,Fr.nil,aD,ah,ai,ae,af,ar,ao,ad, *]
  ·simp[hold q c hq,hq]
 ·simp[aN,uS,keyed]
  refine⟨cW,.cH ⟨d,t,H.gen d t,0⟩ 0 0 (some 0),cW,.cw 5 (ff qs) (some 0),_,⟨⟨by simp,by simp⟩,rfl⟩,⟨?_,fun q c hq=>?_⟩,.inl ⟨rfl,.inl ⟨rfl,h1⟩⟩,.inr ⟨_,some 0,by rw[h2];rfl,by simp[h2],rfl,by rw[h2];simp⟩⟩
  ·exact by simp(maxDischargeDepth:=12) [ab.get_put,aq,an,Fr.nil,aD,ah,ai,ae,af,ar,ao,ad, *]
  ·simp[hold q c hq,hq]
 ·simp[aN,uS,keyed]
  refine⟨.cH ⟨d,t,H.gen d t,0⟩ 0 (eZ us).length none,cW,.cw 3 (eZ us) none,cW,_,⟨⟨by simp,by simp⟩,rfl⟩,⟨?_,fun q c hq=>?_⟩,.inr ⟨_,none,rfl,by simp,rfl,Nat.le_refl _⟩,.inl ⟨rfl,.inl ⟨rfl,h2⟩⟩⟩
  ·exact by simp(maxDischargeDepth:=12) [ab.get_put,aq,an,Fr.nil,aD,ah,ai,ae,af,ar,ao,ad, *]
  ·simp[hold q c hq,hq]
 ·simp[aN,uS,keyed]
  refine⟨.cH ⟨d,t,H.gen d t,0⟩ 0 (eZ us).length none,.cH ⟨d,t,H.gen d t,1⟩ 0 (ff qs).length none,.cw 3 (eZ us) none,.cw 5 (ff qs) none,_,⟨⟨by simp,by simp⟩,rfl⟩,⟨?_,fun q c hq=>?_⟩,.inr ⟨_,none,rfl,by simp,rfl,Nat.le_refl _⟩,.inr ⟨_,none,rfl,by simp,rfl,Nat.le_refl _⟩⟩
  ·exact by simp(maxDischargeDepth:=12) [ab.get_put,aq,an,Fr.nil,aD,ah,ai,ae,af,ar,ao,ad, *]
  ·simp[hold q c hq,hq]
 ·simp[aN,uS,keyed]
  refine⟨.cH ⟨d,t,H.gen d t,0⟩ 0 (eZ us).length none,.cH ⟨d,t,H.gen d t,1⟩ 0 0 (some 0),.cw 3 (eZ us) none,.cw 5 (ff qs) (some 0),_,⟨⟨by simp,by simp⟩,rfl⟩,⟨?_,fun q c hq=>?_⟩,.inr ⟨_,none,rfl,by simp,rfl,Nat.le_refl _⟩,.inr ⟨_,some 0,by rw[h2];rfl,by simp[h2],rfl,by rw[h2];simp⟩⟩
  ·exact by simp(maxDischargeDepth:=12) [ab.get_put,aq,an,Fr.nil,aD,ah,ai,ae,af,ar,ao,ad, *]
  ·simp[hold q c hq,hq]
 ·simp[aN,uS,keyed]
  refine⟨.cH ⟨d,t,H.gen d t,0⟩ 0 0 (some 0),cW,.cw 3 (eZ us) (some 0),cW,_,⟨⟨by simp,by simp⟩,rfl⟩,⟨?_,fun q c hq=>?_⟩,.inr ⟨_,some 0,by rw[h1];rfl,by simp[h1],rfl,by rw[h1];simp⟩,.inl ⟨rfl,.inl ⟨rfl,h2⟩⟩⟩
  ·exact by simp(maxDischargeDepth:=12) [ab.get_put,aq,an,Fr.nil,aD,ah,ai,ae,af,ar,ao,ad, *]
  ·simp[hold q c hq,hq]
 ·simp[aN,uS,keyed]
  refine⟨.cH ⟨d,t,H.gen d t,0⟩ 0 0 (some 0),.cH ⟨d,t,H.gen d t,1⟩ 0 (ff qs).length none,.cw 3 (eZ us) (some 0),.cw 5 (ff qs) none,_,⟨⟨by simp,by simp⟩,rfl⟩,⟨?_,fun q c hq=>?_⟩,.inr ⟨_,some 0,by rw[h1];rfl,by simp[h1],rfl,by rw[h1];simp⟩,.inr ⟨_,none,rfl,by simp,rfl,Nat.le_refl _⟩⟩
  ·exact by simp(maxDischargeDepth:=12) [ab.get_put,aq,an,Fr.nil,aD,ah,ai,ae,af,ar,ao,ad, *]
  ·simp[hold q c hq,hq]
 ·simp[aN,uS,keyed]
  refine⟨.cH ⟨d,t,H.gen d t,0⟩ 0 0 (some 0),.cH ⟨d,t,H.gen d t,1⟩ 0 0 (some 0),.cw 3 (eZ us) (some 0),.cw 5 (ff qs) (some 0),_,⟨⟨by simp,by simp⟩,rfl⟩,⟨?_,fun q c hq=>?_⟩,.inr ⟨_,some 0,by rw[h1];rfl,by simp[h1],rfl,by rw[h1];simp⟩,.inr ⟨_,some 0,by rw[h2];rfl,by simp[h2],rfl,by rw[h2];simp⟩⟩
  ·exact by simp(maxDischargeDepth:=12) [ab.get_put,aq,an,Fr.nil,aD,ah,ai,ae,af,ar,ao,ad, *]
  ·simp[hold q c hq,hq]
def yR(us:List Clear)(gr:Int):iw:=⟨us,gr,[],[],[]⟩
def BM(us:List Clear)(qs:List bz)(gr:Int)(l:List (jr × AV)):Option iw:=if EO us qs gr=true∧l.length≤2048 then UD us qs gr (yR us gr) l else none
theorem ZK{l:List (jr × AV)}{x1:AV}(hx:Sl 24 (cI l) x1)(hall : ∀p∈l,xW p)(dep:Nat){H:ab}(hF:Fr H) :
 ∃y H',bU env dep (.fn 35) [.agg [xu,xq,aI gr],x1] H=some (y,H')∧CM H us qs gr (l.map wQ) (BM us qs gr l) y H':=by
 have hgo:bP env Tryz.f35 (dep+1) [.code tw] (ra 0 [.agg [xu,xq,aI gr],x1]) H fun y H'=>CM H us qs gr (l.map wQ) (BM us qs gr l) y H':=by
  have hC:=xN (gr:=gr) hu hq (by omega) (by omega)
  have hg2 : ∀b1:bM,cz H ((⟨dep+1,2,H.gen (dep+1) 2,0⟩,some b1) :: H):=fun b1=>cz.cons hF _ _ _
  refine Ey _ _ _ _ _ fun g=>?_
  have hno : ¬(EO us qs gr=true∧l.length≤2048) →∀H',cz H H'→CM H us qs gr (l.map wQ) (BM us qs gr l) (.tup [.v (.pointer none),aB false]) H':=fun hd H' hG=>by
   unfold BM;rw[if_neg hd];exact⟨rfl,hG⟩
  cases hp:EO us qs gr with
  | false =>
   rw[hp]at hC hno
   have hfin:=fun b1=>hno (by simp) _ (hg2 b1)
   simp[ah,ai,ae,af,ad, *,pI,hx.r,hu.r,hq.r,bad]
   all_goals exact hfin _
  | true =>
   rw[hp]at hC
   by_cases hl:l.length≤2048
   ·have hl' : ¬(2048:Int)<l.length:=by omega
    obtain⟨yu,yq,wu,wq,H3,hT,hG,z1,z2⟩:=RW (gr:=gr) hu hq hul hql (dep+1) (dep+1) 20 (gg:=H.gen (dep+1) 20) (hg2 ⟨3,[.agg [xu,xq,aI gr]],false,false⟩).fr (by simp)
    have hFr3:=hG.fr
    have hG3:=(hg2 _).trans hG
    have c1:=z1.s.cells
    have c2:=z2.s.cells
    have hkw:=fun H=>P5 true (dep+1) H (dep+1) 25
    clear hno
    simp[ah,ai,ae,af,ad, *,pI,hx.r,hu.r,hq.r,bad,hkw]
    have hof:BM us qs gr l=UD us qs gr (yR us gr) l:=by unfold BM;rw[if_pos ⟨hp,hl⟩]
    refine PV (rb:=⟨dep+1,24,H3.gen (dep+1) 24,0⟩) (rs:=⟨dep+1,21,H3.gen (dep+1) 21,0⟩) (ru:=⟨dep+1,22,H3.gen (dep+1) 22,0⟩) (rk:=⟨dep+1,25,H3.gen (dep+1) 25,0⟩) (gr0:=gr) (dep:=dep) (H0:=H)
     (Q:=fun y H'=>CM H us qs gr (l.map wQ) (BM us qs gr l) y H') hx hl hall hul hql l 0 (yR us gr) [] _ cW cW rfl (by omega) rfl ⟨fun p h=>(by cases h),fun p h=>(by cases h),fun p h=>(by cases h),(by simp[yR]),(by simpa [yR] using hul)⟩ (by simp[yR]) ?_ (fun y H' h=>by rw[hof];exact h)
    have hgg : ∀b1 b2 b3 b4:bM,cz H3 ((⟨dep+1,25,H3.gen (dep+1) 25,0⟩,some b4) :: (⟨dep+1,24,H3.gen (dep+1) 24,0⟩,some b3) :: (⟨dep+1,22,H3.gen (dep+1) 22,0⟩,some b2) :: (⟨dep+1,21,H3.gen (dep+1) 21,0⟩,some b1) :: H3):=fun b1 b2 b3 b4=>⟨by simp(maxDischargeDepth:=12) [ab.get_put,aq,an,Fr.nil,aD,ah,ai,ae,af,ar,ao,ad, *],fun q c hq=>by
     have lq:(H3.get q).isSome=true:=by rw[hq];rfl
     simp[ah hFr3 lq,hq]⟩
    have hnn : ∀t,H.get ⟨dep+1,t,H3.gen (dep+1) t,0⟩=none:=fun t=>by
     cases hr:H.get ⟨dep+1,t,H3.gen (dep+1) t,0⟩ with
     | none=>rfl
     | some c=>have:=hG3.old _ _ hr;rw[ar hFr3]at this;cases this
    refine⟨hG3.trans (hgg _ _ _ _),⟨⟨xu,xq,yu,yq,wu,wq,?_,hu,hq,z1.grow (hgg _ _ _ _),z2.grow (hgg _ _ _ _)⟩,?_,?_,.inl ⟨rfl,rfl⟩,⟨rfl,rfl⟩,?_,fun r hr=>(by cases hr)⟩,.inl ⟨rfl,rfl⟩,fun r hr=>(by cases hr),fun r hr=>(by cases hr),?_,⟨rfl,rfl,rfl,rfl⟩,⟨hnn _,hnn _,hnn _⟩⟩
    ·simp[yR]
    ·simp[yR,cD]
    ·simp[yR,cD]
    ·simp[AV.at?]
    ·simp
   ·have hl':(2048:Int)<l.length:=by omega
    have hfin:=fun b1=>hno (by simp[hl]) _ (hg2 b1)
    simp[ah,ai,ae,af,ad, *,pI,hx.r,hu.r,hq.r,bad]
    all_goals exact hfin _
 obtain⟨y,H',h1,h2⟩:=mv (f:=35) (by kernel_rfl) (by kernel_rfl) (by kernel_rfl) (by kernel_rfl) (by kernel_rfl) hgo
 exact⟨y,H',h1,h2⟩
end
end Go.Proofs.YtdbiffjdomokfaaGreat
namespace Go.Proofs.YtdbiffjdomokfaaGreat
open Go.Ab
attribute [local simp] bD bq bo bF bE cZ ld bQ bx bA dx dw cg bT aY ct List.take_of_length_le
def Fx(o:Option iw)(wr:Int)(zero:AV)(R:iw→AV→ab→Prop)(y:AV)(H:ab):Prop:=match o with
 | none=>y = .tup [zero,aI 8]
 | some b=>if wr=0 then R b y H else y = .tup [zero,aI wr]
section
variable{xu xq:AV}{us:List Clear}{qs:List bz}{gr:Int}(hu:Sl 3 (eZ us) xu)(hq:Sl 5 (ff qs) xq)(hul:us.length<1000000)(hql:qs.length<1000000){l:List (jr × AV)}{x1:AV}(hx:Sl 24 (cI l) x1)(hall : ∀p∈l,xW p)
include hu hq hul hql hx hall
theorem Lw(dep:Nat){H:ab}(hF:Fr H)(wr:Int){fd:FuncId}(hm:(env.mode fd == 2)=true){caps:List AV}{R:iw→AV→ab→Prop}
 (hdo:wr=0 →∀b H2 rb rs ru xh xr,BM us qs gr l=some b→cz H H2→jq H2 rb rs ru xh xr us qs gr b→Own 24 (cI (l.map wQ)) H2 xr→(∀r,xr.at?=some r→r.t=62)→tI b →∃z e H3,bU env (dep+1) (.fn fd) ([]++[.ptr rb 0 0]++caps) H2=some (.tup [z,e],H3)∧R b (.tup [z,e]) H3) :
 ∃y H',bU env dep (.fn 32) [.agg [xu,xq,aI gr],x1,aI wr,.fn (.func fd) [] caps] H=some (y,H')∧Fx (BM us qs gr l) wr cW R y H':=by
 have hgo:bP env Tryz.f32 (dep+1) [.code fS] (ra 0 [.agg [xu,xq,aI gr],x1,aI wr,.fn (.func fd) [] caps]) H fun y H'=>Fx (BM us qs gr l) wr cW R y H':=by
  have hg2 : ∀b1:bM,cz H ((⟨dep+1,4,H.gen (dep+1) 4,0⟩,some b1) :: H):=fun b1=>cz.cons hF _ _ _
  obtain⟨y,H2,hO,hA⟩:=ZK (gr:=gr) hu hq hul hql hx hall (dep+1) (hg2 ⟨3,[.agg [xu,xq,aI gr]],false,false⟩).fr
  refine kQ _ _ _ _ _ _ _ fun g=>?_
  unfold Fx
  simp[ah,ai,ae,af,ad, *,fU,hx.r,hu.r,hq.r]
  refine DL (by kernel_rfl) hO ?_
  cases ho:BM us qs gr l with
  | none =>
   rw[ho]at hA
   obtain⟨rfl,hG⟩:=hA
   simp
  | some b =>
   rw[ho]at hA
   obtain⟨rb,rs,ru,rk,xh,xr,rfl,hI,hok⟩:=hA
   by_cases hw:wr=0
   ·subst hw
    obtain⟨z,e,H3,h1,h2⟩:=hdo rfl b H2 rb rs ru xh xr ho ((hg2 _).trans hI.g) hI.bk hI.row (fun r e=>(hI.t62 r e).1) hok
    simp
    refine DL hm h1 ?_
    simp
    exact h2
   ·simp[hw]
 obtain⟨y,H',h1,h2⟩:=mv (f:=32) (by kernel_rfl) (by kernel_rfl) (by kernel_rfl) (by kernel_rfl) (by kernel_rfl) hgo
 exact⟨y,H',h1,h2⟩
end
end Go.Proofs.YtdbiffjdomokfaaGreat
