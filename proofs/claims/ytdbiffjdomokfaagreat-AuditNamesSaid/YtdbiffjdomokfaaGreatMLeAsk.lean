/-
  What a log tells: ledger.of. No statement of a seat is proved here.
-/
import Derived.Test.YtdbiffjdomokfaaGreatLeOf3
import Derived.Test.YtdbiffjdomokfaaGreatMLeTwin
set_option linter.unusedVariables false
set_option linter.unusedSimpArgs false
set_option linter.unusedSectionVars false
set_option linter.unnecessarySimpa false
set_option maxRecDepth 100000
namespace Go.Proofs.YtdbiffjdomokfaaGreat
open Go.Ab
attribute [local simp] bK bw bo bM bL dc kS bU bx bH dJ dI cp bX bh cC List.take_of_length_le
theorem HM{f:FuncId}(hm:(env.mode f == 2)=false)(wk:Bool)(dep:Nat){H:ab}(r:Ref){args xs:List AV}(hv:args.mapM (view H.get depth)=some xs)(hr:ca H.get args=[]){y:AV}(hy:bj env f xs=some y) :
 j1 env wk (bj env) (bR env dep) H r (some (.fn (.func f) [] [])) args=some ((aL r depth y []).1,keyed r 0 (tM true (aL r depth y []).2) H):=by
 have hm':env.mode f≠2:=by simpa using hm
 have e:([]++args++[]:List AV)=args:=by simp
 unfold j1
 simp only[gR,if_neg hm',e,hv,hy,hr]
 simp[gN,bn,zw]
section
variable{xu xq:AV}{us:List Clear}{qs:List bI}{gr:Int}(hu:Sl 3 (fD us) xu)(hq:Sl 5 (fQ qs) xq)(hul:us.length<1000000)(hql:qs.length<1000000)
include hu hq hul hql
theorem P7(dep d t:Nat){gg:Nat}{H:ab}(hF:Fr H)(hgg:gg=H.gen d t) : ∃yu yq wu wq H',j1 env false (bj env) (bR env dep) H ⟨d,t,gg,0⟩ (some (.fn (.func 42) [] [])) [.agg [xu,xq,aI gr]]=some (.agg [yu,yq,aI gr],H')∧cw H H'∧jJ 3 (fD us) H' yu wu∧jJ 5 (fQ qs) H' yq wq:=by
 subst hgg
 have hT:=Ii (gr:=gr) hu hq (by omega) (by omega)
 have ou:=pF hu
 have oq:=pF hq
 generalize m7 xu=yu at *
 generalize m7 xq=yq at *
 have hc:=HM (H:=H) (f:=42) (by kernel_rfl) false dep ⟨d,t,H.gen d t,0⟩ (args:=[.agg [xu,xq,aI gr]]) (by simp[hu.r,hq.r]) (by simp[hu.r,hq.r]) hT
 rw[hc]
 have hold : ∀(q:Ref)(c:bJ),H.get q=some c →∀k,(⟨d,t,H.gen d t,k⟩:Ref)≠q:=by
  intro q c hq k
  have lq:(H.get q).isSome=true:=by rw[hq];rfl
  exact o3 hF lq _ _ _
 rcases ou with ⟨rfl,h1⟩ | rfl | ⟨rfl,h1⟩<;>rcases oq with ⟨rfl,h2⟩ | rfl | ⟨rfl,h2⟩
 ·simp[aL,tM,keyed]
  refine⟨dg,dg,dg,dg,_,⟨⟨by simp,by simp⟩,rfl⟩,⟨?_,fun q c hq=>?_⟩,.inl ⟨rfl,.inl ⟨rfl,h1⟩⟩,.inl ⟨rfl,.inl ⟨rfl,h2⟩⟩⟩
  ·exact by simp(maxDischargeDepth:=12) [ab.get_put,aq,an,Fr.nil,aD,ah,ai,ae,af,ar,ao,ad, *]
  ·simp[hold q c hq,hq]
 ·simp[aL,tM,keyed]
  refine⟨dg,.cG ⟨d,t,H.gen d t,0⟩ 0 (fQ qs).length none,dg,.cm 5 (fQ qs) none,_,⟨⟨by simp,by simp⟩,rfl⟩,⟨?_,fun q c hq=>?_⟩,.inl ⟨rfl,.inl ⟨rfl,h1⟩⟩,.inr ⟨_,none,rfl,by simp,rfl,Nat.le_refl _⟩⟩
  ·exact by simp(maxDischargeDepth:=12) [ab.get_put,aq,an,Fr.nil,aD,ah,ai,ae,af,ar,ao,ad, *]
  ·simp[hold q c hq,hq]
 ·simp[aL,tM,keyed]
  refine⟨dg,.cG ⟨d,t,H.gen d t,0⟩ 0 0 (some 0),dg,.cm 5 (fQ qs) (some 0),_,⟨⟨by simp,by simp⟩,rfl⟩,⟨?_,fun q c hq=>?_⟩,.inl ⟨rfl,.inl ⟨rfl,h1⟩⟩,.inr ⟨_,some 0,by rw[h2];rfl,by simp[h2],rfl,by rw[h2];simp⟩⟩
  ·exact by simp(maxDischargeDepth:=12) [ab.get_put,aq,an,Fr.nil,aD,ah,ai,ae,af,ar,ao,ad, *]
  ·simp[hold q c hq,hq]
 ·simp[aL,tM,keyed]
  refine⟨.cG ⟨d,t,H.gen d t,0⟩ 0 (fD us).length none,dg,.cm 3 (fD us) none,dg,_,⟨⟨by simp,by simp⟩,rfl⟩,⟨?_,fun q c hq=>?_⟩,.inr ⟨_,none,rfl,by simp,rfl,Nat.le_refl _⟩,.inl ⟨rfl,.inl ⟨rfl,h2⟩⟩⟩
  ·exact by simp(maxDischargeDepth:=12) [ab.get_put,aq,an,Fr.nil,aD,ah,ai,ae,af,ar,ao,ad, *]
  ·simp[hold q c hq,hq]
 ·simp[aL,tM,keyed]
  refine⟨.cG ⟨d,t,H.gen d t,0⟩ 0 (fD us).length none,.cG ⟨d,t,H.gen d t,1⟩ 0 (fQ qs).length none,.cm 3 (fD us) none,.cm 5 (fQ qs) none,_,⟨⟨by simp,by simp⟩,rfl⟩,⟨?_,fun q c hq=>?_⟩,.inr ⟨_,none,rfl,by simp,rfl,Nat.le_refl _⟩,.inr ⟨_,none,rfl,by simp,rfl,Nat.le_refl _⟩⟩
  ·exact by simp(maxDischargeDepth:=12) [ab.get_put,aq,an,Fr.nil,aD,ah,ai,ae,af,ar,ao,ad, *]
  ·simp[hold q c hq,hq]
 ·simp[aL,tM,keyed]
  refine⟨.cG ⟨d,t,H.gen d t,0⟩ 0 (fD us).length none,.cG ⟨d,t,H.gen d t,1⟩ 0 0 (some 0),.cm 3 (fD us) none,.cm 5 (fQ qs) (some 0),_,⟨⟨by simp,by simp⟩,rfl⟩,⟨?_,fun q c hq=>?_⟩,.inr ⟨_,none,rfl,by simp,rfl,Nat.le_refl _⟩,.inr ⟨_,some 0,by rw[h2];rfl,by simp[h2],rfl,by rw[h2];simp⟩⟩
  ·exact by simp(maxDischargeDepth:=12) [ab.get_put,aq,an,Fr.nil,aD,ah,ai,ae,af,ar,ao,ad, *]
  ·simp[hold q c hq,hq]
 ·simp[aL,tM,keyed]
  refine⟨.cG ⟨d,t,H.gen d t,0⟩ 0 0 (some 0),dg,.cm 3 (fD us) (some 0),dg,_,⟨⟨by simp,by simp⟩,rfl⟩,⟨?_,fun q c hq=>?_⟩,.inr ⟨_,some 0,by rw[h1];rfl,by simp[h1],rfl,by rw[h1];simp⟩,.inl ⟨rfl,.inl ⟨rfl,h2⟩⟩⟩
  ·exact by simp(maxDischargeDepth:=12) [ab.get_put,aq,an,Fr.nil,aD,ah,ai,ae,af,ar,ao,ad, *]
  ·simp[hold q c hq,hq]
 ·simp[aL,tM,keyed]
  refine⟨.cG ⟨d,t,H.gen d t,0⟩ 0 0 (some 0),.cG ⟨d,t,H.gen d t,1⟩ 0 (fQ qs).length none,.cm 3 (fD us) (some 0),.cm 5 (fQ qs) none,_,⟨⟨by simp,by simp⟩,rfl⟩,⟨?_,fun q c hq=>?_⟩,.inr ⟨_,some 0,by rw[h1];rfl,by simp[h1],rfl,by rw[h1];simp⟩,.inr ⟨_,none,rfl,by simp,rfl,Nat.le_refl _⟩⟩
  ·exact by simp(maxDischargeDepth:=12) [ab.get_put,aq,an,Fr.nil,aD,ah,ai,ae,af,ar,ao,ad, *]
  ·simp[hold q c hq,hq]
 ·simp[aL,tM,keyed]
  refine⟨.cG ⟨d,t,H.gen d t,0⟩ 0 0 (some 0),.cG ⟨d,t,H.gen d t,1⟩ 0 0 (some 0),.cm 3 (fD us) (some 0),.cm 5 (fQ qs) (some 0),_,⟨⟨by simp,by simp⟩,rfl⟩,⟨?_,fun q c hq=>?_⟩,.inr ⟨_,some 0,by rw[h1];rfl,by simp[h1],rfl,by rw[h1];simp⟩,.inr ⟨_,some 0,by rw[h2];rfl,by simp[h2],rfl,by rw[h2];simp⟩⟩
  ·exact by simp(maxDischargeDepth:=12) [ab.get_put,aq,an,Fr.nil,aD,ah,ai,ae,af,ar,ao,ad, *]
  ·simp[hold q c hq,hq]
def xH(us:List Clear)(gr:Int):iu:=⟨us,gr,[],[],[]⟩
def Ca(us:List Clear)(qs:List bI)(gr:Int)(l:List (mv × AV)):Option iu:=if DO us qs gr=true∧l.length≤2048 then Xb us qs gr (xH us gr) l else none
theorem X5{l:List (mv × AV)}{x1:AV}(hx:Sl 24 (dk l) x1)(hall : ∀p∈l,AK p)(dep:Nat){H:ab}(hF:Fr H) :
 ∃y H',bR env dep (.fn 35) [.agg [xu,xq,aI gr],x1] H=some (y,H')∧BL H us qs gr (l.map vJ) (Ca us qs gr l) y H':=by
 have hgo:bW env Tryz.f35 (dep+1) [.code sq] (qA 0 [.agg [xu,xq,aI gr],x1]) H fun y H'=>BL H us qs gr (l.map vJ) (Ca us qs gr l) y H':=by
  have hC:=wJ (gr:=gr) hu hq (by omega) (by omega)
  have hg2 : ∀b1:bJ,cw H ((⟨dep+1,2,H.gen (dep+1) 2,0⟩,some b1) :: H):=fun b1=>cw.cons hF _ _ _
  refine Dv _ _ _ _ _ fun g=>?_
  have hno : ¬(DO us qs gr=true∧l.length≤2048) →∀H',cw H H'→BL H us qs gr (l.map vJ) (Ca us qs gr l) (.tup [.v (.pointer none),aB false]) H':=fun hd H' hG=>by
   unfold Ca;rw[if_neg hd];exact⟨rfl,hG⟩
  cases hp:DO us qs gr with
  | false =>
   rw[hp]at hC hno
   have hfin:=fun b1=>hno (by simp) _ (hg2 b1)
   simp[ah,ai,ae,af,ad, *,o9,hx.r,hu.r,hq.r,bad]
   all_goals exact hfin _
  | true =>
   rw[hp]at hC
   by_cases hl:l.length≤2048
   ·have hl' : ¬(2048:Int)<l.length:=by omega
    obtain⟨yu,yq,wu,wq,H3,hT,hG,z1,z2⟩:=P7 (gr:=gr) hu hq hul hql (dep+1) (dep+1) 20 (gg:=H.gen (dep+1) 20) (hg2 ⟨3,[.agg [xu,xq,aI gr]],false,false⟩).fr (by simp)
    have hFr3:=hG.fr
    have hG3:=(hg2 _).trans hG
    have c1:=z1.s.cells
    have c2:=z2.s.cells
    have hkw:=fun H=>Oa true (dep+1) H (dep+1) 25
    clear hno
    simp[ah,ai,ae,af,ad, *,o9,hx.r,hu.r,hq.r,bad,hkw]
    have hof:Ca us qs gr l=Xb us qs gr (xH us gr) l:=by unfold Ca;rw[if_pos ⟨hp,hl⟩]
    refine N1 (rb:=⟨dep+1,24,H3.gen (dep+1) 24,0⟩) (rs:=⟨dep+1,21,H3.gen (dep+1) 21,0⟩) (ru:=⟨dep+1,22,H3.gen (dep+1) 22,0⟩) (rk:=⟨dep+1,25,H3.gen (dep+1) 25,0⟩) (gr0:=gr) (dep:=dep) (H0:=H)
     (Q:=fun y H'=>BL H us qs gr (l.map vJ) (Ca us qs gr l) y H') hx hl hall hul hql l 0 (xH us gr) [] _ dg dg rfl (by omega) rfl ⟨fun p h=>(by cases h),fun p h=>(by cases h),fun p h=>(by cases h),(by simp[xH]),(by simpa [xH] using hul)⟩ (by simp[xH]) ?_ (fun y H' h=>by rw[hof];exact h)
    have hgg : ∀b1 b2 b3 b4:bJ,cw H3 ((⟨dep+1,25,H3.gen (dep+1) 25,0⟩,some b4) :: (⟨dep+1,24,H3.gen (dep+1) 24,0⟩,some b3) :: (⟨dep+1,22,H3.gen (dep+1) 22,0⟩,some b2) :: (⟨dep+1,21,H3.gen (dep+1) 21,0⟩,some b1) :: H3):=fun b1 b2 b3 b4=>⟨by simp(maxDischargeDepth:=12) [ab.get_put,aq,an,Fr.nil,aD,ah,ai,ae,af,ar,ao,ad, *],fun q c hq=>by
     have lq:(H3.get q).isSome=true:=by rw[hq];rfl
     simp[ah hFr3 lq,hq]⟩
    have hnn : ∀t,H.get ⟨dep+1,t,H3.gen (dep+1) t,0⟩=none:=fun t=>by
     cases hr:H.get ⟨dep+1,t,H3.gen (dep+1) t,0⟩ with
     | none=>rfl
     | some c=>have:=hG3.old _ _ hr;rw[ar hFr3]at this;cases this
    refine⟨hG3.trans (hgg _ _ _ _),⟨⟨xu,xq,yu,yq,wu,wq,?_,hu,hq,z1.grow (hgg _ _ _ _),z2.grow (hgg _ _ _ _)⟩,?_,?_,.inl ⟨rfl,rfl⟩,⟨rfl,rfl⟩,?_,fun r hr=>(by cases hr)⟩,.inl ⟨rfl,rfl⟩,fun r hr=>(by cases hr),fun r hr=>(by cases hr),?_,⟨rfl,rfl,rfl,rfl⟩,⟨hnn _,hnn _,hnn _⟩⟩
    ·simp[xH]
    ·simp[xH,cz]
    ·simp[xH,cz]
    ·simp[AV.at?]
    ·simp
   ·have hl':(2048:Int)<l.length:=by omega
    have hfin:=fun b1=>hno (by simp[hl]) _ (hg2 b1)
    simp[ah,ai,ae,af,ad, *,o9,hx.r,hu.r,hq.r,bad]
    all_goals exact hfin _
 obtain⟨y,H',h1,h2⟩:=lL (f:=35) (by kernel_rfl) (by kernel_rfl) (by kernel_rfl) (by kernel_rfl) (by kernel_rfl) hgo
 exact⟨y,H',h1,h2⟩
end
end Go.Proofs.YtdbiffjdomokfaaGreat
namespace Go.Proofs.YtdbiffjdomokfaaGreat
open Go.Ab
attribute [local simp] bK bw bo bM bL dc kS bU bx bH dJ dI cp bX bh cC List.take_of_length_le
def Ey(o:Option iu)(wr:Int)(zero:AV)(R:iu→AV→ab→Prop)(y:AV)(H:ab):Prop:=match o with
 | none=>y = .tup [zero,aI 8]
 | some b=>if wr=0 then R b y H else y = .tup [zero,aI wr]
section
variable{xu xq:AV}{us:List Clear}{qs:List bI}{gr:Int}(hu:Sl 3 (fD us) xu)(hq:Sl 5 (fQ qs) xq)(hul:us.length<1000000)(hql:qs.length<1000000){l:List (mv × AV)}{x1:AV}(hx:Sl 24 (dk l) x1)(hall : ∀p∈l,AK p)
include hu hq hul hql hx hall
theorem Kg(dep:Nat){H:ab}(hF:Fr H)(wr:Int){fd:FuncId}(hm:(env.mode fd == 2)=true){caps:List AV}{R:iu→AV→ab→Prop}
 (hdo:wr=0 →∀b H2 rb rs ru xh xr,Ca us qs gr l=some b→cw H H2→iZ H2 rb rs ru xh xr us qs gr b→Own 24 (dk (l.map vJ)) H2 xr→(∀r,xr.at?=some r→r.t=62)→sH b →∃z e H3,bR env (dep+1) (.fn fd) ([]++[.ptr rb 0 0]++caps) H2=some (.tup [z,e],H3)∧R b (.tup [z,e]) H3) :
 ∃y H',bR env dep (.fn 32) [.agg [xu,xq,aI gr],x1,aI wr,.fn (.func fd) [] caps] H=some (y,H')∧Ey (Ca us qs gr l) wr dg R y H':=by
 have hgo:bW env Tryz.f32 (dep+1) [.code fF] (qA 0 [.agg [xu,xq,aI gr],x1,aI wr,.fn (.func fd) [] caps]) H fun y H'=>Ey (Ca us qs gr l) wr dg R y H':=by
  have hg2 : ∀b1:bJ,cw H ((⟨dep+1,4,H.gen (dep+1) 4,0⟩,some b1) :: H):=fun b1=>cw.cons hF _ _ _
  obtain⟨y,H2,hO,hA⟩:=X5 (gr:=gr) hu hq hul hql hx hall (dep+1) (hg2 ⟨3,[.agg [xu,xq,aI gr]],false,false⟩).fr
  refine j9 _ _ _ _ _ _ _ fun g=>?_
  unfold Ey
  simp[ah,ai,ae,af,ad, *,fG,hx.r,hu.r,hq.r]
  refine CH (by kernel_rfl) hO ?_
  cases ho:Ca us qs gr l with
  | none =>
   rw[ho]at hA
   obtain⟨rfl,hG⟩:=hA
   simp
  | some b =>
   rw[ho]at hA
   obtain⟨rb,rs,ru,rk,xh,xr,rfl,hI,hok⟩:=hA
   by_cases hw:wr=0
   ·subst hw
    obtain⟨z,e,H3,h1,h2⟩:=hdo rfl b H2 rb rs ru xh xr ho ((hg2 _).trans hI.g) hI.bk hI.row (fun r e=>(hI.t62 r e).1) hok
    simp
    refine CH hm h1 ?_
    simp
    exact h2
   ·simp[hw]
 obtain⟨y,H',h1,h2⟩:=lL (f:=32) (by kernel_rfl) (by kernel_rfl) (by kernel_rfl) (by kernel_rfl) (by kernel_rfl) hgo
 exact⟨y,H',h1,h2⟩
end
end Go.Proofs.YtdbiffjdomokfaaGreat
