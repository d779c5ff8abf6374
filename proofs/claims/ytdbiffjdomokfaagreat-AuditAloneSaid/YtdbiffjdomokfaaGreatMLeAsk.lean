/-
  What a log tells: the loop. No statement of a seat is proved here.
-/
import Derived.Test.YtdbiffjdomokfaaGreatMLeOf2
import Derived.Test.YtdbiffjdomokfaaGreatMLeTwin
set_option linter.unusedVariables false
set_option linter.unusedSimpArgs false
set_option linter.unusedSectionVars false
set_option linter.unnecessarySimpa false
set_option maxRecDepth 100000
namespace Go.Proofs.YtdbiffjdomokfaaGreat
open Go.Ab
attribute [local simp] bD bp bl bC bB cV lj bP bt bA dc db cg bR aV cm List.take_of_length_le
def qv(us0:List Clear)(qs:List bu)(gr0:Int)(b:fF)(r:gA):Bool:=if r.kind=1 then CI us0 qs gr0 b r else if r.kind=2 then yY us0 qs gr0 b r else CH qs b r
def EZ(b:fF)(p:gA × AV):fF:=if p.1.kind=1 then xI b p.1.op p.1.user else if p.1.kind=2 then qy b p.1.op p.1.code (q0 p.2) else y6 b p.1.gu p.1.gv p.1.gc p.1.gok
def Ps(us0:List Clear)(qs:List bu)(gr0:Int):fF→List (gA × AV)→Option fF
 | b,[]=>some b
 | b,p :: l=>if m4 p.1=true∧qv us0 qs gr0 b p.1=true then Ps us0 qs gr0 (EZ b p) l else none
theorem yf{l:List Int}{x:AV}(hx:Sl 1 (rows l) x):Sl 1 (rows l) (q0 x):=by
 rcases hx with ⟨rfl,h⟩ | ⟨c,rfl,h⟩
 ·exact .inl ⟨rfl,h⟩
 ·by_cases he:rows l=[]
  ·rw[he];exact .inr ⟨some 0,rfl,by simp⟩
  ·rw[Gx 1 c he];exact Sl.mk _ _
def uI(p:gA × AV):gA × AV:=(p.1,q0 p.2)
theorem Ig(b:fF)(p:gA × AV):(EZ b p).dZ.length≤b.dZ.length+1:=by
 unfold EZ xI qy y6
 repeat' split
 all_goals simp
theorem T7{b:fF}(h:ud b){p:gA × AV}(hp:uJ p)(hm:b.dZ.length+1<10000):ud (EZ b p):=by
 have hh:=Ig b p
 unfold EZ at hh ⊢
 split at hh
 ·rename_i k1
  rw[if_pos k1]
  refine⟨yh (P:=fun x =>∃s:vS,x=s.av) ⟨_,rfl⟩ h.ses,yh (P:=fun x =>∃s:vR,x=s.av) ⟨_,rfl⟩ h.used,h.dZ,by omega,h.few⟩
 ·rename_i k1
  rw[if_neg k1]
  split at hh
  ·rename_i k2
   rw[if_pos k2]
   refine⟨yh (P:=fun x =>∃s:vS,x=s.av) ⟨_,rfl⟩ h.ses,yh (P:=fun x =>∃s:vR,x=s.av) ⟨_,rfl⟩ h.used,?_,by omega,h.few⟩
   intro q hq
   unfold qy at hq
   simp only at hq
   split at hq
   ·rcases List.mem_append.1 hq with hq | hq
    ·exact h.dZ q hq
    ·rw[List.mem_singleton]at hq
     subst hq
     exact⟨⟨yf hp.1,by have:=hp.2;simp only;omega⟩,hp.2⟩
   ·exact h.dZ q hq
  ·rename_i k2
   rw[if_neg k2]
   exact⟨h.ses,h.used,h.dZ,by omega,by show(b.us.set _ _).length<_;rw[List.length_set];exact h.few⟩
def Dh(H0:ab)(us0:List Clear)(qs:List bu)(gr0:Int)(recs:List (gA × AV))(o:Option fF)(y:AV)(H:ab):Prop:=match o with
 | none=>y = .tup [.v (.pointer none),aB false]∧cE H0 H
 | some b =>∃rb rs ru rk xh xr,y = .tup [.ptr rb 0 0,aB true]∧KZ H0 H rb rs ru rk xh xr us0 qs gr0 b recs∧ud b
section
variable{l:List (gA × AV)}{x26:AV}(hx:Sl 24 (bU l) x26)(hl:l.length≤2048)(hall : ∀p∈l,uJ p){H0:ab}{Q:AV→ab→Prop}{dep:Nat}{rb rs ru rk:Ref}{us0:List Clear}{qs:List bu}{gr0:Int}(hul:us0.length<1000000)(hql:qs.length<1000000)
include hx hl hall hul hql
theorem QD : ∀(s:List (gA × AV)) (k:Nat) (b:fF) (recs:List (gA × AV)) (H:ab) (xh xr:AV),l.drop k=s→k≤l.length→recs=(l.take k).map uI→ud b→b.dZ.length≤k→KZ H0 H rb rs ru rk xh xr us0 qs gr0 b recs →
 (∀y H',Dh H0 us0 qs gr0 (l.map uI) (Ps us0 qs gr0 b s) y H'→Q y H') →
 bT env Tryz.f35 (dep+1) iE [(28,aI k),(6,.ptr rb 0 0),(7,.mp rk),(26,x26),(27,aI l.length)] H Q:=by
 intro s
 induction s with
 | nil =>
  rintro k b recs H xh xr hs hk hr hok hm hI hQ
  obtain rfl:=drop_nil hs hk
  rw[List.take_length]at hr
  subst hr
  have hfin:=hQ _ H ⟨rb,rs,ru,rk,xh,xr,rfl,hI,hok⟩
  refine qe _ _ _ _ _ _ _ _ fun g=>?_
  clear hQ hI hall
  simp[ah,ai,ae,af,ad, *,om]
  all_goals exact hfin
 | cons p s ih =>
  rintro k b recs H xh xr hs hk hr hok hm hI hQ
  obtain⟨hlt,hg,hs',hg'⟩:=drop_cons hs
  have hp:=hall p (hg ▸ List.getElem_mem hlt)
  have hok':=T7 hok hp (by omega)
  have hm':=Ig b p
  have hrl:recs.length≤10000:=by rw[hr];simp;omega
  have hr':recs++[uI p]=(l.take (k+1)).map uI:=by
   rw[hr,List.take_add_one,hg']
   simp
  have hih:=fun(hd:m4 p.1=true∧qv us0 qs gr0 b p.1=true) H' xh' xr' h=>ih (k+1) (EZ b p) _ H' xh' xr' hs' (by omega) hr' hok' (by omega) h (fun y H1 hA=>hQ y H1 (by show Dh _ _ _ _ _ (if _ then _ else _) _ _;rw[if_pos hd];exact hA))
  have hno : ¬(m4 p.1=true∧qv us0 qs gr0 b p.1=true) →∀H',cE H0 H'→Q (.tup [.v (.pointer none),aB false]) H':=fun hd H' hG=>hQ _ H' (by show Dh _ _ _ _ _ (if _ then _ else _) _ _;rw[if_neg hd];exact⟨rfl,hG⟩)
  obtain⟨⟨k1,u,⟨bh,⟨aQ,aP,aW⟩,aY,⟨⟨⟨bc,ba,bf⟩,bg⟩,au⟩,⟨⟨az,ay,ax⟩,aw⟩,⟨aC,aA⟩,al⟩,c,g1,v,w,o⟩,x⟩:=p
  obtain⟨hax,hal⟩:=hp
  simp only at hax hal
  have hrd:eL (bU l) k 0 24 true=some (.agg [a8 k1,aI u,a8 bh,a8 aQ,aG aP,a8 aW,aI aY,a8 bc,aG ba,a8 bf,aI bg,aI au,a8 az,aG ay,a8 ax,aI aw,a8 aC,aG aA,x,aI c,aI g1,a8 v,aG w,aB o]):=by simp[bU,hg',gA.val]
  have hlt':(k:Int)<l.length:=by omega
  cases his:m4 ⟨k1,u,(⟨bh,⟨aQ,aP,aW⟩,aY,⟨⟨⟨bc,ba,bf⟩,bg⟩,au⟩,⟨⟨az,ay,ax⟩,aw⟩,⟨aC,aA⟩,al⟩:bG),c,g1,v,w,o⟩ with
  | false =>
   have hF:=hI.g.fr
   have hC:=Ax k1 u bh aQ aP aW aY bc ba bf bg au az ay ax aw aC aA c g1 v w o hax hal
   rw[his]at hC
   have hfin:=fun b1=>hno (by rw[his];simp) _ ((hI.grow (cE.cons hF (dep+1) 9 b1)).g)
   refine qe _ _ _ _ _ _ _ _ fun g=>?_
   clear hno hih ih hQ hI hall his
   simp[ah,ai,ae,af,ad, *,om,hx.r,hx.idx,hax.r]
   all_goals exact hfin _
  | true =>
   by_cases e1:k1=1
   ·subst e1
    have hf:qv us0 qs gr0 b ⟨1,u,(⟨bh,⟨aQ,aP,aW⟩,aY,⟨⟨⟨bc,ba,bf⟩,bg⟩,au⟩,⟨⟨az,ay,ax⟩,aw⟩,⟨aC,aA⟩,al⟩:bG),c,g1,v,w,o⟩=CI us0 qs gr0 b ⟨1,u,(⟨bh,⟨aQ,aP,aW⟩,aY,⟨⟨⟨bc,ba,bf⟩,bg⟩,au⟩,⟨⟨az,ay,ax⟩,aw⟩,⟨aC,aA⟩,al⟩:bG),c,g1,v,w,o⟩:=rfl
    refine Fu hx (by omega) hlt hI hrl (fi:=71) (fd:=74) (b':=EZ b (⟨1,u,(⟨bh,⟨aQ,aP,aW⟩,aY,⟨⟨⟨bc,ba,bf⟩,bg⟩,au⟩,⟨⟨az,ay,ax⟩,aw⟩,⟨aC,aA⟩,al⟩:bG),c,g1,v,w,o⟩,x)) (by kernel_rfl) (by kernel_rfl) 1 u bh aQ aP aW aY bc ba bf bg au az ay ax aw aC aA c g1 v w o hax hal hrd (fun g=>Tn) his (ft:=CI us0 qs gr0 b ⟨1,u,(⟨bh,⟨aQ,aP,aW⟩,aY,⟨⟨⟨bc,ba,bf⟩,bg⟩,au⟩,⟨⟨az,ay,ax⟩,aw⟩,⟨aC,aA⟩,al⟩:bG),c,g1,v,w,o⟩)
     (fun H' hI'=>Tz (dep+1) hI'.g.fr hI'.bk.at hok hul hql 1 u bh aQ aP aW aY bc ba bf bg au az ay ax aw aC aA c g1 v w o hax) ?_ ?_ ?_
    ·intro _ H' hI'
     obtain⟨H2,e1,e2,e3⟩:=Ty (dep+1) hI'.g.fr hI'.bk hok 1 u bh aQ aP aW aY bc ba bf bg au az ay ax aw aC aA c g1 v w o hax
     exact⟨H2,xh,e1,e2,e3⟩
    ·intro h H' hG
     exact hno (by rw[hf,h];simp) H' hG
    ·intro h H' xh' xr' h'
     exact hih ⟨his,by rw[hf];exact h⟩ H' xh' xr' h'
   ·by_cases e2:k1=2
    ·subst e2
     have hf:qv us0 qs gr0 b ⟨2,u,(⟨bh,⟨aQ,aP,aW⟩,aY,⟨⟨⟨bc,ba,bf⟩,bg⟩,au⟩,⟨⟨az,ay,ax⟩,aw⟩,⟨aC,aA⟩,al⟩:bG),c,g1,v,w,o⟩=yY us0 qs gr0 b ⟨2,u,(⟨bh,⟨aQ,aP,aW⟩,aY,⟨⟨⟨bc,ba,bf⟩,bg⟩,au⟩,⟨⟨az,ay,ax⟩,aw⟩,⟨aC,aA⟩,al⟩:bG),c,g1,v,w,o⟩:=rfl
     refine Fu hx (by omega) hlt hI hrl (fi:=75) (fd:=77) (b':=EZ b (⟨2,u,(⟨bh,⟨aQ,aP,aW⟩,aY,⟨⟨⟨bc,ba,bf⟩,bg⟩,au⟩,⟨⟨az,ay,ax⟩,aw⟩,⟨aC,aA⟩,al⟩:bG),c,g1,v,w,o⟩,x)) (by kernel_rfl) (by kernel_rfl) 2 u bh aQ aP aW aY bc ba bf bg au az ay ax aw aC aA c g1 v w o hax hal hrd (fun g=>Tm) his (ft:=yY us0 qs gr0 b ⟨2,u,(⟨bh,⟨aQ,aP,aW⟩,aY,⟨⟨⟨bc,ba,bf⟩,bg⟩,au⟩,⟨⟨az,ay,ax⟩,aw⟩,⟨aC,aA⟩,al⟩:bG),c,g1,v,w,o⟩)
      (fun H' hI'=>Tx (dep+1) hI'.g.fr hI'.bk.at hok hul hql 2 u bh aQ aP aW aY bc ba bf bg au az ay ax aw aC aA c g1 v w o hax hal) ?_ ?_ ?_
     ·intro _ H' hI'
      by_cases hc:c=0
      ·subst hc
       exact QQ (dep+1) hI'.g.fr hI'.bk hok 2 u bh aQ aP aW aY bc ba bf bg au az ay ax aw aC aA g1 v w o hax hal
      ·obtain⟨H2,e1,e2,e3⟩:=Tw (dep+1) hI'.g.fr hI'.bk hok 2 u bh aQ aP aW aY bc ba bf bg au az ay ax aw aC aA c g1 v w o hax hc
       have hd:qy b (⟨bh,⟨aQ,aP,aW⟩,aY,⟨⟨⟨bc,ba,bf⟩,bg⟩,au⟩,⟨⟨az,ay,ax⟩,aw⟩,⟨aC,aA⟩,al⟩:bG) c cP=EZ b (⟨2,u,(⟨bh,⟨aQ,aP,aW⟩,aY,⟨⟨⟨bc,ba,bf⟩,bg⟩,au⟩,⟨⟨az,ay,ax⟩,aw⟩,⟨aC,aA⟩,al⟩:bG),c,g1,v,w,o⟩,x):=by simp[EZ,qy,hc,vu]
       rw[hd]at e2
       exact⟨H2,xh,e1,e2,e3⟩
     ·intro h H' hG
      exact hno (by rw[hf,h];simp) H' hG
     ·intro h H' xh' xr' h'
      exact hih ⟨his,by rw[hf];exact h⟩ H' xh' xr' h'
    ·have e3:k1=3:=by
      by_cases e3:k1=3
      ·exact e3
      ·simp[m4,e1,e2,e3]at his
     subst e3
     have hf:qv us0 qs gr0 b ⟨3,u,(⟨bh,⟨aQ,aP,aW⟩,aY,⟨⟨⟨bc,ba,bf⟩,bg⟩,au⟩,⟨⟨az,ay,ax⟩,aw⟩,⟨aC,aA⟩,al⟩:bG),c,g1,v,w,o⟩=CH qs b ⟨3,u,(⟨bh,⟨aQ,aP,aW⟩,aY,⟨⟨⟨bc,ba,bf⟩,bg⟩,au⟩,⟨⟨az,ay,ax⟩,aw⟩,⟨aC,aA⟩,al⟩:bG),c,g1,v,w,o⟩:=rfl
     refine Fu hx (by omega) hlt hI hrl (fi:=79) (fd:=81) (b':=EZ b (⟨3,u,(⟨bh,⟨aQ,aP,aW⟩,aY,⟨⟨⟨bc,ba,bf⟩,bg⟩,au⟩,⟨⟨az,ay,ax⟩,aw⟩,⟨aC,aA⟩,al⟩:bG),c,g1,v,w,o⟩,x)) (by kernel_rfl) (by kernel_rfl) 3 u bh aQ aP aW aY bc ba bf bg au az ay ax aw aC aA c g1 v w o hax hal hrd (fun g=>Tl) his (ft:=CH qs b ⟨3,u,(⟨bh,⟨aQ,aP,aW⟩,aY,⟨⟨⟨bc,ba,bf⟩,bg⟩,au⟩,⟨⟨az,ay,ax⟩,aw⟩,⟨aC,aA⟩,al⟩:bG),c,g1,v,w,o⟩)
      (fun H' hI'=>Tv (dep+1) hI'.g.fr hI'.bk.at hok hul hql 3 u bh aQ aP aW aY bc ba bf bg au az ay ax aw aC aA c g1 v w o hax) ?_ ?_ ?_
     ·intro h H' hI'
      obtain⟨H2,e1,e2,e3⟩:=Tu (dep+1) hI'.g.fr hI'.bk hok 3 u bh aQ aP aW aY bc ba bf bg au az ay ax aw aC aA c g1 v w o hax hql (by simpa [CH] using h)
      exact⟨H2,xh,e1,e2,e3⟩
     ·intro h H' hG
      exact hno (by rw[hf,h];simp) H' hG
     ·intro h H' xh' xr' h'
      exact hih ⟨his,by rw[hf];exact h⟩ H' xh' xr' h'
end
end Go.Proofs.YtdbiffjdomokfaaGreat
namespace Go.Proofs.YtdbiffjdomokfaaGreat
open Go.Ab
attribute [local simp] bD bp bl bC bB cV lj bP bt bA dc db cg bR aV cm List.take_of_length_le
theorem JY{f:FuncId}(hm:(env.mode f == 2)=false)(wk:Bool)(dep:Nat){H:ab}(r:Ref){args xs:List AV}(hv:args.mapM (view H.get depth)=some xs)(hr:ck H.get args=[]){y:AV}(hy:bj env f xs=some y) :
 kN env wk (bj env) (bV env dep) H r (some (.fn (.func f) [] [])) args=some ((aN r depth y []).1,keyed r 0 (vn true (aN r depth y []).2) H):=by
 have hm':env.mode f≠2:=by simpa using hm
 have e:([]++args++[]:List AV)=args:=by simp
 unfold kN
 simp only[ik,if_neg hm',e,hv,hy,hr]
 simp[ic,bm,A3]
section
variable{xu xq:AV}{us:List Clear}{qs:List bu}{gr:Int}(hu:Sl 3 (eW us) xu)(hq:Sl 5 (eY qs) xq)(hul:us.length<1000000)(hql:qs.length<1000000)
include hu hq hul hql
theorem SF(dep d t:Nat){gg:Nat}{H:ab}(hF:Fr H)(hgg:gg=H.gen d t) : ∃yu yq wu wq H',kN env false (bj env) (bV env dep) H ⟨d,t,gg,0⟩ (some (.fn (.func 42) [] [])) [.agg [xu,xq,aI gr]]=some (.agg [yu,yq,aI gr],H')∧cE H H'∧kj 3 (eW us) H' yu wu∧kj 5 (eY qs) H' yq wq:=by
 subst hgg
 have hT:=Kj (gr:=gr) hu hq (by omega) (by omega)
 have ou:=qz hu
 have oq:=qz hq
 generalize nY xu=yu at *
 generalize nY xq=yq at *
 have hc:=JY (H:=H) (f:=42) (by kernel_rfl) false dep ⟨d,t,H.gen d t,0⟩ (args:=[.agg [xu,xq,aI gr]]) (by simp[hu.r,hq.r]) (by simp[hu.r,hq.r]) hT
 rw[hc]
 have hold : ∀(q:Ref)(c:bN),H.get q=some c →∀k,(⟨d,t,H.gen d t,k⟩:Ref)≠q:=by
  intro q c hq k
  have lq:(H.get q).isSome=true:=by rw[hq];rfl
  exact pS hF lq _ _ _
 rcases ou with ⟨rfl,h1⟩ | rfl | ⟨rfl,h1⟩<;>rcases oq with ⟨rfl,h2⟩ | rfl | ⟨rfl,h2⟩
 ·simp[aN,vn,keyed]
  refine⟨cP,cP,cP,cP,_,⟨⟨by simp,by simp⟩,rfl⟩,⟨?_,fun q c hq=>?_⟩,.inl ⟨rfl,.inl ⟨rfl,h1⟩⟩,.inl ⟨rfl,.inl ⟨rfl,h2⟩⟩⟩
  ·exact by simp(maxDischargeDepth:=12) [ab.get_put,aq,an,Fr.nil,aD,ah,ai,ae,af,ar,ao,ad, *]
  ·simp[hold q c hq,hq]
 ·simp[aN,vn,keyed]
  refine⟨cP,.cM ⟨d,t,H.gen d t,0⟩ 0 (eY qs).length none,cP,.cw 5 (eY qs) none,_,⟨⟨by simp,by simp⟩,rfl⟩,⟨?_,fun q c hq=>?_⟩,.inl ⟨rfl,.inl ⟨rfl,h1⟩⟩,.inr ⟨_,none,rfl,by simp,rfl,Nat.le_refl _⟩⟩
  ·exact by simp(maxDischargeDepth:=12) [ab.get_put,aq,an,Fr.nil,aD,ah,ai,ae,af,ar,ao,ad, *]
  ·simp[hold q c hq,hq]
 ·simp[aN,vn,keyed]
  refine⟨cP,.cM ⟨d,t,H.gen d t,0⟩ 0 0 (some 0),cP,.cw 5 (eY qs) (some 0),_,⟨⟨by simp,by simp⟩,rfl⟩,⟨?_,fun q c hq=>?_⟩,.inl ⟨rfl,.inl ⟨rfl,h1⟩⟩,.inr ⟨_,some 0,by rw[h2];rfl,by simp[h2],rfl,by rw[h2];simp⟩⟩
  ·exact by simp(maxDischargeDepth:=12) [ab.get_put,aq,an,Fr.nil,aD,ah,ai,ae,af,ar,ao,ad, *]
  ·simp[hold q c hq,hq]
 ·simp[aN,vn,keyed]
  refine⟨.cM ⟨d,t,H.gen d t,0⟩ 0 (eW us).length none,cP,.cw 3 (eW us) none,cP,_,⟨⟨by simp,by simp⟩,rfl⟩,⟨?_,fun q c hq=>?_⟩,.inr ⟨_,none,rfl,by simp,rfl,Nat.le_refl _⟩,.inl ⟨rfl,.inl ⟨rfl,h2⟩⟩⟩
  ·exact by simp(maxDischargeDepth:=12) [ab.get_put,aq,an,Fr.nil,aD,ah,ai,ae,af,ar,ao,ad, *]
  ·simp[hold q c hq,hq]
 ·simp[aN,vn,keyed]
  refine⟨.cM ⟨d,t,H.gen d t,0⟩ 0 (eW us).length none,.cM ⟨d,t,H.gen d t,1⟩ 0 (eY qs).length none,.cw 3 (eW us) none,.cw 5 (eY qs) none,_,⟨⟨by simp,by simp⟩,rfl⟩,⟨?_,fun q c hq=>?_⟩,.inr ⟨_,none,rfl,by simp,rfl,Nat.le_refl _⟩,.inr ⟨_,none,rfl,by simp,rfl,Nat.le_refl _⟩⟩
  ·exact by simp(maxDischargeDepth:=12) [ab.get_put,aq,an,Fr.nil,aD,ah,ai,ae,af,ar,ao,ad, *]
  ·simp[hold q c hq,hq]
 ·simp[aN,vn,keyed]
  refine⟨.cM ⟨d,t,H.gen d t,0⟩ 0 (eW us).length none,.cM ⟨d,t,H.gen d t,1⟩ 0 0 (some 0),.cw 3 (eW us) none,.cw 5 (eY qs) (some 0),_,⟨⟨by simp,by simp⟩,rfl⟩,⟨?_,fun q c hq=>?_⟩,.inr ⟨_,none,rfl,by simp,rfl,Nat.le_refl _⟩,.inr ⟨_,some 0,by rw[h2];rfl,by simp[h2],rfl,by rw[h2];simp⟩⟩
  ·exact by simp(maxDischargeDepth:=12) [ab.get_put,aq,an,Fr.nil,aD,ah,ai,ae,af,ar,ao,ad, *]
  ·simp[hold q c hq,hq]
 ·simp[aN,vn,keyed]
  refine⟨.cM ⟨d,t,H.gen d t,0⟩ 0 0 (some 0),cP,.cw 3 (eW us) (some 0),cP,_,⟨⟨by simp,by simp⟩,rfl⟩,⟨?_,fun q c hq=>?_⟩,.inr ⟨_,some 0,by rw[h1];rfl,by simp[h1],rfl,by rw[h1];simp⟩,.inl ⟨rfl,.inl ⟨rfl,h2⟩⟩⟩
  ·exact by simp(maxDischargeDepth:=12) [ab.get_put,aq,an,Fr.nil,aD,ah,ai,ae,af,ar,ao,ad, *]
  ·simp[hold q c hq,hq]
 ·simp[aN,vn,keyed]
  refine⟨.cM ⟨d,t,H.gen d t,0⟩ 0 0 (some 0),.cM ⟨d,t,H.gen d t,1⟩ 0 (eY qs).length none,.cw 3 (eW us) (some 0),.cw 5 (eY qs) none,_,⟨⟨by simp,by simp⟩,rfl⟩,⟨?_,fun q c hq=>?_⟩,.inr ⟨_,some 0,by rw[h1];rfl,by simp[h1],rfl,by rw[h1];simp⟩,.inr ⟨_,none,rfl,by simp,rfl,Nat.le_refl _⟩⟩
  ·exact by simp(maxDischargeDepth:=12) [ab.get_put,aq,an,Fr.nil,aD,ah,ai,ae,af,ar,ao,ad, *]
  ·simp[hold q c hq,hq]
 ·simp[aN,vn,keyed]
  refine⟨.cM ⟨d,t,H.gen d t,0⟩ 0 0 (some 0),.cM ⟨d,t,H.gen d t,1⟩ 0 0 (some 0),.cw 3 (eW us) (some 0),.cw 5 (eY qs) (some 0),_,⟨⟨by simp,by simp⟩,rfl⟩,⟨?_,fun q c hq=>?_⟩,.inr ⟨_,some 0,by rw[h1];rfl,by simp[h1],rfl,by rw[h1];simp⟩,.inr ⟨_,some 0,by rw[h2];rfl,by simp[h2],rfl,by rw[h2];simp⟩⟩
  ·exact by simp(maxDischargeDepth:=12) [ab.get_put,aq,an,Fr.nil,aD,ah,ai,ae,af,ar,ao,ad, *]
  ·simp[hold q c hq,hq]
def rB(us:List Clear)(gr:Int):fF:=⟨us,gr,[],[],[]⟩
def yE(us:List Clear)(qs:List bu)(gr:Int)(l:List (gA × AV)):Option fF:=if DI us qs gr=true∧l.length≤2048 then Ps us qs gr (rB us gr) l else none
theorem W2{l:List (gA × AV)}{x1:AV}(hx:Sl 24 (bU l) x1)(hall : ∀p∈l,uJ p)(dep:Nat){H:ab}(hF:Fr H) :
 ∃y H',bV env dep (.fn 35) [.agg [xu,xq,aI gr],x1] H=some (y,H')∧Dh H us qs gr (l.map uI) (yE us qs gr l) y H':=by
 have hgo:bT env Tryz.f35 (dep+1) [.code tN] (rI 0 [.agg [xu,xq,aI gr],x1]) H fun y H'=>Dh H us qs gr (l.map uI) (yE us qs gr l) y H':=by
  have hC:=yr (gr:=gr) hu hq (by omega) (by omega)
  have hg2 : ∀b1:bN,cE H ((⟨dep+1,2,H.gen (dep+1) 2,0⟩,some b1) :: H):=fun b1=>cE.cons hF _ _ _
  refine Fb _ _ _ _ _ fun g=>?_
  have hno : ¬(DI us qs gr=true∧l.length≤2048) →∀H',cE H H'→Dh H us qs gr (l.map uI) (yE us qs gr l) (.tup [.v (.pointer none),aB false]) H':=fun hd H' hG=>by
   unfold yE;rw[if_neg hd];exact⟨rfl,hG⟩
  cases hp:DI us qs gr with
  | false =>
   rw[hp]at hC hno
   have hfin:=fun b1=>hno (by simp) _ (hg2 b1)
   simp[ah,ai,ae,af,ad, *,pZ,hx.r,hu.r,hq.r,bad]
   all_goals exact hfin _
  | true =>
   rw[hp]at hC
   by_cases hl:l.length≤2048
   ·have hl' : ¬(2048:Int)<l.length:=by omega
    obtain⟨yu,yq,wu,wq,H3,hT,hG,z1,z2⟩:=SF (gr:=gr) hu hq hul hql (dep+1) (dep+1) 20 (gg:=H.gen (dep+1) 20) (hg2 ⟨3,[.agg [xu,xq,aI gr]],false,false⟩).fr (by simp)
    have hFr3:=hG.fr
    have hG3:=(hg2 _).trans hG
    have c1:=z1.s.cells
    have c2:=z2.s.cells
    have hkw:=fun H=>QP true (dep+1) H (dep+1) 25
    clear hno
    simp[ah,ai,ae,af,ad, *,pZ,hx.r,hu.r,hq.r,bad,hkw]
    have hof:yE us qs gr l=Ps us qs gr (rB us gr) l:=by unfold yE;rw[if_pos ⟨hp,hl⟩]
    refine QD (rb:=⟨dep+1,24,H3.gen (dep+1) 24,0⟩) (rs:=⟨dep+1,21,H3.gen (dep+1) 21,0⟩) (ru:=⟨dep+1,22,H3.gen (dep+1) 22,0⟩) (rk:=⟨dep+1,25,H3.gen (dep+1) 25,0⟩) (gr0:=gr) (dep:=dep) (H0:=H)
     (Q:=fun y H'=>Dh H us qs gr (l.map uI) (yE us qs gr l) y H') hx hl hall hul hql l 0 (rB us gr) [] _ cP cP rfl (by omega) rfl ⟨fun p h=>(by cases h),fun p h=>(by cases h),fun p h=>(by cases h),(by simp[rB]),(by simpa [rB] using hul)⟩ (by simp[rB]) ?_ (fun y H' h=>by rw[hof];exact h)
    have hgg : ∀b1 b2 b3 b4:bN,cE H3 ((⟨dep+1,25,H3.gen (dep+1) 25,0⟩,some b4) :: (⟨dep+1,24,H3.gen (dep+1) 24,0⟩,some b3) :: (⟨dep+1,22,H3.gen (dep+1) 22,0⟩,some b2) :: (⟨dep+1,21,H3.gen (dep+1) 21,0⟩,some b1) :: H3):=fun b1 b2 b3 b4=>⟨by simp(maxDischargeDepth:=12) [ab.get_put,aq,an,Fr.nil,aD,ah,ai,ae,af,ar,ao,ad, *],fun q c hq=>by
     have lq:(H3.get q).isSome=true:=by rw[hq];rfl
     simp[ah hFr3 lq,hq]⟩
    have hnn : ∀t,H.get ⟨dep+1,t,H3.gen (dep+1) t,0⟩=none:=fun t=>by
     cases hr:H.get ⟨dep+1,t,H3.gen (dep+1) t,0⟩ with
     | none=>rfl
     | some c=>have:=hG3.old _ _ hr;rw[ar hFr3]at this;cases this
    refine⟨hG3.trans (hgg _ _ _ _),⟨⟨xu,xq,yu,yq,wu,wq,?_,hu,hq,z1.grow (hgg _ _ _ _),z2.grow (hgg _ _ _ _)⟩,?_,?_,.inl ⟨rfl,rfl⟩,⟨rfl,rfl⟩,?_,fun r hr=>(by cases hr)⟩,.inl ⟨rfl,rfl⟩,fun r hr=>(by cases hr),fun r hr=>(by cases hr),?_,⟨rfl,rfl,rfl,rfl⟩,⟨hnn _,hnn _,hnn _⟩⟩
    ·simp[rB]
    ·simp[rB,cH]
    ·simp[rB,cH]
    ·simp[AV.at?]
    ·simp
   ·have hl':(2048:Int)<l.length:=by omega
    have hfin:=fun b1=>hno (by simp[hl]) _ (hg2 b1)
    simp[ah,ai,ae,af,ad, *,pZ,hx.r,hu.r,hq.r,bad]
    all_goals exact hfin _
 obtain⟨y,H',h1,h2⟩:=my (f:=35) (by kernel_rfl) (by kernel_rfl) (by kernel_rfl) (by kernel_rfl) (by kernel_rfl) hgo
 exact⟨y,H',h1,h2⟩
end
end Go.Proofs.YtdbiffjdomokfaaGreat
namespace Go.Proofs.YtdbiffjdomokfaaGreat
open Go.Ab
attribute [local simp] bD bp bl bC bB cV lj bP bt bA dc db cg bR aV cm List.take_of_length_le
def Gd(o:Option fF)(wr:Int)(zero:AV)(R:fF→AV→ab→Prop)(y:AV)(H:ab):Prop:=match o with
 | none=>y = .tup [zero,aI 8]
 | some b=>if wr=0 then R b y H else y = .tup [zero,aI wr]
section
variable{xu xq:AV}{us:List Clear}{qs:List bu}{gr:Int}(hu:Sl 3 (eW us) xu)(hq:Sl 5 (eY qs) xq)(hul:us.length<1000000)(hql:qs.length<1000000){l:List (gA × AV)}{x1:AV}(hx:Sl 24 (bU l) x1)(hall : ∀p∈l,uJ p)
include hu hq hul hql hx hall
theorem Mo(dep:Nat){H:ab}(hF:Fr H)(wr:Int){fd:FuncId}(hm:(env.mode fd == 2)=true){caps:List AV}{R:fF→AV→ab→Prop}
 (hdo:wr=0 →∀b H2 rb rs ru xh xr,yE us qs gr l=some b→cE H H2→jr H2 rb rs ru xh xr us qs gr b→Own 24 (bU (l.map uI)) H2 xr→(∀r,xr.at?=some r→r.t=62)→ud b →∃z e H3,bV env (dep+1) (.fn fd) ([]++[.ptr rb 0 0]++caps) H2=some (.tup [z,e],H3)∧R b (.tup [z,e]) H3) :
 ∃y H',bV env dep (.fn 32) [.agg [xu,xq,aI gr],x1,aI wr,.fn (.func fd) [] caps] H=some (y,H')∧Gd (yE us qs gr l) wr cP R y H':=by
 have hgo:bT env Tryz.f32 (dep+1) [.code fV] (rI 0 [.agg [xu,xq,aI gr],x1,aI wr,.fn (.func fd) [] caps]) H fun y H'=>Gd (yE us qs gr l) wr cP R y H':=by
  have hg2 : ∀b1:bN,cE H ((⟨dep+1,4,H.gen (dep+1) 4,0⟩,some b1) :: H):=fun b1=>cE.cons hF _ _ _
  obtain⟨y,H2,hO,hA⟩:=W2 (gr:=gr) hu hq hul hql hx hall (dep+1) (hg2 ⟨3,[.agg [xu,xq,aI gr]],false,false⟩).fr
  refine kX _ _ _ _ _ _ _ fun g=>?_
  unfold Gd
  simp[ah,ai,ae,af,ad, *,fX,hx.r,hu.r,hq.r]
  refine BO (by kernel_rfl) hO ?_
  cases ho:yE us qs gr l with
  | none =>
   rw[ho]at hA
   obtain⟨rfl,hG⟩:=hA
   simp
  | some b =>
   rw[ho]at hA
   obtain⟨rb,rs,ru,rk,xh,xr,rfl,hI,hok⟩:=hA
   by_cases hw:wr=0
   ·subst hw
    obtain⟨z,e,H3,h1,h2⟩:=hdo rfl b H2 rb rs ru xh xr ho ((hg2 _).trans hI.g) hI.bk hI.row (fun r e=>(hI.t62 r e).1) hok
    simp
    refine BO hm h1 ?_
    simp
    exact h2
   ·simp[hw]
 obtain⟨y,H',h1,h2⟩:=my (f:=32) (by kernel_rfl) (by kernel_rfl) (by kernel_rfl) (by kernel_rfl) (by kernel_rfl) hgo
 exact⟨y,H',h1,h2⟩
theorem Et:bj env 22 [.agg [xu,xq,aI gr],x1]=some (aI (if (yE us qs gr l).isSome then 0 else 8)):=by
 refine aK (fn:=Tryz.f22) (c:=uy) rfl (by kernel_rfl) (by kernel_rfl) (by kernel_rfl) (by kernel_rfl) ?_;refine AY _ _ _ _ fun g=>?_
 have hF0:Fr [(⟨0,2,0,0⟩,some ⟨3,[.agg [xu,xq,aI gr]],false,false⟩)]:=by simp(maxDischargeDepth:=12) [ab.get_put,aq,an,Fr.nil,aD,ah,ai,ae,af,ar,ao,ad, *]
 obtain⟨y,H2,hO,hA⟩:=W2 (gr:=gr) hu hq hul hql hx hall 0 hF0
 simp[ah,ai,ae,af,ad, *,uG,hx.r,hu.r,hq.r]
 refine BO (by kernel_rfl) hO ?_
 cases ho:yE us qs gr l with
 | none =>
  rw[ho]at hA
  obtain⟨rfl,hG⟩:=hA
  simp
 | some b =>
  rw[ho]at hA
  obtain⟨rb,rs,ru,rk,xh,xr,rfl,hI,hok⟩:=hA
  simp
end
end Go.Proofs.YtdbiffjdomokfaaGreat
