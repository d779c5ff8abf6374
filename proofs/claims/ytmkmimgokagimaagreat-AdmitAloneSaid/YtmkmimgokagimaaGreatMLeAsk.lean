/-
  What a log tells: the loop. No statement of a seat is proved here.
-/
import Derived.Test.YtmkmimgokagimaaGreatMLeOf2
import Derived.Test.YtmkmimgokagimaaGreatMLeTwin
set_option linter.unusedVariables false
set_option linter.unusedSimpArgs false
set_option linter.unusedSectionVars false
set_option linter.unnecessarySimpa false
set_option maxRecDepth 100000
namespace Go.Proofs.YtmkmimgokagimaaGreat
open Go.Ab
attribute [local simp] bJ bw bt bG bF cL kN bX bx bD cR cQ cr bY bh ct List.take_of_length_le
def rY(us0:List Clear)(qs:List bn)(gr0:Int)(b:ep)(r:fY):Bool:=if r.kind=1 then FG us0 qs gr0 b r else if r.kind=2 then Bx us0 qs gr0 b r else FF qs b r
def G3(b:ep)(p:fY × AV):ep:=if p.1.kind=1 then Ag b p.1.op p.1.user else if p.1.kind=2 then rZ b p.1.op p.1.code (mY p.2) else BB b p.1.gu p.1.gv p.1.gc p.1.gok
def ON(us0:List Clear)(qs:List bn)(gr0:Int):ep→List (fY × AV)→Option ep
 | b,[]=>some b
 | b,p :: l=>if n8 p.1=true∧rY us0 qs gr0 b p.1=true then ON us0 qs gr0 (G3 b p) l else none
theorem AQ{l:List Int}{x:AV}(hx:Sl 1 (rows l) x):Sl 1 (rows l) (mY x):=by
 rcases hx with ⟨rfl,h⟩ | ⟨c,rfl,h⟩
 ·exact .inl ⟨rfl,h⟩
 ·by_cases he:rows l=[]
  ·rw[he];exact .inr ⟨some 0,rfl,by simp⟩
  ·rw[Jx 1 c he];exact Sl.mk _ _
def xL(p:fY × AV):fY × AV:=(p.1,mY p.2)
theorem K4(b:ep)(p:fY × AV):(G3 b p).dE.length≤b.dE.length+1:=by
 unfold G3 Ag rZ BB
 repeat' split
 all_goals simp
theorem W7{b:ep}(h:ni b){p:fY × AV}(hp:oK p)(hm:b.dE.length+1<10000):ni (G3 b p):=by
 have hh:=K4 b p
 unfold G3 at hh ⊢
 split at hh
 ·rename_i k1
  rw[if_pos k1]
  refine⟨AS (P:=fun x =>∃s:uY,x=s.av) ⟨_,rfl⟩ h.ses,AS (P:=fun x =>∃s:xB,x=s.av) ⟨_,rfl⟩ h.used,h.dE,by omega,h.few⟩
 ·rename_i k1
  rw[if_neg k1]
  split at hh
  ·rename_i k2
   rw[if_pos k2]
   refine⟨AS (P:=fun x =>∃s:uY,x=s.av) ⟨_,rfl⟩ h.ses,AS (P:=fun x =>∃s:xB,x=s.av) ⟨_,rfl⟩ h.used,?_,by omega,h.few⟩
   intro q hq
   unfold rZ at hq
   simp only at hq
   split at hq
   ·rcases List.mem_append.1 hq with hq | hq
    ·exact h.dE q hq
    ·rw[List.mem_singleton]at hq
     subst hq
     exact⟨⟨AQ hp.1,by have:=hp.2;simp only;omega⟩,hp.2⟩
   ·exact h.dE q hq
  ·rename_i k2
   rw[if_neg k2]
   exact⟨h.ses,h.used,h.dE,by omega,by show(b.us.set _ _).length<_;rw[List.length_set];exact h.few⟩
def Gh(H0:ad)(us0:List Clear)(qs:List bn)(gr0:Int)(recs:List (fY × AV))(o:Option ep)(y:AV)(H:ad):Prop:=match o with
 | none=>y = .tup [.v (.pointer none),aB false]∧bQ H0 H
 | some b =>∃rb rs ru rk xh xr,y = .tup [.ptr rb 0 0,aB true]∧NO H0 H rb rs ru rk xh xr us0 qs gr0 b recs∧ni b
section
variable{l:List (fY × AV)}{x26:AV}(hx:Sl 24 (cW l) x26)(hl:l.length≤2048)(hall : ∀p∈l,oK p){H0:ad}{Q:AV→ad→Prop}{dep:Nat}{rb rs ru rk:Ref}{us0:List Clear}{qs:List bn}{gr0:Int}(hul:us0.length<1000000)(hql:qs.length<1000000)
include hx hl hall hul hql
theorem Tm : ∀(s:List (fY × AV)) (k:Nat) (b:ep) (recs:List (fY × AV)) (H:ad) (xh xr:AV),l.drop k=s→k≤l.length→recs=(l.take k).map xL→ni b→b.dE.length≤k→NO H0 H rb rs ru rk xh xr us0 qs gr0 b recs →
 (∀y H',Gh H0 us0 qs gr0 (l.map xL) (ON us0 qs gr0 b s) y H'→Q y H') →
 b7 env Tryz.f100 (dep+1) iV [(28,aI k),(6,.ptr rb 0 0),(7,.mp rk),(26,x26),(27,aI l.length)] H Q:=by
 intro s
 induction s with
 | nil =>
  rintro k b recs H xh xr hs hk hr hok hm hI hQ
  obtain rfl:=drop_nil hs hk
  rw[List.take_length]at hr
  subst hr
  have hfin:=hQ _ H ⟨rb,rs,ru,rk,xh,xr,rfl,hI,hok⟩
  refine rJ _ _ _ _ _ _ _ _ fun g=>?_
  clear hQ hI hall
  simp[ah,ai,ae,af,ab, *,pz]
  all_goals exact hfin
 | cons p s ih =>
  rintro k b recs H xh xr hs hk hr hok hm hI hQ
  obtain⟨hlt,hg,hs',hg'⟩:=drop_cons hs
  have hp:=hall p (hg ▸ List.getElem_mem hlt)
  have hok':=W7 hok hp (by omega)
  have hm':=K4 b p
  have hrl:recs.length≤10000:=by rw[hr];simp;omega
  have hr':recs++[xL p]=(l.take (k+1)).map xL:=by
   rw[hr,List.take_add_one,hg']
   simp
  have hih:=fun(hd:n8 p.1=true∧rY us0 qs gr0 b p.1=true) H' xh' xr' h=>ih (k+1) (G3 b p) _ H' xh' xr' hs' (by omega) hr' hok' (by omega) h (fun y H1 hA=>hQ y H1 (by show Gh _ _ _ _ _ (if _ then _ else _) _ _;rw[if_pos hd];exact hA))
  have hno : ¬(n8 p.1=true∧rY us0 qs gr0 b p.1=true) →∀H',bQ H0 H'→Q (.tup [.v (.pointer none),aB false]) H':=fun hd H' hG=>hQ _ H' (by show Gh _ _ _ _ _ (if _ then _ else _) _ _;rw[if_neg hd];exact⟨rfl,hG⟩)
  obtain⟨⟨k1,u,⟨ba,⟨aO,aN,aT⟩,aV,⟨⟨⟨aX,aW,aY⟩,aZ⟩,an⟩,⟨⟨ay,ax,aw⟩,au⟩,⟨aA,az⟩,al⟩,c,g1,v,w,o⟩,x⟩:=p
  obtain⟨hax,hal⟩:=hp
  simp only at hax hal
  have hrd:eQ (cW l) k 0 24 true=some (.agg [a8 k1,aI u,a8 ba,a8 aO,aF aN,a8 aT,aI aV,a8 aX,aF aW,a8 aY,aI aZ,aI an,a8 ay,aF ax,a8 aw,aI au,a8 aA,aF az,x,aI c,aI g1,a8 v,aF w,aB o]):=by simp[cW,hg',fY.val]
  have hlt':(k:Int)<l.length:=by omega
  cases his:n8 ⟨k1,u,(⟨ba,⟨aO,aN,aT⟩,aV,⟨⟨⟨aX,aW,aY⟩,aZ⟩,an⟩,⟨⟨ay,ax,aw⟩,au⟩,⟨aA,az⟩,al⟩:bz),c,g1,v,w,o⟩ with
  | false =>
   have hF:=hI.g.fr
   have hC:=C7 k1 u ba aO aN aT aV aX aW aY aZ an ay ax aw au aA az c g1 v w o hax hal
   rw[his]at hC
   have hfin:=fun b1=>hno (by rw[his];simp) _ ((hI.grow (bQ.cons hF (dep+1) 9 b1)).g)
   refine rJ _ _ _ _ _ _ _ _ fun g=>?_
   clear hno hih ih hQ hI hall his
   simp[ah,ai,ae,af,ab, *,pz,hx.r,hx.idx,hax.r]
   all_goals exact hfin _
  | true =>
   by_cases e1:k1=1
   ·subst e1
    have hf:rY us0 qs gr0 b ⟨1,u,(⟨ba,⟨aO,aN,aT⟩,aV,⟨⟨⟨aX,aW,aY⟩,aZ⟩,an⟩,⟨⟨ay,ax,aw⟩,au⟩,⟨aA,az⟩,al⟩:bz),c,g1,v,w,o⟩=FG us0 qs gr0 b ⟨1,u,(⟨ba,⟨aO,aN,aT⟩,aV,⟨⟨⟨aX,aW,aY⟩,aZ⟩,an⟩,⟨⟨ay,ax,aw⟩,au⟩,⟨aA,az⟩,al⟩:bz),c,g1,v,w,o⟩:=rfl
    refine Ix hx (by omega) hlt hI hrl (fi:=145) (fd:=148) (b':=G3 b (⟨1,u,(⟨ba,⟨aO,aN,aT⟩,aV,⟨⟨⟨aX,aW,aY⟩,aZ⟩,an⟩,⟨⟨ay,ax,aw⟩,au⟩,⟨aA,az⟩,al⟩:bz),c,g1,v,w,o⟩,x)) (by kernel_rfl) (by kernel_rfl) 1 u ba aO aN aT aV aX aW aY aZ an ay ax aw au aA az c g1 v w o hax hal hrd (fun g=>Wp) his (ft:=FG us0 qs gr0 b ⟨1,u,(⟨ba,⟨aO,aN,aT⟩,aV,⟨⟨⟨aX,aW,aY⟩,aZ⟩,an⟩,⟨⟨ay,ax,aw⟩,au⟩,⟨aA,az⟩,al⟩:bz),c,g1,v,w,o⟩)
     (fun H' hI'=>WB (dep+1) hI'.g.fr hI'.bk.at hok hul hql 1 u ba aO aN aT aV aX aW aY aZ an ay ax aw au aA az c g1 v w o hax) ?_ ?_ ?_
    ·intro _ H' hI'
     obtain⟨H2,e1,e2,e3⟩:=WA (dep+1) hI'.g.fr hI'.bk hok 1 u ba aO aN aT aV aX aW aY aZ an ay ax aw au aA az c g1 v w o hax
     exact⟨H2,xh,e1,e2,e3⟩
    ·intro h H' hG
     exact hno (by rw[hf,h];simp) H' hG
    ·intro h H' xh' xr' h'
     exact hih ⟨his,by rw[hf];exact h⟩ H' xh' xr' h'
   ·by_cases e2:k1=2
    ·subst e2
     have hf:rY us0 qs gr0 b ⟨2,u,(⟨ba,⟨aO,aN,aT⟩,aV,⟨⟨⟨aX,aW,aY⟩,aZ⟩,an⟩,⟨⟨ay,ax,aw⟩,au⟩,⟨aA,az⟩,al⟩:bz),c,g1,v,w,o⟩=Bx us0 qs gr0 b ⟨2,u,(⟨ba,⟨aO,aN,aT⟩,aV,⟨⟨⟨aX,aW,aY⟩,aZ⟩,an⟩,⟨⟨ay,ax,aw⟩,au⟩,⟨aA,az⟩,al⟩:bz),c,g1,v,w,o⟩:=rfl
     refine Ix hx (by omega) hlt hI hrl (fi:=149) (fd:=150) (b':=G3 b (⟨2,u,(⟨ba,⟨aO,aN,aT⟩,aV,⟨⟨⟨aX,aW,aY⟩,aZ⟩,an⟩,⟨⟨ay,ax,aw⟩,au⟩,⟨aA,az⟩,al⟩:bz),c,g1,v,w,o⟩,x)) (by kernel_rfl) (by kernel_rfl) 2 u ba aO aN aT aV aX aW aY aZ an ay ax aw au aA az c g1 v w o hax hal hrd (fun g=>Wo) his (ft:=Bx us0 qs gr0 b ⟨2,u,(⟨ba,⟨aO,aN,aT⟩,aV,⟨⟨⟨aX,aW,aY⟩,aZ⟩,an⟩,⟨⟨ay,ax,aw⟩,au⟩,⟨aA,az⟩,al⟩:bz),c,g1,v,w,o⟩)
      (fun H' hI'=>Wz (dep+1) hI'.g.fr hI'.bk.at hok hul hql 2 u ba aO aN aT aV aX aW aY aZ an ay ax aw au aA az c g1 v w o hax hal) ?_ ?_ ?_
     ·intro _ H' hI'
      by_cases hc:c=0
      ·subst hc
       exact Ty (dep+1) hI'.g.fr hI'.bk hok 2 u ba aO aN aT aV aX aW aY aZ an ay ax aw au aA az g1 v w o hax hal
      ·obtain⟨H2,e1,e2,e3⟩:=Wy (dep+1) hI'.g.fr hI'.bk hok 2 u ba aO aN aT aV aX aW aY aZ an ay ax aw au aA az c g1 v w o hax hc
       have hd:rZ b (⟨ba,⟨aO,aN,aT⟩,aV,⟨⟨⟨aX,aW,aY⟩,aZ⟩,an⟩,⟨⟨ay,ax,aw⟩,au⟩,⟨aA,az⟩,al⟩:bz) c cp=G3 b (⟨2,u,(⟨ba,⟨aO,aN,aT⟩,aV,⟨⟨⟨aX,aW,aY⟩,aZ⟩,an⟩,⟨⟨ay,ax,aw⟩,au⟩,⟨aA,az⟩,al⟩:bz),c,g1,v,w,o⟩,x):=by simp[G3,rZ,hc,yf]
       rw[hd]at e2
       exact⟨H2,xh,e1,e2,e3⟩
     ·intro h H' hG
      exact hno (by rw[hf,h];simp) H' hG
     ·intro h H' xh' xr' h'
      exact hih ⟨his,by rw[hf];exact h⟩ H' xh' xr' h'
    ·have e3:k1=3:=by
      by_cases e3:k1=3
      ·exact e3
      ·simp[n8,e1,e2,e3]at his
     subst e3
     have hf:rY us0 qs gr0 b ⟨3,u,(⟨ba,⟨aO,aN,aT⟩,aV,⟨⟨⟨aX,aW,aY⟩,aZ⟩,an⟩,⟨⟨ay,ax,aw⟩,au⟩,⟨aA,az⟩,al⟩:bz),c,g1,v,w,o⟩=FF qs b ⟨3,u,(⟨ba,⟨aO,aN,aT⟩,aV,⟨⟨⟨aX,aW,aY⟩,aZ⟩,an⟩,⟨⟨ay,ax,aw⟩,au⟩,⟨aA,az⟩,al⟩:bz),c,g1,v,w,o⟩:=rfl
     refine Ix hx (by omega) hlt hI hrl (fi:=151) (fd:=153) (b':=G3 b (⟨3,u,(⟨ba,⟨aO,aN,aT⟩,aV,⟨⟨⟨aX,aW,aY⟩,aZ⟩,an⟩,⟨⟨ay,ax,aw⟩,au⟩,⟨aA,az⟩,al⟩:bz),c,g1,v,w,o⟩,x)) (by kernel_rfl) (by kernel_rfl) 3 u ba aO aN aT aV aX aW aY aZ an ay ax aw au aA az c g1 v w o hax hal hrd (fun g=>Wn) his (ft:=FF qs b ⟨3,u,(⟨ba,⟨aO,aN,aT⟩,aV,⟨⟨⟨aX,aW,aY⟩,aZ⟩,an⟩,⟨⟨ay,ax,aw⟩,au⟩,⟨aA,az⟩,al⟩:bz),c,g1,v,w,o⟩)
      (fun H' hI'=>Wx (dep+1) hI'.g.fr hI'.bk.at hok hul hql 3 u ba aO aN aT aV aX aW aY aZ an ay ax aw au aA az c g1 v w o hax) ?_ ?_ ?_
     ·intro h H' hI'
      obtain⟨H2,e1,e2,e3⟩:=Ww (dep+1) hI'.g.fr hI'.bk hok 3 u ba aO aN aT aV aX aW aY aZ an ay ax aw au aA az c g1 v w o hax hql (by simpa [FF] using h)
      exact⟨H2,xh,e1,e2,e3⟩
     ·intro h H' hG
      exact hno (by rw[hf,h];simp) H' hG
     ·intro h H' xh' xr' h'
      exact hih ⟨his,by rw[hf];exact h⟩ H' xh' xr' h'
end
end Go.Proofs.YtmkmimgokagimaaGreat
namespace Go.Proofs.YtmkmimgokagimaaGreat
open Go.Ab
attribute [local simp] bJ bw bt bG bF cL kN bX bx bD cR cQ cr bY bh ct List.take_of_length_le
theorem MK{f:FuncId}(hm:(env.mode f == 2)=false)(wk:Bool)(dep:Nat){H:ad}(r:Ref){args xs:List AV}(hv:args.mapM (view H.get depth)=some xs)(hr:cD H.get args=[]){y:AV}(hy:bj env f xs=some y) :
 lI env wk (bj env) (bO env dep) H r (some (.fn (.func f) [] [])) args=some ((bf r depth y []).1,keyed r 0 (yb true (bf r depth y []).2) H):=by
 have hm':env.mode f≠2:=by simpa using hm
 have e:([]++args++[]:List AV)=args:=by simp
 unfold lI
 simp only[iI,if_neg hm',e,hv,hy,hr]
 simp[iF,bg,DJ]
section
variable{xu xq:AV}{us:List Clear}{qs:List bn}{gr:Int}(hu:Sl 3 (ed us) xu)(hq:Sl 5 (ef qs) xq)(hul:us.length<1000000)(hql:qs.length<1000000)
include hu hq hul hql
theorem VB(dep d t:Nat){gg:Nat}{H:ad}(hF:Fr H)(hgg:gg=H.gen d t) : ∃yu yq wu wq H',lI env false (bj env) (bO env dep) H ⟨d,t,gg,0⟩ (some (.fn (.func 160) [] [])) [.agg [xu,xq,aI gr]]=some (.agg [yu,yq,aI gr],H')∧bQ H H'∧ik 3 (ed us) H' yu wu∧ik 5 (ef qs) H' yq wq:=by
 subst hgg
 have hT:=M9 (gr:=gr) hu hq (by omega) (by omega)
 have ou:=sb hu
 have oq:=sb hq
 generalize pj xu=yu at *
 generalize pj xq=yq at *
 have hc:=MK (H:=H) (f:=160) (by kernel_rfl) false dep ⟨d,t,H.gen d t,0⟩ (args:=[.agg [xu,xq,aI gr]]) (by simp[hu.r,hq.r]) (by simp[hu.r,hq.r]) hT
 rw[hc]
 have hold : ∀(q:Ref)(c:bP),H.get q=some c →∀k,(⟨d,t,H.gen d t,k⟩:Ref)≠q:=by
  intro q c hq k
  have lq:(H.get q).isSome=true:=by rw[hq];rfl
  exact nJ hF lq _ _ _
 rcases ou with ⟨rfl,h1⟩ | rfl | ⟨rfl,h1⟩<;>rcases oq with ⟨rfl,h2⟩ | rfl | ⟨rfl,h2⟩
 ·simp[bf,yb,keyed]
  refine⟨cp,cp,cp,cp,_,⟨⟨by simp,by simp⟩,rfl⟩,⟨?_,fun q c hq=>?_⟩,.inl ⟨rfl,.inl ⟨rfl,h1⟩⟩,.inl ⟨rfl,.inl ⟨rfl,h2⟩⟩⟩
  ·exact by simp(maxDischargeDepth:=12) [ad.ao,aD,aq,Fr.nil,aJ,ah,ai,ae,af,aC,ar,ab, *]
  ·simp[hold q c hq,hq]
 ·simp[bf,yb,keyed]
  refine⟨cp,.cP ⟨d,t,H.gen d t,0⟩ 0 (ef qs).length none,cp,.ck 5 (ef qs) none,_,⟨⟨by simp,by simp⟩,rfl⟩,⟨?_,fun q c hq=>?_⟩,.inl ⟨rfl,.inl ⟨rfl,h1⟩⟩,.inr ⟨_,none,rfl,by simp,rfl,Nat.le_refl _⟩⟩
  ·exact by simp(maxDischargeDepth:=12) [ad.ao,aD,aq,Fr.nil,aJ,ah,ai,ae,af,aC,ar,ab, *]
  ·simp[hold q c hq,hq]
 ·simp[bf,yb,keyed]
  refine⟨cp,.cP ⟨d,t,H.gen d t,0⟩ 0 0 (some 0),cp,.ck 5 (ef qs) (some 0),_,⟨⟨by simp,by simp⟩,rfl⟩,⟨?_,fun q c hq=>?_⟩,.inl ⟨rfl,.inl ⟨rfl,h1⟩⟩,.inr ⟨_,some 0,by rw[h2];rfl,by simp[h2],rfl,by rw[h2];simp⟩⟩
  ·exact by simp(maxDischargeDepth:=12) [ad.ao,aD,aq,Fr.nil,aJ,ah,ai,ae,af,aC,ar,ab, *]
  ·simp[hold q c hq,hq]
 ·simp[bf,yb,keyed]
  refine⟨.cP ⟨d,t,H.gen d t,0⟩ 0 (ed us).length none,cp,.ck 3 (ed us) none,cp,_,⟨⟨by simp,by simp⟩,rfl⟩,⟨?_,fun q c hq=>?_⟩,.inr ⟨_,none,rfl,by simp,rfl,Nat.le_refl _⟩,.inl ⟨rfl,.inl ⟨rfl,h2⟩⟩⟩
  ·exact by simp(maxDischargeDepth:=12) [ad.ao,aD,aq,Fr.nil,aJ,ah,ai,ae,af,aC,ar,ab, *]
  ·simp[hold q c hq,hq]
 ·simp[bf,yb,keyed]
  refine⟨.cP ⟨d,t,H.gen d t,0⟩ 0 (ed us).length none,.cP ⟨d,t,H.gen d t,1⟩ 0 (ef qs).length none,.ck 3 (ed us) none,.ck 5 (ef qs) none,_,⟨⟨by simp,by simp⟩,rfl⟩,⟨?_,fun q c hq=>?_⟩,.inr ⟨_,none,rfl,by simp,rfl,Nat.le_refl _⟩,.inr ⟨_,none,rfl,by simp,rfl,Nat.le_refl _⟩⟩
  ·exact by simp(maxDischargeDepth:=12) [ad.ao,aD,aq,Fr.nil,aJ,ah,ai,ae,af,aC,ar,ab, *]
  ·simp[hold q c hq,hq]
 ·simp[bf,yb,keyed]
  refine⟨.cP ⟨d,t,H.gen d t,0⟩ 0 (ed us).length none,.cP ⟨d,t,H.gen d t,1⟩ 0 0 (some 0),.ck 3 (ed us) none,.ck 5 (ef qs) (some 0),_,⟨⟨by simp,by simp⟩,rfl⟩,⟨?_,fun q c hq=>?_⟩,.inr ⟨_,none,rfl,by simp,rfl,Nat.le_refl _⟩,.inr ⟨_,some 0,by rw[h2];rfl,by simp[h2],rfl,by rw[h2];simp⟩⟩
  ·exact by simp(maxDischargeDepth:=12) [ad.ao,aD,aq,Fr.nil,aJ,ah,ai,ae,af,aC,ar,ab, *]
  ·simp[hold q c hq,hq]
 ·simp[bf,yb,keyed]
  refine⟨.cP ⟨d,t,H.gen d t,0⟩ 0 0 (some 0),cp,.ck 3 (ed us) (some 0),cp,_,⟨⟨by simp,by simp⟩,rfl⟩,⟨?_,fun q c hq=>?_⟩,.inr ⟨_,some 0,by rw[h1];rfl,by simp[h1],rfl,by rw[h1];simp⟩,.inl ⟨rfl,.inl ⟨rfl,h2⟩⟩⟩
  ·exact by simp(maxDischargeDepth:=12) [ad.ao,aD,aq,Fr.nil,aJ,ah,ai,ae,af,aC,ar,ab, *]
  ·simp[hold q c hq,hq]
 ·simp[bf,yb,keyed]
  refine⟨.cP ⟨d,t,H.gen d t,0⟩ 0 0 (some 0),.cP ⟨d,t,H.gen d t,1⟩ 0 (ef qs).length none,.ck 3 (ed us) (some 0),.ck 5 (ef qs) none,_,⟨⟨by simp,by simp⟩,rfl⟩,⟨?_,fun q c hq=>?_⟩,.inr ⟨_,some 0,by rw[h1];rfl,by simp[h1],rfl,by rw[h1];simp⟩,.inr ⟨_,none,rfl,by simp,rfl,Nat.le_refl _⟩⟩
  ·exact by simp(maxDischargeDepth:=12) [ad.ao,aD,aq,Fr.nil,aJ,ah,ai,ae,af,aC,ar,ab, *]
  ·simp[hold q c hq,hq]
 ·simp[bf,yb,keyed]
  refine⟨.cP ⟨d,t,H.gen d t,0⟩ 0 0 (some 0),.cP ⟨d,t,H.gen d t,1⟩ 0 0 (some 0),.ck 3 (ed us) (some 0),.ck 5 (ef qs) (some 0),_,⟨⟨by simp,by simp⟩,rfl⟩,⟨?_,fun q c hq=>?_⟩,.inr ⟨_,some 0,by rw[h1];rfl,by simp[h1],rfl,by rw[h1];simp⟩,.inr ⟨_,some 0,by rw[h2];rfl,by simp[h2],rfl,by rw[h2];simp⟩⟩
  ·exact by simp(maxDischargeDepth:=12) [ad.ao,aD,aq,Fr.nil,aJ,ah,ai,ae,af,aC,ar,ab, *]
  ·simp[hold q c hq,hq]
def sf(us:List Clear)(gr:Int):ep:=⟨us,gr,[],[],[]⟩
def nR(us:List Clear)(qs:List bn)(gr:Int)(l:List (fY × AV)):Option ep:=if GM us qs gr=true∧l.length≤2048 then ON us qs gr (sf us gr) l else none
theorem Og{l:List (fY × AV)}{x1:AV}(hx:Sl 24 (cW l) x1)(hall : ∀p∈l,oK p)(dep:Nat){H:ad}(hF:Fr H) :
 ∃y H',bO env dep (.fn 100) [.agg [xu,xq,aI gr],x1] H=some (y,H')∧Gh H us qs gr (l.map xL) (nR us qs gr l) y H':=by
 have hgo:b7 env Tryz.f100 (dep+1) [.code wF] (pM 0 [.agg [xu,xq,aI gr],x1]) H fun y H'=>Gh H us qs gr (l.map xL) (nR us qs gr l) y H':=by
  have hC:=AT (gr:=gr) hu hq (by omega) (by omega)
  have hg2 : ∀b1:bP,bQ H ((⟨dep+1,2,H.gen (dep+1) 2,0⟩,some b1) :: H):=fun b1=>bQ.cons hF _ _ _
  refine Ig _ _ _ _ _ fun g=>?_
  have hno : ¬(GM us qs gr=true∧l.length≤2048) →∀H',bQ H H'→Gh H us qs gr (l.map xL) (nR us qs gr l) (.tup [.v (.pointer none),aB false]) H':=fun hd H' hG=>by
   unfold nR;rw[if_neg hd];exact⟨rfl,hG⟩
  cases hp:GM us qs gr with
  | false =>
   rw[hp]at hC hno
   have hfin:=fun b1=>hno (by simp) _ (hg2 b1)
   simp[ah,ai,ae,af,ab, *,rj,hx.r,hu.r,hq.r,bad]
   all_goals exact hfin _
  | true =>
   rw[hp]at hC
   by_cases hl:l.length≤2048
   ·have hl' : ¬(2048:Int)<l.length:=by omega
    obtain⟨yu,yq,wu,wq,H3,hT,hG,z1,z2⟩:=VB (gr:=gr) hu hq hul hql (dep+1) (dep+1) 20 (gg:=H.gen (dep+1) 20) (hg2 ⟨3,[.agg [xu,xq,aI gr]],false,false⟩).fr (by simp)
    have hFr3:=hG.fr
    have hG3:=(hg2 _).trans hG
    have c1:=z1.s.cells
    have c2:=z2.s.cells
    have hkw:=fun H=>Tx true (dep+1) H (dep+1) 25
    clear hno
    simp[ah,ai,ae,af,ab, *,rj,hx.r,hu.r,hq.r,bad,hkw]
    have hof:nR us qs gr l=ON us qs gr (sf us gr) l:=by unfold nR;rw[if_pos ⟨hp,hl⟩]
    refine Tm (rb:=⟨dep+1,24,H3.gen (dep+1) 24,0⟩) (rs:=⟨dep+1,21,H3.gen (dep+1) 21,0⟩) (ru:=⟨dep+1,22,H3.gen (dep+1) 22,0⟩) (rk:=⟨dep+1,25,H3.gen (dep+1) 25,0⟩) (gr0:=gr) (dep:=dep) (H0:=H)
     (Q:=fun y H'=>Gh H us qs gr (l.map xL) (nR us qs gr l) y H') hx hl hall hul hql l 0 (sf us gr) [] _ cp cp rfl (by omega) rfl ⟨fun p h=>(by cases h),fun p h=>(by cases h),fun p h=>(by cases h),(by simp[sf]),(by simpa [sf] using hul)⟩ (by simp[sf]) ?_ (fun y H' h=>by rw[hof];exact h)
    have hgg : ∀b1 b2 b3 b4:bP,bQ H3 ((⟨dep+1,25,H3.gen (dep+1) 25,0⟩,some b4) :: (⟨dep+1,24,H3.gen (dep+1) 24,0⟩,some b3) :: (⟨dep+1,22,H3.gen (dep+1) 22,0⟩,some b2) :: (⟨dep+1,21,H3.gen (dep+1) 21,0⟩,some b1) :: H3):=fun b1 b2 b3 b4=>⟨by simp(maxDischargeDepth:=12) [ad.ao,aD,aq,Fr.nil,aJ,ah,ai,ae,af,aC,ar,ab, *],fun q c hq=>by
     have lq:(H3.get q).isSome=true:=by rw[hq];rfl
     simp[ah hFr3 lq,hq]⟩
    have hnn : ∀t,H.get ⟨dep+1,t,H3.gen (dep+1) t,0⟩=none:=fun t=>by
     cases hr:H.get ⟨dep+1,t,H3.gen (dep+1) t,0⟩ with
     | none=>rfl
     | some c=>have:=hG3.old _ _ hr;rw[aC hFr3]at this;cases this
    refine⟨hG3.trans (hgg _ _ _ _),⟨⟨xu,xq,yu,yq,wu,wq,?_,hu,hq,z1.grow (hgg _ _ _ _),z2.grow (hgg _ _ _ _)⟩,?_,?_,.inl ⟨rfl,rfl⟩,⟨rfl,rfl⟩,?_,fun r hr=>(by cases hr)⟩,.inl ⟨rfl,rfl⟩,fun r hr=>(by cases hr),fun r hr=>(by cases hr),?_,⟨rfl,rfl,rfl,rfl⟩,⟨hnn _,hnn _,hnn _⟩⟩
    ·simp[sf]
    ·simp[sf,cI]
    ·simp[sf,cI]
    ·simp[AV.at?]
    ·simp
   ·have hl':(2048:Int)<l.length:=by omega
    have hfin:=fun b1=>hno (by simp[hl]) _ (hg2 b1)
    simp[ah,ai,ae,af,ab, *,rj,hx.r,hu.r,hq.r,bad]
    all_goals exact hfin _
 obtain⟨y,H',h1,h2⟩:=iT (by kernel_rfl) (by kernel_rfl) (by kernel_rfl) (by kernel_rfl) (by kernel_rfl) hgo
 exact⟨y,H',h1,h2⟩
end
end Go.Proofs.YtmkmimgokagimaaGreat
namespace Go.Proofs.YtmkmimgokagimaaGreat
open Go.Ab
attribute [local simp] bJ bw bt bG bF cL kN bX bx bD cR cQ cr bY bh ct List.take_of_length_le
def jT(o:Option ep)(wr:Int)(zero:AV)(R:ep→AV→ad→Prop)(y:AV)(H:ad):Prop:=match o with
 | none=>y = .tup [zero,aI 8]
 | some b=>if wr=0 then R b y H else y = .tup [zero,aI wr]
section
variable{xu xq:AV}{us:List Clear}{qs:List bn}{gr:Int}(hu:Sl 3 (ed us) xu)(hq:Sl 5 (ef qs) xq)(hul:us.length<1000000)(hql:qs.length<1000000){l:List (fY × AV)}{x1:AV}(hx:Sl 24 (cW l) x1)(hall : ∀p∈l,oK p)
include hu hq hul hql hx hall
theorem Pp(dep:Nat){H:ad}(hF:Fr H)(wr:Int){fd:FuncId}(hm:(env.mode fd == 2)=true){caps:List AV}{R:ep→AV→ad→Prop}
 (hdo:wr=0 →∀b H2 rb rs ru xh xr,nR us qs gr l=some b→bQ H H2→fM H2 rb rs ru xh xr us qs gr b→sO 24 (cW (l.map xL)) H2 xr→(∀r,xr.at?=some r→r.t=62)→ni b →∃z e H3,bO env (dep+1) (.fn fd) ([]++[.ptr rb 0 0]++caps) H2=some (.tup [z,e],H3)∧R b (.tup [z,e]) H3) :
 ∃y H',bO env dep (.fn 75) [.agg [xu,xq,aI gr],x1,aI wr,.fn (.func fd) [] caps] H=some (y,H')∧jT (nR us qs gr l) wr cp R y H':=by
 have hgo:b7 env Tryz.f75 (dep+1) [.code gh] (pM 0 [.agg [xu,xq,aI gr],x1,aI wr,.fn (.func fd) [] caps]) H fun y H'=>jT (nR us qs gr l) wr cp R y H':=by
  have hg2 : ∀b1:bP,bQ H ((⟨dep+1,4,H.gen (dep+1) 4,0⟩,some b1) :: H):=fun b1=>bQ.cons hF _ _ _
  obtain⟨y,H2,hO,hA⟩:=Og (gr:=gr) hu hq hul hql hx hall (dep+1) (hg2 ⟨3,[.agg [xu,xq,aI gr]],false,false⟩).fr
  refine lT _ _ _ _ _ _ _ fun g=>?_
  unfold jT
  simp[ah,ai,ae,af,ab, *,gk,hx.r,hu.r,hq.r]
  refine qy (by kernel_rfl) hO ?_
  cases ho:nR us qs gr l with
  | none =>
   rw[ho]at hA
   obtain⟨rfl,hG⟩:=hA
   simp
  | some b =>
   rw[ho]at hA
   obtain⟨rb,rs,ru,rk,xh,xr,rfl,hI,hok⟩:=hA
   by_cases hw:wr=0
   ·subst hw
    obtain⟨z,e,H3,h1,h2⟩:=hdo rfl b H2 rb rs ru xh xr ho ((hg2 _).trans hI.g) hI.bk hI.row (fun r e=>(hI.t62 r e).1) hok
    simp
    refine qy hm h1 ?_
    simp
    exact h2
   ·simp[hw]
 obtain⟨y,H',h1,h2⟩:=iT (by kernel_rfl) (by kernel_rfl) (by kernel_rfl) (by kernel_rfl) (by kernel_rfl) hgo
 exact⟨y,H',h1,h2⟩
end
end Go.Proofs.YtmkmimgokagimaaGreat
