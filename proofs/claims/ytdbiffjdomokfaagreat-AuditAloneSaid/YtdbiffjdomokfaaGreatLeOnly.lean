/-
  A log up to a label. No statement of a seat is proved here.
-/
import Derived.Test.YtdbiffjdomokfaaGreatMLeAsk
set_option linter.unusedVariables false
set_option linter.unusedSimpArgs false
set_option linter.unusedSectionVars false
set_option linter.unnecessarySimpa false
set_option maxRecDepth 100000
namespace Go.Proofs.YtdbiffjdomokfaaGreat
open Go.Ab
attribute [local simp] bD bp bl bC bB cV lj bP bt bA dc db cg bR aV cm List.take_of_length_le
theorem Cu{E:Env}{f:FuncId}{fn:Func}{c:Code}{args:List AV}{R:AV→Prop}(hsp:E.spec f args=none)(hal:E.allowed f=true)(hf:E.P.funcs[f]?=some fn)(hc:fn.body=some c)(hl:Nat.ble args.length fn.ntmps=true)
 (h:bT E fn 0 [.code c] (rI 0 args) [] fun x H =>∃y,handed E f x H y∧R y) : ∃y,bj E f args=some y∧R y:=by
 obtain⟨x,H,⟨y,hQ,hR⟩,n,hn⟩:=h.h (fun _=>AV.undef) args fun i=>(Cc args i).symm
 refine⟨y,wx.2 ⟨n,fun m hm=>?_⟩,hR⟩
 obtain⟨st,h1,h2,h3⟩:=hn m hm
 subst h3
 unfold dv
 rw[hsp]
 unfold qA
 simp only[hal,if_true,hf,hc,if_pos (Nat.le_of_ble_eq_true hl),h1,h2,Option.map_some]
 unfold handed at hQ
 split
 ·rename_i h1
  rw[if_pos h1]at hQ
  rw[if_pos hQ.1]
  exact hQ.2
 ·rename_i h1
  rw[if_neg h1]at hQ
  exact hQ
def cN(v:jz)(p:gA × AV):Bool:=decide (p.1.kind=3)||nP ⟨p.1.op.h.lv,p.1.op.h.cats⟩ v
section
variable{recs:List (gA × AV)}(hrl:recs.length≤2048)(hok : ∀p∈recs,uJ p){dep:Nat}{q:Ref}(hqt:q.t≠30∧q.t≠6){xr:AV}(hxt : ∀r,xr.at?=some r→r.t=62)(v1:UInt8)(v2:UInt32){Q:AV→ab→Prop}
include hrl hok hqt hxt
theorem LM : ∀(s:List (gA × AV)) (k:Nat) (outs:List (gA × AV)) (H:ab) (x3:AV),recs.drop k=s→k≤recs.length→outs.length≤k→Fr H→Own 24 (bU recs) H xr→H.get q=some ⟨2,[.agg [a8 v1,aG v2]],false,false⟩→Own 24 (bU outs) H x3→(∀r,x3.at?=some r→r.t=30) →
 (∀H' x',Fr H'→Own 24 (bU (outs++s.filter (cN ⟨v1,v2⟩))) H' x'→Q (.tup [x',aI 0]) H')→bT env Tryz.f34 (dep+1) iF [(12,aI k),(3,x3),(1,.ptr q 0 0),(10,xr),(11,aI recs.length)] H Q:=by
 intro s
 induction s with
 | nil =>
  rintro k outs H x3 hs hk ho hF hr hq h3 ht hQ
  obtain rfl:=drop_nil hs hk
  have hfin:=hQ H x3 hF (by simpa using h3)
  refine qf _ _ _ _ _ _ _ _ fun g=>?_
  clear hQ hr h3 hok
  simp[ah,ai,ae,af,ad, *,eZ]
  all_goals exact hfin
 | cons p s ih =>
  rintro k outs H x3 hs hk ho hF hr hq h3 ht hQ
  obtain⟨hlt,hg,hs',hg'⟩:=drop_cons hs
  have hp:=hok p (hg ▸ List.getElem_mem hlt)
  have e3:=IntWalk.i64_in ((k:Int)+1) (by omega)
  have hlt':(k:Int)<recs.length:=by omega
  obtain⟨r,rfl,hr⟩ : ∃r,xr = .cM r 0 recs.length none∧H.get r=some ⟨24,bU recs,true,false⟩:=by
   rcases hr with ⟨rfl,h⟩ | ⟨r,rfl,h⟩
   ·have:=congrArg List.length h;simp at this;subst this;simp at hlt
   ·exact⟨r,by simp,h⟩
  have hel:=kW outs
  have heo:bU (outs++[p])=bU outs++[p.1.val p.2]:=by simp[bU]
  have hyes:=fun(h:cN ⟨v1,v2⟩ p=true) H' x'=>ih (k+1) (outs++[p]) H' x' hs' (by omega) (by simp;omega)
  have hno:=fun(h:cN ⟨v1,v2⟩ p=false) H' h1 h2 h3 h4=>ih (k+1) outs H' x3 hs' (by omega) (by omega) h1 h2 h3 h4 ht (fun H' x' h5 h6=>hQ H' x' h5 (by rw[List.filter_cons,h];exact h6))
  have hQ':=fun(h:cN ⟨v1,v2⟩ p=true) H' x' h5 (h6:Own 24 (bU (outs++[p]++s.filter (cN ⟨v1,v2⟩))) H' x')=>hQ H' x' h5 (by rw[List.filter_cons,if_pos h];simpa using h6)
  have hyes':=fun(h:cN ⟨v1,v2⟩ p=true) H' x' h1 h2 h3 h4 h5=>hyes h H' x' h1 h2 h3 h4 h5 (hQ' h)
  rw[heo]at hyes'
  clear hyes hQ' hQ ih heo
  obtain⟨⟨k1,u,⟨bh,⟨aQ,aP,aW⟩,aY,⟨⟨⟨bc,ba,bf⟩,bg⟩,au⟩,⟨⟨az,ay,ax⟩,aw⟩,⟨aC,aA⟩,al⟩,c,g1,v,w,o⟩,x⟩:=p
  obtain⟨hax,hal⟩:=hp
  simp only at hax hal
  have hrd:eL (bU recs) k 0 24 true=some (.agg [a8 k1,aI u,a8 bh,a8 aQ,aG aP,a8 aW,aI aY,a8 bc,aG ba,a8 bf,aI bg,aI au,a8 az,aG ay,a8 ax,aI aw,a8 aC,aG aA,x,aI c,aI g1,a8 v,aG w,aB o]):=by simp[bU,hg',gA.val]
  have e62:=hxt r rfl
  obtain⟨rd,rt,rg,rk⟩:=r
  simp only at e62
  subst e62
  rename_i hr0
  have lr:(H.get ⟨rd,62,rg,rk⟩).isSome=true:=by rw[hr0];rfl
  have lq:(H.get q).isSome=true:=by rw[hq];rfl
  have hLq:=Eu aQ aP v1 v2
  have hoB:cN ⟨v1,v2⟩ (⟨k1,u,(⟨bh,⟨aQ,aP,aW⟩,aY,⟨⟨⟨bc,ba,bf⟩,bg⟩,au⟩,⟨⟨az,ay,ax⟩,aw⟩,⟨aC,aA⟩,al⟩:bG),c,g1,v,w,o⟩,x)=(decide (k1=3)||nP ⟨aQ,aP⟩ ⟨v1,v2⟩):=rfl
  rw[hoB]at hyes' hno
  generalize nP ⟨aQ,aP⟩ ⟨v1,v2⟩=b1 at *
  have hRl:(bU recs).length=recs.length:=kW recs
  clear hr hs hs' hg hg' hok hxt hoB
  simp only[gA.val]at hyes'
  generalize bU recs=er at *
  generalize recs.length=nr at *
  generalize bU outs=eo at *
  generalize outs.length=nh at *
  refine qf _ _ _ _ _ _ _ _ fun g=>?_
  by_cases e1:k1=3
  ·subst e1
   have hy:=hyes' (by simp)
   clear hno hyes'
   rcases h3 with ⟨rfl,h3⟩ | ⟨t,rfl,h3⟩
   ·rw[h3]at hy
    clear hel ho ht h3 nh
    simp[ah,ai,ae,af,ad, *,eZ,hax.r, -Eu, -BZ]
    refine hy _ (.cM ⟨dep+1,30,H.gen (dep+1) 30,0⟩ 0 1 none) ?_ (.inr ⟨⟨rd,62,rg,rk⟩,by simp[hRl],?_⟩) ?_ (.inr ⟨⟨dep+1,30,H.gen (dep+1) 30,0⟩,rfl,?_⟩) (fun r hr=>by cases hr;rfl)
    ·exact by simp(maxDischargeDepth:=12) [ab.get_put,aq,an,Fr.nil,aD,ah,ai,ae,af,ar,ao,ad, *]
    ·exact by simp(maxDischargeDepth:=12) [ab.get_put,aq,an,Fr.nil,aD,ah,ai,ae,af,ar,ao,ad, *]
    ·exact by simp(maxDischargeDepth:=12) [ab.get_put,aq,an,Fr.nil,aD,ah,ai,ae,af,ar,ao,ad, *]
    ·exact by simp(maxDischargeDepth:=12) [ab.get_put,aq,an,Fr.nil,aD,ah,ai,ae,af,ar,ao,ad, *]
   ·have e30:=ht t rfl
    clear ht
    obtain⟨td,tt,tg,tk⟩:=t
    simp only at e30
    subst e30
    have f6:mN 24 160 nh true none (some ⟨24,eo,true,false⟩) (some [.agg [a8 3,aI u,a8 bh,a8 aQ,aG aP,a8 aW,aI aY,a8 bc,aG ba,a8 bf,aI bg,aI au,a8 az,aG ay,a8 ax,aI aw,a8 aC,aG aA,x,aI c,aI g1,a8 v,aG w,aB o]]):=by
     simp;omega
    have l8:(H.get ⟨td,30,tg,tk⟩).isSome=true:=by rw[h3];rfl
    have n1:(⟨td,30,tg,tk⟩:Ref)≠q:=fun e=>hqt.1 (by rw[←e])
    have n1':=n1.symm
    clear hqt
    simp[ah,ai,ae,af,ad, *,eZ,hax.r, -Eu, -BZ]
    refine hy _ (.cM ⟨td,30,H.gen td 30,0⟩ 0 (nh+1) none) ?_ (.inr ⟨⟨rd,62,rg,rk⟩,by simp[hRl],?_⟩) ?_ (.inr ⟨⟨td,30,H.gen td 30,0⟩,by simp[hel],?_⟩) (fun r hr=>by cases hr;rfl)
    ·exact by simp(maxDischargeDepth:=12) [ab.get_put,aq,an,Fr.nil,aD,ah,ai,ae,af,ar,ao,ad, *]
    ·exact by simp(maxDischargeDepth:=12) [ab.get_put,aq,an,Fr.nil,aD,ah,ai,ae,af,ar,ao,ad, *]
    ·exact by simp(maxDischargeDepth:=12) [ab.get_put,aq,an,Fr.nil,aD,ah,ai,ae,af,ar,ao,ad, *]
    ·exact by simp(maxDischargeDepth:=12) [ab.get_put,aq,an,Fr.nil,aD,ah,ai,ae,af,ar,ao,ad, *]
  ·cases b1 with
   | true =>
    have hy:=hyes' (by simp)
    clear hno hyes'
    rcases h3 with ⟨rfl,h3⟩ | ⟨t,rfl,h3⟩
    ·rw[h3]at hy
     clear hel ho ht h3 nh
     simp[ah,ai,ae,af,ad, *,eZ,hax.r, -Eu, -BZ,e1]
     refine hy _ (.cM ⟨dep+1,30,H.gen (dep+1) 30,0⟩ 0 1 none) ?_ (.inr ⟨⟨rd,62,rg,rk⟩,by simp[hRl],?_⟩) ?_ (.inr ⟨⟨dep+1,30,H.gen (dep+1) 30,0⟩,rfl,?_⟩) (fun r hr=>by cases hr;rfl)
     ·exact by simp(maxDischargeDepth:=12) [ab.get_put,aq,an,Fr.nil,aD,ah,ai,ae,af,ar,ao,ad, *]
     ·exact by simp(maxDischargeDepth:=12) [ab.get_put,aq,an,Fr.nil,aD,ah,ai,ae,af,ar,ao,ad, *]
     ·exact by simp(maxDischargeDepth:=12) [ab.get_put,aq,an,Fr.nil,aD,ah,ai,ae,af,ar,ao,ad, *]
     ·exact by simp(maxDischargeDepth:=12) [ab.get_put,aq,an,Fr.nil,aD,ah,ai,ae,af,ar,ao,ad, *]
    ·have e30:=ht t rfl
     clear ht
     obtain⟨td,tt,tg,tk⟩:=t
     simp only at e30
     subst e30
     have f6:mN 24 160 nh true none (some ⟨24,eo,true,false⟩) (some [.agg [a8 k1,aI u,a8 bh,a8 aQ,aG aP,a8 aW,aI aY,a8 bc,aG ba,a8 bf,aI bg,aI au,a8 az,aG ay,a8 ax,aI aw,a8 aC,aG aA,x,aI c,aI g1,a8 v,aG w,aB o]]):=by
      simp;omega
     have l8:(H.get ⟨td,30,tg,tk⟩).isSome=true:=by rw[h3];rfl
     have n1:(⟨td,30,tg,tk⟩:Ref)≠q:=fun e=>hqt.1 (by rw[←e])
     have n1':=n1.symm
     clear hqt
     simp[ah,ai,ae,af,ad, *,eZ,hax.r, -Eu, -BZ,e1]
     refine hy _ (.cM ⟨td,30,H.gen td 30,0⟩ 0 (nh+1) none) ?_ (.inr ⟨⟨rd,62,rg,rk⟩,by simp[hRl],?_⟩) ?_ (.inr ⟨⟨td,30,H.gen td 30,0⟩,by simp[hel],?_⟩) (fun r hr=>by cases hr;rfl)
     ·exact by simp(maxDischargeDepth:=12) [ab.get_put,aq,an,Fr.nil,aD,ah,ai,ae,af,ar,ao,ad, *]
     ·exact by simp(maxDischargeDepth:=12) [ab.get_put,aq,an,Fr.nil,aD,ah,ai,ae,af,ar,ao,ad, *]
     ·exact by simp(maxDischargeDepth:=12) [ab.get_put,aq,an,Fr.nil,aD,ah,ai,ae,af,ar,ao,ad, *]
     ·exact by simp(maxDischargeDepth:=12) [ab.get_put,aq,an,Fr.nil,aD,ah,ai,ae,af,ar,ao,ad, *]
   | false =>
    have hn:=hno (by simp[e1])
    clear hno hyes'
    have h3':=fun H' (g:cE H H')=>Own.grow h3 g
    have hgg : ∀b1:bN,cE H ((⟨dep+1,6,H.gen (dep+1) 6,0⟩,some b1) :: H):=fun b1=>cE.cons hF _ _ _
    clear h3 ht
    simp[ah,ai,ae,af,ad, *,eZ,hax.r, -Eu, -BZ,e1]
    refine hn _ (hgg _).fr (.inr ⟨⟨rd,62,rg,rk⟩,by simp[hRl],(hgg _).old _ _ hr0⟩) ((hgg _).old _ _ hq) (h3' _ (hgg _))
end
section
variable{xu xq:AV}{us:List Clear}{qs:List bu}{gr:Int}(hu:Sl 3 (eW us) xu)(hq:Sl 5 (eY qs) xq)(hul:us.length<1000000)(hql:qs.length<1000000){l:List (gA × AV)}{x1:AV}(hx:Sl 24 (bU l) x1)(hall : ∀p∈l,uJ p)
include hu hq hul hql hx hall
def Hd(us:List Clear)(qs:List bu)(gr:Int)(l:List (gA × AV))(v1:UInt8)(v2:UInt32)(y:AV):Prop:=match yE us qs gr l with
 | none=>y = .tup [cP,aI 8]
 | some b=>if v1≤15 then ∃x,Sl 24 (bU ((l.map uI).filter (cN ⟨v1,v2⟩))) x∧y = .tup [x,aI 0] else y = .tup [cP,aI 8]
theorem QG{b:fF}(h:yE us qs gr l=some b):l.length≤2048:=by
 unfold yE at h
 split at h
 ·rename_i h2;exact h2.2
 ·cases h
theorem LN(hl:l.length≤2048)(dep:Nat){H:ab}(hF:Fr H){rb rs ru:Ref}{xh xr:AV}{b:fF}(hb:jr H rb rs ru xh xr us qs gr b)(hr:Own 24 (bU (l.map uI)) H xr)(hxt : ∀r,xr.at?=some r→r.t=62){q:Ref}(hqt:q.t≠30∧q.t≠6)(v1:UInt8)(v2:UInt32)(h:H.get q=some ⟨2,[.agg [a8 v1,aG v2]],false,false⟩) :
 ∃y H',bV env dep (.fn 34) [.ptr rb 0 0,.ptr q 0 0] H=some (y,H') ∧∃x',y = .tup [x',aI 0]∧Own 24 (bU ((l.map uI).filter (cN ⟨v1,v2⟩))) H' x':=by
 refine my (fn:=Tryz.f34) (c:=oU) (Q:=fun y H' =>∃x',y = .tup [x',aI 0]∧Own 24 (bU ((l.map uI).filter (cN ⟨v1,v2⟩))) H' x') (by kernel_rfl) (by kernel_rfl) (by kernel_rfl) (by kernel_rfl) (by kernel_rfl) ?_
 refine zF _ _ _ _ _ fun g=>?_
 have hlp:=LM (recs:=l.map uI) (by simpa using hl) (fun p hp=>by
  obtain⟨p0,h0,rfl⟩:=List.mem_map.1 hp
  have:=hall p0 h0
  exact⟨yf this.1,this.2⟩) (dep:=dep) hqt hxt v1 v2 (Q:=fun y H' =>∃x',y = .tup [x',aI 0]∧Own 24 (bU ((l.map uI).filter (cN ⟨v1,v2⟩))) H' x') (l.map uI) 0 [] H cP rfl (by omega) (by simp) hF hr h (.inl ⟨rfl,rfl⟩) (fun r hr=>by cases hr) (fun H' x' _ h6=>⟨x',rfl,h6⟩)
 obtain⟨xu',xq',yu,yq,wu,wq,h1,_⟩:=hb.box
 have c9:=hb.one
 have hrl:=Own.len hr
 rw[kW,List.length_map]at hrl
 rw[List.length_map]at hlp
 clear hx hall hb hr
 simp[ah,ai,ae,af,ad, *,ta]
 exact hlp
theorem I3(v1:UInt8)(v2:UInt32) : ∃y,bj env 21 [.agg [xu,xq,aI gr],x1,.agg [a8 v1,aG v2]]=some y∧Hd us qs gr l v1 v2 y:=by
 refine Cu (fn:=Tryz.f21) (c:=vH) (by kernel_rfl) (by kernel_rfl) (by kernel_rfl) (by kernel_rfl) (by kernel_rfl) ?_
 refine BE _ _ _ _ _ fun g=>?_
 have hF0:Fr [(⟨0,5,0,0⟩,some ⟨2,[.agg [a8 v1,aG v2]],false,false⟩),(⟨0,3,0,0⟩,some ⟨3,[.agg [xu,xq,aI gr]],false,false⟩)]:=by simp(maxDischargeDepth:=12) [ab.get_put,aq,an,Fr.nil,aD,ah,ai,ae,af,ar,ao,ad, *]
 have hC:=Nr v1 v2
 obtain⟨y,H2,hO,hA⟩:=Mo (gr:=gr) hu hq hul hql hx hall 0 hF0 (bad (decide (v1≤15))) (fd:=34) (by kernel_rfl) (caps:=[.ptr ⟨0,5,0,0⟩ 0 0])
  (R:=fun b y H =>∃x',y = .tup [x',aI 0]∧Own 24 (bU ((l.map uI).filter (cN ⟨v1,v2⟩))) H x') (fun hw b H2 rb rs ru xh xr ho hG hb hr hrt hok=>by
   obtain⟨y,H3,h1,x',rfl,h2⟩:=LN (gr:=gr) hu hq hul hql hx hall (QG hu hq hul hql hx hall ho) 1 hG.fr hb hr hrt (q:=⟨0,5,0,0⟩) ⟨by simp,by simp⟩ v1 v2 (hG.old ⟨0,5,0,0⟩ _ (by simp))
   exact⟨_,_,H3,h1,x',rfl,h2⟩)
 simp[ah,ai,ae,af,ad, *,vP,hu.r,hq.r, -Lo]
 refine BO (by kernel_rfl) hO ?_
 unfold Gd at hA
 unfold Hd
 cases ho:yE us qs gr l with
 | none=>rw[ho]at hA;subst hA;simp
 | some b =>
  rw[ho]at hA
  dsimp only at hA ⊢
  by_cases hv:v1≤15
  ·simp only[hv,decide_true,bad,if_true]at hA
   obtain⟨x',rfl,h⟩:=hA
   generalize (l.map uI).filter (cN ⟨v1,v2⟩)=rr at *
   rcases h with ⟨rfl,h⟩ | ⟨r,rfl,h⟩
   ·simp[hv,h]
    done
   ·have hl:=kW rr
    generalize bU rr=er at *
    simp[h,hv]
    done
  ·simp only[hv,decide_false,bad]at hA
   simp at hA
   subst hA
   simp[hv]
   done
end
end Go.Proofs.YtdbiffjdomokfaaGreat
