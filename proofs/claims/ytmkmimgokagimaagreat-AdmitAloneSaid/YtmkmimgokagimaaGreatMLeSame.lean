/-
  A log up to a label. No statement of a seat is proved here.
-/
import Derived.Test.YtmkmimgokagimaaGreatMLeAsk
import Derived.Test.YtmkmimgokagimaaGreatMLeTwin
set_option linter.unusedVariables false
set_option linter.unusedSimpArgs false
set_option linter.unusedSectionVars false
set_option linter.unnecessarySimpa false
set_option maxRecDepth 100000
namespace Go.Proofs.YtmkmimgokagimaaGreat
open Go.Ab
attribute [local simp] bJ bw bt bG bF cL kN bX bx bD cR cQ cr bY bh ct List.take_of_length_le
theorem Ft{E:Env}{f:FuncId}{fn:Func}{c:Code}{args:List AV}{R:AV→Prop}(hsp:E.spec f args=none)(hal:E.allowed f=true)(hf:E.P.funcs[f]?=some fn)(hc:fn.body=some c)(hl:Nat.ble args.length fn.ntmps=true)
 (h:b7 E fn 0 [.code c] (pM 0 args) [] fun x H =>∃y,rW E f x H y∧R y) : ∃y,bj E f args=some y∧R y:=by
 obtain⟨x,H,⟨y,hQ,hR⟩,n,hn⟩:=h.h (fun _=>AV.undef) args fun i=>(E7 args i).symm
 refine⟨y,wB.2 ⟨n,fun m hm=>?_⟩,hR⟩
 obtain⟨st,h1,h2,h3⟩:=hn m hm
 subst h3
 unfold bB
 rw[hsp]
 unfold sd
 simp only[hal,if_true,hf,hc,if_pos (Nat.le_of_ble_eq_true hl),h1,h2,Option.map_some]
 unfold rW at hQ
 split
 ·rename_i h1
  rw[if_pos h1]at hQ
  rw[if_pos hQ.1]
  exact hQ.2
 ·rename_i h1
  rw[if_neg h1]at hQ
  exact hQ
def gA(v:jS)(p:fY × AV):Bool:=decide (p.1.kind=3)||nd ⟨p.1.op.h.lv,p.1.op.h.cats⟩ v
section
variable{recs:List (fY × AV)}(hrl:recs.length≤2048)(hok : ∀p∈recs,oK p){dep:Nat}{q:Ref}(hqt:q.t≠30∧q.t≠6){xr:AV}(hxt : ∀r,xr.at?=some r→r.t=62)(v1:UInt8)(v2:UInt32){Q:AV→ad→Prop}
include hrl hok hqt hxt
theorem OJ : ∀(s:List (fY × AV)) (k:Nat) (outs:List (fY × AV)) (H:ad) (x3:AV),recs.drop k=s→k≤recs.length→outs.length≤k→Fr H→sO 24 (cW recs) H xr→H.get q=some ⟨2,[.agg [a8 v1,aF v2]],false,false⟩→sO 24 (cW outs) H x3→(∀r,x3.at?=some r→r.t=30) →
 (∀H' x',Fr H'→sO 24 (cW (outs++s.filter (gA ⟨v1,v2⟩))) H' x'→Q (.tup [x',aI 0]) H')→b7 env Tryz.f77 (dep+1) iW [(12,aI k),(3,x3),(1,.ptr q 0 0),(10,xr),(11,aI recs.length)] H Q:=by
 intro s
 induction s with
 | nil =>
  rintro k outs H x3 hs hk ho hF hr hq h3 ht hQ
  obtain rfl:=drop_nil hs hk
  have hfin:=hQ H x3 hF (by simpa using h3)
  refine rK _ _ _ _ _ _ _ _ fun g=>?_
  clear hQ hr h3 hok
  simp[ah,ai,ae,af,ab, *,fh]
  all_goals exact hfin
 | cons p s ih =>
  rintro k outs H x3 hs hk ho hF hr hq h3 ht hQ
  obtain⟨hlt,hg,hs',hg'⟩:=drop_cons hs
  have hp:=hok p (hg ▸ List.getElem_mem hlt)
  have e3:=IntWalk.i64_in ((k:Int)+1) (by omega)
  have hlt':(k:Int)<recs.length:=by omega
  obtain⟨r,rfl,hr⟩ : ∃r,xr = .cP r 0 recs.length none∧H.get r=some ⟨24,cW recs,true,false⟩:=by
   rcases hr with ⟨rfl,h⟩ | ⟨r,rfl,h⟩
   ·have:=congrArg List.length h;simp at this;subst this;simp at hlt
   ·exact⟨r,by simp,h⟩
  have hel:=p4 outs
  have heo:cW (outs++[p])=cW outs++[p.1.val p.2]:=by simp[cW]
  have hyes:=fun(h:gA ⟨v1,v2⟩ p=true) H' x'=>ih (k+1) (outs++[p]) H' x' hs' (by omega) (by simp;omega)
  have hno:=fun(h:gA ⟨v1,v2⟩ p=false) H' h1 h2 h3 h4=>ih (k+1) outs H' x3 hs' (by omega) (by omega) h1 h2 h3 h4 ht (fun H' x' h5 h6=>hQ H' x' h5 (by rw[List.filter_cons,h];exact h6))
  have hQ':=fun(h:gA ⟨v1,v2⟩ p=true) H' x' h5 (h6:sO 24 (cW (outs++[p]++s.filter (gA ⟨v1,v2⟩))) H' x')=>hQ H' x' h5 (by rw[List.filter_cons,if_pos h];simpa using h6)
  have hyes':=fun(h:gA ⟨v1,v2⟩ p=true) H' x' h1 h2 h3 h4 h5=>hyes h H' x' h1 h2 h3 h4 h5 (hQ' h)
  rw[heo]at hyes'
  clear hyes hQ' hQ ih heo
  obtain⟨⟨k1,u,⟨ba,⟨aO,aN,aT⟩,aV,⟨⟨⟨aX,aW,aY⟩,aZ⟩,an⟩,⟨⟨ay,ax,aw⟩,au⟩,⟨aA,az⟩,al⟩,c,g1,v,w,o⟩,x⟩:=p
  obtain⟨hax,hal⟩:=hp
  simp only at hax hal
  have hrd:eQ (cW recs) k 0 24 true=some (.agg [a8 k1,aI u,a8 ba,a8 aO,aF aN,a8 aT,aI aV,a8 aX,aF aW,a8 aY,aI aZ,aI an,a8 ay,aF ax,a8 aw,aI au,a8 aA,aF az,x,aI c,aI g1,a8 v,aF w,aB o]):=by simp[cW,hg',fY.val]
  have e62:=hxt r rfl
  obtain⟨rd,rt,rg,rk⟩:=r
  simp only at e62
  subst e62
  rename_i hr0
  have lr:(H.get ⟨rd,62,rg,rk⟩).isSome=true:=by rw[hr0];rfl
  have lq:(H.get q).isSome=true:=by rw[hq];rfl
  have hLq:=Hu aO aN v1 v2
  have hoB:gA ⟨v1,v2⟩ (⟨k1,u,(⟨ba,⟨aO,aN,aT⟩,aV,⟨⟨⟨aX,aW,aY⟩,aZ⟩,an⟩,⟨⟨ay,ax,aw⟩,au⟩,⟨aA,az⟩,al⟩:bz),c,g1,v,w,o⟩,x)=(decide (k1=3)||nd ⟨aO,aN⟩ ⟨v1,v2⟩):=rfl
  rw[hoB]at hyes' hno
  generalize nd ⟨aO,aN⟩ ⟨v1,v2⟩=b1 at *
  have hRl:(cW recs).length=recs.length:=p4 recs
  clear hr hs hs' hg hg' hok hxt hoB
  simp only[fY.val]at hyes'
  generalize cW recs=er at *
  generalize recs.length=nr at *
  generalize cW outs=eo at *
  generalize outs.length=nh at *
  refine rK _ _ _ _ _ _ _ _ fun g=>?_
  by_cases e1:k1=3
  ·subst e1
   have hy:=hyes' (by simp)
   clear hno hyes'
   rcases h3 with ⟨rfl,h3⟩ | ⟨t,rfl,h3⟩
   ·rw[h3]at hy
    clear hel ho ht h3 nh
    simp[ah,ai,ae,af,ab, *,fh,hax.r, -Hu, -EU]
    refine hy _ (.cP ⟨dep+1,30,H.gen (dep+1) 30,0⟩ 0 1 none) ?_ (.inr ⟨⟨rd,62,rg,rk⟩,by simp[hRl],?_⟩) ?_ (.inr ⟨⟨dep+1,30,H.gen (dep+1) 30,0⟩,rfl,?_⟩) (fun r hr=>by cases hr;rfl)
    ·exact by simp(maxDischargeDepth:=12) [ad.ao,aD,aq,Fr.nil,aJ,ah,ai,ae,af,aC,ar,ab, *]
    ·exact by simp(maxDischargeDepth:=12) [ad.ao,aD,aq,Fr.nil,aJ,ah,ai,ae,af,aC,ar,ab, *]
    ·exact by simp(maxDischargeDepth:=12) [ad.ao,aD,aq,Fr.nil,aJ,ah,ai,ae,af,aC,ar,ab, *]
    ·exact by simp(maxDischargeDepth:=12) [ad.ao,aD,aq,Fr.nil,aJ,ah,ai,ae,af,aC,ar,ab, *]
   ·have e30:=ht t rfl
    clear ht
    obtain⟨td,tt,tg,tk⟩:=t
    simp only at e30
    subst e30
    have f6:pr 24 160 nh true none (some ⟨24,eo,true,false⟩) (some [.agg [a8 3,aI u,a8 ba,a8 aO,aF aN,a8 aT,aI aV,a8 aX,aF aW,a8 aY,aI aZ,aI an,a8 ay,aF ax,a8 aw,aI au,a8 aA,aF az,x,aI c,aI g1,a8 v,aF w,aB o]]):=by
     simp;omega
    have l8:(H.get ⟨td,30,tg,tk⟩).isSome=true:=by rw[h3];rfl
    have n1:(⟨td,30,tg,tk⟩:Ref)≠q:=fun e=>hqt.1 (by rw[←e])
    have n1':=n1.symm
    clear hqt
    simp[ah,ai,ae,af,ab, *,fh,hax.r, -Hu, -EU]
    refine hy _ (.cP ⟨td,30,H.gen td 30,0⟩ 0 (nh+1) none) ?_ (.inr ⟨⟨rd,62,rg,rk⟩,by simp[hRl],?_⟩) ?_ (.inr ⟨⟨td,30,H.gen td 30,0⟩,by simp[hel],?_⟩) (fun r hr=>by cases hr;rfl)
    ·exact by simp(maxDischargeDepth:=12) [ad.ao,aD,aq,Fr.nil,aJ,ah,ai,ae,af,aC,ar,ab, *]
    ·exact by simp(maxDischargeDepth:=12) [ad.ao,aD,aq,Fr.nil,aJ,ah,ai,ae,af,aC,ar,ab, *]
    ·exact by simp(maxDischargeDepth:=12) [ad.ao,aD,aq,Fr.nil,aJ,ah,ai,ae,af,aC,ar,ab, *]
    ·exact by simp(maxDischargeDepth:=12) [ad.ao,aD,aq,Fr.nil,aJ,ah,ai,ae,af,aC,ar,ab, *]
  ·cases b1 with
   | true =>
    have hy:=hyes' (by simp)
    clear hno hyes'
    rcases h3 with ⟨rfl,h3⟩ | ⟨t,rfl,h3⟩
    ·rw[h3]at hy
     clear hel ho ht h3 nh
     simp[ah,ai,ae,af,ab, *,fh,hax.r, -Hu, -EU,e1]
     refine hy _ (.cP ⟨dep+1,30,H.gen (dep+1) 30,0⟩ 0 1 none) ?_ (.inr ⟨⟨rd,62,rg,rk⟩,by simp[hRl],?_⟩) ?_ (.inr ⟨⟨dep+1,30,H.gen (dep+1) 30,0⟩,rfl,?_⟩) (fun r hr=>by cases hr;rfl)
     ·exact by simp(maxDischargeDepth:=12) [ad.ao,aD,aq,Fr.nil,aJ,ah,ai,ae,af,aC,ar,ab, *]
     ·exact by simp(maxDischargeDepth:=12) [ad.ao,aD,aq,Fr.nil,aJ,ah,ai,ae,af,aC,ar,ab, *]
     ·exact by simp(maxDischargeDepth:=12) [ad.ao,aD,aq,Fr.nil,aJ,ah,ai,ae,af,aC,ar,ab, *]
     ·exact by simp(maxDischargeDepth:=12) [ad.ao,aD,aq,Fr.nil,aJ,ah,ai,ae,af,aC,ar,ab, *]
    ·have e30:=ht t rfl
     clear ht
     obtain⟨td,tt,tg,tk⟩:=t
     simp only at e30
     subst e30
     have f6:pr 24 160 nh true none (some ⟨24,eo,true,false⟩) (some [.agg [a8 k1,aI u,a8 ba,a8 aO,aF aN,a8 aT,aI aV,a8 aX,aF aW,a8 aY,aI aZ,aI an,a8 ay,aF ax,a8 aw,aI au,a8 aA,aF az,x,aI c,aI g1,a8 v,aF w,aB o]]):=by
      simp;omega
     have l8:(H.get ⟨td,30,tg,tk⟩).isSome=true:=by rw[h3];rfl
     have n1:(⟨td,30,tg,tk⟩:Ref)≠q:=fun e=>hqt.1 (by rw[←e])
     have n1':=n1.symm
     clear hqt
     simp[ah,ai,ae,af,ab, *,fh,hax.r, -Hu, -EU,e1]
     refine hy _ (.cP ⟨td,30,H.gen td 30,0⟩ 0 (nh+1) none) ?_ (.inr ⟨⟨rd,62,rg,rk⟩,by simp[hRl],?_⟩) ?_ (.inr ⟨⟨td,30,H.gen td 30,0⟩,by simp[hel],?_⟩) (fun r hr=>by cases hr;rfl)
     ·exact by simp(maxDischargeDepth:=12) [ad.ao,aD,aq,Fr.nil,aJ,ah,ai,ae,af,aC,ar,ab, *]
     ·exact by simp(maxDischargeDepth:=12) [ad.ao,aD,aq,Fr.nil,aJ,ah,ai,ae,af,aC,ar,ab, *]
     ·exact by simp(maxDischargeDepth:=12) [ad.ao,aD,aq,Fr.nil,aJ,ah,ai,ae,af,aC,ar,ab, *]
     ·exact by simp(maxDischargeDepth:=12) [ad.ao,aD,aq,Fr.nil,aJ,ah,ai,ae,af,aC,ar,ab, *]
   | false =>
    have hn:=hno (by simp[e1])
    clear hno hyes'
    have h3':=fun H' (g:bQ H H')=>sO.grow h3 g
    have hgg : ∀b1:bP,bQ H ((⟨dep+1,6,H.gen (dep+1) 6,0⟩,some b1) :: H):=fun b1=>bQ.cons hF _ _ _
    clear h3 ht
    simp[ah,ai,ae,af,ab, *,fh,hax.r, -Hu, -EU,e1]
    refine hn _ (hgg _).fr (.inr ⟨⟨rd,62,rg,rk⟩,by simp[hRl],(hgg _).old _ _ hr0⟩) ((hgg _).old _ _ hq) (h3' _ (hgg _))
end
section
variable{xu xq:AV}{us:List Clear}{qs:List bn}{gr:Int}(hu:Sl 3 (ed us) xu)(hq:Sl 5 (ef qs) xq)(hul:us.length<1000000)(hql:qs.length<1000000){l:List (fY × AV)}{x1:AV}(hx:Sl 24 (cW l) x1)(hall : ∀p∈l,oK p)
include hu hq hul hql hx hall
def QX(us:List Clear)(qs:List bn)(gr:Int)(l:List (fY × AV))(v1:UInt8)(v2:UInt32)(y:AV):Prop:=match nR us qs gr l with
 | none=>y = .tup [cp,aI 8]
 | some b=>if v1≤15 then ∃x,Sl 24 (cW ((l.map xL).filter (gA ⟨v1,v2⟩))) x∧y = .tup [x,aI 0] else y = .tup [cp,aI 8]
theorem Tp{b:ep}(h:nR us qs gr l=some b):l.length≤2048:=by
 unfold nR at h
 split at h
 ·rename_i h2;exact h2.2
 ·cases h
theorem OK(hl:l.length≤2048)(dep:Nat){H:ad}(hF:Fr H){rb rs ru:Ref}{xh xr:AV}{b:ep}(hb:fM H rb rs ru xh xr us qs gr b)(hr:sO 24 (cW (l.map xL)) H xr)(hxt : ∀r,xr.at?=some r→r.t=62){q:Ref}(hqt:q.t≠30∧q.t≠6)(v1:UInt8)(v2:UInt32)(h:H.get q=some ⟨2,[.agg [a8 v1,aF v2]],false,false⟩) :
 ∃y H',bO env dep (.fn 77) [.ptr rb 0 0,.ptr q 0 0] H=some (y,H') ∧∃x',y = .tup [x',aI 0]∧sO 24 (cW ((l.map xL).filter (gA ⟨v1,v2⟩))) H' x':=by
 refine iT (fn:=Tryz.f77) (c:=p9) (Q:=fun y H' =>∃x',y = .tup [x',aI 0]∧sO 24 (cW ((l.map xL).filter (gA ⟨v1,v2⟩))) H' x') (by kernel_rfl) (by kernel_rfl) (by kernel_rfl) (by kernel_rfl) (by kernel_rfl) ?_
 refine Ch _ _ _ _ _ fun g=>?_
 have hlp:=OJ (recs:=l.map xL) (by simpa using hl) (fun p hp=>by
  obtain⟨p0,h0,rfl⟩:=List.mem_map.1 hp
  have:=hall p0 h0
  exact⟨AQ this.1,this.2⟩) (dep:=dep) hqt hxt v1 v2 (Q:=fun y H' =>∃x',y = .tup [x',aI 0]∧sO 24 (cW ((l.map xL).filter (gA ⟨v1,v2⟩))) H' x') (l.map xL) 0 [] H cp rfl (by omega) (by simp) hF hr h (.inl ⟨rfl,rfl⟩) (fun r hr=>by cases hr) (fun H' x' _ h6=>⟨x',rfl,h6⟩)
 obtain⟨xu',xq',yu,yq,wu,wq,h1,_⟩:=hb.box
 have c9:=hb.one
 have hrl:=sO.len hr
 rw[p4,List.length_map]at hrl
 rw[List.length_map]at hlp
 clear hx hall hb hr
 simp[ah,ai,ae,af,ab, *,vY]
 exact hlp
theorem VL(v1:UInt8)(v2:UInt32) : ∃y,bj env 19 [.agg [xu,xq,aI gr],x1,.agg [a8 v1,aF v2]]=some y∧QX us qs gr l v1 v2 y:=by
 refine Ft (fn:=Tryz.f19) (c:=yw) (by kernel_rfl) (by kernel_rfl) (by kernel_rfl) (by kernel_rfl) (by kernel_rfl) ?_
 refine EA _ _ _ _ _ fun g=>?_
 have hF0:Fr [(⟨0,5,0,0⟩,some ⟨2,[.agg [a8 v1,aF v2]],false,false⟩),(⟨0,3,0,0⟩,some ⟨3,[.agg [xu,xq,aI gr]],false,false⟩)]:=by simp(maxDischargeDepth:=12) [ad.ao,aD,aq,Fr.nil,aJ,ah,ai,ae,af,aC,ar,ab, *]
 have hC:=JL v1 v2
 obtain⟨y,H2,hO,hA⟩:=Pp (gr:=gr) hu hq hul hql hx hall 0 hF0 (bad (decide (v1≤15))) (fd:=77) (by kernel_rfl) (caps:=[.ptr ⟨0,5,0,0⟩ 0 0])
  (R:=fun b y H =>∃x',y = .tup [x',aI 0]∧sO 24 (cW ((l.map xL).filter (gA ⟨v1,v2⟩))) H x') (fun hw b H2 rb rs ru xh xr ho hG hb hr hrt hok=>by
   obtain⟨y,H3,h1,x',rfl,h2⟩:=OK (gr:=gr) hu hq hul hql hx hall (Tp hu hq hul hql hx hall ho) 1 hG.fr hb hr hrt (q:=⟨0,5,0,0⟩) ⟨by simp,by simp⟩ v1 v2 (hG.old ⟨0,5,0,0⟩ _ (by simp))
   exact⟨_,_,H3,h1,x',rfl,h2⟩)
 simp[ah,ai,ae,af,ab, *,yH,hu.r,hq.r, -Oh]
 refine qy (by kernel_rfl) hO ?_
 unfold jT at hA
 unfold QX
 cases ho:nR us qs gr l with
 | none=>rw[ho]at hA;subst hA;simp
 | some b =>
  rw[ho]at hA
  dsimp only at hA ⊢
  by_cases hv:v1≤15
  ·simp only[hv,decide_true,bad,if_true]at hA
   obtain⟨x',rfl,h⟩:=hA
   generalize (l.map xL).filter (gA ⟨v1,v2⟩)=rr at *
   rcases h with ⟨rfl,h⟩ | ⟨r,rfl,h⟩
   ·simp[hv,h]
    done
   ·have hl:=p4 rr
    generalize cW rr=er at *
    simp[h,hv]
    done
  ·simp only[hv,decide_false,bad]at hA
   simp at hA
   subst hA
   simp[hv]
   done
end
end Go.Proofs.YtmkmimgokagimaaGreat
namespace Go.Proofs.YtmkmimgokagimaaGreat
open Go.Ab
attribute [local simp] bJ bw bt bG bF cL kN bX bx bD cR cQ cr bY bh ct List.take_of_length_le
theorem VK(ba:UInt8)(aO:UInt8)(aN:UInt32)(aT:UInt8)(aV:Int)(aX:UInt8)(aW:UInt32)(aY:UInt8)(aZ:Int)(an:Int)(ay:UInt8)(ax:UInt32)(aw:UInt8)(au:Int)(aA:UInt8)(az:UInt32)(kg:UInt8)(kf:UInt8)(kM:UInt32)(iE:UInt8)(Gp:Int)(Gn:UInt8)(Gm:UInt32)(Gl:UInt8)(Gk:Int)(tf:Int)(ta:UInt8)(s9:UInt32)(s8:UInt8)(s7:Int)(sZ:UInt8)(sY:UInt32){x y:AV}{l m:List Int}(hx:Sl 1 (rows l) x)(hy:Sl 1 (rows m) y)(hl:l.length<1000000000)(hm:m.length<1000000000):bj env 62 [.agg [a8 ba,a8 aO,aF aN,a8 aT,aI aV,a8 aX,aF aW,a8 aY,aI aZ,aI an,a8 ay,aF ax,a8 aw,aI au,a8 aA,aF az,x],.agg [a8 kg,a8 kf,aF kM,a8 iE,aI Gp,a8 Gn,aF Gm,a8 Gl,aI Gk,aI tf,a8 ta,aF s9,a8 s8,aI s7,a8 sZ,aF sY,y]]=some (aB (C6 (⟨ba,⟨aO,aN,aT⟩,aV,⟨⟨⟨aX,aW,aY⟩,aZ⟩,an⟩,⟨⟨ay,ax,aw⟩,au⟩,⟨aA,az⟩,l⟩:bz) (⟨kg,⟨kf,kM,iE⟩,Gp,⟨⟨⟨Gn,Gm,Gl⟩,Gk⟩,tf⟩,⟨⟨ta,s9,s8⟩,s7⟩,⟨sZ,sY⟩,m⟩:bz))):=by
 refine aG (fn:=Tryz.f62) (c:=oC) rfl (by kernel_rfl) (by kernel_rfl) (by kernel_rfl) (by kernel_rfl) ?_;refine vc _ _ _ _ fun g=>?_
 have hq:=Qh hx hy (by omega)
 have hr:=hx.r
 have hr2:=hy.r
 unfold C6
 cases c1:decide (ba=kg) with
 | false=>simp[ah,ai,ae,af,ab, *,cY,ke,eE]
 | true =>
 cases c2:(decide (aO=kf)&&decide (aN=kM)&&decide (aT=iE)) with
 | false=>simp[ah,ai,ae,af,ab, *,cY,ke,eE]
 | true =>
 cases c3:decide (aV=Gp) with
 | false=>simp[ah,ai,ae,af,ab, *,cY,ke,eE]
 | true =>
 cases c4:(decide (aX=Gn)&&decide (aW=Gm)&&decide (aY=Gl)&&decide (aZ=Gk)&&decide (an=tf)) with
 | false=>simp[ah,ai,ae,af,ab, *,cY,ke,eE]
 | true =>
 cases c5:(decide (ay=ta)&&decide (ax=s9)&&decide (aw=s8)&&decide (au=s7)) with
 | false=>simp[ah,ai,ae,af,ab, *,cY,ke,eE]
 | true =>
 cases c6:(decide (aA=sZ)&&decide (az=sY)) with
 | false=>simp[ah,ai,ae,af,ab, *,cY,ke,eE]
 | true=>simp[ah,ai,ae,af,ab, *,cY,ke,eE]
theorem SU(k1 k2:UInt8)(u1 u2:Int)(ba:UInt8)(aO:UInt8)(aN:UInt32)(aT:UInt8)(aV:Int)(aX:UInt8)(aW:UInt32)(aY:UInt8)(aZ:Int)(an:Int)(ay:UInt8)(ax:UInt32)(aw:UInt8)(au:Int)(aA:UInt8)(az:UInt32)(kg:UInt8)(kf:UInt8)(kM:UInt32)(iE:UInt8)(Gp:Int)(Gn:UInt8)(Gm:UInt32)(Gl:UInt8)(Gk:Int)(tf:Int)(ta:UInt8)(s9:UInt32)(s8:UInt8)(s7:Int)(sZ:UInt8)(sY:UInt32)(c1 c2 g1 g2:Int)(v1 v2:UInt8)(w1 w2:UInt32)(o1 o2:Bool){x y:AV}{l m:List Int}(hx:Sl 1 (rows l) x)(hy:Sl 1 (rows m) y)(hl:l.length<1000000000)(hm:m.length<1000000000) :
 bj env 80 [.agg [a8 k1,aI u1,a8 ba,a8 aO,aF aN,a8 aT,aI aV,a8 aX,aF aW,a8 aY,aI aZ,aI an,a8 ay,aF ax,a8 aw,aI au,a8 aA,aF az,x,aI c1,aI g1,a8 v1,aF w1,aB o1],.agg [a8 k2,aI u2,a8 kg,a8 kf,aF kM,a8 iE,aI Gp,a8 Gn,aF Gm,a8 Gl,aI Gk,aI tf,a8 ta,aF s9,a8 s8,aI s7,a8 sZ,aF sY,y,aI c2,aI g2,a8 v2,aF w2,aB o2]] =
  some (aB (qO ⟨k1,u1,(⟨ba,⟨aO,aN,aT⟩,aV,⟨⟨⟨aX,aW,aY⟩,aZ⟩,an⟩,⟨⟨ay,ax,aw⟩,au⟩,⟨aA,az⟩,l⟩:bz),c1,g1,v1,w1,o1⟩ ⟨k2,u2,(⟨kg,⟨kf,kM,iE⟩,Gp,⟨⟨⟨Gn,Gm,Gl⟩,Gk⟩,tf⟩,⟨⟨ta,s9,s8⟩,s7⟩,⟨sZ,sY⟩,m⟩:bz),c2,g2,v2,w2,o2⟩)):=by
 refine aG (fn:=Tryz.f80) (c:=oB) rfl (by kernel_rfl) (by kernel_rfl) (by kernel_rfl) (by kernel_rfl) ?_;refine u9 _ _ _ _ fun g=>?_
 have hq:=VK ba aO aN aT aV aX aW aY aZ an ay ax aw au aA az kg kf kM iE Gp Gn Gm Gl Gk tf ta s9 s8 s7 sZ sY hx hy hl hm
 have hr:=hx.r
 have hr2:=hy.r
 unfold qO
 cases e1:decide (k1=k2) with
 | false=>simp[ah,ai,ae,af,ab, *,eP,ke,eE]
 | true =>
 cases e2:decide (u1=u2) with
 | false=>simp[ah,ai,ae,af,ab, *,eP,ke,eE]
 | true =>
 cases e3:C6 (⟨ba,⟨aO,aN,aT⟩,aV,⟨⟨⟨aX,aW,aY⟩,aZ⟩,an⟩,⟨⟨ay,ax,aw⟩,au⟩,⟨aA,az⟩,l⟩:bz) (⟨kg,⟨kf,kM,iE⟩,Gp,⟨⟨⟨Gn,Gm,Gl⟩,Gk⟩,tf⟩,⟨⟨ta,s9,s8⟩,s7⟩,⟨sZ,sY⟩,m⟩:bz) with
 | false=>simp[ah,ai,ae,af,ab, *,eP,ke,eE]
 | true =>
 cases e4:decide (c1=c2) with
 | false=>simp[ah,ai,ae,af,ab, *,eP,ke,eE]
 | true=>simp[ah,ai,ae,af,ab, *,eP,ke,eE]
theorem LM(a:fY):qO a a=true:=by simp[qO,C6]
def AY(l:List (fY × AV)):List fY:=l.map (·.1)
@[simp] theorem acF(l:List (fY × AV)):(AY l).length=l.length:=by simp[AY]
theorem aaj{p q:fY × AV}(hp:oK p)(hq:oK q):bj env 80 [p.1.val p.2,q.1.val q.2]=some (aB (qO p.1 q.1)):=by
 obtain⟨⟨k,u,⟨ba,⟨aO,aN,aT⟩,aV,⟨⟨⟨aX,aW,aY⟩,aZ⟩,an⟩,⟨⟨ay,ax,aw⟩,au⟩,⟨aA,az⟩,l⟩,c,g,v,w,o⟩,x⟩:=p
 obtain⟨⟨k',u',⟨kg,⟨kf,kM,iE⟩,Gp,⟨⟨⟨Gn,Gm,Gl⟩,Gk⟩,tf⟩,⟨⟨ta,s9,s8⟩,s7⟩,⟨sZ,sY⟩,m⟩,c',g',v',w',o'⟩,y⟩:=q
 exact SU k k' u u' ba aO aN aT aV aX aW aY aZ an ay ax aw au aA az kg kf kM iE Gp Gn Gm Gl Gk tf ta s9 s8 s7 sZ sY c c' g g' v v' w w' o o' hp.1 hq.1 (by have:=hp.2;simp at this;omega) (by have:=hq.2;simp at this;omega)
section
variable{l m:List (fY × AV)}{x y:AV}(hx:Sl 24 (cW l) x)(hy:Sl 24 (cW m) y)(hl : ∀p∈l,oK p)(hm : ∀p∈m,oK p)(hbig:l.length<1000000)
include hx hy hl hm hbig
end
section
variable{xu xq:AV}{us:List Clear}{qs:List bn}{gr:Int}(hu:Sl 3 (ed us) xu)(hq:Sl 5 (ef qs) xq){l:List (fY × AV)}{x:AV}(hx:Sl 24 (cW l) x)(hl : ∀p∈l,Sl 1 (rows p.1.op.l) p.2)(most:Int)
include hu hq hx hl
theorem Ms{q:Ref}{Q:AV→ad→Prop}{H:ad}(hr:H.get q=some ⟨3,[.agg [xu,xq,aI gr]],false,false⟩)(hQ : ∀t:Bool,(t=false→us.length≤100∧qs.length≤100∧(l.length:Int)≤most ∧∀p∈l.take 300,p.1.op.l.length≤300)→Q (aB t) H) :
 ∀(s:List (fY × AV)) (k:Nat) (i n:Int),l.drop k=s→k≤l.length→i=k→k≤300→0≤n→n≤1000 * k→(∀p∈l.take k,min (p.1.op.l.length:Int) 1000≤n) →
 b7 env Tryz.f13 0 eR [(8,aI i),(1,x),(7,aI n),(2,aI most),(3,.ptr q 0 0)] H Q:=by
 intro s
 have hG:=Qm gr hu hq
 have hend : ∀n:Int,(∀p∈l.take 300,min (p.1.op.l.length:Int) 1000≤n)→Q (aB (decide (100<(us.length:Int))||decide (100<(qs.length:Int))||decide (most<l.length)||decide (300<n))) H:=by
  intro n hn
  refine hQ _ fun h=>?_
  simp at h
  refine⟨by omega,by omega,by omega,fun p hp=>?_⟩
  have:=hn p hp
  omega
 generalize (decide (100<(us.length:Int))||decide (100<(qs.length:Int)))=gg at *
 induction s with
 | nil =>
  rintro k i n hs hk rfl h3 h0 hn hm
  obtain rfl:=drop_nil hs hk
  rw[List.take_length]at hm
  have hQ':=hend n (fun p hp=>hm p (List.mem_of_mem_take hp))
  refine mi _ _ _ _ _ _ _ fun g=>?_
  clear hQ hend hl hm
  cases gg<;>by_cases hmo:most<l.length<;>simp[ah,ai,ae,af,ab, *,fD,hx.r,hu.r,hq.r]
  all_goals simpa [hmo] using hQ'
 | cons p s ih =>
  rintro k i n hs hk rfl h3 h0 hn hm
  obtain⟨hlt,hg,hs',hg'⟩:=drop_cons hs
  have hpx:=(hl p (hg ▸ List.getElem_mem _)).r
  have e3:=IntWalk.i64_in ((k:Int)+1) (by omega)
  refine mi _ _ _ _ _ _ _ fun g=>?_
  have hkl:(k:Int)<l.length:=by omega
  by_cases h300:k<300
  ·have h300':(k:Int)<300:=by omega
   have hrd1:eQ (cW l) k 18 1 false=some p.2:=by simp[cW,hg',fY.val]
   have hrd2:eQ (cW l) k 11 1 false=some (aI p.1.op.s.many):=by simp[cW,hg',fY.val]
   have hih:=fun m (h1:0≤m) (h2:m≤1000) (h3:min (p.1.op.l.length:Int) 1000≤m)=>ih (k+1) ((k:Int)+1) (n+m) hs' (by omega) (by simp) (by omega) (by omega) (by omega) (by
    intro q hq
    rw[List.take_add_one,hg']at hq
    rcases List.mem_append.1 hq with hq | hq
    ·have:=hm q hq;omega
    ·simp at hq;subst hq;omega)
   have hw:=fun m (h1:0≤m) (h2:m≤1000)=>IntWalk.i64_in (n+m) (by omega)
   clear ih hQ hend hl hm
   simp[ah,ai,ae,af,ab, *,fD,hx.r,hx.idx]
   rw[hw _ (by repeat' split<;>omega) (by repeat' split<;>omega)]
   exact hih _ (by repeat' split<;>omega) (by repeat' split<;>omega) (by repeat' split<;>omega)
  ·have hk2:k=300:=by omega
   subst hk2
   have hQ':=hend n hm
   have hkl2:300<l.length:=by omega
   have hkl3:(300:Int)<l.length:=by omega
   clear ih hQ hend hl hm
   cases gg<;>by_cases hmo:most<l.length<;>simp[ah,ai,ae,af,ab, *,fD,hx.r,hu.r,hq.r]
   all_goals simpa [hmo] using hQ'
theorem Qt : ∃t:Bool,bj env 13 [.agg [xu,xq,aI gr],x,aI most]=some (aB t)∧(t=false→us.length≤100∧qs.length≤100∧(l.length:Int)≤most ∧∀p∈l.take 300,p.1.op.l.length≤300):=by
 have h : ∃y,bj env 13 [.agg [xu,xq,aI gr],x,aI most]=some y ∧∃t:Bool,y=aB t∧(t=false→us.length≤100∧qs.length≤100∧(l.length:Int)≤most ∧∀p∈l.take 300,p.1.op.l.length≤300):=by
  refine Ft (fn:=Tryz.f13) (c:=jQ) (by kernel_rfl) (by kernel_rfl) (by kernel_rfl) (by kernel_rfl) (by kernel_rfl) ?_
  refine uH _ _ _ _ _ fun g=>?_
  have hlp:=fun(q:Ref)(H:ad)(hr:H.get q=some ⟨3,[.agg [xu,xq,aI gr]],false,false⟩)=>Ms (q:=q) (H:=H) (Q:=fun x H =>∃y,rW env 13 x H y ∧∃t:Bool,y=aB t∧(t=false→us.length≤100∧qs.length≤100∧(l.length:Int)≤most ∧∀p∈l.take 300,p.1.op.l.length≤300)) (gr:=gr) hu hq hx hl most hr (fun t ht=>⟨aB t,by simp,t,rfl,ht⟩) l 0 0 0 rfl (by omega) rfl (by simp) (by simp) (by simp) (by simp)
  have key : ∀Q:AV→ad→Prop,(∀(q:Ref)(H:ad),H.get q=some ⟨3,[.agg [xu,xq,aI gr]],false,false⟩→b7 env Tryz.f13 0 eR [(8,aI 0),(1,x),(7,aI 0),(2,aI most),(3,.ptr q 0 0)] H Q)→jR g (.agg [xu,xq,aI gr]) x (aI most) [] Q:=by
   intro Q h
   clear hlp
   simp[ah,ai,ae,af,ab, *,jR,hu.r,hq.r]
  exact key _ hlp
 obtain⟨y,h1,t,rfl,h2⟩:=h
 exact⟨t,h1,h2⟩
end
end Go.Proofs.YtmkmimgokagimaaGreat
