/-
  A log up to a label. No statement of a seat is proved here.
-/
import Derived.Test.YtmkmimgokagimaaGreatMLeAsk
set_option linter.unusedVariables false
set_option linter.unusedSimpArgs false
set_option linter.unusedSectionVars false
set_option linter.unnecessarySimpa false
set_option maxRecDepth 100000
namespace Go.Proofs.YtmkmimgokagimaaGreat
open Go.Ab
attribute [local simp] bm aP aG bh bg keep thr bF aY bf dw dv cV bG aC cd List.take_of_length_le
theorem uP{E:Env}{f:FuncId}{fn:Func}{c:Code}{args:List AV}{R:AV→Prop}(hsp:E.spec f args=none)(hal:E.allowed f=true)(hf:E.P.funcs[f]?=some fn)(hc:fn.body=some c)(hl:Nat.ble args.length fn.ntmps=true)
 (h:GoL E fn 0 [.code c] (qv 0 args) [] fun x H =>∃y,qI E f x H y∧R y) : ∃y,limf E f args=some y∧R y:=by
 obtain⟨x,H,⟨y,hQ,hR⟩,n,hn⟩:=h.h (fun _=>AV.undef) args fun i=>(BQ args i).symm
 refine⟨y,tQ.2 ⟨n,fun m hm=>?_⟩,hR⟩
 obtain⟨st,h1,h2,h3⟩:=hn m hm
 subst h3
 unfold bq
 rw[hsp]
 unfold rC
 simp only[hal,if_true,hf,hc,if_pos (Nat.le_of_ble_eq_true hl),h1,h2,Option.map_some]
 unfold qI at hQ
 split
 ·rename_i h1
  rw[if_pos h1]at hQ
  rw[if_pos hQ.1]
  exact hQ.2
 ·rename_i h1
  rw[if_neg h1]at hQ
  exact hQ
def jd(v:Lab)(p:Rcd × AV):Bool:=decide (p.1.kind=3)||leqL ⟨p.1.op.h.lv,p.1.op.h.cats⟩ v
section
variable{recs:List (Rcd × AV)}(hrl:recs.length≤2048)(hok : ∀p∈recs,okRc p){dep:Nat}{q:Ref}(hqt:q.t≠30∧q.t≠6){xr:AV}(hxt : ∀r,xr.at?=some r→r.t=62)(v1:UInt8)(v2:UInt32){Q:AV→Heap→Prop}
include hrl hok hqt hxt
theorem I5 : ∀(s:List (Rcd × AV)) (k:Nat) (outs:List (Rcd × AV)) (H:Heap) (x3:AV),recs.drop k=s→k≤recs.length→outs.length≤k→Fr H→Own 24 (dR recs) H xr→H.get q=some ⟨2,[.agg [a8 v1,a32 v2]],false,false⟩→Own 24 (dR outs) H x3→(∀r,x3.at?=some r→r.t=30) →
 (∀H' x',Fr H'→Own 24 (dR (outs++s.filter (jd ⟨v1,v2⟩))) H' x'→Q (.tup [x',aI 0]) H')→GoL env Tryz.f77 (dep+1) gj [(12,aI k),(3,x3),(1,.ptr q 0 0),(10,xr),(11,aI recs.length)] H Q:=by
 intro s
 induction s with
 | nil =>
  rintro k outs H x3 hs hk ho hF hr hq h3 ht hQ
  obtain rfl:=drop_nil hs hk
  have hfin:=hQ H x3 hF (by simpa using h3)
  refine oh _ _ _ _ _ _ _ _ fun g=>?_
  clear hQ hr h3 hok
  simp[af,ah,ad,ae,ab, *,dP]
  all_goals exact hfin
 | cons p s ih =>
  rintro k outs H x3 hs hk ho hF hr hq h3 ht hQ
  obtain⟨hlt,hg,hs',hg'⟩:=drop_cons hs
  have hp:=hok p (hg ▸ List.getElem_mem hlt)
  have e3:=IntWalk.i64_in ((k:Int)+1) (by omega)
  have hlt':(k:Int)<recs.length:=by omega
  obtain⟨r,rfl,hr⟩ : ∃r,xr = .osl r 0 recs.length none∧H.get r=some ⟨24,dR recs,true,false⟩:=by
   rcases hr with ⟨rfl,h⟩ | ⟨r,rfl,h⟩
   ·have:=congrArg List.length h;simp at this;subst this;simp at hlt
   ·exact⟨r,by simp,h⟩
  have hel:=nN outs
  have heo:dR (outs++[p])=dR outs++[p.1.val p.2]:=by simp[dR]
  have hyes:=fun(h:jd ⟨v1,v2⟩ p=true) H' x'=>ih (k+1) (outs++[p]) H' x' hs' (by omega) (by simp;omega)
  have hno:=fun(h:jd ⟨v1,v2⟩ p=false) H' h1 h2 h3 h4=>ih (k+1) outs H' x3 hs' (by omega) (by omega) h1 h2 h3 h4 ht (fun H' x' h5 h6=>hQ H' x' h5 (by rw[List.filter_cons,h];exact h6))
  have hQ':=fun(h:jd ⟨v1,v2⟩ p=true) H' x' h5 (h6:Own 24 (dR (outs++[p]++s.filter (jd ⟨v1,v2⟩))) H' x')=>hQ H' x' h5 (by rw[List.filter_cons,if_pos h];simpa using h6)
  have hyes':=fun(h:jd ⟨v1,v2⟩ p=true) H' x' h1 h2 h3 h4 h5=>hyes h H' x' h1 h2 h3 h4 h5 (hQ' h)
  rw[heo]at hyes'
  clear hyes hQ' hQ ih heo
  obtain⟨⟨k1,u,⟨a_1,⟨a_2,a_3,a_4⟩,a_5,⟨⟨⟨a_6,a_7,a_8⟩,a_9⟩,a_10⟩,⟨⟨a_11,a_12,a_13⟩,a_14⟩,⟨a_15,a_16⟩,al⟩,c,g1,v,w,o⟩,x⟩:=p
  obtain⟨hax,hal⟩:=hp
  simp only at hax hal
  have hrd:dE (dR recs) k 0 24 true=some (.agg [a8 k1,aI u,a8 a_1,a8 a_2,a32 a_3,a8 a_4,aI a_5,a8 a_6,a32 a_7,a8 a_8,aI a_9,aI a_10,a8 a_11,a32 a_12,a8 a_13,aI a_14,a8 a_15,a32 a_16,x,aI c,aI g1,a8 v,a32 w,aB o]):=by simp[dR,hg',Rcd.val]
  have e62:=hxt r rfl
  obtain⟨rd,rt,rg,rk⟩:=r
  simp only at e62
  subst e62
  rename_i hr0
  have lr:(H.get ⟨rd,62,rg,rk⟩).isSome=true:=by rw[hr0];rfl
  have lq:(H.get q).isSome=true:=by rw[hq];rfl
  have hLq:=sK a_2 a_3 v1 v2
  have hoB:jd ⟨v1,v2⟩ (⟨k1,u,(⟨a_1,⟨a_2,a_3,a_4⟩,a_5,⟨⟨⟨a_6,a_7,a_8⟩,a_9⟩,a_10⟩,⟨⟨a_11,a_12,a_13⟩,a_14⟩,⟨a_15,a_16⟩,al⟩:Opn),c,g1,v,w,o⟩,x)=(decide (k1=3)||leqL ⟨a_2,a_3⟩ ⟨v1,v2⟩):=rfl
  rw[hoB]at hyes' hno
  generalize leqL ⟨a_2,a_3⟩ ⟨v1,v2⟩=b1 at *
  have hRl:(dR recs).length=recs.length:=nN recs
  clear hr hs hs' hg hg' hok hxt hoB
  simp only[Rcd.val]at hyes'
  generalize dR recs=er at *
  generalize recs.length=nr at *
  generalize dR outs=eo at *
  generalize outs.length=nh at *
  refine oh _ _ _ _ _ _ _ _ fun g=>?_
  by_cases e1:k1=3
  ·subst e1
   have hy:=hyes' (by simp)
   clear hno hyes'
   rcases h3 with ⟨rfl,h3⟩ | ⟨t,rfl,h3⟩
   ·rw[h3]at hy
    clear hel ho ht h3 nh
    simp[af,ah,ad,ae,ab, *,dP,hax.r, -sK, -qD]
    refine hy _ (.osl ⟨dep+1,30,H.gen (dep+1) 30,0⟩ 0 1 none) ?_ (.inr ⟨⟨rd,62,rg,rk⟩,by simp[hRl],?_⟩) ?_ (.inr ⟨⟨dep+1,30,H.gen (dep+1) 30,0⟩,rfl,?_⟩) (fun r hr=>by cases hr;rfl)
    ·exact by simp(maxDischargeDepth:=12) [Heap.an,ar,aj,Fr.nil,au,af,ah,ad,ae,aq,ak,ab, *]
    ·exact by simp(maxDischargeDepth:=12) [Heap.an,ar,aj,Fr.nil,au,af,ah,ad,ae,aq,ak,ab, *]
    ·exact by simp(maxDischargeDepth:=12) [Heap.an,ar,aj,Fr.nil,au,af,ah,ad,ae,aq,ak,ab, *]
    ·exact by simp(maxDischargeDepth:=12) [Heap.an,ar,aj,Fr.nil,au,af,ah,ad,ae,aq,ak,ab, *]
   ·have e30:=ht t rfl
    clear ht
    obtain⟨td,tt,tg,tk⟩:=t
    simp only at e30
    subst e30
    have f6:na 24 160 nh true none (some ⟨24,eo,true,false⟩) (some [.agg [a8 3,aI u,a8 a_1,a8 a_2,a32 a_3,a8 a_4,aI a_5,a8 a_6,a32 a_7,a8 a_8,aI a_9,aI a_10,a8 a_11,a32 a_12,a8 a_13,aI a_14,a8 a_15,a32 a_16,x,aI c,aI g1,a8 v,a32 w,aB o]]):=by
     simp;omega
    have l8:(H.get ⟨td,30,tg,tk⟩).isSome=true:=by rw[h3];rfl
    have n1:(⟨td,30,tg,tk⟩:Ref)≠q:=fun e=>hqt.1 (by rw[←e])
    have n1':=n1.symm
    clear hqt
    simp[af,ah,ad,ae,ab, *,dP,hax.r, -sK, -qD]
    refine hy _ (.osl ⟨td,30,H.gen td 30,0⟩ 0 (nh+1) none) ?_ (.inr ⟨⟨rd,62,rg,rk⟩,by simp[hRl],?_⟩) ?_ (.inr ⟨⟨td,30,H.gen td 30,0⟩,by simp[hel],?_⟩) (fun r hr=>by cases hr;rfl)
    ·exact by simp(maxDischargeDepth:=12) [Heap.an,ar,aj,Fr.nil,au,af,ah,ad,ae,aq,ak,ab, *]
    ·exact by simp(maxDischargeDepth:=12) [Heap.an,ar,aj,Fr.nil,au,af,ah,ad,ae,aq,ak,ab, *]
    ·exact by simp(maxDischargeDepth:=12) [Heap.an,ar,aj,Fr.nil,au,af,ah,ad,ae,aq,ak,ab, *]
    ·exact by simp(maxDischargeDepth:=12) [Heap.an,ar,aj,Fr.nil,au,af,ah,ad,ae,aq,ak,ab, *]
  ·cases b1 with
   | true =>
    have hy:=hyes' (by simp)
    clear hno hyes'
    rcases h3 with ⟨rfl,h3⟩ | ⟨t,rfl,h3⟩
    ·rw[h3]at hy
     clear hel ho ht h3 nh
     simp[af,ah,ad,ae,ab, *,dP,hax.r, -sK, -qD,e1]
     refine hy _ (.osl ⟨dep+1,30,H.gen (dep+1) 30,0⟩ 0 1 none) ?_ (.inr ⟨⟨rd,62,rg,rk⟩,by simp[hRl],?_⟩) ?_ (.inr ⟨⟨dep+1,30,H.gen (dep+1) 30,0⟩,rfl,?_⟩) (fun r hr=>by cases hr;rfl)
     ·exact by simp(maxDischargeDepth:=12) [Heap.an,ar,aj,Fr.nil,au,af,ah,ad,ae,aq,ak,ab, *]
     ·exact by simp(maxDischargeDepth:=12) [Heap.an,ar,aj,Fr.nil,au,af,ah,ad,ae,aq,ak,ab, *]
     ·exact by simp(maxDischargeDepth:=12) [Heap.an,ar,aj,Fr.nil,au,af,ah,ad,ae,aq,ak,ab, *]
     ·exact by simp(maxDischargeDepth:=12) [Heap.an,ar,aj,Fr.nil,au,af,ah,ad,ae,aq,ak,ab, *]
    ·have e30:=ht t rfl
     clear ht
     obtain⟨td,tt,tg,tk⟩:=t
     simp only at e30
     subst e30
     have f6:na 24 160 nh true none (some ⟨24,eo,true,false⟩) (some [.agg [a8 k1,aI u,a8 a_1,a8 a_2,a32 a_3,a8 a_4,aI a_5,a8 a_6,a32 a_7,a8 a_8,aI a_9,aI a_10,a8 a_11,a32 a_12,a8 a_13,aI a_14,a8 a_15,a32 a_16,x,aI c,aI g1,a8 v,a32 w,aB o]]):=by
      simp;omega
     have l8:(H.get ⟨td,30,tg,tk⟩).isSome=true:=by rw[h3];rfl
     have n1:(⟨td,30,tg,tk⟩:Ref)≠q:=fun e=>hqt.1 (by rw[←e])
     have n1':=n1.symm
     clear hqt
     simp[af,ah,ad,ae,ab, *,dP,hax.r, -sK, -qD,e1]
     refine hy _ (.osl ⟨td,30,H.gen td 30,0⟩ 0 (nh+1) none) ?_ (.inr ⟨⟨rd,62,rg,rk⟩,by simp[hRl],?_⟩) ?_ (.inr ⟨⟨td,30,H.gen td 30,0⟩,by simp[hel],?_⟩) (fun r hr=>by cases hr;rfl)
     ·exact by simp(maxDischargeDepth:=12) [Heap.an,ar,aj,Fr.nil,au,af,ah,ad,ae,aq,ak,ab, *]
     ·exact by simp(maxDischargeDepth:=12) [Heap.an,ar,aj,Fr.nil,au,af,ah,ad,ae,aq,ak,ab, *]
     ·exact by simp(maxDischargeDepth:=12) [Heap.an,ar,aj,Fr.nil,au,af,ah,ad,ae,aq,ak,ab, *]
     ·exact by simp(maxDischargeDepth:=12) [Heap.an,ar,aj,Fr.nil,au,af,ah,ad,ae,aq,ak,ab, *]
   | false =>
    have hn:=hno (by simp[e1])
    clear hno hyes'
    have h3':=fun H' (g:Grow H H')=>Own.grow h3 g
    have hgg : ∀b1:Blk,Grow H ((⟨dep+1,6,H.gen (dep+1) 6,0⟩,some b1) :: H):=fun b1=>Grow.cons hF _ _ _
    clear h3 ht
    simp[af,ah,ad,ae,ab, *,dP,hax.r, -sK, -qD,e1]
    refine hn _ (hgg _).fr (.inr ⟨⟨rd,62,rg,rk⟩,by simp[hRl],(hgg _).old _ _ hr0⟩) ((hgg _).old _ _ hq) (h3' _ (hgg _))
end
section
variable{xu xq:AV}{us:List Clear}{qs:List Quota}{gr:Int}(hu:Sl 3 (eg us) xu)(hq:Sl 5 (eK qs) xq)(hul:us.length<1000000)(hql:qs.length<1000000){l:List (Rcd × AV)}{x1:AV}(hx:Sl 24 (dR l) x1)(hall : ∀p∈l,okRc p)
include hu hq hul hql hx hall
def N9(us:List Clear)(qs:List Quota)(gr:Int)(l:List (Rcd × AV))(v1:UInt8)(v2:UInt32)(y:AV):Prop:=match ofA us qs gr l with
 | none=>y = .tup [aNil,aI 8]
 | some b=>if v1≤15 then ∃x,Sl 24 (dR ((l.map twR).filter (jd ⟨v1,v2⟩))) x∧y = .tup [x,aI 0] else y = .tup [aNil,aI 8]
theorem Od{b:Book}(h:ofA us qs gr l=some b):l.length≤2048:=by
 unfold ofA at h
 split at h
 ·rename_i h2;exact h2.2
 ·cases h
theorem I6(hl:l.length≤2048)(dep:Nat){H:Heap}(hF:Fr H){rb rs ru:Ref}{xh xr:AV}{b:Book}(hb:BookX H rb rs ru xh xr us qs gr b)(hr:Own 24 (dR (l.map twR)) H xr)(hxt : ∀r,xr.at?=some r→r.t=62){q:Ref}(hqt:q.t≠30∧q.t≠6)(v1:UInt8)(v2:UInt32)(h:H.get q=some ⟨2,[.agg [a8 v1,a32 v2]],false,false⟩) :
 ∃y H',limt env dep (.fn 77) [.ptr rb 0 0,.ptr q 0 0] H=some (y,H') ∧∃x',y = .tup [x',aI 0]∧Own 24 (dR ((l.map twR).filter (jd ⟨v1,v2⟩))) H' x':=by
 refine gh (fn:=Tryz.f77) (c:=m8) (Q:=fun y H' =>∃x',y = .tup [x',aI 0]∧Own 24 (dR ((l.map twR).filter (jd ⟨v1,v2⟩))) H' x') (by kernel_rfl) (by kernel_rfl) (by kernel_rfl) (by kernel_rfl) (by kernel_rfl) ?_
 refine xm _ _ _ _ _ fun g=>?_
 have hlp:=I5 (recs:=l.map twR) (by simpa using hl) (fun p hp=>by
  obtain⟨p0,h0,rfl⟩:=List.mem_map.1 hp
  have:=hall p0 h0
  exact⟨yh this.1,this.2⟩) (dep:=dep) hqt hxt v1 v2 (Q:=fun y H' =>∃x',y = .tup [x',aI 0]∧Own 24 (dR ((l.map twR).filter (jd ⟨v1,v2⟩))) H' x') (l.map twR) 0 [] H aNil rfl (by omega) (by simp) hF hr h (.inl ⟨rfl,rfl⟩) (fun r hr=>by cases hr) (fun H' x' _ h6=>⟨x',rfl,h6⟩)
 obtain⟨xu',xq',yu,yq,wu,wq,h1,_⟩:=hb.box
 have c9:=hb.one
 have hrl:=Own.len hr
 rw[nN,List.length_map]at hrl
 rw[List.length_map]at hlp
 clear hx hall hb hr
 simp[af,ah,ad,ae,ab, *,qU]
 exact hlp
theorem QX(v1:UInt8)(v2:UInt32) : ∃y,limf env 19 [.agg [xu,xq,aI gr],x1,.agg [a8 v1,a32 v2]]=some y∧N9 us qs gr l v1 v2 y:=by
 refine uP (fn:=Tryz.f19) (c:=ta) (by kernel_rfl) (by kernel_rfl) (by kernel_rfl) (by kernel_rfl) (by kernel_rfl) ?_
 refine z3 _ _ _ _ _ fun g=>?_
 have hF0:Fr [(⟨0,5,0,0⟩,some ⟨2,[.agg [a8 v1,a32 v2]],false,false⟩),(⟨0,3,0,0⟩,some ⟨3,[.agg [xu,xq,aI gr]],false,false⟩)]:=by simp(maxDischargeDepth:=12) [Heap.an,ar,aj,Fr.nil,au,af,ah,ad,ae,aq,ak,ab, *]
 have hC:=BE v1 v2
 obtain⟨y,H2,hO,hA⟩:=Ka (gr:=gr) hu hq hul hql hx hall 0 hF0 (bad (decide (v1≤15))) (fd:=77) (by kernel_rfl) (caps:=[.ptr ⟨0,5,0,0⟩ 0 0])
  (R:=fun b y H =>∃x',y = .tup [x',aI 0]∧Own 24 (dR ((l.map twR).filter (jd ⟨v1,v2⟩))) H x') (fun hw b H2 rb rs ru xh xr ho hG hb hr hrt hok=>by
   obtain⟨y,H3,h1,x',rfl,h2⟩:=I6 (gr:=gr) hu hq hul hql hx hall (Od hu hq hul hql hx hall ho) 1 hG.fr hb hr hrt (q:=⟨0,5,0,0⟩) ⟨by simp,by simp⟩ v1 v2 (hG.old ⟨0,5,0,0⟩ _ (by simp))
   exact⟨_,_,H3,h1,x',rfl,h2⟩)
 simp[af,ah,ad,ae,ab, *,tu,hu.r,hq.r, -CV]
 refine n9 (by kernel_rfl) hO ?_
 unfold iC at hA
 unfold N9
 cases ho:ofA us qs gr l with
 | none=>rw[ho]at hA;subst hA;simp
 | some b =>
  rw[ho]at hA
  dsimp only at hA ⊢
  by_cases hv:v1≤15
  ·simp only[hv,decide_true,bad,if_true]at hA
   obtain⟨x',rfl,h⟩:=hA
   generalize (l.map twR).filter (jd ⟨v1,v2⟩)=rr at *
   rcases h with ⟨rfl,h⟩ | ⟨r,rfl,h⟩
   ·simp[hv,h]
    done
   ·have hl:=nN rr
    generalize dR rr=er at *
    simp[h,hv]
    done
  ·simp only[hv,decide_false,bad]at hA
   simp at hA
   subst hA
   simp[hv]
   done
end
end Go.Proofs.YtmkmimgokagimaaGreat
