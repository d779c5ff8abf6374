/-
  A history up to a label; what was admitted: what these functions answer. No statement of a seat is proved here.
-/
import Derived.Test.YtmkmimgokagimaaGreatMLeAlone0
set_option linter.unusedVariables false
set_option linter.unusedSimpArgs false
set_option linter.unusedSectionVars false
set_option linter.unnecessarySimpa false
set_option maxRecDepth 100000
namespace Go.Proofs.YtmkmimgokagimaaGreat
open Go.Ab
attribute [local simp] bm aP aG bh bg keep thr bF aY bf dw dv cV bG aC cd List.take_of_length_le
def twO(p:Opn × AV):Opn × AV:=(p.1,tC p.2)
section
variable{l:List (Opn × AV)}{x0:AV}(hx:Sl 17 (bN l) x0)(hall : ∀p∈l,okO p∧p.1.l.length<1000000)(hl:l.length<10000){q:Ref}(hqt:q.d=0∧q.t=3)(v1:UInt8)(v2:UInt32){Q:AV→Heap→Prop}
include hx hall hl hqt
theorem Du : ∀(s:List (Opn × AV)) (k:Nat) (outs:List (Opn × AV)) (H:Heap) (x4:AV),l.drop k=s→k≤l.length→outs.length≤k→Fr H→H.get q=some ⟨2,[.agg [a8 v1,a32 v2]],false,false⟩→Own 17 (bN outs) H x4→(∀r,x4.at?=some r→r.d=0∧r.t=32) →
 (∀H' x',Fr H'→Own 17 (bN (outs++(s.filter fun p=>lowO ⟨v1,v2⟩ p.1).map twO)) H' x'→Q (.tup [x',aI 0]) H')→GoL env Tryz.f45 0 lJ [(19,aI k),(4,x4),(3,.ptr q 0 0),(17,x0),(18,aI l.length)] H Q:=by
 intro s
 induction s with
 | nil =>
  rintro k outs H x4 hs hk ho hF hq h4 ht hQ
  obtain rfl:=drop_nil hs hk
  have hfin:=hQ H x4 hF (by simpa using h4)
  refine uj _ _ _ _ _ _ _ fun g=>?_
  clear hQ h4 hall
  simp[af,ah,ad,ae,ab, *,mf]
  all_goals exact hfin
 | cons p s ih =>
  rintro k outs H x4 hs hk ho hF hq h4 ht hQ
  obtain⟨hlt,hg,hs',hg'⟩:=drop_cons hs
  have hp:=hall p (hg ▸ List.getElem_mem hlt)
  have e3:=IntWalk.i64_in ((k:Int)+1) (by omega)
  have hlt':(k:Int)<l.length:=by omega
  have hel:=(by simp[bN]:(bN outs).length=outs.length)
  have heo:bN (outs++[twO p])=bN outs++[encO (twO p)]:=by simp[bN]
  have hyes:=fun(h:lowO ⟨v1,v2⟩ p.1=true) H' x' h1 h2 h3 h4=>ih (k+1) (outs++[twO p]) H' x' hs' (by omega) (by simp;omega) h1 h2 h3 h4 (fun H' x' h5 h6=>hQ H' x' h5 (by rw[List.filter_cons,if_pos h];simpa using h6))
  have hno:=fun(h:lowO ⟨v1,v2⟩ p.1=false) H' h1 h2 h3=>ih (k+1) outs H' x4 hs' (by omega) (by omega) h1 h2 h3 ht (fun H' x' h5 h6=>hQ H' x' h5 (by rw[List.filter_cons,h];exact h6))
  rw[heo]at hyes
  clear hQ ih heo
  obtain⟨⟨a_1,⟨a_2,a_3,a_4⟩,a_5,⟨⟨⟨a_6,a_7,a_8⟩,a_9⟩,a_10⟩,⟨⟨a_11,a_12,a_13⟩,a_14⟩,⟨a_15,a_16⟩,al⟩,x⟩:=p
  obtain⟨⟨hax,_⟩,hal⟩:=hp
  simp only at hax hal
  have hrd:dE (bN l) k 0 17 true=some (.agg [a8 a_1,a8 a_2,a32 a_3,a8 a_4,aI a_5,a8 a_6,a32 a_7,a8 a_8,aI a_9,aI a_10,a8 a_11,a32 a_12,a8 a_13,aI a_14,a8 a_15,a32 a_16,x]):=by simp[bN,encO,hg']
  obtain⟨yt,hyt,hyts,hT⟩:=Io a_1 a_2 a_3 a_4 a_5 a_6 a_7 a_8 a_9 a_10 a_11 a_12 a_13 a_14 a_15 a_16 hax hal
  have hLq:=sK a_2 a_3 v1 v2
  have hoB:lowO ⟨v1,v2⟩ (⟨a_1,⟨a_2,a_3,a_4⟩,a_5,⟨⟨⟨a_6,a_7,a_8⟩,a_9⟩,a_10⟩,⟨⟨a_11,a_12,a_13⟩,a_14⟩,⟨a_15,a_16⟩,al⟩:Opn)=leqL ⟨a_2,a_3⟩ ⟨v1,v2⟩:=rfl
  have hen:encO (twO (⟨a_1,⟨a_2,a_3,a_4⟩,a_5,⟨⟨⟨a_6,a_7,a_8⟩,a_9⟩,a_10⟩,⟨⟨a_11,a_12,a_13⟩,a_14⟩,⟨a_15,a_16⟩,al⟩,x)) = .agg [a8 a_1,a8 a_2,a32 a_3,a8 a_4,aI a_5,a8 a_6,a32 a_7,a8 a_8,aI a_9,aI a_10,a8 a_11,a32 a_12,a8 a_13,aI a_14,a8 a_15,a32 a_16,yt]:=by rw[hyt];rfl
  simp only at hyes hno
  rw[hoB]at hyes hno
  rw[hen]at hyes
  generalize leqL ⟨a_2,a_3⟩ ⟨v1,v2⟩=b1 at *
  have hol:(bN l).length=l.length:=by simp[bN]
  have ra:=hax.r
  have rt:=hyts.r
  obtain⟨qd,qt,qg,qk⟩:=q
  obtain⟨rfl,rfl⟩:=hqt
  have lq:(H.get ⟨0,3,qg,qk⟩).isSome=true:=by rw[hq];rfl
  clear hs hs' hg hg' hall hoB hen hyt hyts hax
  generalize bN l=el at *
  generalize l.length=nl at *
  generalize bN outs=eo at *
  generalize outs.length=nh at *
  refine uj _ _ _ _ _ _ _ fun g=>?_
  cases b1 with
  | true =>
   have hy:=hyes rfl
   clear hno hyes
   rcases h4 with ⟨rfl,h4⟩ | ⟨t,rfl,h4⟩
   ·rw[h4]at hy
    clear hel ho ht h4 nh
    simp[af,ah,ad,ae,ab, *,mf,hx.idx, -sK, -qD]
    refine hy _ (.osl ⟨0,32,H.gen 0 32,0⟩ 0 1 none) ?_ ?_ (.inr ⟨⟨0,32,H.gen 0 32,0⟩,rfl,?_⟩) (fun r hr=>by cases hr;exact⟨rfl,rfl⟩)
    ·exact by simp(maxDischargeDepth:=12) [Heap.an,ar,aj,Fr.nil,au,af,ah,ad,ae,aq,ak,ab, *]
    ·exact by simp(maxDischargeDepth:=12) [Heap.an,ar,aj,Fr.nil,au,af,ah,ad,ae,aq,ak,ab, *]
    ·exact by simp(maxDischargeDepth:=12) [Heap.an,ar,aj,Fr.nil,au,af,ah,ad,ae,aq,ak,ab, *]
   ·have e32:=ht t rfl
    clear ht
    obtain⟨td,tt,tg,tk⟩:=t
    simp only at e32
    obtain⟨rfl,rfl⟩:=e32
    have f6:na 17 112 nh true none (some ⟨17,eo,true,false⟩) (some [.agg [a8 a_1,a8 a_2,a32 a_3,a8 a_4,aI a_5,a8 a_6,a32 a_7,a8 a_8,aI a_9,aI a_10,a8 a_11,a32 a_12,a8 a_13,aI a_14,a8 a_15,a32 a_16,yt]]):=by
     simp;omega
    have l8:(H.get ⟨0,32,tg,tk⟩).isSome=true:=by rw[h4];rfl
    simp[af,ah,ad,ae,ab, *,mf,hx.idx, -sK, -qD]
    refine hy _ (.osl ⟨0,32,H.gen 0 32,0⟩ 0 (nh+1) none) ?_ ?_ (.inr ⟨⟨0,32,H.gen 0 32,0⟩,by simp[hel],?_⟩) (fun r hr=>by cases hr;exact⟨rfl,rfl⟩)
    ·exact by simp(maxDischargeDepth:=12) [Heap.an,ar,aj,Fr.nil,au,af,ah,ad,ae,aq,ak,ab, *]
    ·exact by simp(maxDischargeDepth:=12) [Heap.an,ar,aj,Fr.nil,au,af,ah,ad,ae,aq,ak,ab, *]
    ·exact by simp(maxDischargeDepth:=12) [Heap.an,ar,aj,Fr.nil,au,af,ah,ad,ae,aq,ak,ab, *]
  | false =>
   have hn:=hno rfl
   clear hno hyes
   have h4':=fun H' (g:Grow H H')=>Own.grow h4 g
   have hgg : ∀b1:Blk,Grow H ((⟨0,8,H.gen 0 8,0⟩,some b1) :: H):=fun b1=>Grow.cons hF _ _ _
   clear h4 ht
   simp[af,ah,ad,ae,ab, *,mf,hx.idx, -sK, -qD]
   refine hn _ (hgg _).fr ((hgg _).old _ _ hq) (h4' _ (hgg _))
end
section
variable{l:List (Opn × AV)}{x0:AV}(hx:Sl 17 (bN l) x0)(hall : ∀p∈l,okO p∧p.1.l.length<1000000)(hl:l.length<10000)
include hx hall hl
theorem Is(hd:(ji [] [] l).isSome=true)(v1:UInt8)(v2:UInt32)(hv:v1≤15) : ∃y,limf env 45 [x0,.agg [a8 v1,a32 v2]]=some (.tup [y,aI 0])∧Sl 17 (bN ((l.filter fun p=>lowO ⟨v1,v2⟩ p.1).map twO)) y:=by
 have hC:=GB hx hall hl
 rw[hd,if_pos rfl]at hC
 have hL:=BE v1 v2
 have hb0:bad (decide (v1≤15))=0:=by simp[hv,bad]
 have h : ∃y,limf env 45 [x0,.agg [a8 v1,a32 v2]]=some y ∧∃z,y = .tup [z,aI 0]∧Sl 17 (bN ((l.filter fun p=>lowO ⟨v1,v2⟩ p.1).map twO)) z:=by
  refine uP (fn:=Tryz.f45) (c:=tZ) (by kernel_rfl) (by kernel_rfl) (by kernel_rfl) (by kernel_rfl) (by kernel_rfl) ?_
  refine DX _ _ _ _ fun g=>?_
  have hlp:=Du hx hall hl (q:=⟨0,3,0,0⟩) ⟨rfl,rfl⟩ v1 v2 (Q:=fun x H =>∃y,qI env 45 x H y ∧∃z,y = .tup [z,aI 0]∧Sl 17 (bN ((l.filter fun p=>lowO ⟨v1,v2⟩ p.1).map twO)) z) l 0 [] [(⟨0,3,0,0⟩,some ⟨2,[.agg [a8 v1,a32 v2]],false,false⟩)] aNil rfl (by omega) (by simp) (by simp(maxDischargeDepth:=12) [Heap.an,ar,aj,Fr.nil,au,af,ah,ad,ae,aq,ak,ab, *]) (by simp) (.inl ⟨rfl,rfl⟩) (fun r hr=>by cases hr) (fun H' x' hF h6=>by
   rw[List.nil_append]at h6
   generalize (l.filter fun p=>lowO ⟨v1,v2⟩ p.1).map twO=rr at *
   have hel:(bN rr).length=rr.length:=by simp[bN]
   rcases h6 with ⟨rfl,h⟩ | ⟨r,rfl,h⟩
   ·simp[h]
   ·generalize bN rr=er at *
    simp[h])
  have hel:(bN l).length=l.length:=by simp[bN]
  clear hall
  simp[af,ah,ad,ae,ab, *,zO,hx.r, -CV]
  exact hlp
 obtain⟨y,h1,z,rfl,h2⟩:=h
 exact⟨z,h1,h2⟩
end
section
variable{xu xq:AV}{us:List Clear}{qs:List Quota}{gr:Int}(hu:Sl 3 (eg us) xu)(hq:Sl 5 (eK qs) xq)(hul:us.length<1000000)(hql:qs.length<1000000){l:List (Rcd × AV)}{x1:AV}(hx:Sl 24 (dR l) x1)(hall : ∀p∈l,okRc p)
include hu hq hul hql hx hall
theorem Kc(dep:Nat){H:Heap}(hF:Fr H){fd:FuncId}(hm:(env.mode fd == 2)=true){caps:List AV}{R:Book→AV→Heap→Prop}
 (hdo : ∀b H2 rb rs ru xh xr,ofA us qs gr l=some b→Grow H H2→BookX H2 rb rs ru xh xr us qs gr b→BookOk b →∃z e H3,limt env (dep+1) (.fn fd) ([]++[.ptr rb 0 0]++caps) H2=some (.tup [z,e],H3)∧R b (.tup [z,e]) H3) :
 ∃y H',limt env dep (.fn 64) [.agg [xu,xq,aI gr],x1,aI 0,.fn (.func fd) [] caps] H=some (y,H')∧iC (ofA us qs gr l) 0 aNil R y H':=by
 have hgo:GoL env Tryz.f64 (dep+1) [.code fC] (qv 0 [.agg [xu,xq,aI gr],x1,aI 0,.fn (.func fd) [] caps]) H fun y H'=>iC (ofA us qs gr l) 0 aNil R y H':=by
  have hg2 : ∀b1:Blk,Grow H ((⟨dep+1,4,H.gen (dep+1) 4,0⟩,some b1) :: H):=fun b1=>Grow.cons hF _ _ _
  obtain⟨y,H2,hO,hA⟩:=s_Of (gr:=gr) hu hq hul hql hx hall (dep+1) (hg2 ⟨3,[.agg [xu,xq,aI gr]],false,false⟩).fr
  refine jT _ _ _ _ _ _ _ fun g=>?_
  unfold iC
  simp[af,ah,ad,ae,ab, *,fF,hx.r,hu.r,hq.r]
  refine n9 (by kernel_rfl) hO ?_
  cases ho:ofA us qs gr l with
  | none =>
   rw[ho]at hA
   obtain⟨rfl,hG⟩:=hA
   simp
  | some b =>
   rw[ho]at hA
   obtain⟨rb,rs,ru,rk,xh,xr,rfl,hI,hok⟩:=hA
   obtain⟨z,e,H3,h1,h2⟩:=hdo b H2 rb rs ru xh xr ho ((hg2 _).trans hI.g) hI.bk hok
   simp
   refine n9 hm h1 ?_
   simp
   exact h2
 obtain⟨y,H',h1,h2⟩:=gh (by kernel_rfl) (by kernel_rfl) (by kernel_rfl) (by kernel_rfl) (by kernel_rfl) hgo
 exact⟨y,H',h1,h2⟩
theorem JA(dep:Nat){H:Heap}{rb rs ru:Ref}{xh xr:AV}{b:Book}(hb:BookX H rb rs ru xh xr us qs gr b) :
 ∃y H',limt env dep (.fn 65) [.ptr rb 0 0] H=some (y,H')∧y = .tup [xh,aI 0]∧Own 17 (bN b.hist) H' xh:=by
 refine gh (fn:=Tryz.f65) (c:=nT) (Q:=fun y H'=>y = .tup [xh,aI 0]∧Own 17 (bN b.hist) H' xh) (by kernel_rfl) (by kernel_rfl) (by kernel_rfl) (by kernel_rfl) (by kernel_rfl) ?_
 refine tA _ _ _ _ fun g=>?_
 obtain⟨xu',xq',yu,yq,wu,wq,hb1,hb2,hb3,hb4,hb5⟩:=hb.box
 have c4:=hb4.s.cells
 have c5:=hb5.s.cells
 have c8:xh.cells=[xh]∧xh.one=true:=by obtain⟨_,hs⟩:=jc hb.hist;exact hs.cells
 have c9:=hb.one
 have hh:=hb.hist
 clear hb4 hb5 hb hx hall
 simp[af,ah,ad,ae,ab, *,nY,hb2.r,hb3.r]
def hisA(us:List Clear)(qs:List Quota)(gr:Int)(l:List (Rcd × AV))(y:AV):Prop:=match ofA us qs gr l with
 | none=>y = .tup [aNil,aI 8]
 | some b =>∃x,Sl 17 (bN b.hist) x∧y = .tup [x,aI 0]
theorem CW : ∃y,limf env 15 [.agg [xu,xq,aI gr],x1]=some y∧hisA us qs gr l y:=by
 refine uP (fn:=Tryz.f15) (c:=pS) (by kernel_rfl) (by kernel_rfl) (by kernel_rfl) (by kernel_rfl) (by kernel_rfl) ?_
 refine vH _ _ _ _ fun g=>?_
 have hF0:Fr [(⟨0,2,0,0⟩,some ⟨3,[.agg [xu,xq,aI gr]],false,false⟩)]:=by simp(maxDischargeDepth:=12) [Heap.an,ar,aj,Fr.nil,au,af,ah,ad,ae,aq,ak,ab, *]
 obtain⟨y,H2,hO,hA⟩:=Kc (gr:=gr) hu hq hul hql hx hall 0 hF0 (fd:=65) (by kernel_rfl) (caps:=[])
  (R:=fun b y H =>∃xh,y = .tup [xh,aI 0]∧Own 17 (bN b.hist) H xh) (fun b H2 rb rs ru xh xr ho hG hb hok=>by
   obtain⟨y,H3,h1,rfl,h2⟩:=JA (gr:=gr) hu hq hul hql hx hall 1 hb
   exact⟨_,_,H3,h1,xh,rfl,h2⟩)
 simp[af,ah,ad,ae,ab, *,p6,hu.r,hq.r]
 refine n9 (by kernel_rfl) hO ?_
 unfold iC at hA
 unfold hisA
 cases ho:ofA us qs gr l with
 | none=>rw[ho]at hA;subst hA;simp
 | some b =>
  rw[ho]at hA
  dsimp only at hA ⊢
  rw[if_pos rfl]at hA
  obtain⟨xh,rfl,h⟩:=hA
  generalize b.hist=hh at *
  have hel:(bN hh).length=hh.length:=by simp[bN]
  clear hx hall
  rcases h with ⟨rfl,h⟩ | ⟨r,rfl,h⟩
  ·simp[h]
  ·generalize bN hh=er at *
   simp[h]
end
end Go.Proofs.YtmkmimgokagimaaGreat
namespace Go.Proofs.YtmkmimgokagimaaGreat
open Go.Ab
def useK(b:Book)(v:Lab):Use:=useD (cm v b.used)
def qh(h:Han)(l:List (Rcd × AV)):Int:=l.foldl (fun s p=>if p.1.kind=2∧p.1.op.h=h then p.1.op.serial else s) 0
theorem Dh(h:Han)(l:List (Rcd × AV))(p:Rcd × AV):qh h (l++[p])=if p.1.kind=2∧p.1.op.h=h then p.1.op.serial else qh h l:=by
 simp[qh]
structure Ser (l:List (Rcd × AV)) (b:Book):Prop where
 ser : ∀h:Han,(sesD (cm h b.ses)).s=qh h l∧((sesD (cm h b.ses)).o=false→qh h l=0)
 up : ∀h:Han,0≤qh h l∧qh h l<16777216 ∧∀p∈l,p.1.kind=2→p.1.op.h=h→p.1.op.serial≤qh h l
section
variable{us0:List Clear}{qs:List Quota}{gr0:Int}{l:List (Rcd × AV)}{b:Book}{p:Rcd × AV}(h:Ser l b)(his:pv p.1=true)
include h his
theorem Ser.two(k2:p.1.kind=2)(hf:Ca us0 qs gr0 b p.1=true):Ser (l++[p]) (doOp b p.1.op p.1.code (tC p.2))∧p.1.op.serial=qh p.1.op.h l+1:=by
 simp only[Ca,Bool.and_eq_true,decide_eq_true_eq]at hf
 obtain⟨ho,_,hsr,hlt,hcode⟩:=hf
 have hop:opB p.1.op=true:=by
  unfold pv at his
  rw[if_neg (by rw[k2];decide),if_pos k2]at his
  simp only[Bool.and_eq_true]at his
  exact his.2.1
 have hser:1≤p.1.op.serial∧p.1.op.serial<16777216:=by
  simp only[opB,Bool.and_eq_true,decide_eq_true_eq]at hop
  exact⟨hop.2.1,hop.2.2.1⟩
 have hs0:=(h.ser p.1.op.h).1
 have hup:=h.up p.1.op.h
 have hsw:p.1.op.serial=qh p.1.op.h l+1:=by
  rw[hsr]
  show IntKind.i64.wrap ((sesD (cm p.1.op.h b.ses)).s+1)=_
  rw[hs0]
  exact IntWalk.i64_in _ (by omega)
 refine⟨?_,hsw⟩
 have hls : ∀h':Han,qh h' (l++[p])=if h'=p.1.op.h then p.1.op.serial else qh h' l:=fun h'=>by
  rw[Dh]
  by_cases e:h'=p.1.op.h
  ·subst e;rw[if_pos ⟨k2,rfl⟩,if_pos rfl]
  ·rw[if_neg (fun hh=>e hh.2.symm),if_neg e]
 refine⟨fun h'=>?_,fun h'=>?_⟩
 ·rw[hls]
  show(sesD (cm h' (setK p.1.op.h (Ses.av { mP b p.1.op with s:=IntKind.i64.wrap ((mP b p.1.op).s+1)}) b.ses))).s=_∧((sesD (cm h' (setK p.1.op.h (Ses.av { mP b p.1.op with s:=IntKind.i64.wrap ((mP b p.1.op).s+1)}) b.ses))).o=false→_)
  by_cases e:h'=p.1.op.h
  ·subst e
   rw[nw,BC,if_pos rfl]
   refine⟨hsr.symm,fun hh=>?_⟩
   simp only at hh
   rw[hh]at ho
   cases ho
  ·rw[mu e,if_neg e]
   exact h.ser h'
 ·rw[hls]
  by_cases e:h'=p.1.op.h
  ·subst e
   rw[if_pos rfl]
   refine⟨by omega,by omega,fun q hq hk he=>?_⟩
   rcases List.mem_append.1 hq with hq | hq
   ·have:=hup.2.2 q hq hk he;omega
   ·rw[List.mem_singleton]at hq;subst hq;exact Int.le_refl _
  ·rw[if_neg e]
   refine⟨(h.up h').1,(h.up h').2.1,fun q hq hk he=>?_⟩
   rcases List.mem_append.1 hq with hq | hq
   ·exact(h.up h').2.2 q hq hk he
   ·rw[List.mem_singleton]at hq;subst hq;exact absurd he.symm e
theorem Ser.step(hf:tU us0 qs gr0 b p.1=true):Ser (l++[p]) (doR b p):=by
 unfold tU at hf
 unfold doR
 have hother:p.1.kind≠2→(∀h',qh h' (l++[p])=qh h' l) ∧∀h':Han,0≤qh h' l∧qh h' l<16777216 ∧∀q∈l++[p],q.1.kind=2→q.1.op.h=h'→q.1.op.serial≤qh h' l:=by
  intro k2
  refine⟨fun h'=>by rw[Dh,if_neg (fun hh=>k2 hh.1)],fun h'=>⟨(h.up h').1,(h.up h').2.1,fun q hq hk he=>?_⟩⟩
  rcases List.mem_append.1 hq with hq | hq
  ·exact(h.up h').2.2 q hq hk he
  ·rw[List.mem_singleton]at hq;subst hq;exact absurd hk k2
 by_cases k1:p.1.kind=1
 ·rw[if_pos k1]at hf ⊢
  obtain⟨hls,hup⟩:=hother (by rw[k1];decide)
  simp only[EL,Bool.and_eq_true,Bool.not_eq_true']at hf
  refine⟨fun h'=>?_,fun h'=>by rw[hls];exact hup h'⟩
  rw[hls]
  show(sesD (cm h' (setK p.1.op.h (Ses.av ⟨true,p.1.user,0⟩) b.ses))).s=qh h' l∧((sesD (cm h' (setK p.1.op.h (Ses.av ⟨true,p.1.user,0⟩) b.ses))).o=false→qh h' l=0)
  by_cases e:h'=p.1.op.h
  ·subst e
   rw[nw,BC]
   exact⟨((h.ser p.1.op.h).2 hf.1).symm,fun h=>by cases h⟩
  ·rw[mu e]
   exact h.ser h'
 ·rw[if_neg k1]at hf ⊢
  by_cases k2:p.1.kind=2
  ·rw[if_pos k2]at hf ⊢
   exact(h.two his k2 hf).1
  ·rw[if_neg k2]
   obtain⟨hls,hup⟩:=hother k2
   exact⟨fun h'=>by rw[hls];exact h.ser h',fun h'=>by rw[hls];exact hup h'⟩
end
section
variable{us0:List Clear}{qs:List Quota}{gr0:Int}{l:List (Rcd × AV)}{b:Book}(ho:ofA us0 qs gr0 l=some b)
include ho
theorem Ob:polB us0 qs gr0=true∧l.length≤2048∧ofB us0 qs gr0 (uZ us0 gr0) l=some b:=by
 unfold ofA at ho
 split at ho
 ·rename_i h;exact⟨h.1,h.2,ho⟩
 ·cases ho
end
end Go.Proofs.YtmkmimgokagimaaGreat
