/-
  Records of two lists compared, and how great a log is. No statement of a seat is proved here.
-/
import Derived.Test.YtmkmimgokagimaaGreatLeOnly
import Derived.Test.YtmkmimgokagimaaGreatMLeTwin
set_option linter.unusedVariables false
set_option linter.unusedSimpArgs false
set_option linter.unusedSectionVars false
set_option linter.unnecessarySimpa false
set_option maxRecDepth 100000
namespace Go.Proofs.YtmkmimgokagimaaGreat
open Go.Ab
attribute [local simp] bm aP aG bh bg keep thr bF aY bf dw dv cV bG aC cd List.take_of_length_le
theorem QV(a_1:UInt8)(a_2:UInt8)(a_3:UInt32)(a_4:UInt8)(a_5:Int)(a_6:UInt8)(a_7:UInt32)(a_8:UInt8)(a_9:Int)(a_10:Int)(a_11:UInt8)(a_12:UInt32)(a_13:UInt8)(a_14:Int)(a_15:UInt8)(a_16:UInt32)(b_1:UInt8)(b_2:UInt8)(b_3:UInt32)(b_4:UInt8)(b_5:Int)(b_6:UInt8)(b_7:UInt32)(b_8:UInt8)(b_9:Int)(b_10:Int)(b_11:UInt8)(b_12:UInt32)(b_13:UInt8)(b_14:Int)(b_15:UInt8)(b_16:UInt32){x y:AV}{l m:List Int}(hx:Sl 1 (rows l) x)(hy:Sl 1 (rows m) y)(hl:l.length<1000000000)(hm:m.length<1000000000):limf env 62 [.agg [a8 a_1,a8 a_2,a32 a_3,a8 a_4,aI a_5,a8 a_6,a32 a_7,a8 a_8,aI a_9,aI a_10,a8 a_11,a32 a_12,a8 a_13,aI a_14,a8 a_15,a32 a_16,x],.agg [a8 b_1,a8 b_2,a32 b_3,a8 b_4,aI b_5,a8 b_6,a32 b_7,a8 b_8,aI b_9,aI b_10,a8 b_11,a32 b_12,a8 b_13,aI b_14,a8 b_15,a32 b_16,y]]=some (aB (CR (⟨a_1,⟨a_2,a_3,a_4⟩,a_5,⟨⟨⟨a_6,a_7,a_8⟩,a_9⟩,a_10⟩,⟨⟨a_11,a_12,a_13⟩,a_14⟩,⟨a_15,a_16⟩,l⟩:Opn) (⟨b_1,⟨b_2,b_3,b_4⟩,b_5,⟨⟨⟨b_6,b_7,b_8⟩,b_9⟩,b_10⟩,⟨⟨b_11,b_12,b_13⟩,b_14⟩,⟨b_15,b_16⟩,m⟩:Opn))):=by
 refine az (fn:=Tryz.f62) (c:=ma) rfl (by kernel_rfl) (by kernel_rfl) (by kernel_rfl) (by kernel_rfl) ?_;refine p8 _ _ _ _ fun g=>?_
 have hq:=KU hx hy (by omega)
 have hr:=hx.r
 have hr2:=hy.r
 unfold CR
 cases c1:decide (a_1=b_1) with
 | false=>simp[af,ah,ad,ae,ab, *,bY,eqA,eqFs]
 | true =>
 cases c2:(decide (a_2=b_2)&&decide (a_3=b_3)&&decide (a_4=b_4)) with
 | false=>simp[af,ah,ad,ae,ab, *,bY,eqA,eqFs]
 | true =>
 cases c3:decide (a_5=b_5) with
 | false=>simp[af,ah,ad,ae,ab, *,bY,eqA,eqFs]
 | true =>
 cases c4:(decide (a_6=b_6)&&decide (a_7=b_7)&&decide (a_8=b_8)&&decide (a_9=b_9)&&decide (a_10=b_10)) with
 | false=>simp[af,ah,ad,ae,ab, *,bY,eqA,eqFs]
 | true =>
 cases c5:(decide (a_11=b_11)&&decide (a_12=b_12)&&decide (a_13=b_13)&&decide (a_14=b_14)) with
 | false=>simp[af,ah,ad,ae,ab, *,bY,eqA,eqFs]
 | true =>
 cases c6:(decide (a_15=b_15)&&decide (a_16=b_16)) with
 | false=>simp[af,ah,ad,ae,ab, *,bY,eqA,eqFs]
 | true=>simp[af,ah,ad,ae,ab, *,bY,eqA,eqFs]
def rcs(l:List (Rcd × AV)):List Rcd:=l.map (·.1)
@[simp] theorem Ve(l:List (Rcd × AV)):(rcs l).length=l.length:=by simp[rcs]
section
variable{l m:List (Rcd × AV)}{x y:AV}(hx:Sl 24 (dR l) x)(hy:Sl 24 (dR m) y)(hl : ∀p∈l,okRc p)(hm : ∀p∈m,okRc p)(hbig:l.length<1000000)
include hx hy hl hm hbig
end
section
variable{xu xq:AV}{us:List Clear}{qs:List Quota}{gr:Int}(hu:Sl 3 (eg us) xu)(hq:Sl 5 (eK qs) xq){l:List (Rcd × AV)}{x:AV}(hx:Sl 24 (dR l) x)(hl : ∀p∈l,Sl 1 (rows p.1.op.l) p.2)(most:Int)
include hu hq hx hl
theorem G8{q:Ref}{Q:AV→Heap→Prop}{H:Heap}(hr:H.get q=some ⟨3,[.agg [xu,xq,aI gr]],false,false⟩)(hQ : ∀t:Bool,(t=false→us.length≤100∧qs.length≤100∧(l.length:Int)≤most ∧∀p∈l.take 300,p.1.op.l.length≤300)→Q (aB t) H) :
 ∀(s:List (Rcd × AV)) (k:Nat) (i n:Int),l.drop k=s→k≤l.length→i=k→k≤300→0≤n→n≤1000 * k→(∀p∈l.take k,min (p.1.op.l.length:Int) 1000≤n) →
 GoL env Tryz.f13 0 dp [(8,aI i),(1,x),(7,aI n),(2,aI most),(3,.ptr q 0 0)] H Q:=by
 intro s
 have hG:=KX gr hu hq
 have hend : ∀n:Int,(∀p∈l.take 300,min (p.1.op.l.length:Int) 1000≤n)→Q (aB (decide (100<(us.length:Int))||decide (100<(qs.length:Int))||decide (most<l.length)||decide (300<n))) H:=by
  intro n hn
  refine hQ _ fun h=>?_
  simp at h
  refine⟨by omega,by omega,by omega,fun p hp=>?_⟩
  have:=hn p hp
  omega
 generalize (decide (100<(us.length:Int))||decide (100<(qs.length:Int)))=gg at *
 induction s with
 | nil =>
  rintro k i n hs hk rfl h3 h0 hn hm
  obtain rfl:=drop_nil hs hk
  rw[List.take_length]at hm
  have hQ':=hend n (fun p hp=>hm p (List.mem_of_mem_take hp))
  refine jB _ _ _ _ _ _ _ fun g=>?_
  clear hQ hend hl hm
  cases gg<;>by_cases hmo:most<l.length<;>simp[af,ah,ad,ae,ab, *,dX,hx.r,hu.r,hq.r]
  all_goals simpa [hmo] using hQ'
 | cons p s ih =>
  rintro k i n hs hk rfl h3 h0 hn hm
  obtain⟨hlt,hg,hs',hg'⟩:=drop_cons hs
  have hpx:=(hl p (hg ▸ List.getElem_mem _)).r
  have e3:=IntWalk.i64_in ((k:Int)+1) (by omega)
  refine jB _ _ _ _ _ _ _ fun g=>?_
  have hkl:(k:Int)<l.length:=by omega
  by_cases h300:k<300
  ·have h300':(k:Int)<300:=by omega
   have hrd1:dE (dR l) k 18 1 false=some p.2:=by simp[dR,hg',Rcd.val]
   have hrd2:dE (dR l) k 11 1 false=some (aI p.1.op.s.many):=by simp[dR,hg',Rcd.val]
   have hih:=fun m (h1:0≤m) (h2:m≤1000) (h3:min (p.1.op.l.length:Int) 1000≤m)=>ih (k+1) ((k:Int)+1) (n+m) hs' (by omega) (by simp) (by omega) (by omega) (by omega) (by
    intro q hq
    rw[List.take_add_one,hg']at hq
    rcases List.mem_append.1 hq with hq | hq
    ·have:=hm q hq;omega
    ·simp at hq;subst hq;omega)
   have hw:=fun m (h1:0≤m) (h2:m≤1000)=>IntWalk.i64_in (n+m) (by omega)
   clear ih hQ hend hl hm
   simp[af,ah,ad,ae,ab, *,dX,hx.r,hx.idx]
   rw[hw _ (by repeat' split<;>omega) (by repeat' split<;>omega)]
   exact hih _ (by repeat' split<;>omega) (by repeat' split<;>omega) (by repeat' split<;>omega)
  ·have hk2:k=300:=by omega
   subst hk2
   have hQ':=hend n hm
   have hkl2:300<l.length:=by omega
   have hkl3:(300:Int)<l.length:=by omega
   clear ih hQ hend hl hm
   cases gg<;>by_cases hmo:most<l.length<;>simp[af,ah,ad,ae,ab, *,dX,hx.r,hu.r,hq.r]
   all_goals simpa [hmo] using hQ'
theorem K3 : ∃t:Bool,limf env 13 [.agg [xu,xq,aI gr],x,aI most]=some (aB t)∧(t=false→us.length≤100∧qs.length≤100∧(l.length:Int)≤most ∧∀p∈l.take 300,p.1.op.l.length≤300):=by
 have h : ∃y,limf env 13 [.agg [xu,xq,aI gr],x,aI most]=some y ∧∃t:Bool,y=aB t∧(t=false→us.length≤100∧qs.length≤100∧(l.length:Int)≤most ∧∀p∈l.take 300,p.1.op.l.length≤300):=by
  refine uP (fn:=Tryz.f13) (c:=gV) (by kernel_rfl) (by kernel_rfl) (by kernel_rfl) (by kernel_rfl) (by kernel_rfl) ?_
  refine pg _ _ _ _ _ fun g=>?_
  have hlp:=fun(q:Ref)(H:Heap)(hr:H.get q=some ⟨3,[.agg [xu,xq,aI gr]],false,false⟩)=>G8 (q:=q) (H:=H) (Q:=fun x H =>∃y,qI env 13 x H y ∧∃t:Bool,y=aB t∧(t=false→us.length≤100∧qs.length≤100∧(l.length:Int)≤most ∧∀p∈l.take 300,p.1.op.l.length≤300)) (gr:=gr) hu hq hx hl most hr (fun t ht=>⟨aB t,by simp,t,rfl,ht⟩) l 0 0 0 rfl (by omega) rfl (by simp) (by simp) (by simp) (by simp)
  have key : ∀Q:AV→Heap→Prop,(∀(q:Ref)(H:Heap),H.get q=some ⟨3,[.agg [xu,xq,aI gr]],false,false⟩→GoL env Tryz.f13 0 dp [(8,aI 0),(1,x),(7,aI 0),(2,aI most),(3,.ptr q 0 0)] H Q)→gY g (.agg [xu,xq,aI gr]) x (aI most) [] Q:=by
   intro Q h
   clear hlp
   simp[af,ah,ad,ae,ab, *,gY,hu.r,hq.r]
  exact key _ hlp
 obtain⟨y,h1,t,rfl,h2⟩:=h
 exact⟨t,h1,h2⟩
end
end Go.Proofs.YtmkmimgokagimaaGreat
namespace Go.Proofs.YtmkmimgokagimaaGreat
open Go.Ab
attribute [local simp] bm aP aG bh bg keep thr bF aY bf dw dv cV bG aC cd List.take_of_length_le
def isOp(h:Han)(sr:Int)(p:Rcd × AV):Bool:=decide (p.1.kind=2)&&(decide (p.1.op.h=h)&&decide (p.1.op.serial=sr))
def m0(h:Han)(sr:Int)(l:List (Rcd × AV)):AV:=match l.find? (isOp h sr)with | some p => .tup [aI p.1.code,aI 0] | none => .tup [aI 0,aI 6]
section
variable{recs:List (Rcd × AV)}(hrl:recs.length≤2048)(hok : ∀p∈recs,okRc p){dep:Nat}{q1 q2:Ref}{xr:AV}(h1:UInt8)(h2:UInt32)(h3:UInt8)(sr:Int){Q:AV→Heap→Prop}
include hrl hok
theorem JY : ∀(s:List (Rcd × AV)) (k:Nat) (H:Heap),recs.drop k=s→k≤recs.length→Fr H→Own 24 (dR recs) H xr→H.get q1=some ⟨3,[.agg [a8 h1,a32 h2,a8 h3]],false,false⟩→H.get q2=some ⟨1,[aI sr],false,false⟩ →
 (∀H',Grow H H'→Q (m0 ⟨h1,h2,h3⟩ sr s) H')→GoL env Tryz.f95 (dep+1) iP [(13,aI k),(2,.ptr q2 0 0),(1,.ptr q1 0 0),(11,xr),(12,aI recs.length)] H Q:=by
 intro s
 induction s with
 | nil =>
  rintro k H hs hk hF hr hq1 hq2 hQ
  obtain rfl:=drop_nil hs hk
  have hfin:=hQ H (Grow.refl hF)
  refine gb _ _ _ _ _ _ _ _ fun g=>?_
  clear hQ hr hok
  unfold m0 at hfin
  simp[af,ah,ad,ae,ab, *,eY]
  all_goals exact hfin
 | cons p s ih =>
  rintro k H hs hk hF hr hq1 hq2 hQ
  obtain⟨hlt,hg,hs',hg'⟩:=drop_cons hs
  have hp:=hok p (hg ▸ List.getElem_mem hlt)
  have e3:=IntWalk.i64_in ((k:Int)+1) (by omega)
  have hlt':(k:Int)<recs.length:=by omega
  obtain⟨r,rfl,hr0⟩ : ∃r,xr = .osl r 0 recs.length none∧H.get r=some ⟨24,dR recs,true,false⟩:=by
   rcases hr with ⟨rfl,h⟩ | ⟨r,rfl,h⟩
   ·have:=congrArg List.length h;simp at this;subst this;simp at hlt
   ·exact⟨r,by simp,h⟩
  have hgg : ∀b1:Blk,Grow H ((⟨dep+1,7,H.gen (dep+1) 7,0⟩,some b1) :: H):=fun b1=>Grow.cons hF _ _ _
  have hno:=fun(h:isOp ⟨h1,h2,h3⟩ sr p=false) b1=>ih (k+1) _ hs' (by omega) (hgg b1).fr (Own.grow hr (hgg b1)) ((hgg b1).old _ _ hq1) ((hgg b1).old _ _ hq2) (fun H' hG=>by
   have:=hQ H' ((hgg b1).trans hG)
   unfold m0 at this ⊢
   rw[List.find?_cons,h]at this
   exact this)
  have hyes:=fun(h:isOp ⟨h1,h2,h3⟩ sr p=true) b1=>by
   have:=hQ _ (hgg b1)
   unfold m0 at this
   rw[List.find?_cons,h]at this
   exact this
  clear hQ ih
  obtain⟨⟨k1,u,⟨a_1,⟨a_2,a_3,a_4⟩,a_5,⟨⟨⟨a_6,a_7,a_8⟩,a_9⟩,a_10⟩,⟨⟨a_11,a_12,a_13⟩,a_14⟩,⟨a_15,a_16⟩,al⟩,c,g1,v,w,o⟩,x⟩:=p
  obtain⟨hax,hal⟩:=hp
  simp only at hax hal
  have hrd:dE (dR recs) k 0 24 true=some (.agg [a8 k1,aI u,a8 a_1,a8 a_2,a32 a_3,a8 a_4,aI a_5,a8 a_6,a32 a_7,a8 a_8,aI a_9,aI a_10,a8 a_11,a32 a_12,a8 a_13,aI a_14,a8 a_15,a32 a_16,x,aI c,aI g1,a8 v,a32 w,aB o]):=by simp[dR,hg',Rcd.val]
  have hiB:isOp ⟨h1,h2,h3⟩ sr (⟨k1,u,(⟨a_1,⟨a_2,a_3,a_4⟩,a_5,⟨⟨⟨a_6,a_7,a_8⟩,a_9⟩,a_10⟩,⟨⟨a_11,a_12,a_13⟩,a_14⟩,⟨a_15,a_16⟩,al⟩:Opn),c,g1,v,w,o⟩,x)=(decide (k1=2)&&(decide ((⟨a_2,a_3,a_4⟩:Han)=⟨h1,h2,h3⟩)&&decide (a_5=sr))):=rfl
  have hhe:decide ((⟨a_2,a_3,a_4⟩:Han)=⟨h1,h2,h3⟩)=(decide (a_2=h1)&&decide (a_3=h2)&&decide (a_4=h3)):=by simp[and_assoc,Bool.and_assoc]
  rw[hiB,hhe]at hno hyes
  have lr:(H.get r).isSome=true:=by rw[hr0];rfl
  have l1:(H.get q1).isSome=true:=by rw[hq1];rfl
  have l2:(H.get q2).isSome=true:=by rw[hq2];rfl
  have hRl:(dR recs).length=recs.length:=nN recs
  clear hs hs' hg hg' hok hr hiB hhe
  generalize dR recs=er at *
  generalize recs.length=nr at *
  simp only at hyes
  by_cases e1:k1=2
  ·subst e1
   cases e2:(decide (a_2=h1)&&decide (a_3=h2)&&decide (a_4=h3)) with
   | false =>
    have hn:=hno (by rw[e2];simp)
    clear hno hyes
    refine gb _ _ _ _ _ _ _ _ fun g=>?_
    simp[af,ah,ad,ae,ab, *,eY,hax.r,eqA,eqFs]
    all_goals exact hn _
   | true =>
    by_cases e3':a_5=sr
    ·have hy:=hyes (by rw[e2];simp[e3'])
     subst e3'
     clear hno hyes
     refine gb _ _ _ _ _ _ _ _ fun g=>?_
     simp[af,ah,ad,ae,ab, *,eY,hax.r,eqA,eqFs]
     all_goals exact hy _
    ·have hn:=hno (by rw[e2];simp[e3'])
     clear hno hyes
     refine gb _ _ _ _ _ _ _ _ fun g=>?_
     simp[af,ah,ad,ae,ab, *,eY,hax.r,eqA,eqFs]
     all_goals exact hn _
  ·have hn:=hno (by simp[e1])
   clear hno hyes
   refine gb _ _ _ _ _ _ _ _ fun g=>?_
   simp[af,ah,ad,ae,ab, *,eY,hax.r,eqA,eqFs]
   all_goals exact hn _
end
section
variable{xu xq:AV}{us:List Clear}{qs:List Quota}{gr:Int}(hu:Sl 3 (eg us) xu)(hq:Sl 5 (eK qs) xq)(hul:us.length<1000000)(hql:qs.length<1000000){l:List (Rcd × AV)}{x1:AV}(hx:Sl 24 (dR l) x1)(hall : ∀p∈l,okRc p)
include hu hq hul hql hx hall
theorem zK(dep:Nat){H:Heap}(hF:Fr H)(wr:Int){fd:FuncId}(hm:(env.mode fd == 2)=true){caps:List AV}{R:Book→AV→Heap→Prop}
 (hdo:wr=0 →∀b H2 rb rs ru xh xr,ofA us qs gr l=some b→Grow H H2→BookX H2 rb rs ru xh xr us qs gr b→Own 24 (dR (l.map twR)) H2 xr→(∀r,xr.at?=some r→r.t=62)→BookOk b →∃z e H3,limt env (dep+1) (.fn fd) ([]++[.ptr rb 0 0]++caps) H2=some (.tup [z,e],H3)∧R b (.tup [z,e]) H3) :
 ∃y H',limt env dep (.fn 69) [.agg [xu,xq,aI gr],x1,aI wr,.fn (.func fd) [] caps] H=some (y,H')∧iC (ofA us qs gr l) wr (aI 0) R y H':=by
 have hgo:GoL env Tryz.f69 (dep+1) [.code fj] (qv 0 [.agg [xu,xq,aI gr],x1,aI wr,.fn (.func fd) [] caps]) H fun y H'=>iC (ofA us qs gr l) wr (aI 0) R y H':=by
  have hg2 : ∀b1:Blk,Grow H ((⟨dep+1,4,H.gen (dep+1) 4,0⟩,some b1) :: H):=fun b1=>Grow.cons hF _ _ _
  obtain⟨y,H2,hO,hA⟩:=s_Of (gr:=gr) hu hq hul hql hx hall (dep+1) (hg2 ⟨3,[.agg [xu,xq,aI gr]],false,false⟩).fr
  refine jI _ _ _ _ _ _ _ fun g=>?_
  unfold iC
  simp[af,ah,ad,ae,ab, *,fm,hx.r,hu.r,hq.r]
  refine n9 (by kernel_rfl) hO ?_
  cases ho:ofA us qs gr l with
  | none =>
   rw[ho]at hA
   obtain⟨rfl,hG⟩:=hA
   simp
  | some b =>
   rw[ho]at hA
   obtain⟨rb,rs,ru,rk,xh,xr,rfl,hI,hok⟩:=hA
   by_cases hw:wr=0
   ·subst hw
    obtain⟨z,e,H3,h1,h2⟩:=hdo rfl b H2 rb rs ru xh xr ho ((hg2 _).trans hI.g) hI.bk hI.row (fun r e=>(hI.t62 r e).1) hok
    simp
    refine n9 hm h1 ?_
    simp
    exact h2
   ·simp[hw]
 obtain⟨y,H',h1,h2⟩:=gh (by kernel_rfl) (by kernel_rfl) (by kernel_rfl) (by kernel_rfl) (by kernel_rfl) hgo
 exact⟨y,H',h1,h2⟩
theorem Fb(dep:Nat){H:Heap}(hF:Fr H)(wr:Int){fd:FuncId}(hm:(env.mode fd == 2)=true){caps:List AV}{f:Book→Quota}
 (hdo:wr=0 →∀b H2 rb rs ru xh xr,ofA us qs gr l=some b→Grow H H2→BookX H2 rb rs ru xh xr us qs gr b→BookOk b →∃H3,limt env (dep+1) (.fn fd) ([]++[.ptr rb 0 0]++caps) H2=some (.tup [.agg (f b).enc,aI 0],H3)∧Grow H2 H3) :
 ∃y H',limt env dep (.fn 97) [.agg [xu,xq,aI gr],x1,aI wr,.fn (.func fd) [] caps] H=some (y,H')∧iC (ofA us qs gr l) wr (.agg [a8 0,a32 0,aI 0,aI 0,aI 0]) (fun b y _=>y = .tup [.agg (f b).enc,aI 0]) y H'∧Grow H H':=by
 have hgo:GoL env Tryz.f97 (dep+1) [.code fh] (qv 0 [.agg [xu,xq,aI gr],x1,aI wr,.fn (.func fd) [] caps]) H fun y H'=>iC (ofA us qs gr l) wr (.agg [a8 0,a32 0,aI 0,aI 0,aI 0]) (fun b y _=>y = .tup [.agg (f b).enc,aI 0]) y H'∧Grow H H':=by
  have hg2 : ∀b1 b2:Blk,Grow H ((⟨dep+1,8,H.gen (dep+1) 8,0⟩,some b2) :: (⟨dep+1,4,H.gen (dep+1) 4,0⟩,some b1) :: H):=fun b1 b2=>⟨by simp(maxDischargeDepth:=12) [Heap.an,ar,aj,Fr.nil,au,af,ah,ad,ae,aq,ak,ab, *],fun q c hq=>by
   have lq:(H.get q).isSome=true:=by rw[hq];rfl
   simp[af hF lq,hq]⟩
  obtain⟨y,H2,hO,hA⟩:=s_Of (gr:=gr) hu hq hul hql hx hall (dep+1) (hg2 ⟨3,[.agg [xu,xq,aI gr]],false,false⟩ ⟨5,[.agg [a8 0,a32 0,aI 0,aI 0,aI 0]],false,false⟩).fr
  have hput : ∀(Hx:Heap)(c:Blk),Grow H Hx→Hx.get ⟨dep+1,8,H.gen (dep+1) 8,0⟩=some c →∀c',Grow H (Hx.put ⟨dep+1,8,H.gen (dep+1) 8,0⟩ (some c')):=by
   intro Hx c hGx hc c'
   refine⟨hGx.fr.put _ (by rw[hc];rfl),fun q d hq=>?_⟩
   have lq:(H.get q).isSome=true:=by rw[hq];rfl
   rw[Heap.an,if_neg (fun e=>m6 hF lq _ _ _ e.symm)]
   exact hGx.old q d hq
  refine jH _ _ _ _ _ _ _ fun g=>?_
  unfold iC
  simp[af,ah,ad,ae,ab, *,fl,hx.r,hu.r,hq.r]
  refine n9 (by kernel_rfl) hO ?_
  cases ho:ofA us qs gr l with
  | none =>
   rw[ho]at hA
   obtain⟨rfl,hG⟩:=hA
   have hb8:=hG.old ⟨dep+1,8,H.gen (dep+1) 8,0⟩ _ (by simp;rfl)
   have hF2:=hG.fr
   have hfin:=hput H2 _ ((hg2 _ _).trans hG) hb8
   clear hx hall hput
   simp[hb8,hfin]
  | some b =>
   rw[ho]at hA
   obtain⟨rb,rs,ru,rk,xh,xr,rfl,hI,hok⟩:=hA
   have hG:=hI.g
   have hb8:=hG.old ⟨dep+1,8,H.gen (dep+1) 8,0⟩ _ (by simp;rfl)
   have hF2:=hG.fr
   by_cases hw:wr=0
   ·subst hw
    obtain⟨H3,h1,h2⟩:=hdo rfl b H2 rb rs ru xh xr ho ((hg2 _ _).trans hI.g) hI.bk hok
    have hb9:=h2.old _ _ hb8
    have hF3:=h2.fr
    have hfin:=hput H3 _ (((hg2 _ _).trans hG).trans h2) hb9
    clear hput
    simp
    refine n9 hm h1 ?_
    cases hfb:f b with
    | mk f1 f2 f3 f4 f5 =>
     simp[hb9,hfb,Quota.enc,hfin]
   ·have hfin:=hput H2 _ ((hg2 _ _).trans hG) hb8
    clear hput
    simp[hw,hb8,hfin]
 obtain⟨y,H',h1,h2⟩:=gh (by kernel_rfl) (by kernel_rfl) (by kernel_rfl) (by kernel_rfl) (by kernel_rfl) hgo
 exact⟨y,H',h1,h2⟩
end
end Go.Proofs.YtmkmimgokagimaaGreat
