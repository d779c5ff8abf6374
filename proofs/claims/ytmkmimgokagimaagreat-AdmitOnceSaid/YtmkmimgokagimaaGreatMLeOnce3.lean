/-
  What is asked of a log: codes, and what is used. No statement of a seat is proved here.
-/
import Derived.Test.YtmkmimgokagimaaGreatMLeSame
set_option linter.unusedVariables false
set_option linter.unusedSimpArgs false
set_option linter.unusedSectionVars false
set_option linter.unnecessarySimpa false
set_option maxRecDepth 100000
namespace Go.Proofs.YtmkmimgokagimaaGreat
open Go.Ab
attribute [local simp] bj aL aF bg bf keep thr bx aT bc da cZ cJ bD aD bM List.take_of_length_le
def isOp(h:Han)(sr:Int)(p:Rcd × AV):Bool:=decide (p.1.kind=2)&&(decide (p.1.op.h=h)&&decide (p.1.op.serial=sr))
def qN(h:Han)(sr:Int)(l:List (Rcd × AV)):AV:=match l.find? (isOp h sr)with | some p => .tup [aI p.1.code,aI 0] | none => .tup [aI 0,aI 6]
section
variable{recs:List (Rcd × AV)}(hrl:recs.length≤2048)(hok : ∀p∈recs,okRc p){dep:Nat}{q1 q2:Ref}{xr:AV}(h1:UInt8)(h2:UInt32)(h3:UInt8)(sr:Int){Q:AV→Heap→Prop}
include hrl hok
theorem Kj : ∀(s:List (Rcd × AV)) (k:Nat) (H:Heap),recs.drop k=s→k≤recs.length→Fr H→Own 24 (dX recs) H xr→H.get q1=some ⟨3,[.agg [a8 h1,a32 h2,a8 h3]],false,false⟩→H.get q2=some ⟨1,[aI sr],false,false⟩ →
 (∀H',Grow H H'→Q (qN ⟨h1,h2,h3⟩ sr s) H')→GoL env Tryz.f95 (dep+1) iA [(13,aI k),(2,.ptr q2 0 0),(1,.ptr q1 0 0),(11,xr),(12,aI recs.length)] H Q:=by
 intro s
 induction s with
 | nil =>
  rintro k H hs hk hF hr hq1 hq2 hQ
  obtain rfl:=drop_nil hs hk
  have hfin:=hQ H (Grow.refl hF)
  refine fJ _ _ _ _ _ _ _ _ fun g=>?_
  clear hQ hr hok
  unfold qN at hfin
  simp[af,ah,ad,ae,ab, *,eI]
  all_goals exact hfin
 | cons p s ih =>
  rintro k H hs hk hF hr hq1 hq2 hQ
  obtain⟨hlt,hg,hs',hg'⟩:=drop_cons hs
  have hp:=hok p (hg ▸ List.getElem_mem hlt)
  have e3:=IntWalk.i64_in ((k:Int)+1) (by omega)
  have hlt':(k:Int)<recs.length:=by omega
  obtain⟨r,rfl,hr0⟩ : ∃r,xr = .osl r 0 recs.length none∧H.get r=some ⟨24,dX recs,true,false⟩:=by
   rcases hr with ⟨rfl,h⟩ | ⟨r,rfl,h⟩
   ·have:=congrArg List.length h;simp at this;subst this;simp at hlt
   ·exact⟨r,by simp,h⟩
  have hgg : ∀b1:Blk,Grow H ((⟨dep+1,7,H.gen (dep+1) 7,0⟩,some b1) :: H):=fun b1=>Grow.cons hF _ _ _
  have hno:=fun(h:isOp ⟨h1,h2,h3⟩ sr p=false) b1=>ih (k+1) _ hs' (by omega) (hgg b1).fr (Own.grow hr (hgg b1)) ((hgg b1).old _ _ hq1) ((hgg b1).old _ _ hq2) (fun H' hG=>by
   have:=hQ H' ((hgg b1).trans hG)
   unfold qN at this ⊢
   rw[List.find?_cons,h]at this
   exact this)
  have hyes:=fun(h:isOp ⟨h1,h2,h3⟩ sr p=true) b1=>by
   have:=hQ _ (hgg b1)
   unfold qN at this
   rw[List.find?_cons,h]at this
   exact this
  clear hQ ih
  obtain⟨⟨k1,u,⟨a_1,⟨a_2,a_3,a_4⟩,a_5,⟨⟨⟨a_6,a_7,a_8⟩,a_9⟩,a_10⟩,⟨⟨a_11,a_12,a_13⟩,a_14⟩,⟨a_15,a_16⟩,al⟩,c,g1,v,w,o⟩,x⟩:=p
  obtain⟨hax,hal⟩:=hp
  simp only at hax hal
  have hrd:fD (dX recs) k 0 24 true=some (.agg [a8 k1,aI u,a8 a_1,a8 a_2,a32 a_3,a8 a_4,aI a_5,a8 a_6,a32 a_7,a8 a_8,aI a_9,aI a_10,a8 a_11,a32 a_12,a8 a_13,aI a_14,a8 a_15,a32 a_16,x,aI c,aI g1,a8 v,a32 w,aB o]):=by simp[dX,hg',Rcd.val]
  have hiB:isOp ⟨h1,h2,h3⟩ sr (⟨k1,u,(⟨a_1,⟨a_2,a_3,a_4⟩,a_5,⟨⟨⟨a_6,a_7,a_8⟩,a_9⟩,a_10⟩,⟨⟨a_11,a_12,a_13⟩,a_14⟩,⟨a_15,a_16⟩,al⟩:Opn),c,g1,v,w,o⟩,x)=(decide (k1=2)&&(decide ((⟨a_2,a_3,a_4⟩:Han)=⟨h1,h2,h3⟩)&&decide (a_5=sr))):=rfl
  have hhe:decide ((⟨a_2,a_3,a_4⟩:Han)=⟨h1,h2,h3⟩)=(decide (a_2=h1)&&decide (a_3=h2)&&decide (a_4=h3)):=by simp[and_assoc,Bool.and_assoc]
  rw[hiB,hhe]at hno hyes
  have lr:(H.get r).isSome=true:=by rw[hr0];rfl
  have l1:(H.get q1).isSome=true:=by rw[hq1];rfl
  have l2:(H.get q2).isSome=true:=by rw[hq2];rfl
  have hRl:(dX recs).length=recs.length:=vj recs
  clear hs hs' hg hg' hok hr hiB hhe
  generalize dX recs=er at *
  generalize recs.length=nr at *
  simp only at hyes
  by_cases e1:k1=2
  ·subst e1
   cases e2:(decide (a_2=h1)&&decide (a_3=h2)&&decide (a_4=h3)) with
   | false =>
    have hn:=hno (by rw[e2];simp)
    clear hno hyes
    refine fJ _ _ _ _ _ _ _ _ fun g=>?_
    simp[af,ah,ad,ae,ab, *,eI,hax.r,eqA,eqFs]
    all_goals exact hn _
   | true =>
    by_cases e3':a_5=sr
    ·have hy:=hyes (by rw[e2];simp[e3'])
     subst e3'
     clear hno hyes
     refine fJ _ _ _ _ _ _ _ _ fun g=>?_
     simp[af,ah,ad,ae,ab, *,eI,hax.r,eqA,eqFs]
     all_goals exact hy _
    ·have hn:=hno (by rw[e2];simp[e3'])
     clear hno hyes
     refine fJ _ _ _ _ _ _ _ _ fun g=>?_
     simp[af,ah,ad,ae,ab, *,eI,hax.r,eqA,eqFs]
     all_goals exact hn _
  ·have hn:=hno (by simp[e1])
   clear hno hyes
   refine fJ _ _ _ _ _ _ _ _ fun g=>?_
   simp[af,ah,ad,ae,ab, *,eI,hax.r,eqA,eqFs]
   all_goals exact hn _
end
section
variable{xu xq:AV}{us:List Clear}{qs:List Quota}{gr:Int}(hu:Sl 3 (eN us) xu)(hq:Sl 5 (eQ qs) xq)(hul:us.length<1000000)(hql:qs.length<1000000){l:List (Rcd × AV)}{x1:AV}(hx:Sl 24 (dX l) x1)(hall : ∀p∈l,okRc p)
include hu hq hul hql hx hall
theorem As(dep:Nat){H:Heap}(hF:Fr H)(wr:Int){fd:FuncId}(hm:(env.mode fd == 2)=true){caps:List AV}{R:Book→AV→Heap→Prop}
 (hdo:wr=0 →∀b H2 rb rs ru xh xr,ofA us qs gr l=some b→Grow H H2→BookX H2 rb rs ru xh xr us qs gr b→Own 24 (dX (l.map twR)) H2 xr→(∀r,xr.at?=some r→r.t=62)→BookOk b →∃z e H3,limt env (dep+1) (.fn fd) ([]++[.ptr rb 0 0]++caps) H2=some (.tup [z,e],H3)∧R b (.tup [z,e]) H3) :
 ∃y H',limt env dep (.fn 69) [.agg [xu,xq,aI gr],x1,aI wr,.fn (.func fd) [] caps] H=some (y,H')∧jR (ofA us qs gr l) wr (aI 0) R y H':=by
 have hgo:GoL env Tryz.f69 (dep+1) [.code eS] (q0 0 [.agg [xu,xq,aI gr],x1,aI wr,.fn (.func fd) [] caps]) H fun y H'=>jR (ofA us qs gr l) wr (aI 0) R y H':=by
  have hg2 : ∀b1:Blk,Grow H ((⟨dep+1,4,H.gen (dep+1) 4,0⟩,some b1) :: H):=fun b1=>Grow.cons hF _ _ _
  obtain⟨y,H2,hO,hA⟩:=s_Of (gr:=gr) hu hq hul hql hx hall (dep+1) (hg2 ⟨3,[.agg [xu,xq,aI gr]],false,false⟩).fr
  refine jq _ _ _ _ _ _ _ fun g=>?_
  unfold jR
  simp[af,ah,ad,ae,ab, *,eV,hx.r,hu.r,hq.r]
  refine rf (by kernel_rfl) hO ?_
  cases ho:ofA us qs gr l with
  | none =>
   rw[ho]at hA
   obtain⟨rfl,hG⟩:=hA
   simp
  | some b =>
   rw[ho]at hA
   obtain⟨rb,rs,ru,rk,xh,xr,rfl,hI,hok⟩:=hA
   by_cases hw:wr=0
   ·subst hw
    obtain⟨z,e,H3,h1,h2⟩:=hdo rfl b H2 rb rs ru xh xr ho ((hg2 _).trans hI.g) hI.bk hI.row (fun r e=>(hI.t62 r e).1) hok
    simp
    refine rf hm h1 ?_
    simp
    exact h2
   ·simp[hw]
 obtain⟨y,H',h1,h2⟩:=iw (by kernel_rfl) (by kernel_rfl) (by kernel_rfl) (by kernel_rfl) (by kernel_rfl) hgo
 exact⟨y,H',h1,h2⟩
theorem FD(dep:Nat){H:Heap}(hF:Fr H)(wr:Int){fd:FuncId}(hm:(env.mode fd == 2)=true){caps:List AV}{f:Book→Quota}
 (hdo:wr=0 →∀b H2 rb rs ru xh xr,ofA us qs gr l=some b→Grow H H2→BookX H2 rb rs ru xh xr us qs gr b→BookOk b →∃H3,limt env (dep+1) (.fn fd) ([]++[.ptr rb 0 0]++caps) H2=some (.tup [.agg (f b).enc,aI 0],H3)∧Grow H2 H3) :
 ∃y H',limt env dep (.fn 97) [.agg [xu,xq,aI gr],x1,aI wr,.fn (.func fd) [] caps] H=some (y,H')∧jR (ofA us qs gr l) wr (.agg [a8 0,a32 0,aI 0,aI 0,aI 0]) (fun b y _=>y = .tup [.agg (f b).enc,aI 0]) y H'∧Grow H H':=by
 have hgo:GoL env Tryz.f97 (dep+1) [.code eR] (q0 0 [.agg [xu,xq,aI gr],x1,aI wr,.fn (.func fd) [] caps]) H fun y H'=>jR (ofA us qs gr l) wr (.agg [a8 0,a32 0,aI 0,aI 0,aI 0]) (fun b y _=>y = .tup [.agg (f b).enc,aI 0]) y H'∧Grow H H':=by
  have hg2 : ∀b1 b2:Blk,Grow H ((⟨dep+1,8,H.gen (dep+1) 8,0⟩,some b2) :: (⟨dep+1,4,H.gen (dep+1) 4,0⟩,some b1) :: H):=fun b1 b2=>⟨by simp(maxDischargeDepth:=12) [Heap.an,au,ak,Fr.nil,az,af,ah,ad,ae,ar,ao,ab, *],fun q c hq=>by
   have lq:(H.get q).isSome=true:=by rw[hq];rfl
   simp[af hF lq,hq]⟩
  obtain⟨y,H2,hO,hA⟩:=s_Of (gr:=gr) hu hq hul hql hx hall (dep+1) (hg2 ⟨3,[.agg [xu,xq,aI gr]],false,false⟩ ⟨5,[.agg [a8 0,a32 0,aI 0,aI 0,aI 0]],false,false⟩).fr
  have hput : ∀(Hx:Heap)(c:Blk),Grow H Hx→Hx.get ⟨dep+1,8,H.gen (dep+1) 8,0⟩=some c →∀c',Grow H (Hx.put ⟨dep+1,8,H.gen (dep+1) 8,0⟩ (some c')):=by
   intro Hx c hGx hc c'
   refine⟨hGx.fr.put _ (by rw[hc];rfl),fun q d hq=>?_⟩
   have lq:(H.get q).isSome=true:=by rw[hq];rfl
   rw[Heap.an,if_neg (fun e=>mK hF lq _ _ _ e.symm)]
   exact hGx.old q d hq
  refine jo _ _ _ _ _ _ _ fun g=>?_
  unfold jR
  simp[af,ah,ad,ae,ab, *,eU,hx.r,hu.r,hq.r]
  refine rf (by kernel_rfl) hO ?_
  cases ho:ofA us qs gr l with
  | none =>
   rw[ho]at hA
   obtain⟨rfl,hG⟩:=hA
   have hb8:=hG.old ⟨dep+1,8,H.gen (dep+1) 8,0⟩ _ (by simp;rfl)
   have hF2:=hG.fr
   have hfin:=hput H2 _ ((hg2 _ _).trans hG) hb8
   clear hx hall hput
   simp[hb8,hfin]
  | some b =>
   rw[ho]at hA
   obtain⟨rb,rs,ru,rk,xh,xr,rfl,hI,hok⟩:=hA
   have hG:=hI.g
   have hb8:=hG.old ⟨dep+1,8,H.gen (dep+1) 8,0⟩ _ (by simp;rfl)
   have hF2:=hG.fr
   by_cases hw:wr=0
   ·subst hw
    obtain⟨H3,h1,h2⟩:=hdo rfl b H2 rb rs ru xh xr ho ((hg2 _ _).trans hI.g) hI.bk hok
    have hb9:=h2.old _ _ hb8
    have hF3:=h2.fr
    have hfin:=hput H3 _ (((hg2 _ _).trans hG).trans h2) hb9
    clear hput
    simp
    refine rf hm h1 ?_
    cases hfb:f b with
    | mk f1 f2 f3 f4 f5 =>
     simp[hb9,hfb,Quota.enc,hfin]
   ·have hfin:=hput H2 _ ((hg2 _ _).trans hG) hb8
    clear hput
    simp[hw,hb8,hfin]
 obtain⟨y,H',h1,h2⟩:=iw (by kernel_rfl) (by kernel_rfl) (by kernel_rfl) (by kernel_rfl) (by kernel_rfl) hgo
 exact⟨y,H',h1,h2⟩
end
end Go.Proofs.YtmkmimgokagimaaGreat
namespace Go.Proofs.YtmkmimgokagimaaGreat
open Go.Ab
attribute [local simp] bj aL aF bg bf keep thr bx aT bc da cZ cJ bD aD bM List.take_of_length_le
def ta(us:List Clear)(qs:List Quota)(gr:Int)(l:List (Rcd × AV))(h:Han)(sr:Int):AV:=match ofA us qs gr l with
 | none => .tup [aI 0,aI 8]
 | some _=>if hY h=true then qN h sr (l.map twR) else .tup [aI 0,aI 8]
theorem xd(h:Han)(sr:Int)(l:List (Rcd × AV)) : ∃a b,qN h sr l = .tup [aI a,aI b]:=by
 unfold qN
 split
 ·exact⟨_,_,rfl⟩
 ·exact⟨_,_,rfl⟩
def Dh(b:Book)(v1:UInt8)(v2:UInt32):Quota:=⟨v1,v2,(useD (bE ⟨v1,v2⟩ b.used)).opens,(useD (bE ⟨v1,v2⟩ b.used)).ops,(useD (bE ⟨v1,v2⟩ b.used)).cells⟩
def GR(us:List Clear)(qs:List Quota)(gr:Int)(l:List (Rcd × AV))(v1:UInt8)(v2:UInt32):AV:=match ofA us qs gr l with
 | none => .tup [.agg [a8 0,a32 0,aI 0,aI 0,aI 0],aI 8]
 | some b=>if v1≤15 then .tup [.agg (Dh b v1 v2).enc,aI 0] else .tup [.agg [a8 0,a32 0,aI 0,aI 0,aI 0],aI 8]
section
variable{xu xq:AV}{us:List Clear}{qs:List Quota}{gr:Int}(hu:Sl 3 (eN us) xu)(hq:Sl 5 (eQ qs) xq)(hul:us.length<1000000)(hql:qs.length<1000000){l:List (Rcd × AV)}{x1:AV}(hx:Sl 24 (dX l) x1)(hall : ∀p∈l,okRc p)
include hu hq hul hql hx hall
theorem Kk(hl:l.length≤2048)(dep:Nat){H:Heap}(hF:Fr H){rb rs ru:Ref}{xh xr:AV}{b:Book}(hb:BookX H rb rs ru xh xr us qs gr b)(hr:Own 24 (dX (l.map twR)) H xr){q1 q2:Ref}(h1:UInt8)(h2:UInt32)(h3:UInt8)(sr:Int)
 (e1:H.get q1=some ⟨3,[.agg [a8 h1,a32 h2,a8 h3]],false,false⟩) (e2:H.get q2=some ⟨1,[aI sr],false,false⟩) :
 ∃H',limt env dep (.fn 95) [.ptr rb 0 0,.ptr q1 0 0,.ptr q2 0 0] H=some (qN ⟨h1,h2,h3⟩ sr (l.map twR),H')∧Grow H H':=by
 refine dt (fn:=Tryz.f95) (c:=mN) (by kernel_rfl) (by kernel_rfl) (by kernel_rfl) (by kernel_rfl) (by kernel_rfl) ?_
 refine xT _ _ _ _ _ _ fun g=>?_
 have hlp:=Kj (recs:=l.map twR) (by simpa using hl) (fun p hp=>by
  obtain⟨p0,h0,rfl⟩:=List.mem_map.1 hp
  have:=hall p0 h0
  exact⟨Iw this.1,this.2⟩) (dep:=dep) h1 h2 h3 sr (Q:=fun y H'=>y=qN ⟨h1,h2,h3⟩ sr (l.map twR)∧Grow H H') (l.map twR) 0 H rfl (by omega) hF hr e1 e2 (fun H' hG=>⟨rfl,hG⟩)
 obtain⟨xu',xq',yu,yq,wu,wq,hb1,_⟩:=hb.box
 have c9:=hb.one
 have hrl:=Own.len hr
 rw[vj,List.length_map]at hrl
 rw[List.length_map]at hlp
 clear hx hall hb hr
 generalize qN ⟨h1,h2,h3⟩ sr (l.map twR)=cc at *
 simp[af,ah,ad,ae,ab, *,qX]
 exact hlp
theorem Ih(dep:Nat){H:Heap}(hF:Fr H){rb rs ru:Ref}{xh xr:AV}{b:Book}(hb:BookX H rb rs ru xh xr us qs gr b)(hok:BookOk b){q1:Ref}(v1:UInt8)(v2:UInt32)(e1:H.get q1=some ⟨2,[.agg [a8 v1,a32 v2]],false,false⟩) :
 ∃H',limt env dep (.fn 98) [.ptr rb 0 0,.ptr q1 0 0] H=some (.tup [.agg (Dh b v1 v2).enc,aI 0],H')∧Grow H H':=by
 refine dt (fn:=Tryz.f98) (c:=qP) (by kernel_rfl) (by kernel_rfl) (by kernel_rfl) (by kernel_rfl) (by kernel_rfl) ?_
 refine xQ _ _ _ _ _ fun g=>?_
 obtain⟨xu',xq',yu,yq,wu,wq,hb1,hb2,hb3,hb4,hb5⟩:=hb.box
 have h7:=hb.use
 have c4:=hb4.s.cells
 have c5:=hb5.s.cells
 have c8:xh.cells=[xh]∧xh.one=true:=by obtain⟨_,hs⟩:=jG hb.hist;exact hs.cells
 have c9:=hb.one
 have l1:(H.get rb).isSome=true:=by rw[hb1];rfl
 have l2:(H.get q1).isSome=true:=by rw[e1];rfl
 have l7:(H.get ru).isSome=true:=by rw[h7];rfl
 have hlk:=fun(H':Heap)(h:H'.get ru=some (bm (cX labK b.used)))=>Bs (g:=H'.get) hok.used h ⟨v1,v2⟩
 have hfin : ∀b1 b2:Blk,Grow H ((⟨dep+1,5,H.gen (dep+1) 5,0⟩,some b2) :: (⟨dep+1,3,H.gen (dep+1) 3,0⟩,some b1) :: H):=fun b1 b2=>⟨by simp(maxDischargeDepth:=12) [Heap.an,au,ak,Fr.nil,az,af,ah,ad,ae,ar,ao,ab, *],fun q c hq=>by
  have lq:(H.get q).isSome=true:=by rw[hq];rfl
  simp[af hF lq,hq]⟩
 unfold Dh
 generalize useD (bE ⟨v1,v2⟩ b.used)=u at *
 obtain⟨u1,u2,u3⟩:=u
 clear hx hall hb hb4 hb5 hok
 simp[af,ah,ad,ae,ab, *,qV,Use.av,Quota.enc]
 try exact hfin _ _
theorem RO(h1:UInt8)(h2:UInt32)(h3:UInt8)(sr:Int):limf env 29 [.agg [xu,xq,aI gr],x1,.agg [a8 h1,a32 h2,a8 h3],aI sr]=some (ta us qs gr l ⟨h1,h2,h3⟩ sr):=by
 refine aw (fn:=Tryz.f29) (c:=tH) rfl (by kernel_rfl) (by kernel_rfl) (by kernel_rfl) (by kernel_rfl) ?_;refine AH _ _ _ _ _ _ fun g=>?_
 have hF0:Fr [(⟨0,7,0,0⟩,some ⟨1,[aI sr],false,false⟩),(⟨0,6,0,0⟩,some ⟨3,[.agg [a8 h1,a32 h2,a8 h3]],false,false⟩),(⟨0,4,0,0⟩,some ⟨3,[.agg [xu,xq,aI gr]],false,false⟩)]:=by simp(maxDischargeDepth:=12) [Heap.an,au,ak,Fr.nil,az,af,ah,ad,ae,ar,ao,ab, *]
 have hC:=uS h1 h2 h3
 obtain⟨y,H2,hO,hA⟩:=As (gr:=gr) hu hq hul hql hx hall 0 hF0 (bad (hY ⟨h1,h2,h3⟩)) (fd:=95) (by kernel_rfl) (caps:=[.ptr ⟨0,6,0,0⟩ 0 0,.ptr ⟨0,7,0,0⟩ 0 0])
  (R:=fun b y H=>y=qN ⟨h1,h2,h3⟩ sr (l.map twR)) (fun hw b H2 rb rs ru xh xr ho hG hb hr hrt hok=>by
   have hlen:l.length≤2048:=by
    unfold ofA at ho
    split at ho
    ·rename_i h;exact h.2
    ·cases ho
   obtain⟨H3,g1,g2⟩:=Kk (gr:=gr) hu hq hul hql hx hall hlen 1 hG.fr hb hr (q1:=⟨0,6,0,0⟩) (q2:=⟨0,7,0,0⟩) h1 h2 h3 sr (hG.old ⟨0,6,0,0⟩ _ (by simp)) (hG.old ⟨0,7,0,0⟩ _ (by simp))
   obtain⟨ca,cb,hc⟩:=xd ⟨h1,h2,h3⟩ sr (l.map twR)
   rw[hc]at g1 ⊢
   exact⟨_,_,H3,g1,rfl⟩)
 have he:y=ta us qs gr l ⟨h1,h2,h3⟩ sr:=by
  unfold jR at hA
  unfold ta
  cases ho:ofA us qs gr l with
  | none=>rw[ho]at hA;exact hA
  | some b =>
   rw[ho]at hA
   cases hi:hY ⟨h1,h2,h3⟩ with
   | true=>simp only[hi,bad,if_true]at hA ⊢;exact hA
   | false=>simp[hi,bad]at hA ⊢;exact hA
 have hz : ∃z e,ta us qs gr l ⟨h1,h2,h3⟩ sr = .tup [aI z,aI e]:=by
  unfold ta
  split
  ·exact⟨_,_,rfl⟩
  ·split
   ·exact xd _ _ _
   ·exact⟨_,_,rfl⟩
 obtain⟨z,e,hz⟩:=hz
 rw[hz]at he ⊢
 subst he
 clear hA hz hx hall hF0
 simp[af,ah,ad,ae,ab, *,tP,hu.r,hq.r]
 refine rf (by kernel_rfl) hO ?_
 simp
theorem RK(v1:UInt8)(v2:UInt32):limf env 31 [.agg [xu,xq,aI gr],x1,.agg [a8 v1,a32 v2]]=some (GR us qs gr l v1 v2):=by
 refine aw (fn:=Tryz.f31) (c:=tF) rfl (by kernel_rfl) (by kernel_rfl) (by kernel_rfl) (by kernel_rfl) ?_;refine AF _ _ _ _ _ fun g=>?_
 have hF0:Fr [(⟨0,6,0,0⟩,some ⟨5,[.agg [a8 0,a32 0,aI 0,aI 0,aI 0]],false,false⟩),(⟨0,5,0,0⟩,some ⟨2,[.agg [a8 v1,a32 v2]],false,false⟩),(⟨0,3,0,0⟩,some ⟨3,[.agg [xu,xq,aI gr]],false,false⟩)]:=by simp(maxDischargeDepth:=12) [Heap.an,au,ak,Fr.nil,az,af,ah,ad,ae,ar,ao,ab, *]
 have hC:=Ll v1 v2
 obtain⟨y,H2,hO,hA,hG⟩:=FD (gr:=gr) hu hq hul hql hx hall 0 hF0 (bad (decide (v1≤15))) (fd:=98) (by kernel_rfl) (caps:=[.ptr ⟨0,5,0,0⟩ 0 0])
  (f:=fun b=>Dh b v1 v2) (fun hw b H2 rb rs ru xh xr ho hG hb hok=>Ih (gr:=gr) hu hq hul hql hx hall 1 hG.fr hb hok (q1:=⟨0,5,0,0⟩) v1 v2 (hG.old ⟨0,5,0,0⟩ _ (by simp)))
 have he:y=GR us qs gr l v1 v2:=by
  unfold jR at hA
  unfold GR
  cases ho:ofA us qs gr l with
  | none=>rw[ho]at hA;exact hA
  | some b =>
   rw[ho]at hA
   dsimp only at hA ⊢
   by_cases hi:v1≤15
   ·simp only[hi,bad,decide_true,if_true]at hA ⊢;exact hA
   ·simp[hi,bad]at hA
    rw[if_neg hi]
    exact hA
 have hz : ∃q e,GR us qs gr l v1 v2 = .tup [.agg (Quota.enc q),aI e]:=by
  unfold GR
  split
  ·exact⟨⟨0,0,0,0,0⟩,8,rfl⟩
  ·split
   ·exact⟨_,_,rfl⟩
   ·exact⟨⟨0,0,0,0,0⟩,8,rfl⟩
 obtain⟨q,e,hz⟩:=hz
 rw[hz]at he ⊢
 subst he
 have hb6:=hG.old ⟨0,6,0,0⟩ _ (by simp;rfl)
 have hF2:=hG.fr
 obtain⟨f1,f2,f3,f4,f5⟩:=q
 clear hA hz hx hall hF0 hG
 simp[af,ah,ad,ae,ab, *,tN,hu.r,hq.r]
 refine rf (by kernel_rfl) hO ?_
 simp[Quota.enc,hb6]
end
end Go.Proofs.YtmkmimgokagimaaGreat
