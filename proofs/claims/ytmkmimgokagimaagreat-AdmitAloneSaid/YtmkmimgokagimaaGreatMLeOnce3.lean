/-
  What is asked of a log: codes, and what is used. No statement of a seat is proved here.
-/
import Derived.Test.YtmkmimgokagimaaGreatMLeSame
set_option linter.unusedVariables false
set_option linter.unusedSimpArgs false
set_option linter.unusedSectionVars false
set_option linter.unnecessarySimpa false
set_option maxRecDepth 100000
namespace Go.Proofs.YtmkmimgokagimaaGreat
open Go.Ab
attribute [local simp] bJ bw bt bG bF cL kN bX bx bD cR cQ cr bY bh ct List.take_of_length_le
def DW(h:nY)(sr:Int)(p:fY × AV):Bool:=decide (p.1.kind=2)&&(decide (p.1.op.h=h)&&decide (p.1.op.serial=sr))
def mE(h:nY)(sr:Int)(l:List (fY × AV)):AV:=match l.find? (DW h sr)with | some p => .tup [aI p.1.code,aI 0] | none => .tup [aI 0,aI 6]
section
variable{recs:List (fY × AV)}(hrl:recs.length≤2048)(hok : ∀p∈recs,oK p){dep:Nat}{q1 q2:Ref}{xr:AV}(h1:UInt8)(h2:UInt32)(h3:UInt8)(sr:Int){Q:AV→ad→Prop}
include hrl hok
theorem Ph : ∀(s:List (fY × AV)) (k:Nat) (H:ad),recs.drop k=s→k≤recs.length→Fr H→sO 24 (cW recs) H xr→H.get q1=some ⟨3,[.agg [a8 h1,aF h2,a8 h3]],false,false⟩→H.get q2=some ⟨1,[aI sr],false,false⟩ →
 (∀H',bQ H H'→Q (mE ⟨h1,h2,h3⟩ sr s) H')→b7 env Tryz.f95 (dep+1) lf [(13,aI k),(2,.ptr q2 0 0),(1,.ptr q1 0 0),(11,xr),(12,aI recs.length)] H Q:=by
 intro s
 induction s with
 | nil =>
  rintro k H hs hk hF hr hq1 hq2 hQ
  obtain rfl:=drop_nil hs hk
  have hfin:=hQ H (bQ.refl hF)
  refine iQ _ _ _ _ _ _ _ _ fun g=>?_
  clear hQ hr hok
  unfold mE at hfin
  simp[ah,ai,ae,af,ab, *,gz]
  all_goals exact hfin
 | cons p s ih =>
  rintro k H hs hk hF hr hq1 hq2 hQ
  obtain⟨hlt,hg,hs',hg'⟩:=drop_cons hs
  have hp:=hok p (hg ▸ List.getElem_mem hlt)
  have e3:=IntWalk.i64_in ((k:Int)+1) (by omega)
  have hlt':(k:Int)<recs.length:=by omega
  obtain⟨r,rfl,hr0⟩ : ∃r,xr = .cP r 0 recs.length none∧H.get r=some ⟨24,cW recs,true,false⟩:=by
   rcases hr with ⟨rfl,h⟩ | ⟨r,rfl,h⟩
   ·have:=congrArg List.length h;simp at this;subst this;simp at hlt
   ·exact⟨r,by simp,h⟩
  have hgg : ∀b1:bP,bQ H ((⟨dep+1,7,H.gen (dep+1) 7,0⟩,some b1) :: H):=fun b1=>bQ.cons hF _ _ _
  have hno:=fun(h:DW ⟨h1,h2,h3⟩ sr p=false) b1=>ih (k+1) _ hs' (by omega) (hgg b1).fr (sO.grow hr (hgg b1)) ((hgg b1).old _ _ hq1) ((hgg b1).old _ _ hq2) (fun H' hG=>by
   have:=hQ H' ((hgg b1).trans hG)
   unfold mE at this ⊢
   rw[List.find?_cons,h]at this
   exact this)
  have hyes:=fun(h:DW ⟨h1,h2,h3⟩ sr p=true) b1=>by
   have:=hQ _ (hgg b1)
   unfold mE at this
   rw[List.find?_cons,h]at this
   exact this
  clear hQ ih
  obtain⟨⟨k1,u,⟨ba,⟨aO,aN,aT⟩,aV,⟨⟨⟨aX,aW,aY⟩,aZ⟩,an⟩,⟨⟨ay,ax,aw⟩,au⟩,⟨aA,az⟩,al⟩,c,g1,v,w,o⟩,x⟩:=p
  obtain⟨hax,hal⟩:=hp
  simp only at hax hal
  have hrd:eQ (cW recs) k 0 24 true=some (.agg [a8 k1,aI u,a8 ba,a8 aO,aF aN,a8 aT,aI aV,a8 aX,aF aW,a8 aY,aI aZ,aI an,a8 ay,aF ax,a8 aw,aI au,a8 aA,aF az,x,aI c,aI g1,a8 v,aF w,aB o]):=by simp[cW,hg',fY.val]
  have hiB:DW ⟨h1,h2,h3⟩ sr (⟨k1,u,(⟨ba,⟨aO,aN,aT⟩,aV,⟨⟨⟨aX,aW,aY⟩,aZ⟩,an⟩,⟨⟨ay,ax,aw⟩,au⟩,⟨aA,az⟩,al⟩:bz),c,g1,v,w,o⟩,x)=(decide (k1=2)&&(decide ((⟨aO,aN,aT⟩:nY)=⟨h1,h2,h3⟩)&&decide (aV=sr))):=rfl
  have hhe:decide ((⟨aO,aN,aT⟩:nY)=⟨h1,h2,h3⟩)=(decide (aO=h1)&&decide (aN=h2)&&decide (aT=h3)):=by simp[and_assoc,Bool.and_assoc]
  rw[hiB,hhe]at hno hyes
  have lr:(H.get r).isSome=true:=by rw[hr0];rfl
  have l1:(H.get q1).isSome=true:=by rw[hq1];rfl
  have l2:(H.get q2).isSome=true:=by rw[hq2];rfl
  have hRl:(cW recs).length=recs.length:=p4 recs
  clear hs hs' hg hg' hok hr hiB hhe
  generalize cW recs=er at *
  generalize recs.length=nr at *
  simp only at hyes
  by_cases e1:k1=2
  ·subst e1
   cases e2:(decide (aO=h1)&&decide (aN=h2)&&decide (aT=h3)) with
   | false =>
    have hn:=hno (by rw[e2];simp)
    clear hno hyes
    refine iQ _ _ _ _ _ _ _ _ fun g=>?_
    simp[ah,ai,ae,af,ab, *,gz,hax.r,ke,eE]
    all_goals exact hn _
   | true =>
    by_cases e3':aV=sr
    ·have hy:=hyes (by rw[e2];simp[e3'])
     subst e3'
     clear hno hyes
     refine iQ _ _ _ _ _ _ _ _ fun g=>?_
     simp[ah,ai,ae,af,ab, *,gz,hax.r,ke,eE]
     all_goals exact hy _
    ·have hn:=hno (by rw[e2];simp[e3'])
     clear hno hyes
     refine iQ _ _ _ _ _ _ _ _ fun g=>?_
     simp[ah,ai,ae,af,ab, *,gz,hax.r,ke,eE]
     all_goals exact hn _
  ·have hn:=hno (by simp[e1])
   clear hno hyes
   refine iQ _ _ _ _ _ _ _ _ fun g=>?_
   simp[ah,ai,ae,af,ab, *,gz,hax.r,ke,eE]
   all_goals exact hn _
end
section
variable{xu xq:AV}{us:List Clear}{qs:List bn}{gr:Int}(hu:Sl 3 (ed us) xu)(hq:Sl 5 (ef qs) xq)(hul:us.length<1000000)(hql:qs.length<1000000){l:List (fY × AV)}{x1:AV}(hx:Sl 24 (cW l) x1)(hall : ∀p∈l,oK p)
include hu hq hul hql hx hall
theorem Ds(dep:Nat){H:ad}(hF:Fr H)(wr:Int){fd:FuncId}(hm:(env.mode fd == 2)=true){caps:List AV}{R:ep→AV→ad→Prop}
 (hdo:wr=0 →∀b H2 rb rs ru xh xr,nR us qs gr l=some b→bQ H H2→fM H2 rb rs ru xh xr us qs gr b→sO 24 (cW (l.map xL)) H2 xr→(∀r,xr.at?=some r→r.t=62)→ni b →∃z e H3,bO env (dep+1) (.fn fd) ([]++[.ptr rb 0 0]++caps) H2=some (.tup [z,e],H3)∧R b (.tup [z,e]) H3) :
 ∃y H',bO env dep (.fn 69) [.agg [xu,xq,aI gr],x1,aI wr,.fn (.func fd) [] caps] H=some (y,H')∧jT (nR us qs gr l) wr (aI 0) R y H':=by
 have hgo:b7 env Tryz.f69 (dep+1) [.code hY] (pM 0 [.agg [xu,xq,aI gr],x1,aI wr,.fn (.func fd) [] caps]) H fun y H'=>jT (nR us qs gr l) wr (aI 0) R y H':=by
  have hg2 : ∀b1:bP,bQ H ((⟨dep+1,4,H.gen (dep+1) 4,0⟩,some b1) :: H):=fun b1=>bQ.cons hF _ _ _
  obtain⟨y,H2,hO,hA⟩:=Og (gr:=gr) hu hq hul hql hx hall (dep+1) (hg2 ⟨3,[.agg [xu,xq,aI gr]],false,false⟩).fr
  refine mI _ _ _ _ _ _ _ fun g=>?_
  unfold jT
  simp[ah,ai,ae,af,ab, *,ig,hx.r,hu.r,hq.r]
  refine qy (by kernel_rfl) hO ?_
  cases ho:nR us qs gr l with
  | none =>
   rw[ho]at hA
   obtain⟨rfl,hG⟩:=hA
   simp
  | some b =>
   rw[ho]at hA
   obtain⟨rb,rs,ru,rk,xh,xr,rfl,hI,hok⟩:=hA
   by_cases hw:wr=0
   ·subst hw
    obtain⟨z,e,H3,h1,h2⟩:=hdo rfl b H2 rb rs ru xh xr ho ((hg2 _).trans hI.g) hI.bk hI.row (fun r e=>(hI.t62 r e).1) hok
    simp
    refine qy hm h1 ?_
    simp
    exact h2
   ·simp[hw]
 obtain⟨y,H',h1,h2⟩:=iT (by kernel_rfl) (by kernel_rfl) (by kernel_rfl) (by kernel_rfl) (by kernel_rfl) hgo
 exact⟨y,H',h1,h2⟩
theorem Lh(dep:Nat){H:ad}(hF:Fr H)(wr:Int){fd:FuncId}(hm:(env.mode fd == 2)=true){caps:List AV}{f:ep→bn}
 (hdo:wr=0 →∀b H2 rb rs ru xh xr,nR us qs gr l=some b→bQ H H2→fM H2 rb rs ru xh xr us qs gr b→ni b →∃H3,bO env (dep+1) (.fn fd) ([]++[.ptr rb 0 0]++caps) H2=some (.tup [.agg (f b).enc,aI 0],H3)∧bQ H2 H3) :
 ∃y H',bO env dep (.fn 97) [.agg [xu,xq,aI gr],x1,aI wr,.fn (.func fd) [] caps] H=some (y,H')∧jT (nR us qs gr l) wr (.agg [a8 0,aF 0,aI 0,aI 0,aI 0]) (fun b y _=>y = .tup [.agg (f b).enc,aI 0]) y H'∧bQ H H':=by
 have hgo:b7 env Tryz.f97 (dep+1) [.code hX] (pM 0 [.agg [xu,xq,aI gr],x1,aI wr,.fn (.func fd) [] caps]) H fun y H'=>jT (nR us qs gr l) wr (.agg [a8 0,aF 0,aI 0,aI 0,aI 0]) (fun b y _=>y = .tup [.agg (f b).enc,aI 0]) y H'∧bQ H H':=by
  have hg2 : ∀b1 b2:bP,bQ H ((⟨dep+1,8,H.gen (dep+1) 8,0⟩,some b2) :: (⟨dep+1,4,H.gen (dep+1) 4,0⟩,some b1) :: H):=fun b1 b2=>⟨by simp(maxDischargeDepth:=12) [ad.ao,aD,aq,Fr.nil,aJ,ah,ai,ae,af,aC,ar,ab, *],fun q c hq=>by
   have lq:(H.get q).isSome=true:=by rw[hq];rfl
   simp[ah hF lq,hq]⟩
  obtain⟨y,H2,hO,hA⟩:=Og (gr:=gr) hu hq hul hql hx hall (dep+1) (hg2 ⟨3,[.agg [xu,xq,aI gr]],false,false⟩ ⟨5,[.agg [a8 0,aF 0,aI 0,aI 0,aI 0]],false,false⟩).fr
  have hput : ∀(Hx:ad)(c:bP),bQ H Hx→Hx.get ⟨dep+1,8,H.gen (dep+1) 8,0⟩=some c →∀c',bQ H (Hx.put ⟨dep+1,8,H.gen (dep+1) 8,0⟩ (some c')):=by
   intro Hx c hGx hc c'
   refine⟨hGx.fr.put _ (by rw[hc];rfl),fun q d hq=>?_⟩
   have lq:(H.get q).isSome=true:=by rw[hq];rfl
   rw[ad.ao,if_neg (fun e=>nJ hF lq _ _ _ e.symm)]
   exact hGx.old q d hq
  refine mH _ _ _ _ _ _ _ fun g=>?_
  unfold jT
  simp[ah,ai,ae,af,ab, *,ic,hx.r,hu.r,hq.r]
  refine qy (by kernel_rfl) hO ?_
  cases ho:nR us qs gr l with
  | none =>
   rw[ho]at hA
   obtain⟨rfl,hG⟩:=hA
   have hb8:=hG.old ⟨dep+1,8,H.gen (dep+1) 8,0⟩ _ (by simp;rfl)
   have hF2:=hG.fr
   have hfin:=hput H2 _ ((hg2 _ _).trans hG) hb8
   clear hx hall hput
   simp[hb8,hfin]
  | some b =>
   rw[ho]at hA
   obtain⟨rb,rs,ru,rk,xh,xr,rfl,hI,hok⟩:=hA
   have hG:=hI.g
   have hb8:=hG.old ⟨dep+1,8,H.gen (dep+1) 8,0⟩ _ (by simp;rfl)
   have hF2:=hG.fr
   by_cases hw:wr=0
   ·subst hw
    obtain⟨H3,h1,h2⟩:=hdo rfl b H2 rb rs ru xh xr ho ((hg2 _ _).trans hI.g) hI.bk hok
    have hb9:=h2.old _ _ hb8
    have hF3:=h2.fr
    have hfin:=hput H3 _ (((hg2 _ _).trans hG).trans h2) hb9
    clear hput
    simp
    refine qy hm h1 ?_
    cases hfb:f b with
    | mk f1 f2 f3 f4 f5 =>
     simp[hb9,hfb,bn.enc,hfin]
   ·have hfin:=hput H2 _ ((hg2 _ _).trans hG) hb8
    clear hput
    simp[hw,hb8,hfin]
 obtain⟨y,H',h1,h2⟩:=iT (by kernel_rfl) (by kernel_rfl) (by kernel_rfl) (by kernel_rfl) (by kernel_rfl) hgo
 exact⟨y,H',h1,h2⟩
end
end Go.Proofs.YtmkmimgokagimaaGreat
namespace Go.Proofs.YtmkmimgokagimaaGreat
open Go.Ab
attribute [local simp] bJ bw bt bG bF cL kN bX bx bD cR cQ cr bY bh ct List.take_of_length_le
def qR(us:List Clear)(qs:List bn)(gr:Int)(l:List (fY × AV))(h:nY)(sr:Int):AV:=match nR us qs gr l with
 | none => .tup [aI 0,aI 8]
 | some _=>if fL h=true then mE h sr (l.map xL) else .tup [aI 0,aI 8]
theorem Aj(h:nY)(sr:Int)(l:List (fY × AV)) : ∃a b,mE h sr l = .tup [aI a,aI b]:=by
 unfold mE
 split
 ·exact⟨_,_,rfl⟩
 ·exact⟨_,_,rfl⟩
def AM(b:ep)(v1:UInt8)(v2:UInt32):bn:=⟨v1,v2,(nu (bH ⟨v1,v2⟩ b.used)).opens,(nu (bH ⟨v1,v2⟩ b.used)).ops,(nu (bH ⟨v1,v2⟩ b.used)).cells⟩
def Hj(us:List Clear)(qs:List bn)(gr:Int)(l:List (fY × AV))(v1:UInt8)(v2:UInt32):AV:=match nR us qs gr l with
 | none => .tup [.agg [a8 0,aF 0,aI 0,aI 0,aI 0],aI 8]
 | some b=>if v1≤15 then .tup [.agg (AM b v1 v2).enc,aI 0] else .tup [.agg [a8 0,aF 0,aI 0,aI 0,aI 0],aI 8]
section
variable{xu xq:AV}{us:List Clear}{qs:List bn}{gr:Int}(hu:Sl 3 (ed us) xu)(hq:Sl 5 (ef qs) xq)(hul:us.length<1000000)(hql:qs.length<1000000){l:List (fY × AV)}{x1:AV}(hx:Sl 24 (cW l) x1)(hall : ∀p∈l,oK p)
include hu hq hul hql hx hall
theorem Pj(hl:l.length≤2048)(dep:Nat){H:ad}(hF:Fr H){rb rs ru:Ref}{xh xr:AV}{b:ep}(hb:fM H rb rs ru xh xr us qs gr b)(hr:sO 24 (cW (l.map xL)) H xr){q1 q2:Ref}(h1:UInt8)(h2:UInt32)(h3:UInt8)(sr:Int)
 (e1:H.get q1=some ⟨3,[.agg [a8 h1,aF h2,a8 h3]],false,false⟩) (e2:H.get q2=some ⟨1,[aI sr],false,false⟩) :
 ∃H',bO env dep (.fn 95) [.ptr rb 0 0,.ptr q1 0 0,.ptr q2 0 0] H=some (mE ⟨h1,h2,h3⟩ sr (l.map xL),H')∧bQ H H':=by
 refine eO (fn:=Tryz.f95) (c:=qf) (by kernel_rfl) (by kernel_rfl) (by kernel_rfl) (by kernel_rfl) (by kernel_rfl) ?_
 refine Ci _ _ _ _ _ _ fun g=>?_
 have hlp:=Ph (recs:=l.map xL) (by simpa using hl) (fun p hp=>by
  obtain⟨p0,h0,rfl⟩:=List.mem_map.1 hp
  have:=hall p0 h0
  exact⟨AQ this.1,this.2⟩) (dep:=dep) h1 h2 h3 sr (Q:=fun y H'=>y=mE ⟨h1,h2,h3⟩ sr (l.map xL)∧bQ H H') (l.map xL) 0 H rfl (by omega) hF hr e1 e2 (fun H' hG=>⟨rfl,hG⟩)
 obtain⟨xu',xq',yu,yq,wu,wq,hb1,_⟩:=hb.box
 have c9:=hb.one
 have hrl:=sO.len hr
 rw[p4,List.length_map]at hrl
 rw[List.length_map]at hlp
 clear hx hall hb hr
 generalize mE ⟨h1,h2,h3⟩ sr (l.map xL)=cc at *
 simp[ah,ai,ae,af,ab, *,vZ]
 exact hlp
theorem NV(dep:Nat){H:ad}(hF:Fr H){rb rs ru:Ref}{xh xr:AV}{b:ep}(hb:fM H rb rs ru xh xr us qs gr b)(hok:ni b){q1:Ref}(v1:UInt8)(v2:UInt32)(e1:H.get q1=some ⟨2,[.agg [a8 v1,aF v2]],false,false⟩) :
 ∃H',bO env dep (.fn 98) [.ptr rb 0 0,.ptr q1 0 0] H=some (.tup [.agg (AM b v1 v2).enc,aI 0],H')∧bQ H H':=by
 refine eO (fn:=Tryz.f98) (c:=vP) (by kernel_rfl) (by kernel_rfl) (by kernel_rfl) (by kernel_rfl) (by kernel_rfl) ?_
 refine Cf _ _ _ _ _ fun g=>?_
 obtain⟨xu',xq',yu,yq,wu,wq,hb1,hb2,hb3,hb4,hb5⟩:=hb.box
 have h7:=hb.use
 have c4:=hb4.s.cells
 have c5:=hb5.s.cells
 have c8:xh.cells=[xh]∧xh.one=true:=by obtain⟨_,hs⟩:=lP hb.dE;exact hs.cells
 have c9:=hb.one
 have l1:(H.get rb).isSome=true:=by rw[hb1];rfl
 have l2:(H.get q1).isSome=true:=by rw[e1];rfl
 have l7:(H.get ru).isSome=true:=by rw[h7];rfl
 have hlk:=fun(H':ad)(h:H'.get ru=some (bE (cI vx b.used)))=>Cl (g:=H'.get) hok.used h ⟨v1,v2⟩
 have hfin : ∀b1 b2:bP,bQ H ((⟨dep+1,5,H.gen (dep+1) 5,0⟩,some b2) :: (⟨dep+1,3,H.gen (dep+1) 3,0⟩,some b1) :: H):=fun b1 b2=>⟨by simp(maxDischargeDepth:=12) [ad.ao,aD,aq,Fr.nil,aJ,ah,ai,ae,af,aC,ar,ab, *],fun q c hq=>by
  have lq:(H.get q).isSome=true:=by rw[hq];rfl
  simp[ah hF lq,hq]⟩
 unfold AM
 generalize nu (bH ⟨v1,v2⟩ b.used)=u at *
 obtain⟨u1,u2,u3⟩:=u
 clear hx hall hb hb4 hb5 hok
 simp[ah,ai,ae,af,ab, *,vW,xB.av,bn.enc]
 try exact hfin _ _
theorem VN(h1:UInt8)(h2:UInt32)(h3:UInt8)(sr:Int):bj env 29 [.agg [xu,xq,aI gr],x1,.agg [a8 h1,aF h2,a8 h3],aI sr]=some (qR us qs gr l ⟨h1,h2,h3⟩ sr):=by
 refine aG (fn:=Tryz.f29) (c:=yx) rfl (by kernel_rfl) (by kernel_rfl) (by kernel_rfl) (by kernel_rfl) ?_;refine EB _ _ _ _ _ _ fun g=>?_
 have hF0:Fr [(⟨0,7,0,0⟩,some ⟨1,[aI sr],false,false⟩),(⟨0,6,0,0⟩,some ⟨3,[.agg [a8 h1,aF h2,a8 h3]],false,false⟩),(⟨0,4,0,0⟩,some ⟨3,[.agg [xu,xq,aI gr]],false,false⟩)]:=by simp(maxDischargeDepth:=12) [ad.ao,aD,aq,Fr.nil,aJ,ah,ai,ae,af,aC,ar,ab, *]
 have hC:=uL h1 h2 h3
 obtain⟨y,H2,hO,hA⟩:=Ds (gr:=gr) hu hq hul hql hx hall 0 hF0 (bad (fL ⟨h1,h2,h3⟩)) (fd:=95) (by kernel_rfl) (caps:=[.ptr ⟨0,6,0,0⟩ 0 0,.ptr ⟨0,7,0,0⟩ 0 0])
  (R:=fun b y H=>y=mE ⟨h1,h2,h3⟩ sr (l.map xL)) (fun hw b H2 rb rs ru xh xr ho hG hb hr hrt hok=>by
   have hlen:l.length≤2048:=by
    unfold nR at ho
    split at ho
    ·rename_i h;exact h.2
    ·cases ho
   obtain⟨H3,g1,g2⟩:=Pj (gr:=gr) hu hq hul hql hx hall hlen 1 hG.fr hb hr (q1:=⟨0,6,0,0⟩) (q2:=⟨0,7,0,0⟩) h1 h2 h3 sr (hG.old ⟨0,6,0,0⟩ _ (by simp)) (hG.old ⟨0,7,0,0⟩ _ (by simp))
   obtain⟨ca,cb,hc⟩:=Aj ⟨h1,h2,h3⟩ sr (l.map xL)
   rw[hc]at g1 ⊢
   exact⟨_,_,H3,g1,rfl⟩)
 have he:y=qR us qs gr l ⟨h1,h2,h3⟩ sr:=by
  unfold jT at hA
  unfold qR
  cases ho:nR us qs gr l with
  | none=>rw[ho]at hA;exact hA
  | some b =>
   rw[ho]at hA
   cases hi:fL ⟨h1,h2,h3⟩ with
   | true=>simp only[hi,bad,if_true]at hA ⊢;exact hA
   | false=>simp[hi,bad]at hA ⊢;exact hA
 have hz : ∃z e,qR us qs gr l ⟨h1,h2,h3⟩ sr = .tup [aI z,aI e]:=by
  unfold qR
  split
  ·exact⟨_,_,rfl⟩
  ·split
   ·exact Aj _ _ _
   ·exact⟨_,_,rfl⟩
 obtain⟨z,e,hz⟩:=hz
 rw[hz]at he ⊢
 subst he
 clear hA hz hx hall hF0
 simp[ah,ai,ae,af,ab, *,yI,hu.r,hq.r]
 refine qy (by kernel_rfl) hO ?_
 simp
theorem VJ(v1:UInt8)(v2:UInt32):bj env 31 [.agg [xu,xq,aI gr],x1,.agg [a8 v1,aF v2]]=some (Hj us qs gr l v1 v2):=by
 refine aG (fn:=Tryz.f31) (c:=yv) rfl (by kernel_rfl) (by kernel_rfl) (by kernel_rfl) (by kernel_rfl) ?_;refine Ez _ _ _ _ _ fun g=>?_
 have hF0:Fr [(⟨0,6,0,0⟩,some ⟨5,[.agg [a8 0,aF 0,aI 0,aI 0,aI 0]],false,false⟩),(⟨0,5,0,0⟩,some ⟨2,[.agg [a8 v1,aF v2]],false,false⟩),(⟨0,3,0,0⟩,some ⟨3,[.agg [xu,xq,aI gr]],false,false⟩)]:=by simp(maxDischargeDepth:=12) [ad.ao,aD,aq,Fr.nil,aJ,ah,ai,ae,af,aC,ar,ab, *]
 have hC:=JL v1 v2
 obtain⟨y,H2,hO,hA,hG⟩:=Lh (gr:=gr) hu hq hul hql hx hall 0 hF0 (bad (decide (v1≤15))) (fd:=98) (by kernel_rfl) (caps:=[.ptr ⟨0,5,0,0⟩ 0 0])
  (f:=fun b=>AM b v1 v2) (fun hw b H2 rb rs ru xh xr ho hG hb hok=>NV (gr:=gr) hu hq hul hql hx hall 1 hG.fr hb hok (q1:=⟨0,5,0,0⟩) v1 v2 (hG.old ⟨0,5,0,0⟩ _ (by simp)))
 have he:y=Hj us qs gr l v1 v2:=by
  unfold jT at hA
  unfold Hj
  cases ho:nR us qs gr l with
  | none=>rw[ho]at hA;exact hA
  | some b =>
   rw[ho]at hA
   dsimp only at hA ⊢
   by_cases hi:v1≤15
   ·simp only[hi,bad,decide_true,if_true]at hA ⊢;exact hA
   ·simp[hi,bad]at hA
    rw[if_neg hi]
    exact hA
 have hz : ∃q e,Hj us qs gr l v1 v2 = .tup [.agg (bn.enc q),aI e]:=by
  unfold Hj
  split
  ·exact⟨⟨0,0,0,0,0⟩,8,rfl⟩
  ·split
   ·exact⟨_,_,rfl⟩
   ·exact⟨⟨0,0,0,0,0⟩,8,rfl⟩
 obtain⟨q,e,hz⟩:=hz
 rw[hz]at he ⊢
 subst he
 have hb6:=hG.old ⟨0,6,0,0⟩ _ (by simp;rfl)
 have hF2:=hG.fr
 obtain⟨f1,f2,f3,f4,f5⟩:=q
 clear hA hz hx hall hF0 hG
 simp[ah,ai,ae,af,ab, *,yG,hu.r,hq.r]
 refine qy (by kernel_rfl) hO ?_
 simp[bn.enc,hb6]
end
end Go.Proofs.YtmkmimgokagimaaGreat
